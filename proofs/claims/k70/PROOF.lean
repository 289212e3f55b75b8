import PyProof.Rows.All
import Wide.All
import OpenK.AllK
import Wide.FinOn
import HandS.ForMost
import HandS.Evl
import HandS.Wide
import HandS.IsInst
import HandS.NoneIn
import HandS.Style
import HandS.Replace
import KE.GoesZip
import KE.GoesMore
import KE.GoesEnumKw
import HandS.More
import PyProof.Rows.SortShellAny
import HandS.Iter
import PyProof.Rows.StrMeet
import PyProof.NeData
import PyProof.P3Eq
import HandS.ReplaceLit
import HandS.TupMul
import PySem.Challenge.RW_lineage_k70_whole_policies_read
set_option Elab.async false
set_option linter.all false
set_option maxRecDepth 100000
/-! My own layer over HandS: callable defs bundled, globals bundled, readings at Nat. -/
namespace My
open PySem PySem.Spec PyProof.Rows L2 Evl

/-- a def that the module's name x holds, with its promise, at level k -/
structure Cal (P : Program) (w : World) (K : PySem.W.Frag) (mg : Str → Option Value) (base : Heap) (k : Nat) (x : Str) (ps : List Str) (sp : Sp) : Prop where
  ex : ∃ f fd, FnOk P w K mg base CX0 k f fd ps sp ∧ Binds K fd ps [] ∧ PySem.W.keepIn K (.ref f) = true ∧ mg x = some (.ref f)
theorem Cal.mono {P : Program} {w : World} {K : PySem.W.Frag} {mg : Str → Option Value} {base : Heap} {j k : Nat} {x : Str} {ps : List Str} {sp : Sp} (C : Cal P w K mg base j x ps sp) (h : j ≤ k) : Cal P w K mg base k x ps sp := by
  obtain ⟨f, fd, F, b, kp, m⟩ := C.ex
  exact ⟨f, fd, F.mono h, b, kp, m⟩
theorem Cal.imp {P : Program} {w : World} {K : PySem.W.Frag} {mg : Str → Option Value} {base : Heap} {k : Nat} {x : Str} {ps : List Str} {sp sp' : Sp} (C : Cal P w K mg base k x ps sp)
    (h : ∀ vs H Q E, sp' vs H Q E → sp vs H Q E) : Cal P w K mg base k x ps sp' := by
  obtain ⟨f, fd, F, b, kp, m⟩ := C.ex
  exact ⟨f, fd, F.imp h, b, kp, m⟩
theorem pe_cal {X : Cx} {k j : Nat} {x : Str} {ps : List Str} {sp : Sp} {e : Expr} {es : List Expr} {t : TA} {p pos : Pos} (C : Cal X.prog X.w X.K X.mg X.base k x ps sp) (hr : Room j X.A) (ha : PA X (e :: es) t) (hle : k ≤ j := by first | exact Nat.le_refl _ | decide | omega) (hg : Gl X x := by rfl)
    (hdb : (x == ("__debug__" : Str)) = false := by decide) (hs : starEach (e :: es) X.env = (false, eval e X.env) :: starEach es X.env := by rfl) (hplain : (backTo pos (starEach es X.env)).any (·.1) = false := by rfl) :
    PE X (.Call (.Name x p) (e :: es) [] pos) (tCall sp [] E0 t) := by
  obtain ⟨f, fd, F, b, kp, m⟩ := C.ex
  exact pe_call F (hr.mono hle) hg m kp b .nil pass0 ha hdb hs hplain
theorem pe_cal0 {X : Cx} {k j : Nat} {x : Str} {ps : List Str} {sp : Sp} {p pos : Pos} (C : Cal X.prog X.w X.K X.mg X.base k x ps sp) (hr : Room j X.A) (hle : k ≤ j := by first | exact Nat.le_refl _ | decide | omega) (hg : Gl X x := by rfl) (hdb : (x == ("__debug__" : Str)) = false := by decide) :
    PE X (.Call (.Name x p) [] [] pos) (tCall sp [] E0 tNil) := by
  obtain ⟨f, fd, F, b, kp, m⟩ := C.ex
  exact pe_call0 F (hr.mono hle) hg m kp b .nil pass0 hdb

/-- globals -/
def GI (mg : Str → Option Value) (x : Str) (n : Int) : Prop := ∃ t, mg x = some (.int n t)
def GS (mg : Str → Option Value) (x : Str) (z : Str) : Prop := ∃ t, mg x = some (.str z t)
/-- a tuple of the module's top -/
def GT (K : PySem.W.Frag) (mg : Str → Option Value) (x : Str) (xs : List V) : Prop := ∃ a, mg x = some (.ref a) ∧ ∀ H, SqT K H a xs
theorem pe_gi {X : Cx} {x : Str} {n : Int} {pos : Pos} (g : GI X.mg x n) (hg : Gl X x := by rfl) (hd : (x == ("__debug__" : Str)) = false := by decide) : PE X (.Name x pos) (tC (.int n)) := by
  obtain ⟨t, m⟩ := g
  exact pe_glob hg m ⟨t, rfl⟩ hd
theorem pe_gs {X : Cx} {x : Str} {z : Str} {pos : Pos} (g : GS X.mg x z) (hg : Gl X x := by rfl) (hd : (x == ("__debug__" : Str)) = false := by decide) : PE X (.Name x pos) (tC (.str z)) := by
  obtain ⟨t, m⟩ := g
  exact pe_glob hg m ⟨t, rfl⟩ hd
def tGT (K : PySem.W.Frag) (xs : List V) : TE := fun _ H Q => ∀ a, (∀ H', SqT K H' a xs) → Q (.ref a) H
theorem pe_gt {X : Cx} {x : Str} {xs : List V} {pos : Pos} (g : GT X.K X.mg x xs) (hg : Gl X x := by rfl) (hd : (x == ("__debug__" : Str)) = false := by decide) : PE X (.Name x pos) (tGT X.K xs) := by
  obtain ⟨a, m, h⟩ := g
  exact ⟨fun pins s σ H Q I q => (pe_glob (v := .ref a) hg m rfl hd).run pins s σ H Q I (q a h)⟩

/-- the built-in names that the program leaves as they are -/
structure Nb (mg : Str → Option Value) : Prop where
  len : mg "len" = none
  list : mg "list" = none
  int : mg "int" = none
  isinstance : mg "isinstance" = none
  range : mg "range" = none
  zip : mg "zip" = none
  all : mg "all" = none
  any : mg "any" = none
  tuple : mg "tuple" = none
  str : mg "str" = none
  dict : mg "dict" = none
  bool : mg "bool" = none
  sorted : mg "sorted" = none
  min : mg "min" = none
  max : mg "max" = none
  set : mg "set" = none
  enumerate : mg "enumerate" = none
  sum : mg "sum" = none

/-! ### promises in two shapes -/
/-- hands back z, all that stood stands -/
def spV (ok : List V → Hp → V → Prop) : Sp := fun vs H Q _ => ∃ z, ok vs H z ∧ ∀ H', Ex H H' → Q z H'
/-- hands back a new list -/
def spL (ok : List V → Hp → List V → Prop) : Sp := fun vs H Q _ => ∃ xs, ok vs H xs ∧ RetL xs H Q
section
variable {σ : L2.St} {H : Hp} {ta : TA} {te : TE} {vs xs : List V} {z v : V}
theorem ev_cal {ok : List V → Hp → V → Prop} (h : EvA ta σ H vs) (hk : ∀ H1, Ex H H1 → ok vs H1 z) : Ev (tCall (spV ok) [] E0 ta) σ H z :=
  ev_call h fun H1 e Q q E => ⟨z, by rw [List.append_nil]; exact hk H1 e, fun H2 e2 => q H2 e2⟩
theorem el_cal {ok : List V → Hp → List V → Prop} (h : EvA ta σ H vs) (hk : ∀ H1, Ex H H1 → ok vs H1 xs) : EvL (tCall (spL ok) [] E0 ta) σ H xs :=
  el_call h fun H1 e Q q E => ⟨xs, by rw [List.append_nil]; exact hk H1 e, fun p H2 hp e2 h2 => q p H2 hp e2 h2⟩
/-- a global tuple -/
theorem ev_gt {K : PySem.W.Frag} {ys : List V} {Q : VK} {H : Hp} (q : ∀ a, (∀ H', SqT K H' a ys) → Q (.ref a) H) : tGT K ys σ H Q := q
/-- natural numbers -/
theorem ev_cn (n : Nat) : Ev (tC (.int (n : Int))) σ H (.int (n : Int)) := ev_c
theorem ev_v {i : Nat} (h : σ[i]? = some (some v)) : Ev (tVar i) σ H v := ev_var h
theorem rv_is {r : R2} {x y z z' : V} {H : Hp} (h : RV r x y H z) (e : z = z') : RV r x y H z' := by
  rw [← e]
  exact h
theorem rv_addN {a b : Nat} : RV (rI0 fun i j => .int (i + j)) (.int (a : Int)) (.int (b : Int)) H (.int ((a + b : Nat) : Int)) := rv_is rv_I0 (congrArg V.int (Int.natCast_add a b).symm)
theorem rv_subN {a b : Nat} (h : b ≤ a) : RV (rI0 fun i j => .int (i - j)) (.int (a : Int)) (.int (b : Int)) H (.int ((a - b : Nat) : Int)) := rv_is rv_I0 (congrArg V.int (Int.ofNat_sub h).symm)
theorem toNatOr (a b : Nat) : Builtin.bitOr (a : Int) (b : Int) = ((a ||| b : Nat) : Int) := Bits.bitOr_pp (Int.natCast_nonneg _) (Int.natCast_nonneg _)
theorem bitAndN (a b : Nat) : Builtin.bitAnd (a : Int) (b : Int) = ((a &&& b : Nat) : Int) := by
  rw [bitAnd_pp (Int.natCast_nonneg _) (Int.natCast_nonneg _), Int.toNat_natCast, Int.toNat_natCast]
theorem bitOrN (a b : Nat) : Builtin.bitOr (a : Int) (b : Int) = ((a ||| b : Nat) : Int) := toNatOr a b
theorem bitXorN (a b : Nat) : Builtin.bitXor (a : Int) (b : Int) = ((a ^^^ b : Nat) : Int) := Bits.bitXor_pp (Int.natCast_nonneg _) (Int.natCast_nonneg _)
theorem rv_andN {a b : Nat} : RV (rI0 fun i j => .int (Builtin.bitAnd i j)) (.int (a : Int)) (.int (b : Int)) H (.int ((a &&& b : Nat) : Int)) := rv_is rv_I0 (congrArg V.int (bitAndN a b))
theorem rv_orN {a b : Nat} : RV (rI0 fun i j => .int (Builtin.bitOr i j)) (.int (a : Int)) (.int (b : Int)) H (.int ((a ||| b : Nat) : Int)) := rv_is rv_I0 (congrArg V.int (bitOrN a b))
theorem rv_xorN {a b : Nat} : RV (rI0 fun i j => .int (Builtin.bitXor i j)) (.int (a : Int)) (.int (b : Int)) H (.int ((a ^^^ b : Nat) : Int)) := rv_is rv_I0 (congrArg V.int (bitXorN a b))
theorem shlN (a b : Nat) : (a : Int) * 2 ^ (b : Int).toNat = ((a <<< b : Nat) : Int) := by
  rw [Int.toNat_natCast, Nat.shiftLeft_eq, Int.natCast_mul, Int.natCast_pow]; rfl
theorem shrN (a b : Nat) : (a : Int) / 2 ^ (b : Int).toNat = ((a >>> b : Nat) : Int) := by
  rw [Int.toNat_natCast, Nat.shiftRight_eq_div_pow, Int.natCast_ediv, Int.natCast_pow]; rfl
theorem rv_shlN {a b : Nat} (ha : a < 2 ^ 64) (hb : b ≤ 1000000) : RV (rI CPow fun i j => .int (i * 2 ^ j.toNat)) (.int (a : Int)) (.int (b : Int)) H (.int ((a <<< b : Nat) : Int)) :=
  rv_is (rv_I ⟨Int.natCast_nonneg _, by omega, by rw [Int.natAbs_natCast]; exact ha⟩) (congrArg V.int (shlN a b))
theorem rv_shrN {a b : Nat} : RV (rI (fun _ j => 0 ≤ j) fun i j => .int (i / 2 ^ j.toNat)) (.int (a : Int)) (.int (b : Int)) H (.int ((a >>> b : Nat) : Int)) :=
  rv_is (rv_I (Int.natCast_nonneg _)) (congrArg V.int (shrN a b))
theorem cmulN {a b : Nat} (h : a < 2 ^ 64 ∨ b < 2 ^ 64) : CMul (a : Int) (b : Int) := by
  unfold CMul
  have t : ((2 : Int) ^ 64) = ((2 ^ 64 : Nat) : Int) := by rfl
  rcases h with h | h
  · left; rw [t]; constructor <;> omega
  · right; rw [t]; constructor <;> omega
theorem rv_mulN {a b : Nat} (h : a < 2 ^ 64 ∨ b < 2 ^ 64) : RV (rI CMul fun i j => .int (i * j)) (.int (a : Int)) (.int (b : Int)) H (.int ((a * b : Nat) : Int)) := rv_is (rv_I (cmulN h)) (congrArg V.int (Int.natCast_mul a b).symm)
theorem rv_modN {a b : Nat} (h : 0 < b) : RV (rI (fun _ j => 0 < j) fun i j => .int (i % j)) (.int (a : Int)) (.int (b : Int)) H (.int ((a % b : Nat) : Int)) := rv_is (rv_I (show (0:Int) < (b:Int) by omega)) (congrArg V.int (Int.natCast_emod a b).symm)
theorem rv_divN {a b : Nat} (h : 0 < b) (hb : b < 1073741824) : RV (rI CDiv fun i j => .int (i / j)) (.int (a : Int)) (.int (b : Int)) H (.int ((a / b : Nat) : Int)) := rv_is (rv_I ⟨by omega, by omega⟩) (congrArg V.int (Int.natCast_ediv a b).symm)
theorem rv_divWN {a b n : Nat} (h : 0 < b) (hb : b < 2 ^ n) (h0 : 0 < n) (h9 : n ≤ 9000) : RV (rI CDivW fun i j => .int (i / j)) (.int (a : Int)) (.int (b : Int)) H (.int ((a / b : Nat) : Int)) :=
  rv_is (rv_I (wide_div (by omega) (by rw [Int.natAbs_natCast]; exact hb) h0 h9)) (congrArg V.int (Int.natCast_ediv a b).symm)
theorem rv_mulWN {a b n m : Nat} (ha : a < 2 ^ n) (hb : b < 2 ^ m) (h0 : 0 < n) (h1 : 0 < m) (h : n + m ≤ 1000000) : RV (rI CMulW fun i j => .int (i * j)) (.int (a : Int)) (.int (b : Int)) H (.int ((a * b : Nat) : Int)) :=
  rv_is (rv_I (wide_mul (by rw [Int.natAbs_natCast]; exact ha) (by rw [Int.natAbs_natCast]; exact hb) h0 h1 h)) (congrArg V.int (Int.natCast_mul a b).symm)
/-- an item of a list that is known -/
theorem rv_ixLn {K : PySem.W.Frag} {p : Addr} {xs : List V} {i : Nat} (h : SqL K H p xs) (ha : xs[i]? = some v) : RV (rIxL K) (.ref p) (.int (i : Int)) H v := rv_ixL h (atI_nat ha)
theorem rv_ixTn {K : PySem.W.Frag} {p : Addr} {xs : List V} {i : Nat} (h : SqT K H p xs) (ha : xs[i]? = some v) : RV (rIxT K) (.ref p) (.int (i : Int)) H v := rv_ixT h (atI_nat ha)
end
/-- int(x) of an int -/
theorem ev_int {σ : L2.St} {H : Hp} {te : TE} {i : Int} (h : Ev te σ H (.int i)) : Ev (tCB (fun xs H Q => (∃ i, xs = [.int i] ∧ Q (.int i) H) ∨ ∃ k, xs = [.bl k] ∧ Q (.int (if k then 1 else 0)) H) (tCons te tNil)) σ H (.int i) := fun H1 e Q q =>
  h H1 e _ fun H2 e2 => .inl ⟨i, rfl, q H2 e2⟩

/-! ### evaluating to something of which P is known (P stays as the heap grows) -/
def EvP (te : TE) (σ : L2.St) (H : Hp) (P : V → Hp → Prop) : Prop := ∀ H1, Ex H H1 → ∀ Q : VK, (∀ v H2, Ex H1 H2 → P v H2 → Q v H2) → te σ H1 Q
def EvAP (ta : TA) (σ : L2.St) (H : Hp) (P : List V → Hp → Prop) : Prop := ∀ H1, Ex H H1 → ∀ Q : List V → Hp → Prop, (∀ vs H2, Ex H1 H2 → P vs H2 → Q vs H2) → ta σ H1 Q
section
variable {σ : L2.St} {H H' : Hp} {ta tr : TA} {te : TE} {xs : List V} {x z v : V} {P : List V → Hp → Prop}
theorem EvP.mono {P : V → Hp → Prop} (e : Ex H H') (h : EvP te σ H P) : EvP te σ H' P := fun H1 a Q q => h H1 (e.trans a) Q q
theorem EvAP.mono (e : Ex H H') (h : EvAP ta σ H P) : EvAP ta σ H' P := fun H1 a Q q => h H1 (e.trans a) Q q
theorem evp_v (h : Ev te σ H v) : EvP te σ H (fun u _ => u = v) := fun H1 e Q q => h H1 e Q fun H2 e2 => q v H2 e2 rfl
theorem evp_l (h : EvL te σ H xs) : EvP te σ H (fun u H' => ∃ p, u = .ref p ∧ H' p = some (.lst xs)) := fun H1 e Q q => h H1 e Q fun p H2 _ e2 hp => q _ H2 e2 ⟨p, rfl, hp⟩
theorem evp_u (h : EvU te σ H xs) : EvP te σ H (fun u H' => ∃ p, u = .ref p ∧ H' p = some (.tup xs)) := fun H1 e Q q => h H1 e Q fun p H2 _ e2 hp => q _ H2 e2 ⟨p, rfl, hp⟩
theorem evp_gt {K : PySem.W.Frag} : EvP (tGT K xs) σ H (fun u _ => ∃ a, u = .ref a ∧ ∀ H', SqT K H' a xs) := fun H1 e Q q => fun a h => q _ H1 (Ex.refl H1) ⟨a, rfl, h⟩
theorem eap_nil : EvAP tNil σ H (fun vs _ => vs = []) := fun H1 _ Q q => q [] H1 (Ex.refl H1) rfl
theorem eap_v (h : Ev te σ H x) (hr : EvAP tr σ H P) : EvAP (tCons te tr) σ H (fun vs H' => ∃ r, vs = x :: r ∧ P r H') := fun H1 e Q q =>
  h H1 e _ fun H2 e2 => hr H2 (e.trans e2) _ fun r H3 e3 p => q _ H3 (e2.trans e3) ⟨r, rfl, p⟩
theorem eap_l (h : EvL te σ H xs) (hr : EvAP tr σ H P) : EvAP (tCons te tr) σ H (fun vs H' => ∃ a r, vs = .ref a :: r ∧ H' a = some (.lst xs) ∧ P r H') := fun H1 e Q q =>
  h H1 e _ fun a H2 _ e2 ha => hr H2 (e.trans e2) _ fun r H3 e3 p => q _ H3 (e2.trans e3) ⟨a, r, rfl, e3 a _ ha, p⟩
theorem eap_u (h : EvU te σ H xs) (hr : EvAP tr σ H P) : EvAP (tCons te tr) σ H (fun vs H' => ∃ a r, vs = .ref a :: r ∧ H' a = some (.tup xs) ∧ P r H') := fun H1 e Q q =>
  h H1 e _ fun a H2 _ e2 ha => hr H2 (e.trans e2) _ fun r H3 e3 p => q _ H3 (e2.trans e3) ⟨a, r, rfl, e3 a _ ha, p⟩
theorem ev_calP {ok : List V → Hp → V → Prop} (h : EvAP ta σ H P) (hk : ∀ vs H1, Ex H H1 → P vs H1 → ok vs H1 z) : Ev (tCall (spV ok) [] E0 ta) σ H z := fun H1 e Q q =>
  h H1 e _ fun vs H2 e2 p => ⟨z, by rw [List.append_nil]; exact hk vs H2 (e.trans e2) p, fun H3 e3 => q H3 (e2.trans e3)⟩
theorem el_calP {ok : List V → Hp → List V → Prop} (h : EvAP ta σ H P) (hk : ∀ vs H1, Ex H H1 → P vs H1 → ok vs H1 xs) : EvL (tCall (spL ok) [] E0 ta) σ H xs := fun H1 e Q q =>
  h H1 e _ fun vs H2 e2 p => ⟨xs, by rw [List.append_nil]; exact hk vs H2 (e.trans e2) p, fun a H3 ha e3 h3 => q a H3 (fresh_back e2 ha) (e2.trans e3) h3⟩
end

/-! ### lists of natural numbers; ranges in natural numbers; lists joined -/
def nats (xs : List Nat) : List V := xs.map fun n : Nat => V.int (n : Int)
theorem nats_len (xs : List Nat) : (nats xs).length = xs.length := List.length_map _
theorem nats_get {xs : List Nat} {i : Nat} (h : i < xs.length) : (nats xs)[i]? = some (.int ((xs.getD i 0 : Nat) : Int)) := by
  unfold nats
  rw [List.getElem?_map, List.getElem?_eq_getElem h, List.getD_eq_getElem?_getD, List.getElem?_eq_getElem h]
  rfl
theorem nats_app (xs ys : List Nat) : nats (xs ++ ys) = nats xs ++ nats ys := List.map_append
section
variable {K : PySem.W.Frag} {σ : L2.St} {H H' : Hp} {ta tb te : TE} {xs ys : List V} {x z v : V} {p : Addr} {D : Ends} {tu tz : TS}
theorem ev_ixL {j : Nat} (ha : Ev ta σ H (.ref p)) (hb : Ev tb σ H (.int (j : Int))) (hS : SqL K H p xs) (hx : xs[j]? = some v) : Ev (tOp (rIxL K) ta tb) σ H v := ev_op ha hb (rv_ixLn hS hx)
theorem ev_ixT {j : Nat} (ha : Ev ta σ H (.ref p)) (hb : Ev tb σ H (.int (j : Int))) (hS : SqT K H p xs) (hx : xs[j]? = some v) : Ev (tOp (rIxT K) ta tb) σ H v := ev_op ha hb (rv_ixTn hS hx)
theorem s_forR1N {ta : TA} {j n : Nat} (h : EvA ta σ H [.int (n : Int)]) (hn : n ≤ 100000) (Pv : Nat → L2.St → Hp → Prop) (h0 : ∀ H1, Ex H H1 → Pv 0 σ H1)
    (hs : ∀ (i : Nat) σ' H', i < n → Pv i σ' H' → tu { D with nx := Pv (i + 1), ct := Pv (i + 1), bk := D.nx } (σ'.set j (some (.int (i : Int)))) H') (hd : ∀ σ' H', Pv n σ' H' → D.nx σ' H') : tFor (iRng1 ta) (gName j) tu D σ H :=
  s_forR1 h (by omega) Pv h0 (fun i σ' H' hi => hs i σ' H' (by omega)) (by rw [Int.toNat_natCast]; exact hd)
theorem q_forR1N {ta : TA} {j n : Nat} (h : EvA ta σ H [.int (n : Int)]) (hn : n ≤ 100000) (Pv : Nat → L2.St → Hp → Prop) (h0 : ∀ H1, Ex H H1 → Pv 0 σ H1)
    (hs : ∀ (i : Nat) σ' H', i < n → Pv i σ' H' → tu { D with nx := Pv (i + 1), ct := Pv (i + 1), bk := tz D } (σ'.set j (some (.int (i : Int)))) H') (hd : ∀ σ' H', Pv n σ' H' → tz D σ' H') : tSeq (tFor (iRng1 ta) (gName j) tu) tz D σ H :=
  s_forR1N (D := { D with nx := tz D }) h hn Pv h0 hs hd
theorem s_forR2N {ta : TA} {j lo n : Nat} (h : EvA ta σ H [.int (lo : Int), .int (n : Int)]) (hn : lo ≤ 100000 ∧ n ≤ 100000) (Pv : Nat → L2.St → Hp → Prop) (h0 : ∀ H1, Ex H H1 → Pv 0 σ H1)
    (hs : ∀ (i : Nat) σ' H', lo + i < n → Pv i σ' H' → tu { D with nx := Pv (i + 1), ct := Pv (i + 1), bk := D.nx } (σ'.set j (some (.int ((lo + i : Nat) : Int)))) H') (hd : ∀ σ' H', Pv (n - lo) σ' H' → D.nx σ' H') : tFor (iRng2 ta) (gName j) tu D σ H :=
  s_forR2 h (by omega) Pv h0 (fun i σ' H' hi p => by
    have e := hs i σ' H' (by omega) p
    rw [Int.natCast_add] at e
    exact e) (by rw [show ((n : Int) - (lo : Int)).toNat = n - lo by omega]; exact hd)
theorem q_forR2N {ta : TA} {j lo n : Nat} (h : EvA ta σ H [.int (lo : Int), .int (n : Int)]) (hn : lo ≤ 100000 ∧ n ≤ 100000) (Pv : Nat → L2.St → Hp → Prop) (h0 : ∀ H1, Ex H H1 → Pv 0 σ H1)
    (hs : ∀ (i : Nat) σ' H', lo + i < n → Pv i σ' H' → tu { D with nx := Pv (i + 1), ct := Pv (i + 1), bk := tz D } (σ'.set j (some (.int ((lo + i : Nat) : Int)))) H') (hd : ∀ σ' H', Pv (n - lo) σ' H' → tz D σ' H') : tSeq (tFor (iRng2 ta) (gName j) tu) tz D σ H :=
  s_forR2N (D := { D with nx := tz D }) h hn Pv h0 hs hd
/-- a list that stands, or a new one -/
def IsL (xs : List V) : V → Hp → Prop := fun u H' => ∃ p, u = .ref p ∧ H' p = some (.lst xs)
theorem evl_n (h : EvL te σ H xs) : EvP te σ H (IsL xs) := evp_l h
theorem evl_k (h : Ev te σ H (.ref p)) (hp : H p = some (.lst xs)) : EvP te σ H (IsL xs) := fun H1 e Q q => h H1 e Q fun H2 e2 => q _ H2 e2 ⟨p, rfl, e2 p _ (e p _ hp)⟩
theorem el_cat (ha : EvP ta σ H (IsL xs)) (hb : EvP tb σ H (IsL ys)) (hz : xs.length + ys.length ≤ 100000) : EvL (tOp rCat ta tb) σ H (xs ++ ys) := fun H1 e Q q =>
  ha H1 e _ fun u H2 e2 ⟨p, hu, hp⟩ => hb H2 (e.trans e2) _ fun u2 H3 e3 ⟨p2, hu2, hp2⟩ => ⟨p, p2, xs, ys, hu, hu2, e3 p _ hp, hp2, sz_of hz, fun l hl =>
    q l _ (fresh_back (e2.trans e3) hl) ((e2.trans e3).trans (Ex.new hl)) upd_same⟩
theorem el_rep {k : Nat} (ha : EvP ta σ H (IsL xs)) (hb : Ev tb σ H (.int (k : Int))) (hk : k ≤ 100000) (hz : xs.length * k ≤ 100000) : EvL (tOp rRep ta tb) σ H (List.replicate k xs).flatten := fun H1 e Q q =>
  ha H1 e _ fun u H2 e2 ⟨p, hu, hp⟩ => hb H2 (e.trans e2) _ fun H3 e3 => ⟨p, k, xs, hu, rfl, e3 p _ hp, by omega, by omega, by rw [Int.toNat_natCast]; exact sz_of hz, fun l hl => by
    rw [Int.toNat_natCast]
    exact q l _ (fresh_back (e2.trans e3) hl) ((e2.trans e3).trans (Ex.new hl)) upd_same⟩
theorem el_listP (ha : EvP ta σ H (IsL xs)) : EvL (tCB (rListS K) (tCons ta tNil)) σ H xs := fun H1 e Q q =>
  ha H1 e _ fun u H2 e2 ⟨p, hu, hp⟩ => ⟨p, xs, by rw [hu], Or.inl (sq_of hp), fun l hl => q l _ (fresh_back e2 hl) (e2.trans (Ex.new hl)) upd_same⟩
end

/-! ### slices -/
theorem cutV_take (xs : List V) (n : Nat) : cutV xs none (some (n : Int)) = xs.take n := by
  unfold cutV
  rw [HT.sIx_nat, HT.sIx_none, List.drop_zero, Nat.sub_zero]
  by_cases h : n ≤ xs.length
  · rw [Nat.min_eq_left h]
  · rw [Nat.min_eq_right (by omega), List.take_of_length_le (Nat.le_refl _), List.take_of_length_le (by omega)]
theorem cutV_drop (xs : List V) (n : Nat) : cutV xs (some (n : Int)) none = xs.drop n := by
  unfold cutV
  rw [HT.sIx_nat, HT.sIx_none]
  by_cases h : n ≤ xs.length
  · rw [Nat.min_eq_left h, List.take_of_length_le (by rw [List.length_drop]; omega)]
  · rw [Nat.min_eq_right (by omega), List.drop_of_length_le (Nat.le_refl _), List.drop_of_length_le (show xs.length ≤ n by omega), List.take_nil]
theorem cutV_mid (xs : List V) (n m : Nat) (h : n ≤ xs.length) : cutV xs (some (n : Int)) (some (m : Int)) = (xs.drop n).take (m - n) := by
  unfold cutV
  rw [HT.sIx_nat, HT.sIx_nat, Nat.min_eq_left h]
  by_cases h2 : m ≤ xs.length
  · rw [Nat.min_eq_left h2]
  · rw [Nat.min_eq_right (by omega), List.take_of_length_le (by rw [List.length_drop]; omega), List.take_of_length_le (by rw [List.length_drop]; omega)]
theorem nats_take (xs : List Nat) (n : Nat) : nats (xs.take n) = (nats xs).take n := by unfold nats; rw [List.map_take]
theorem nats_drop (xs : List Nat) (n : Nat) : nats (xs.drop n) = (nats xs).drop n := by unfold nats; rw [List.map_drop]

/-! ### texts by their codes -/
def tx (l : List Nat) : Str := ⟨l.toArray⟩
theorem tx_app (a b : List Nat) : tx a ++ tx b = tx (a ++ b) := by
  show (⟨a.toArray ++ b.toArray⟩ : Str) = _
  unfold tx
  rw [List.append_toArray]
theorem tx_len (a : List Nat) : (tx a).length = a.length := List.size_toArray
theorem tx_list (a : List Nat) : (tx a).cps.toList = a := rfl
theorem tx_of (z : Str) : z = tx z.cps.toList := rfl
theorem tx_inj {a b : List Nat} (h : tx a = tx b) : a = b := by
  have := congrArg (fun z : Str => z.cps.toList) h
  exact this
section
variable {σ : L2.St} {H H' : Hp} {ta tb te : TE} {xs ys : List V} {x z v : V} {p : Addr} {D : Ends} {tu tz : TS}
theorem ev_cs {s : Str} (l : List Nat) (h : s = tx l) : Ev (tC (.str s)) σ H (.str (tx l)) := ev_is ev_c (by rw [h])
theorem rv_addS {a b : List Nat} (h : a.length + b.length ≤ 100000) : RV (fun x y H Q => ∃ i j, x = .str i ∧ y = .str j ∧ i.length + j.length ≤ sizeLine ∧ Q (.str (i ++ j)) H) (.str (tx a)) (.str (tx b)) H (.str (tx (a ++ b))) := fun H1 _ _ q =>
  ⟨tx a, tx b, rfl, rfl, by rw [tx_len, tx_len]; exact sz_of h, by rw [tx_app]; exact q H1 (Ex.refl H1)⟩
theorem rv_ixSn {l : List Nat} {i c : Nat} (h : l.length ≤ 100000) (hi : l[i]? = some c) : RV rIxS (.str (tx l)) (.int (i : Int)) H (.str (tx [c])) := rv_ixS (by rw [tx_len]; exact h) (atI_nat (by rw [tx_list]; exact hi))
theorem range_map {α β : Type} (xs : List α) (d : α) (g : α → β) : (List.range xs.length).map (fun i => g (xs.getD i d)) = xs.map g := by
  refine List.ext_getElem? fun i => ?_
  rw [List.getElem?_map, List.getElem?_map]
  by_cases h : i < xs.length
  · rw [List.getElem?_range h, List.getElem?_eq_getElem h]
    simp [List.getD_eq_getElem?_getD, List.getElem?_eq_getElem h]
  · rw [List.getElem?_eq_none (by rw [List.length_range]; omega), List.getElem?_eq_none (by omega)]
    rfl
theorem given_all (n : Nat) (v : Nat → V) : given n (fun _ => true) v = (List.range n).map v := by
  unfold given
  rw [List.filter_eq_self.mpr fun _ _ => rfl]
theorem given_nats (xs : List Nat) (g : Nat → Nat) : given xs.length (fun _ => true) (fun i => .int (g (xs.getD i 0) : Nat)) = nats (xs.map g) := by
  rw [given_all]
  unfold nats
  rw [List.map_map]
  exact range_map xs 0 fun n => V.int (g n : Nat)
theorem et_yes : EvT tYes σ H true := fun H1 _ Q q => q H1 (Ex.refl H1)
theorem rep_one (k n : Nat) : (List.replicate k (nats [n])).flatten = nats (List.replicate k n) := by
  induction k with
  | zero => rfl
  | succ k ih =>
    rw [List.replicate_succ, List.flatten_cons, ih, List.replicate_succ]
    rfl
theorem getD_of {xs : List Nat} {i : Nat} {x : V} (h : (nats xs)[i]? = some x) : x = .int ((xs.getD i 0 : Nat) : Int) ∧ i < xs.length := by
  have hi : i < xs.length := by
    have := (List.getElem?_eq_some_iff.mp h).1
    rw [nats_len] at this
    exact this
  rw [nats_get hi] at h
  exact ⟨(Option.some.inj h).symm, hi⟩
theorem getD_mem {xs : List Nat} {i : Nat} (h : i < xs.length) : xs.getD i 0 ∈ xs := by
  rw [List.getD_eq_getElem?_getD, List.getElem?_eq_getElem h]
  exact List.getElem_mem h
/-- an argument that is a list that stands or a new one -/
theorem eap_p {te : TE} {tr : TA} {P1 : V → Hp → Prop} {P : List V → Hp → Prop} (h : EvP te σ H P1) (hm : ∀ v H1 H2, Ex H1 H2 → P1 v H1 → P1 v H2) (hr : EvAP tr σ H P) : EvAP (tCons te tr) σ H (fun vs H' => ∃ v r, vs = v :: r ∧ P1 v H' ∧ P r H') := fun H1 e Q q =>
  h H1 e _ fun v H2 e2 p1 => hr H2 (e.trans e2) _ fun r H3 e3 p => q _ H3 (e2.trans e3) ⟨v, r, rfl, hm _ _ _ e3 p1, p⟩
theorem IsL.mono {v : V} {H1 H2 : Hp} (e : Ex H1 H2) (h : IsL xs v H1) : IsL xs v H2 := by
  obtain ⟨p, rfl, hp⟩ := h
  exact ⟨p, rfl, e p _ hp⟩
end
end My

set_option Elab.async false
set_option linter.all false
set_option maxRecDepth 100000
set_option maxHeartbeats 1000000
/-! zip(v1, v2, strict=True) over two of one length: made, drawn, ended. -/
namespace My
open PySem PySem.Spec PyProof.Rows L2 Evl Builtin.SmallTypes
section
variable {prog : Program} {w : World} {A : Around} {E : Value → Shared → Prop} {s : Shared} {it : Addr} {fp : List Addr} {n i : Nat} {P : Nat → Value → Prop} {St : Nat → Heap → Prop}
theorem orEnd_item {Q : Option Value → Shared → Prop} (D : Draws prog w A it fp n P St) (hi : i < n) (st : St i s.heap)
    (h : ∀ x h' tk, P i x → St (i + 1) h' → Heap.SameBut it s.heap h' → Q (some x) { s with heap := h', toks := tk }) : wpAny (model prog w) A (nextOrEnd (.ref it)) Q E s := by
  unfold nextOrEnd
  exact wpAny_bind (wpAny_attempt (D.item i s _ _ hi st fun x h' tk p q b => wpAny_pure (h x h' tk p q b)))
theorem orEnd_done {Q : Option Value → Shared → Prop} (D : Draws prog w A it fp n P St) (st : St n s.heap)
    (h : ∀ h', Heap.ExtBut it s.heap h' → Q none { s with heap := h' }) : wpAny (model prog w) A (nextOrEnd (.ref it)) Q E s := by
  unfold nextOrEnd
  refine wpAny_bind (wpAny_attempt (D.done s _ _ st fun h' e x y => ?_))
  obtain ⟨o, ho, hc⟩ := y
  exact wpAny_bind (wpAny_isInstance (T := "StopIteration") (b := true) ⟨o, ho, hc⟩ isSubtype_stop (wpAny_pure (h h' x)))
end
/-- a strict zip object -/
abbrev IsZipS (h : Heap) (z TI TO : Addr) (f0 : Value) : Prop :=
  h.get? z = some { cls := .type "zip", dict := none, data := .fields #[f0, .bool false, .bool true, .ref TI, .ref TO], slots := #[] }

section
variable {prog : Program} {w : World} {A : Around} {E : Value → Shared → Prop} {s : Shared} {z TI TO i1 i2 : Addr} {fp1 fp2 : List Addr} {n i : Nat} {P1 P2 : Nat → Value → Prop} {St1 St2 : Nat → Heap → Prop} {a1 a2 : Value}
/-- one draw from both -/
theorem zs_item {Q : Value → Shared → Prop} (S : ZipSep2 z TI TO i1 i2 fp1 fp2) (D1 : Draws prog w A i1 fp1 n P1 St1) (D2 : Draws prog w A i2 fp2 n P2 St2)
    (hz : IsZipS s.heap z TI TO .none) (hTI : IsTupOf2 s.heap TI (.ref i1) (.ref i2)) (hTO : IsTupOf2 s.heap TO a1 a2) (st1 : St1 i s.heap) (st2 : St2 i s.heap) (hlt : i < n)
    (hQ : ∀ x1 x2 h' tk, P1 i x1 → P2 i x2 → IsZipS h' z TI TO (rawInt s.heap.objs.size) → IsTupOf2 h' TO x1 x2 → St1 (i + 1) h' → St2 (i + 1) h' → IsTupOf2 h' s.heap.objs.size x1 x2 → h'.objs.size = s.heap.objs.size + 1 →
      (∀ c o, c ≠ z → c ≠ TO → c ≠ i1 → c ≠ i2 → s.heap.get? c = some o → h'.get? c = some o) → Q (.ref s.heap.objs.size) { s with heap := h', toks := tk }) :
    wpAny (model prog w) A (Builtin.«zip.__next__» ⟨[.ref z], []⟩) (fun fin s' => ∃ v, fin = .done (.ret v) ∧ Q v s') E s := by
  obtain ⟨hp, gs, dr, tk0, os⟩ := s
  show wpAny _ _ (field (.ref z) 2 >>= _) _ _ _
  refine wpAny_bind (wpAny_field hz rfl (x := .bool true) rfl ?_)
  show wpAny _ _ (field (.ref z) 3 >>= _) _ _ _
  refine wpAny_bind (wpAny_field hz rfl (x := .ref TI) rfl (wpAny_bind (wpAny_seqItems hTI rfl ?_)))
  show wpAny _ _ (ownedTupleIsFree (.ref z) >>= _) _ _ _
  refine wpAny_bind ?_
  unfold ownedTupleIsFree
  refine wpAny_bind (wpAny_field hz rfl (x := .none) rfl (wpAny_pure ?_))
  simp only [if_true]
  refine wpAny_bind (wpAny_rule (wpAny_bind (wpAny_field hz rfl (x := .ref TO) rfl (wpAny_bind (wpAny_setField_rec hz (by simp) fun g0 hz0 hs0 => ?_)))))
  replace hz0 : IsZipS g0 z TI TO .ellipsis := hz0
  replace hs0 : Heap.SameBut z hp g0 := hs0
  refine wpAny_bind ?_
  simp only [List.zipIdx_cons, List.zipIdx_nil, List.forIn_cons, List.forIn_nil]
  refine wpAny_bind (wpAny_bind (wpAny_onRaise ?_))
  show wpAny _ _ (nextOrEnd (.ref i1)) _ _ ⟨g0, gs, dr, tk0, os⟩
  refine orEnd_item D1 hlt (D1.over st1 hs0 S.zf1) fun x1 p1 tk1 hx1 sn1 hp1 => ?_
  replace hp1 : Heap.SameBut i1 g0 p1 := hp1
  have u1 : IsTupOf2 p1 TO a1 a2 := hp1.extBut _ _ S.Ti1 (hs0.extBut _ _ S.TOz hTO)
  refine wpAny_bind (wpAny_seqItems (s := ⟨p1, gs, dr, tk1, os⟩) u1 rfl (wpAny_bind (updateSeq_IsTupOf2 (s := ⟨p1, gs, dr, tk1, os⟩) u1 fun g1 t1 hs1 => ?_)))
  replace t1 : IsTupOf2 g1 TO x1 a2 := t1
  replace hs1 : Heap.SameBut TO p1 g1 := hs1
  refine wpAny_bind (wpAny_letGo (wpAny_pure (wpAny_bind (wpAny_bind (wpAny_onRaise ?_)))))
  show wpAny _ _ (nextOrEnd (.ref i2)) _ _ ⟨g1, gs, dr, tk1, os⟩
  refine orEnd_item D2 hlt (D2.over (D2.over (D2.over st2 hs0 S.zf2) hp1 S.sep1_2) hs1 S.Tf2) fun x2 p2 tk2 hx2 sn2 hp2 => ?_
  replace hp2 : Heap.SameBut i2 g1 p2 := hp2
  have u2 : IsTupOf2 p2 TO x1 a2 := hp2.extBut _ _ S.Ti2 t1
  refine wpAny_bind (wpAny_seqItems (s := ⟨p2, gs, dr, tk2, os⟩) u2 rfl (wpAny_bind (updateSeq_IsTupOf2 (s := ⟨p2, gs, dr, tk2, os⟩) u2 fun g2 t2 hs2 => ?_)))
  replace t2 : IsTupOf2 g2 TO x1 x2 := t2
  replace hs2 : Heap.SameBut TO p2 g2 := hs2
  refine wpAny_bind (wpAny_letGo (wpAny_pure (wpAny_pure (wpAny_bind (wpAny_seqItems (s := ⟨g2, gs, dr, tk2, os⟩) t2 rfl (wpAny_bind (wpAny_newTuple ?_)))))))
  have sz : g2.objs.size = hp.objs.size := by rw [hs2.1, hp2.1, hs1.1, hp1.1, hs0.1]
  have hzz : IsZipS g2 z TI TO .ellipsis := hs2.extBut _ _ S.TOz.symm (hp2.extBut _ _ S.zi2 (hs1.extBut _ _ S.TOz.symm (hp1.extBut _ _ S.zi1 hz0)))
  have kk : ∀ c o, c ≠ z → c ≠ TO → c ≠ i1 → c ≠ i2 → hp.get? c = some o → g2.get? c = some o := fun c o cz cT c1 c2 e => hs2.extBut _ _ cT (hp2.extBut _ _ c2 (hs1.extBut _ _ cT (hp1.extBut _ _ c1 (hs0.extBut _ _ cz e))))
  have j1 : St1 (i + 1) g2 := D1.over (D1.over (D1.over sn1 hs1 S.Tf1) hp2 S.sep2_1) hs2 S.Tf1
  have j2 : St2 (i + 1) g2 := D2.over sn2 hs2 S.Tf2
  have zlt : z < g2.objs.size := Heap.lt_size hzz
  show wpAny _ _ (ownedTupleHandOut (.ref z) (.ref g2.objs.size) >>= _) _ _ ⟨g2.push { cls := .type "tuple", data := .seq #[x1, x2] }, gs, dr, tk2, os⟩
  generalize ht : ({ cls := .type "tuple", data := .seq #[x1, x2] } : Obj) = ob
  refine wpAny_bind ?_
  unfold ownedTupleHandOut
  refine wpAny_bind (wpAny_setField_rec (Heap.get?_push_of_some ob hzz) (by simp) fun h7 hz7 hs7 => ?_)
  replace hz7 : IsZipS h7 z TI TO (rawInt g2.objs.size) := hz7
  replace hs7 : Heap.SameBut z (g2.push ob) h7 := hs7
  refine wpAny_setField_rec hz7 (by simp) fun h8 hz8 hs8 => ?_
  replace hz8 : IsZipS h8 z TI TO (rawInt g2.objs.size) := hz8
  replace hs8 : Heap.SameBut z h7 h8 := hs8
  have up : ∀ c o, c ≠ z → g2.get? c = some o → h8.get? c = some o := fun c o c1 e => hs8.extBut _ _ c1 (hs7.extBut _ _ c1 (Heap.get?_push_of_some _ e))
  have t8 : h8.get? g2.objs.size = some ob := hs8.extBut _ _ (Nat.ne_of_gt zlt) (hs7.extBut _ _ (Nat.ne_of_gt zlt) (Heap.get?_push_size _ (by rw [← ht]; rfl)))
  have s8 : h8.objs.size = g2.objs.size + 1 := by rw [hs8.1, hs7.1, Heap.size_push]
  rw [sz] at hz8 t8 s8
  rw [← ht] at t8
  refine wpAny_pure ⟨_, rfl, ?_⟩
  show Q (.ref g2.objs.size) ⟨h8, gs, dr, tk2, os⟩
  rw [sz]
  exact hQ x1 x2 h8 tk2 hx1 hx2 hz8 (up _ _ S.TOz t2) (D1.frame _ _ _ j1 fun b hb o e => up b o (fun q => S.zf1 (q ▸ hb)) e) (D2.frame _ _ _ j2 fun b hb o e => up b o (fun q => S.zf2 (q ▸ hb)) e) t8 s8 fun c o cz cT c1 c2 e => up c o cz (kk c o cz cT c1 c2 e)
/-- both are at their ends -/
theorem zs_end {Q : Fin → Shared → Prop} (hh : A.handled = none) (S : ZipSep2 z TI TO i1 i2 fp1 fp2) (D1 : Draws prog w A i1 fp1 n P1 St1) (D2 : Draws prog w A i2 fp2 n P2 St2)
    (hz : IsZipS s.heap z TI TO .none) (hTI : IsTupOf2 s.heap TI (.ref i1) (.ref i2)) (hTO : IsTupOf2 s.heap TO a1 a2) (st1 : St1 n s.heap) (st2 : St2 n s.heap)
    (hE : ∀ h' e, (∀ c o, c ≠ z → c ≠ TO → c ≠ i1 → c ≠ i2 → s.heap.get? c = some o → h'.get? c = some o) → (∃ o, h'.get? e = some o ∧ o.cls = .type "StopIteration") → E (.ref e) { s with heap := h' }) :
    wpAny (model prog w) A (Builtin.«zip.__next__» ⟨[.ref z], []⟩) Q E s := by
  obtain ⟨hp, gs, dr, tk0, os⟩ := s
  show wpAny _ _ (field (.ref z) 2 >>= _) _ _ _
  refine wpAny_bind (wpAny_field hz rfl (x := .bool true) rfl ?_)
  show wpAny _ _ (field (.ref z) 3 >>= _) _ _ _
  refine wpAny_bind (wpAny_field hz rfl (x := .ref TI) rfl (wpAny_bind (wpAny_seqItems hTI rfl ?_)))
  show wpAny _ _ (ownedTupleIsFree (.ref z) >>= _) _ _ _
  refine wpAny_bind ?_
  unfold ownedTupleIsFree
  refine wpAny_bind (wpAny_field hz rfl (x := .none) rfl (wpAny_pure ?_))
  simp only [if_true]
  refine wpAny_bind (wpAny_rule (wpAny_bind (wpAny_field hz rfl (x := .ref TO) rfl (wpAny_bind (wpAny_setField_rec hz (by simp) fun g0 hz0 hs0 => ?_)))))
  replace hz0 : IsZipS g0 z TI TO .ellipsis := hz0
  replace hs0 : Heap.SameBut z hp g0 := hs0
  refine wpAny_bind ?_
  simp only [List.zipIdx_cons, List.zipIdx_nil, List.forIn_cons, List.forIn_nil]
  refine wpAny_bind (wpAny_bind (wpAny_onRaise ?_))
  show wpAny _ _ (nextOrEnd (.ref i1)) _ _ ⟨g0, gs, dr, tk0, os⟩
  refine orEnd_done D1 (D1.over st1 hs0 S.zf1) fun p1 hp1 => ?_
  replace hp1 : Heap.ExtBut i1 g0 p1 := hp1
  have hz1 : IsZipS p1 z TI TO .ellipsis := hp1 _ _ S.zi1 hz0
  refine wpAny_bind (wpAny_setField_rec hz1 (by simp) fun g1 hz2 hs1 => ?_)
  replace hs1 : Heap.SameBut z p1 g1 := hs1
  refine wpAny_bind (wpAny_bind (wpAny_bind ?_))
  show wpAny _ _ (nextOrEnd (.ref i2) >>= _) _ _ ⟨g1, gs, dr, tk0, os⟩
  refine wpAny_bind (orEnd_done D2 (D2.over (D2.frame _ _ _ (D2.over st2 hs0 S.zf2) fun b hb o e => hp1 b o (fun q => S.sep1_2 (q ▸ hb)) e) hs1 S.zf2) fun p2 hp2 => ?_)
  replace hp2 : Heap.ExtBut i2 g1 p2 := hp2
  simp only [Option.isSome_none, Bool.false_eq_true, if_false]
  refine wpAny_pure (wpAny_pure (wpAny_bind (wpAny_rule ?_)))
  show wpAny _ _ (newExc (.type "StopIteration") [] >>= _) _ _ _
  refine wpAny_bind ?_
  simp only [newExc, newTuple]
  refine wpAny_bind (wpAny_newObj_type ?_ (by size_fits))
  refine wpAny_bind (m := firstArgMember _ _) (wpAny_of_eq (a := Value.none) (by first | rfl | (simp only [firstArgMember]; rfl)) ?_)
  refine wpAny_newObj_type ?_ (by size_fits)
  simp only [raiseNew]
  refine wpAny_bind (wpAny_handled ?_)
  rw [hh]
  refine wpAny_bind (wpAny_pure (wpAny_throw ?_))
  exact hE _ _ (fun c o cz cT c1 c2 e => Heap.get?_push_of_some _ (Heap.get?_push_of_some _ (hp2 _ _ c2 (hs1.extBut _ _ cz (hp1 _ _ c1 (hs0.extBut _ _ cz e)))))) ⟨_, Heap.get?_push_size _ rfl, rfl⟩
end

/-! ### sources: a list or a tuple -/
def SqB (K : PySem.W.Frag) (t : Bool) (H : Hp) (a : Addr) (xs : List V) : Prop := match t with | true => SqT K H a xs | false => SqL K H a xs
def ItB (t : Bool) (h : Heap) (it a : Addr) (i : Nat) : Prop := match t with | true => h.IsTupleIter it a i | false => h.IsListIter it a i
def SeB (t : Bool) (h : Heap) (a : Addr) (its : Array Value) : Prop := match t with | true => h.IsTuple a its | false => h.IsList a its
def oB (t : Bool) (a : Addr) : Obj := match t with | true => { cls := .type "tuple_iterator", data := .fields #[.ref a, .int 0 0] } | false => { cls := .type "list_iterator", data := .fields #[.ref a, .int 0 0] }
theorem beginsB (t : Bool) (a : Addr) (its : Array Value) : Begins (.ref a) (oB t a) fun h => SeB t h a its := by
  cases t
  · exact begins_list a its
  · exact begins_tuple a its
theorem oB_it (t : Bool) {h : Heap} {it a : Addr} (e : h.get? it = some (oB t a)) : ItB t h it a 0 := by
  cases t
  · exact ⟨_, e, rfl, rfl⟩
  · exact ⟨_, e, rfl, rfl⟩
theorem ItB.at {t : Bool} {h h' : Heap} {it a : Addr} {i : Nat} (x : ItB t h it a i) (k : ∀ o, h.get? it = some o → h'.get? it = some o) : ItB t h' it a i := by
  cases t
  · exact Heap.IsListIter.at x k
  · exact Heap.IsTupleIter.at x k
theorem ItB.obj {t : Bool} {h : Heap} {it a : Addr} {i : Nat} (x : ItB t h it a i) : ∃ o, h.get? it = some o ∧ ∀ v, o.data ≠ .cell v := by
  cases t
  · obtain ⟨o, e, _, d⟩ := x
    exact ⟨o, e, fun v q => by rw [d] at q; cases q⟩
  · obtain ⟨o, e, _, d⟩ := x
    exact ⟨o, e, fun v q => by rw [d] at q; cases q⟩
section
variable {prog : Program} {w : World} {A : Around}
theorem drawsB (hh : A.handled = none) (t : Bool) (it a : Addr) (ne : a ≠ it) (its : Array Value) : Draws prog w A it [it, a] its.size (fun i v => its[i]? = some v) (fun i h => ItB t h it a i ∧ SeB t h a its) := by
  cases t
  · exact Draws.list hh it a ne its
  · exact Draws.tuple hh it a ne its
end
section
variable {X : Cx} {pins : List (Addr × Obj)} {σ : L2.St} {H : Hp} {s : Shared} {a : Addr} {xs ys : List V} {t : Bool}
theorem sqB_inv (I : Inv X pins σ H s) (h : SqB X.K t H a xs) : ∃ its : List Value, Vals xs its ∧ SeB t s.heap a its.toArray ∧ a < s.heap.objs.size := by
  cases t
  · obtain ⟨its, r, p, _⟩ := I.list h
    exact ⟨its, r, p.isList, p.lt⟩
  · obtain ⟨its, r, p, _⟩ := I.tuple h
    exact ⟨its, r, p, p.lt⟩
theorem sqB_inj (I : Inv X pins σ H s) (h : SqB X.K t H a xs) (h' : SqB X.K t H a ys) : xs = ys := by
  cases t
  · exact I.list_inj h h'
  · exact I.tuple_inj h h'
end
/-- both sources as they stand at each turn, of one length -/
def Itzs (K : PySem.W.Frag) (t1 t2 : Bool) (a b : Addr) : It :=
  ⟨fun i H => ∃ (xs ys : List V) (x y : V), SqB K t1 H a xs ∧ SqB K t2 H b ys ∧ xs.length = ys.length ∧ xs[i]? = some x ∧ ys[i]? = some y,
    fun i H v H' => ∃ T x y, v = .ref T ∧ H T = none ∧ H' = upd H T (.tup [x, y]) ∧ (∀ xs, SqB K t1 H a xs → xs[i]? = some x) ∧ ∀ ys, SqB K t2 H b ys → ys[i]? = some y,
    fun i H => ∃ xs ys : List V, SqB K t1 H a xs ∧ SqB K t2 H b ys ∧ xs.length = i ∧ ys.length = i⟩
section
variable {prog : Program} {w : World} {A : Around} {E : Value → Shared → Prop} {s : Shared}
theorem zs_iter {z TI TO : Addr} {f0 : Value} {Q : Value → Shared → Prop} (hz : IsZipS s.heap z TI TO f0) (h : Q (.ref z) s) : wpAny (model prog w) A (pyIter (.ref z)) Q E s := by
  have hT : s.TypeIs (.ref z) "zip" := ⟨_, hz, rfl⟩
  refine wpAny_pyIter_slot hT F.slot_zip_iter (wpAny_call_entry F.slot_zip_iter hT F.entry_zip_iter ?_ (F.args_zip_iter_1 _))
  show wpAny _ _ (ret (.ref z)) _ _ s
  exact wpAny_pure ⟨_, rfl, "zip", _, hT, F.slot_zip_next.lookup, h⟩
theorem zs_go {elts : List Expr} {x1} {pos : Pos} {z TI TO T : Addr} {Q : Unit → Shared → Prop} (hz : IsZipS s.heap z TI TO (rawInt T)) (hQ : ∀ h', IsZipS h' z TI TO .none → Heap.SameBut z s.heap h' → Q () { s with heap := h' }) :
    wpAny (model prog w) A (letOwnedTupleGo (.Tuple elts x1 pos) (.ref z) (.ref T)) Q E s := by
  unfold letOwnedTupleGo
  refine wpAny_bind (wpAny_load hz ?_)
  show wpAny _ _ (if (["enumerate", "zip", "dict_itemiterator", "dict_reverseitemiterator", "odict_iterator", "itertools.zip_longest", "itertools.pairwise"].contains "zip" &&
      (#[rawInt T, .bool false, .bool true, .ref TI, .ref TO] : Array Value)[0]? == some (rawInt T)) = true then _ else _) Q E s
  rw [if_pos (by simp)]
  refine wpAny_bind (wpAny_rule ?_)
  show wpAny _ _ (setField (.ref z) 0 .none) Q E s
  exact wpAny_setField_rec hz (by simp) fun h' hz' hs' => hQ h' hz' hs'
end
theorem turn_zs {P : Program} {w : World} {K : PySem.W.Frag} {elts : List Expr} {kk : Nat} {tpos : Pos} {a b z TI TO i1 i2 : Addr} (t1 t2 : Bool) (S : ZipSep2 z TI TO i1 i2 [i1, a] [i2, b]) (ne1 : a ≠ i1) (ne2 : b ≠ i2) :
    Turn P w K (.Tuple elts kk tpos) (Itzs K t1 t2 a b) [z, TI, TO, i1, i2] z (fun i h => IsZipS h z TI TO .none ∧ IsTupOf2 h TI (.ref i1) (.ref i2) ∧ (∃ x y, IsTupOf2 h TO x y) ∧ ItB t1 h i1 a i ∧ ItB t2 h i2 b i) := by
  have five : ∀ {c}, c ∈ [z, TI, TO, i1, i2] → c = z ∨ c = TI ∨ c = TO ∨ c = i1 ∨ c = i2 := fun h => by simpa using h
  have nofive : ∀ {c}, c ∉ [z, TI, TO, i1, i2] → c ≠ z ∧ c ≠ TI ∧ c ≠ TO ∧ c ≠ i1 ∧ c ≠ i2 := fun h => by simpa using h
  refine
  { mem := by simp
    obj := fun i h st c hc => ?_
    keep := fun i h h' st k => ?_
    item := ?_
    done := ?_
    self := fun A i s Q E st h => zs_iter st.1 h }
  · obtain ⟨hz, hTI, ⟨x, y, hTO⟩, h1, h2⟩ := st
    rcases five hc with rfl | rfl | rfl | rfl | rfl
    · exact ⟨_, hz, fun v q => by cases q⟩
    · exact ⟨_, hTI, fun v q => by cases q⟩
    · exact ⟨_, hTO, fun v q => by cases q⟩
    · exact h1.obj
    · exact h2.obj
  · obtain ⟨hz, hTI, ⟨x, y, hTO⟩, h1, h2⟩ := st
    exact ⟨k z (by simp) _ hz, k TI (by simp) _ hTI, ⟨x, y, k TO (by simp) _ hTO⟩, h1.at fun o q => k i1 (by simp) o q, h2.at fun o q => k i2 (by simp) o q⟩
  · intro X hP hw hK hc i pins s σ H E I hf st hg
    subst hP hw hK
    obtain ⟨hz, hTI, ⟨x0, y0, hTO⟩, h1, h2⟩ := st
    obtain ⟨xs, ys, x, y, hqx, hqy, hl, hx, hy⟩ := hg
    obtain ⟨its, rv, p1, _⟩ := sqB_inv I hqx
    obtain ⟨its2, rv2, p2, _⟩ := sqB_inv I hqy
    obtain ⟨u, hu, ru⟩ := rv.get hx
    obtain ⟨u2, hu2, ru2⟩ := rv2.get hy
    have hh := I.ok.hd hc
    have hzl : z < s.heap.objs.size := Heap.lt_size hz
    have il : i < its.toArray.size := by
      have := (List.getElem?_eq_some_iff.mp hu).1
      simpa using this
    have D1 := drawsB (prog := X.prog) (w := X.w) (A := X.A.in1) hh t1 i1 a ne1 its.toArray
    have D2 := drawsB (prog := X.prog) (w := X.w) (A := X.A.in1) hh t2 i2 b ne2 its2.toArray
    have le : its2.toArray.size = its.toArray.size := by
      have l1 := rv.length
      have l2 := rv2.length
      simp only [List.size_toArray]
      omega
    rw [le] at D2
    have hT : s.TypeIs (.ref z) "zip" := ⟨_, hz, rfl⟩
    unfold pyNext
    refine wpAny_bind (wpAny_attempt (wpAny_callSpecial?_slot (name := Str.ofString "__next__") hT F.slot_zip_next (wpAny_call_entry F.slot_zip_next hT F.entry_zip_next
      (zs_item S D1 D2 hz hTI hTO ⟨h1, p1⟩ ⟨h2, p2⟩ il fun v1 v2 h' tk hv1 hv2 z' TO' n1 n2 hT' hsz hk => ?_) (F.args_zip_next_1 _))))
    have e1 : v1 = u := by
      have hv1 : its[i]? = some v1 := by simpa using hv1
      rw [hu] at hv1
      exact (Option.some.inj hv1).symm
    have e2 : v2 = u2 := by
      have hv2 : its2[i]? = some v2 := by simpa using hv2
      rw [hu2] at hv2
      exact (Option.some.inj hv2).symm
    subst e1 e2
    refine wpAny_pure ⟨_, rfl, zs_go (s := { s with heap := h', toks := tk }) z' fun h'' z'' sb => ?_⟩
    replace sb : Heap.SameBut z h' h'' := sb
    have hT2 : h''.get? s.heap.objs.size = some { cls := .type "tuple", data := .seq #[v1, v2] } := (sb.2 _ (Nat.ne_of_gt hzl)).trans hT'
    have new : ObjOk X.prog X.w (upd H s.heap.objs.size (.tup [x, y])) h'' s.heap.objs.size (.tup [x, y]) := ⟨by show 2 ≤ sizeLine; decide, [v1, v2], .cons ru (.cons ru2 .nil), ⟨_, hT2, rfl, _, rfl⟩⟩
    have I1 : Inv X pins σ (upd H s.heap.objs.size (.tup [x, y])) { s with heap := h'', toks := tk } :=
      I.turnedNew (t' := tk) (ch := [z, TI, TO, i1, i2]) (fun c o hb q => by
        obtain ⟨c1, c2, c3, c4, c5⟩ := nofive hb
        exact (sb.2 c c1).trans (hk c o c1 c3 c4 c5 q)) hf (Nat.le_refl _) new
    refine ⟨.ref s.heap.objs.size, _, I1, rfl, ⟨_, x, y, rfl, I.hok.fresh (Nat.le_refl _), rfl, fun l hl => by rw [sqB_inj I hl hqx]; exact hx, fun l hl => by rw [sqB_inj I hl hqy]; exact hy⟩, ⟨z'', ?_, ⟨v1, v2, ?_⟩, ?_, ?_⟩, fun c hcm => ?_⟩
    · exact (sb.2 _ S.TIz).trans (hk _ _ S.TIz S.TITO S.TIi1 S.TIi2 hTI)
    · exact (sb.2 _ S.TOz).trans TO'
    · exact n1.1.at fun o q => (sb.2 _ S.zi1.symm).trans q
    · exact n2.1.at fun o q => (sb.2 _ S.zi2.symm).trans q
    · have hlt : c < s.heap.objs.size := by
        rcases five hcm with q | q | q | q | q
        · rw [q]; exact hzl
        · rw [q]; exact Heap.lt_size hTI
        · rw [q]; exact Heap.lt_size hTO
        · rw [q]; obtain ⟨_, e1, _⟩ := h1.obj; exact Heap.lt_size e1
        · rw [q]; obtain ⟨_, e2, _⟩ := h2.obj; exact Heap.lt_size e2
      rw [upd_ne (Nat.ne_of_lt hlt)]
      exact (hf c hcm).1
  · intro X hP hw hK hc i pins s σ H E I hf st hg
    subst hP hw hK
    obtain ⟨hz, hTI, ⟨x0, y0, hTO⟩, h1, h2⟩ := st
    obtain ⟨xs, ys, hqx, hqy, l1, l2⟩ := hg
    obtain ⟨its, rv, p1, _⟩ := sqB_inv I hqx
    obtain ⟨its2, rv2, p2, _⟩ := sqB_inv I hqy
    have hh := I.ok.hd hc
    have z1 : its.toArray.size = i := by rw [List.size_toArray, ← rv.length, l1]
    have z2 : its2.toArray.size = i := by rw [List.size_toArray, ← rv2.length, l2]
    have D1 := drawsB (prog := X.prog) (w := X.w) (A := X.A.in1) hh t1 i1 a ne1 its.toArray
    have D2 := drawsB (prog := X.prog) (w := X.w) (A := X.A.in1) hh t2 i2 b ne2 its2.toArray
    rw [z1] at D1
    rw [z2] at D2
    have hT : s.TypeIs (.ref z) "zip" := ⟨_, hz, rfl⟩
    unfold pyNext
    refine wpAny_bind (wpAny_attempt (wpAny_callSpecial?_slot (name := Str.ofString "__next__") hT F.slot_zip_next (wpAny_call_entry F.slot_zip_next hT F.entry_zip_next
      (zs_end (by exact hh) S D1 D2 hz hTI hTO ⟨h1, p1⟩ ⟨h2, p2⟩ fun h' e hk he => ?_) (F.args_zip_next_1 _))))
    obtain ⟨o, ho, hc'⟩ := he
    refine wpAny_bind (wpAny_isInstance (T := "StopIteration") (b := true) ⟨o, ho, hc'⟩ isSubtype_stop (wpAny_pure ⟨rfl, ?_⟩))
    exact I.turnedL (t' := s.toks) (ch := [z, TI, TO, i1, i2]) (fun c o hb q => by
      obtain ⟨c1, c2, c3, c4, c5⟩ := nofive hb
      exact hk c o c1 c3 c4 c5 q) hf
/-! ### the call -/
theorem typeCall_zs (a b : Value) : checkTypeCall "zip" ⟨[a, b], [(Str.ofString "strict", .bool true)]⟩ = pure () := by kernel_rfl
theorem newCall_zs (a b : Value) : checkBuiltinCall "zip.__new__" ⟨[.type "zip", a, b], [(Str.ofString "strict", .bool true)]⟩ = pure () := by kernel_rfl
theorem init_zs (obj a b : Value) : argsOk "object.__init__" ⟨[obj, a, b], [(Str.ofString "strict", .bool true)]⟩ := by unfold argsOk; kernel_rfl
abbrev zsZ (h : Heap) (o1 o2 : Obj) : Heap := (gzO2 h o1 o2).push { cls := .type "zip", data := .fields #[.none, .bool false, .bool true, .ref ((h.push o1).push o2).objs.size, .ref (gzT2 h o1 o2).objs.size] }
theorem meets_zs {v1 v2 : Value} {o1 o2 : Obj} {H1 H2 : Heap → Prop} (B1 : Begins v1 o1 H1) (B2 : Begins v2 o2 H2) :
    Meets (Builtin.«zip.__new__» ⟨[.type "zip", v1, v2], [(Str.ofString "strict", .bool true)]⟩) (fun _ R s => (H1 s.heap ∧ H2 s.heap) ∧ R (.ok (.ret (.ref (gzO2 s.heap o1 o2).objs.size))) { s with heap := zsZ s.heap o1 o2 }) :=
  .of_wp fun prog w A R s h => by
    obtain ⟨hp, g, d, tk, os⟩ := s; obtain ⟨⟨h1, h2⟩, h⟩ := h
    have hsub := sub_zip
    have q1 : ∀ {A' : Around} {E : Value → Shared → Prop} {Q : Value → Shared → Prop}, Q (.ref hp.objs.size) ⟨(hp.push o1), g, d, tk, os⟩ → wpAny (model prog w) A' (pyIter v1) Q E ⟨hp, g, d, tk, os⟩ :=
      fun q => B1.iter prog w _ _ ⟨hp, g, d, tk, os⟩ _ (B1.keeps _ _ h1 fun b o' e => e) q
    have q2 : ∀ {A' : Around} {E : Value → Shared → Prop} {Q : Value → Shared → Prop}, Q (.ref (hp.push o1).objs.size) ⟨((hp.push o1).push o2), g, d, tk, os⟩ → wpAny (model prog w) A' (pyIter v2) Q E ⟨(hp.push o1), g, d, tk, os⟩ :=
      fun q => B2.iter prog w _ _ ⟨(hp.push o1), g, d, tk, os⟩ _ (B2.keeps _ _ h2 fun b o' e => (Heap.get?_push_of_some _ e)) q
    have e1 : (Str.ofString "strict" != ("strict" : Str)) = false := by decide +kernel
    wp_walk using q1, q2
    exact ⟨_, rfl, h⟩
end My

set_option Elab.async false
set_option linter.all false
set_option maxRecDepth 100000
set_option maxHeartbeats 1000000
namespace My
open PySem PySem.Spec PyProof.Rows L2 Evl Builtin.SmallTypes
/-- a built-in class called with keywords -/
theorem callTy_kw {M : Model} {A : Around} {E : Value → Shared → Prop} {s : Shared} {env : Env} {pos : Pos} {T : String} {e : Expr} {rest : List Expr} {kws : List Keyword} {Q : Value → Shared → Prop}
    (h : wpAny M A (spliced (backTo pos (starEach (e :: rest) env))) (fun vs s1 => wpAny M A (evalAll ((backToKw pos (keywordEach kws env)).map (·.2)))
      (fun ks s2 => wpAny M A (call (.type T) vs (((backToKw pos (keywordEach kws env)).filterMap (·.1)).zip ks)) Q E s2) E s1) E s)
    (he : backTo pos (starEach (e :: rest) env) = (false, eval e env) :: backTo pos (starEach rest env)) (h1 : (backTo pos (starEach (e :: rest) env)).any (·.1) = false)
    (h2 : (backToKw pos (keywordEach kws env)).all (·.1.isSome) = true) (h3 : (backToKw pos (keywordEach kws env)).any (·.1.isNone) = false) :
    wpAny M A (callWith pos (.type T) [] (backTo pos (starEach (e :: rest) env)) (backToKw pos (keywordEach kws env))) Q E s := by
  have a : wpAny M A (evalArgs (.type T) true (backTo pos (starEach (e :: rest) env)) (backToKw pos (keywordEach kws env))) (fun a s1 => wpAny M A (call (.type T) ([] ++ a.pos) a.kw) Q E s1) E s := by
    rw [he] at h ⊢
    exact PyProof.Rows.evalArgs_kwB h2 h
  unfold callWith
  refine wpAny_bind (wpAny_holding (wpAny_mono a (fun a s1 q => wpAny_bind (wpAny_standAt ?_)) fun _ _ x => x))
  simp only [h1, h3, Bool.or_false]
  refine wpAny_bind (wpAny_pure (wpAny_bind (wpAny_mono q (fun r s2 hr => ?_) fun _ _ x => x)))
  exact wpAny_bind (wpAny_holding (wpAny_point (wpAny_pure hr)))
theorem sep_zs {n a b : Nat} (ha : a < n) (hb : b < n) : ZipSep2 (n + 4) (n + 2) (n + 3) n (n + 1) [n, a] [n + 1, b] := by
  refine ⟨?_, ?_, ?_, ?_, ?_, ?_, ?_, ?_, ?_, ?_, ?_, ?_, ?_⟩ <;> (try simp only [List.mem_cons, List.not_mem_nil, or_false, not_or, ne_eq]) <;> (try unfold Addr at *) <;> (first | omega | exact .inl rfl | exact .inl trivial)
def iZs (K : PySem.W.Frag) (t1 t2 : Bool) (ta : TA) : TI := fun σ H R => ta σ H fun vs H1 => ∃ a b xs ys, vs = [.ref a, .ref b] ∧ SqB K t1 H1 a xs ∧ SqB K t2 H1 b ys ∧ R (Itzs K t1 t2 a b) H1
theorem pi_zs {X : Cx} {e : Expr} {es : List Expr} {ta : TA} {p pos tpos : Pos} {kws : List Keyword} {elts : List Expr} {kk : Nat} (t1 t2 : Bool) (hg : Gl X "zip") (hm : X.mg "zip" = none) (ha : PA X (e :: es) ta) (hk : PK X kws (tCons (tC (.bl true)) tNil))
    (he : backTo pos (starEach (e :: es) X.env) = (false, eval e X.env) :: backTo pos (starEach es X.env) := by rfl) (hpl : (backTo pos (starEach (e :: es) X.env)).any (·.1) = false := by rfl)
    (hks : (backToKw pos (keywordEach kws X.env)).filterMap (·.1) = [Str.ofString "strict"] := by rfl)
    (hall : (backToKw pos (keywordEach kws X.env)).all (·.1.isSome) = true := by rfl) (hnone : (backToKw pos (keywordEach kws X.env)).any (·.1.isNone) = false := by rfl) :
    PI X (.Tuple elts kk tpos) (.Call (.Name "zip" p) (e :: es) kws pos) (iZs X.K t1 t2 ta) := by
  refine ⟨fun pins s σ H R I h => ?_⟩
  refine wpAny_Call_Name_kw (ld_blt I hg hm PyProof.Rows.boot_zip ?_)
  refine callTy_kw (thn (ha.run pos pins s σ H _ I h) fun us s1 h1 => ?_) he hpl hall hnone
  obtain ⟨vs, H1, I1, r1, q1⟩ := h1
  refine thn (hk.run pos pins s1 σ H1 (fun zs H2 => zs = [.bl true] ∧ H2 = H1) I1 ⟨rfl, rfl⟩) fun ws s2 h2 => ?_
  obtain ⟨zs, H2, I2, r2, ez, eh⟩ := h2
  subst ez
  subst eh
  obtain ⟨a, b, xs, ys, rfl, hqx, hqy, q⟩ := q1
  have ew : ws = [.bool true] := by
    cases r2 with
    | cons r rr =>
      cases rr
      rw [show _ = Value.bool true from r]
  obtain ⟨u1, u2, rfl, ra, rb⟩ := vals2 r1
  cases (show u1 = Value.ref a from ra)
  cases (show u2 = Value.ref b from rb)
  rw [hks, ew]
  obtain ⟨its, rv, p1, la⟩ := sqB_inv I2 hqx
  obtain ⟨its2, rv2, p2, lb⟩ := sqB_inv I2 hqy
  refine callType_newKw F.called_zip (by decide) (typeCall_zs _ _) (newCall_zs _ _) (fun obj => init_zs obj _ _) F.entry_zip_new (meets_zs (beginsB t1 a its.toArray) (beginsB t2 b its2.toArray)) ⟨⟨p1, p2⟩, ?_⟩
  have z1 : (s2.heap.push (oB t1 a)).objs.size = s2.heap.objs.size + 1 := by rw [Heap.size_push]
  have z2 : ((s2.heap.push (oB t1 a)).push (oB t2 b)).objs.size = s2.heap.objs.size + 2 := by rw [Heap.size_push, z1]
  have zT : (gzT2 s2.heap (oB t1 a) (oB t2 b)).objs.size = s2.heap.objs.size + 3 := by rw [Heap.size_push, z2]
  have zO : (gzO2 s2.heap (oB t1 a) (oB t2 b)).objs.size = s2.heap.objs.size + 4 := by rw [Heap.size_push, zT]
  have f1 := (beginsB t1 a its.toArray).free
  have f2 := (beginsB t2 b its2.toArray).free
  have gZ : (zsZ s2.heap (oB t1 a) (oB t2 b)).get? (gzO2 s2.heap (oB t1 a) (oB t2 b)).objs.size = some _ := Heap.get?_push_size _ rfl
  have gO : (zsZ s2.heap (oB t1 a) (oB t2 b)).get? (gzT2 s2.heap (oB t1 a) (oB t2 b)).objs.size = some _ := Heap.get?_push_of_some _ (Heap.get?_push_size _ rfl)
  have gT : (zsZ s2.heap (oB t1 a) (oB t2 b)).get? ((s2.heap.push (oB t1 a)).push (oB t2 b)).objs.size = some _ := Heap.get?_push_of_some _ (Heap.get?_push_of_some _ (Heap.get?_push_size _ rfl))
  have g1 : (zsZ s2.heap (oB t1 a) (oB t2 b)).get? s2.heap.objs.size = some (oB t1 a) := Heap.get?_push_of_some _ (Heap.get?_push_of_some _ (Heap.get?_push_of_some _ (Heap.get?_push_of_some _ (Heap.get?_push_size _ f1))))
  have g2 : (zsZ s2.heap (oB t1 a) (oB t2 b)).get? (s2.heap.push (oB t1 a)).objs.size = some (oB t2 b) := Heap.get?_push_of_some _ (Heap.get?_push_of_some _ (Heap.get?_push_of_some _ (Heap.get?_push_size _ f2)))
  have keep : ∀ c o, s2.heap.get? c = some o → (zsZ s2.heap (oB t1 a) (oB t2 b)).get? c = some o := fun c o e => Heap.get?_push_of_some _ (Heap.get?_push_of_some _ (Heap.get?_push_of_some _ (Heap.get?_push_of_some _ (Heap.get?_push_of_some _ e))))
  rw [zO, zT, z2] at gZ
  rw [zT] at gO
  rw [z2, z1] at gT
  rw [z1] at g2
  generalize zsZ s2.heap (oB t1 a) (oB t2 b) = h' at gZ gO gT g1 g2 keep
  show _ ∧ _
  rw [zO]
  refine ⟨⟨_, gZ, rfl⟩, zs_iter gZ ?_⟩
  have I3 : Inv X pins σ H2 { s2 with heap := h' } := I2.kept (t' := s2.toks) keep
  refine ⟨s2.heap.objs.size + 4, [s2.heap.objs.size + 4, s2.heap.objs.size + 2, s2.heap.objs.size + 3, s2.heap.objs.size, s2.heap.objs.size + 1], _, _, H2, rfl, I3, turn_zs t1 t2 (sep_zs la lb) (Nat.ne_of_lt la) (Nat.ne_of_lt (Nat.lt_succ_of_lt lb)), ⟨gZ, gT, ⟨_, _, gO⟩, oB_it t1 g1, oB_it t2 g2⟩, fun c hcm => ?_, q⟩
  have e' : c = s2.heap.objs.size + 4 ∨ c = s2.heap.objs.size + 2 ∨ c = s2.heap.objs.size + 3 ∨ c = s2.heap.objs.size ∨ c = s2.heap.objs.size + 1 := by simpa using hcm
  have hle : s2.heap.objs.size ≤ c := by
    rcases e' with z | z | z | z | z
    · rw [z]; exact Nat.le_add_right _ _
    · rw [z]; exact Nat.le_add_right _ _
    · rw [z]; exact Nat.le_add_right _ _
    · rw [z]; exact Nat.le_refl _
    · rw [z]; exact Nat.le_add_right _ _
  exact I2.fpOk hle (I2.hok.fresh hle)
end My

set_option Elab.async false
set_option linter.all false
set_option maxRecDepth 100000
set_option maxHeartbeats 1000000
/-! loops and comprehensions over ranges with a step; two clauses. -/
namespace My
open PySem PySem.Spec PyProof.Rows L2 Evl
theorem rgC_up {n c : Nat} (hn : n < 2 ^ 60) (hc : 0 < c) (hc2 : c < 1073741824) : RgC 0 (n : Int) (c : Int) ((n + c - 1) / c) := by
  have e : Builtin.Range.rangeSize 0 (n : Int) (c : Int) = (((n + c - 1) / c : Nat) : Int) := by
    unfold Builtin.Range.rangeSize
    rw [if_pos (by omega)]
    by_cases h : 0 < n
    · rw [if_pos (by omega), show (n : Int) - 0 - 1 = ((n - 1 : Nat) : Int) by omega, ← Int.natCast_ediv, show n + c - 1 = (n - 1) + c by omega, Nat.add_div_right _ hc]
      rfl
    · rw [if_neg (by omega), show n = 0 by omega, Nat.zero_add, Nat.div_eq_of_lt (by omega)]
      rfl
  refine ⟨by omega, by omega, ?_, e⟩
  unfold Builtin.Range.small
  rw [e]
  have b : (n + c - 1) / c ≤ n := by
    by_cases h : 0 < n
    · rw [show n + c - 1 = (n - 1) + c by omega, Nat.add_div_right _ hc]
      have := Nat.div_le_self (n - 1) c
      omega
    · rw [show n = 0 by omega, Nat.zero_add, Nat.div_eq_of_lt (by omega)]
      exact Nat.le_refl _
  have m : (n + c - 1) / c * c ≤ n + c - 1 := Nat.div_mul_le_self _ _
  generalize (n + c - 1) / c = d at b m
  have m2 : (d : Int) * (c : Int) ≤ (n : Int) + (c : Int) - 1 := by
    rw [← Int.natCast_mul]
    omega
  simp only [Builtin.Range.rangeFitsLong, Bool.and_eq_true, Bool.or_eq_true, decide_eq_true_eq, beq_iff_eq]
  refine ⟨⟨⟨⟨⟨by omega, by omega⟩, by omega, by omega⟩, by omega, by omega⟩, by omega, by omega⟩, .inr ?_⟩
  rw [if_pos (by omega), Bool.and_eq_true, decide_eq_true_eq, decide_eq_true_eq]
  exact ⟨by omega, by omega⟩
section
variable {K : PySem.W.Frag} {σ : L2.St} {H H' : Hp} {ta : TA} {tb te tl : TE} {xs ys : List V} {x z v : V} {p : Addr} {D : Ends} {tu tz : TS} {g : TG}
theorem s_forR3 {j n : Nat} {lo hi c : Int} (h : EvA ta σ H [.int lo, .int hi, .int c]) (hn : RgC lo hi c n) (Pv : Nat → L2.St → Hp → Prop) (h0 : ∀ H1, Ex H H1 → Pv 0 σ H1)
    (hs : ∀ (i : Nat) σ' H', i < n → Pv i σ' H' → tu { D with nx := Pv (i + 1), ct := Pv (i + 1), bk := D.nx } (σ'.set j (some (.int (lo + (i : Nat) * c)))) H') (hd : ∀ σ' H', Pv n σ' H' → D.nx σ' H') : tFor (iRng3 ta) (gName j) tu D σ H :=
  h H (Ex.refl H) _ fun H1 e => ⟨lo, hi, c, n, rfl, hn, for_rangeC Pv (h0 H1 e) (fun i σ' H' hi p => hs i σ' H' hi p) hd⟩
theorem q_forR3 {j n : Nat} {lo hi c : Int} (h : EvA ta σ H [.int lo, .int hi, .int c]) (hn : RgC lo hi c n) (Pv : Nat → L2.St → Hp → Prop) (h0 : ∀ H1, Ex H H1 → Pv 0 σ H1)
    (hs : ∀ (i : Nat) σ' H', i < n → Pv i σ' H' → tu { D with nx := Pv (i + 1), ct := Pv (i + 1), bk := tz D } (σ'.set j (some (.int (lo + (i : Nat) * c)))) H') (hd : ∀ σ' H', Pv n σ' H' → tz D σ' H') : tSeq (tFor (iRng3 ta) (gName j) tu) tz D σ H :=
  s_forR3 (D := { D with nx := tz D }) h hn Pv h0 hs hd
theorem tyes_ {F : Bool → Hp → Prop} (h : F true H) : tYes σ H F := h
/-- a comprehension over a range with a step, no test -/
theorem el_lcR3 {j n : Nat} {vs : List Nat} {lo hi c : Int} (v : Nat → V) (h : EvA ta σ H [.int lo, .int hi, .int c]) (hn : RgC lo hi c n) (hz : n ≤ 40000) (hw : ∀ x, wipe ((wipe σ vs).set j (some x)) vs = wipe σ vs)
    (he : ∀ (i : Nat) H1, Ex H H1 → i < n → Ev te ((wipe σ vs).set j (some (.int (lo + (i : Nat) * c)))) H1 (v i)) : EvL (tLc (iRng3 ta) (gName j) tYes te vs) σ H ((List.range n).map v) := by
  intro H0 e Q q
  refine h H0 e _ fun H1 e1 => ⟨lo, hi, c, n, rfl, hn, fun Dl hD => ?_⟩
  refine ⟨fun i m H' => m = n - i ∧ i ≤ n ∧ Ex H1 H' ∧ H' Dl = some (.lst ((List.range i).map v)), ⟨n, rfl, Nat.zero_le _, Ex.new hD, upd_same⟩, ?_⟩
  rintro i m H' ⟨rfl, hi, ex, hl⟩
  by_cases hlt : i < n
  · refine .inr ⟨hlt, fun H' => Ex H1 H' ∧ H' Dl = some (.lst ((List.range (i + 1)).map v)), fun H2 p => ⟨n - (i + 1), by omega, rfl, hlt, p⟩, fun x H2 y => ?_⟩
    obtain ⟨rfl, rfl⟩ := y
    refine ⟨hw _, ?_⟩
    refine tyes_ ?_
    refine iteT (he i H1 (e.trans e1) hlt H2 ex _ fun H3 e3 => ⟨_, e3 Dl _ hl, sz_lt (by rw [List.length_map, List.length_range]; omega), (ex.trans e3).mut hD, ?_⟩)
    rw [upd_same, List.range_succ, List.map_append]
    rfl
  · have e0 : i = n := by omega
    subst e0
    exact .inl ⟨Nat.le_refl _, q Dl H' (fresh_back e1 hD) (e1.trans ex) hl⟩
/-- the items of two clauses: a list that stands, then a range with a step -/
def flat2 (n : Nat) (v : Nat → Nat → V) : Nat → List V
  | 0 => []
  | i + 1 => flat2 n v i ++ (List.range n).map (v i)
theorem flat2_len (n : Nat) (v : Nat → Nat → V) : ∀ i, (flat2 n v i).length = i * n
  | 0 => by simp [flat2]
  | i + 1 => by rw [flat2, List.length_append, flat2_len n v i, List.length_map, List.length_range, Nat.succ_mul]
theorem el_lc2 {a : Addr} {j1 j2 n : Nat} {vs vs1 : List Nat} {lo hi c : Int} (v : Nat → Nat → V) (h : Ev tl σ H (.ref a)) (hx : SqL K H a xs) (hn : RgC lo hi c n) (hz : xs.length * n ≤ 40000)
    (hw : ∀ x, wipe ((wipe σ vs).set j1 (some x)) vs = wipe σ vs) (hw1 : ∀ x y, wipe ((wipe ((wipe σ vs).set j1 (some x)) vs1).set j2 (some y)) vs1 = wipe ((wipe σ vs).set j1 (some x)) vs1)
    (ha : ∀ (i : Nat) (x : V) H1, Ex H H1 → xs[i]? = some x → EvA ta ((wipe σ vs).set j1 (some x)) H1 [.int lo, .int hi, .int c])
    (he : ∀ (i k : Nat) (x : V) H1, Ex H H1 → xs[i]? = some x → k < n → Ev te ((wipe ((wipe σ vs).set j1 (some x)) vs1).set j2 (some (.int (lo + (k : Nat) * c)))) H1 (v i k)) :
    EvL (tLc2 (iList K tl) (gName j1) tYes (iRng3 ta) (gName j2) tYes te vs vs1) σ H (flat2 n v xs.length) := by
  intro H0 e Q q
  refine h H0 e _ fun H1 e1 => ⟨a, rfl, ⟨xs, ex_l (e.trans e1) hx⟩, fun Dl hD => ?_⟩
  have E1 := e.trans e1
  refine ⟨fun i m H' => m = xs.length - i ∧ i ≤ xs.length ∧ Ex H1 H' ∧ H' Dl = some (.lst (flat2 n v i)), ⟨xs.length, rfl, Nat.zero_le _, Ex.new hD, upd_same⟩, ?_⟩
  rintro i m H' ⟨rfl, hi, ex, hl⟩
  by_cases hlt : i < xs.length
  · have gx : xs[i]? = some xs[i] := List.getElem?_eq_getElem hlt
    refine .inr ⟨⟨xs, xs[i], ex_l (E1.trans ex) hx, gx⟩, fun H' => Ex H1 H' ∧ H' Dl = some (.lst (flat2 n v (i + 1))), fun H2 p => ⟨xs.length - (i + 1), by omega, rfl, hlt, p⟩, fun x H2 y => ?_⟩
    obtain ⟨rfl, y⟩ := y
    have ex' : x = xs[i] := Option.some.inj ((y xs (ex_l (E1.trans ex) hx)).symm.trans gx)
    subst ex'
    refine ⟨hw _, ?_⟩
    refine tyes_ ?_
    refine iteT (ha i _ H1 E1 gx H2 ex _ fun H3 e3 => ⟨lo, _, c, n, rfl, hn, ?_⟩)
    refine ⟨fun k m H' => m = n - k ∧ k ≤ n ∧ Ex H1 H' ∧ H' Dl = some (.lst (flat2 n v i ++ (List.range k).map (v i))), ⟨n, rfl, Nat.zero_le _, ex.trans e3, by rw [List.range_zero, List.map_nil, List.append_nil]; exact e3 Dl _ hl⟩, ?_⟩
    rintro k m H4 ⟨rfl, hk, ex4, hl4⟩
    by_cases hkn : k < n
    · refine .inr ⟨hkn, fun H' => Ex H1 H' ∧ H' Dl = some (.lst (flat2 n v i ++ (List.range (k + 1)).map (v i))), fun H5 p => ⟨n - (k + 1), by omega, rfl, hkn, p⟩, fun x H5 y => ?_⟩
      obtain ⟨rfl, rfl⟩ := y
      refine ⟨hw1 _ _, ?_⟩
      refine tyes_ ?_
      refine iteT (he i k _ H1 E1 gx hkn H5 ex4 _ fun H6 e6 => ⟨_, e6 Dl _ hl4, sz_lt ?_, (ex4.trans e6).mut hD, ?_⟩)
      · rw [List.length_append, flat2_len, List.length_map, List.length_range]
        have : (i + 1) * n ≤ xs.length * n := Nat.mul_le_mul_right _ hlt
        rw [Nat.succ_mul] at this
        omega
      · rw [upd_same, List.range_succ, List.map_append, List.append_assoc]
        rfl
    · have e0 : k = n := by omega
      subst e0
      exact .inl ⟨Nat.le_refl _, ex4, hl4⟩
  · have e0 : i = xs.length := by omega
    subst e0
    exact .inl ⟨⟨xs, ex_l (E1.trans ex) hx, Nat.le_refl _⟩, q Dl H' (fresh_back e1 hD) (e1.trans ex) hl⟩
/-- ''.join of one-sign texts -/
theorem join_ones (l : List Nat) : Txt.join (tx []) (l.map fun c => tx [c]) = tx l := by
  show Builtin.Str.glued _ _ = _
  rw [StrLaws.glued_eq_join]
  have h : ∀ l : List Nat, Str.join (tx []) (l.map fun c => tx [c]) = tx l := by
    intro l
    induction l with
    | nil => rfl
    | cons c r ih =>
      cases r with
      | nil => rfl
      | cons d r =>
        show tx [c] ++ tx [] ++ Str.join (tx []) ((d :: r).map fun c => tx [c]) = _
        rw [ih, tx_app, tx_app]
        rfl
  exact h l
end

/-! ### zip of two, strict -/
def EvZ (K : PySem.W.Frag) (ta : TA) (σ : L2.St) (H : Hp) (t1 t2 : Bool) (xs ys : List V) : Prop := ∀ H1, Ex H H1 → ∀ Q : List V → Hp → Prop, (∀ a b H2, Ex H1 H2 → SqB K t1 H2 a xs → SqB K t2 H2 b ys → Q [.ref a, .ref b] H2) → ta σ H1 Q
section
variable {K : PySem.W.Frag} {σ : L2.St} {H H' : Hp} {ta : TA} {ta1 tb1 te tl : TE} {xs ys : List V} {x z v : V} {p : Addr} {D : Ends} {tu tz : TS} {g : TG} {t1 t2 : Bool}
theorem ex_b {a : Addr} (e : Ex H H') (h : SqB K t1 H a xs) : SqB K t1 H' a xs := by
  cases t1
  · exact ex_l e h
  · exact ex_t e h
theorem ez_gt (h2 : Ev tb1 σ H (.ref p)) (hp : SqL K H p ys) : EvZ K (tCons (tGT K xs) (tCons tb1 tNil)) σ H true false xs ys := fun H1 e Q q =>
  fun a ha => h2 H1 e _ fun H2 e2 => q a p H2 e2 (ha H2) (ex_l (e.trans e2) hp)
theorem ez_vn (h1 : Ev ta1 σ H (.ref p)) (hp : SqL K H p xs) (h2 : EvL tb1 σ H ys) : EvZ K (tCons ta1 (tCons tb1 tNil)) σ H false false xs ys := fun H1 e Q q =>
  h1 H1 e _ fun H2 e2 => h2 H2 (e.trans e2) _ fun b H3 _ e3 hb => q p b H3 (e2.trans e3) (ex_l ((e.trans e2).trans e3) hp) (sq_of hb)
theorem s_forZ {j1 j2 : Nat} (h : EvZ K ta σ H t1 t2 xs ys) (hl : xs.length = ys.length) (Pv : Hp → Nat → L2.St → Hp → Prop) (h0 : ∀ H1, Ex H H1 → Pv H1 0 σ H1) (hk : ∀ H1 i σ' H', Pv H1 i σ' H' → Ex H1 H')
    (hs : ∀ H1 i x y σ' H', Ex H H1 → xs[i]? = some x → ys[i]? = some y → Pv H1 i σ' H' → ∀ H2, Ex H' H2 → tu { D with nx := Pv H1 (i + 1), ct := Pv H1 (i + 1), bk := D.nx } ((σ'.set j1 (some x)).set j2 (some y)) H2)
    (hd : ∀ H1 σ' H', Ex H H1 → Pv H1 xs.length σ' H' → D.nx σ' H') : tFor (iZs K t1 t2 ta) (gTup K 2 (gCons (gName j1) (gCons (gName j2) gNil))) tu D σ H := by
  refine h H (Ex.refl H) _ fun a b H1 e ha hb => ⟨a, b, xs, ys, rfl, ha, hb, ?_⟩
  refine ⟨fun i m σ' H' => m = xs.length - i ∧ i ≤ xs.length ∧ Pv H1 i σ' H', ⟨xs.length, rfl, Nat.zero_le _, h0 H1 e⟩, ?_⟩
  rintro i m σ' H' ⟨rfl, hi, p⟩
  have ex := hk H1 i σ' H' p
  by_cases hlt : i < xs.length
  · have gx : xs[i]? = some xs[i] := List.getElem?_eq_getElem hlt
    have hlt2 : i < ys.length := by omega
    have gy : ys[i]? = some ys[i] := List.getElem?_eq_getElem hlt2
    refine .inr ⟨⟨xs, ys, _, _, ex_b ex ha, ex_b ex hb, hl, gx, gy⟩, Pv H1 (i + 1), fun σ2 H2 p2 => ⟨xs.length - (i + 1), by omega, rfl, hlt, p2⟩, fun v H2 y => ?_⟩
    obtain ⟨T, x', y', rfl, hT, rfl, f1, f2⟩ := y
    exact ⟨T, [x', y'], rfl, st_of upd_same, rfl, x', [y'], rfl, y', [], rfl, rfl, hs H1 i x' y' σ' H' e (f1 xs (ex_b ex ha)) (f2 ys (ex_b ex hb)) p _ (Ex.new hT)⟩
  · have e0 : i = xs.length := by omega
    subst e0
    exact .inl ⟨⟨xs, ys, ex_b ex ha, ex_b ex hb, rfl, hl.symm⟩, hd H1 σ' H' e p⟩
theorem q_forZ {j1 j2 : Nat} (h : EvZ K ta σ H t1 t2 xs ys) (hl : xs.length = ys.length) (Pv : Hp → Nat → L2.St → Hp → Prop) (h0 : ∀ H1, Ex H H1 → Pv H1 0 σ H1) (hk : ∀ H1 i σ' H', Pv H1 i σ' H' → Ex H1 H')
    (hs : ∀ H1 i x y σ' H', Ex H H1 → xs[i]? = some x → ys[i]? = some y → Pv H1 i σ' H' → ∀ H2, Ex H' H2 → tu { D with nx := Pv H1 (i + 1), ct := Pv H1 (i + 1), bk := tz D } ((σ'.set j1 (some x)).set j2 (some y)) H2)
    (hd : ∀ H1 σ' H', Ex H H1 → Pv H1 xs.length σ' H' → tz D σ' H') : tSeq (tFor (iZs K t1 t2 ta) (gTup K 2 (gCons (gName j1) (gCons (gName j2) gNil))) tu) tz D σ H :=
  s_forZ (D := { D with nx := tz D }) h hl Pv h0 hk hs hd
theorem el_lcZ {j1 j2 : Nat} {vs : List Nat} (v : Nat → V) (h : EvZ K ta σ H t1 t2 xs ys) (hl : xs.length = ys.length) (hz : xs.length ≤ 40000) (hw : ∀ x y, wipe (((wipe σ vs).set j1 (some x)).set j2 (some y)) vs = wipe σ vs)
    (he : ∀ (i : Nat) (x y : V) H1, Ex H H1 → xs[i]? = some x → ys[i]? = some y → Ev te (((wipe σ vs).set j1 (some x)).set j2 (some y)) H1 (v i)) :
    EvL (tLc (iZs K t1 t2 ta) (gTup K 2 (gCons (gName j1) (gCons (gName j2) gNil))) tYes te vs) σ H ((List.range xs.length).map v) := by
  intro H0 e Q q
  refine h H0 e _ fun a b H1 e1 ha hb => ⟨a, b, xs, ys, rfl, ha, hb, fun Dl hD => ?_⟩
  refine ⟨fun i m H' => m = xs.length - i ∧ i ≤ xs.length ∧ Ex H1 H' ∧ H' Dl = some (.lst ((List.range i).map v)), ⟨xs.length, rfl, Nat.zero_le _, Ex.new hD, upd_same⟩, ?_⟩
  rintro i m H' ⟨rfl, hi, ex, hll⟩
  by_cases hlt : i < xs.length
  · have gx : xs[i]? = some xs[i] := List.getElem?_eq_getElem hlt
    have hlt2 : i < ys.length := by omega
    have gy : ys[i]? = some ys[i] := List.getElem?_eq_getElem hlt2
    refine .inr ⟨⟨xs, ys, _, _, ex_b ex ha, ex_b ex hb, hl, gx, gy⟩, fun H' => Ex H1 H' ∧ H' Dl = some (.lst ((List.range (i + 1)).map v)), fun H2 p2 => ⟨xs.length - (i + 1), by omega, rfl, hlt, p2⟩, fun v' H2 y => ?_⟩
    obtain ⟨T, x', y', rfl, hT, rfl, f1, f2⟩ := y
    refine ⟨T, [x', y'], rfl, st_of upd_same, rfl, x', [y'], rfl, y', [], rfl, rfl, hw _ _, ?_⟩
    refine tyes_ ?_
    have eT : Ex H1 (upd H' T (.tup [x', y'])) := ex.trans (Ex.new hT)
    refine iteT (he i x' y' H1 (e.trans e1) (f1 xs (ex_b ex ha)) (f2 ys (ex_b ex hb)) _ eT _ fun H3 e3 => ⟨_, e3 Dl _ ((Ex.new hT) Dl _ hll), sz_lt (by rw [List.length_map, List.length_range]; omega), (eT.trans e3).mut hD, ?_⟩)
    rw [upd_same, List.range_succ, List.map_append]
    rfl
  · have e0 : i = xs.length := by omega
    subst e0
    exact .inl ⟨⟨xs, ys, ex_b ex ha, ex_b ex hb, rfl, hl.symm⟩, q Dl H' (fresh_back e1 hD) (e1.trans ex) hll⟩
end
section
variable {K : PySem.W.Frag} {σ : L2.St} {H H' : Hp} {ta : TA} {te : TE} {x y : V} {D : Ends} {tz : TS}
theorem s_par {i j : Nat} (h : EvA ta σ H [x, y]) (k : ∀ H1, Ex H H1 → D.nx ((σ.set i (some x)).set j (some y)) H1) : tPar i j ta D σ H := h H (Ex.refl H) _ fun H1 e => ⟨x, y, rfl, k H1 e⟩
theorem q_par {i j : Nat} (h : EvA ta σ H [x, y]) (k : ∀ H1, Ex H H1 → tz D ((σ.set i (some x)).set j (some y)) H1) : tSeq (tPar i j ta) tz D σ H := s_par (D := { D with nx := tz D }) h k
end
/-! ### several names at once -/
def gNs : List Nat → TGs
  | [] => gNil
  | i :: r => gCons (gName i) (gNs r)
def setN : L2.St → List Nat → List V → L2.St
  | σ, i :: is, v :: vs => setN (σ.set i (some v)) is vs
  | σ, _, _ => σ
theorem gNs_run : ∀ {is : List Nat} {vs : List V} {σ : L2.St} {H : Hp} {Q : L2.St → Hp → Prop}, vs.length = is.length → Q (setN σ is vs) H → gNs is vs σ H Q
  | [], [], _, _, _, _, q => ⟨rfl, q⟩
  | i :: is, v :: vs, σ, H, Q, h, q => ⟨v, vs, rfl, gNs_run (Nat.succ.inj h) q⟩
  | [], _ :: _, _, _, _, h, _ => nomatch h
  | _ :: _, [], _, _, _, h, _ => nomatch h
section
variable {K : PySem.W.Frag} {σ : L2.St} {H H' : Hp} {ta : TA} {te : TE} {vs : List V} {p : Addr} {D : Ends} {tz : TS} {n : Nat}
theorem s_unl (is : List Nat) (h : Ev te σ H (.ref p)) (hS : SqL K H p vs) (hn : vs.length = n) (hl : vs.length = is.length) (k : ∀ H1, Ex H H1 → D.nx (setN σ is vs) H1) : tAsg te (gUnl K n (gNs is)) D σ H :=
  h H (Ex.refl H) _ fun H1 e => ⟨p, vs, rfl, ex_l e hS, hn, gNs_run hl (k H1 e)⟩
theorem q_unl (is : List Nat) (h : Ev te σ H (.ref p)) (hS : SqL K H p vs) (hn : vs.length = n) (hl : vs.length = is.length) (k : ∀ H1, Ex H H1 → tz D (setN σ is vs) H1) : tSeq (tAsg te (gUnl K n (gNs is))) tz D σ H := s_unl (D := { D with nx := tz D }) is h hS hn hl k
theorem s_unt (is : List Nat) (h : Ev te σ H (.ref p)) (hS : SqT K H p vs) (hn : vs.length = n) (hl : vs.length = is.length) (k : ∀ H1, Ex H H1 → D.nx (setN σ is vs) H1) : tAsg te (gTup K n (gNs is)) D σ H :=
  h H (Ex.refl H) _ fun H1 e => ⟨p, vs, rfl, ex_t e hS, hn, gNs_run hl (k H1 e)⟩
theorem s_tupN (is : List Nat) (h : EvU te σ H vs) (hn : vs.length = n) (hl : vs.length = is.length) (k : ∀ H1, Ex H H1 → D.nx (setN σ is vs) H1) : tAsg te (gTup K n (gNs is)) D σ H :=
  h H (Ex.refl H) _ fun p H1 hp e h1 => ⟨p, vs, rfl, st_of h1, hn, gNs_run hl (k H1 e)⟩
theorem q_tupN (is : List Nat) (h : EvU te σ H vs) (hn : vs.length = n) (hl : vs.length = is.length) (k : ∀ H1, Ex H H1 → tz D (setN σ is vs) H1) : tSeq (tAsg te (gTup K n (gNs is))) tz D σ H := s_tupN (D := { D with nx := tz D }) is h hn hl k
theorem ru_inv {i : Int} : RU (rU fun i => .int (Builtin.bitNot i)) (.int i) H (.int (Builtin.bitNot i)) := fun H1 _ _ q => ⟨i, rfl, q H1 (Ex.refl H1)⟩
end
end My

set_option Elab.async false
set_option linter.all false
set_option maxRecDepth 100000
set_option maxHeartbeats 1000000
/-! data, and what a value stands for in a heap. -/
namespace My
open PySem PySem.Spec PyProof.Rows L2 Evl
inductive D where
  | non | bl (b : Bool) | int (i : Int) | str (l : List Nat) | tup (ds : List D) | lst (ds : List D)
mutual
inductive Rep (H : Hp) : V → D → Prop
  | non : Rep H .non .non
  | bl (b : Bool) : Rep H (.bl b) (.bl b)
  | int (i : Int) : Rep H (.int i) (.int i)
  | str (l : List Nat) : Rep H (.str (tx l)) (.str l)
  | tup {a : Addr} {vs : List V} {ds : List D} (e : H a = some (.tup vs)) (r : Reps H vs ds) : Rep H (.ref a) (.tup ds)
  | lst {a : Addr} {vs : List V} {ds : List D} (e : H a = some (.lst vs)) (r : Reps H vs ds) : Rep H (.ref a) (.lst ds)
inductive Reps (H : Hp) : List V → List D → Prop
  | nil : Reps H [] []
  | cons {v : V} {d : D} {vs : List V} {ds : List D} (h : Rep H v d) (r : Reps H vs ds) : Reps H (v :: vs) (d :: ds)
end
mutual
theorem Rep.mono {H H' : Hp} (e : Ex H H') : ∀ {v : V} {d : D}, Rep H v d → Rep H' v d
  | _, _, .non => .non
  | _, _, .bl b => .bl b
  | _, _, .int i => .int i
  | _, _, .str l => .str l
  | _, _, .tup q r => .tup (e _ _ q) (Reps.mono e r)
  | _, _, .lst q r => .lst (e _ _ q) (Reps.mono e r)
theorem Reps.mono {H H' : Hp} (e : Ex H H') : ∀ {vs : List V} {ds : List D}, Reps H vs ds → Reps H' vs ds
  | _, _, .nil => .nil
  | _, _, .cons h r => .cons (Rep.mono e h) (Reps.mono e r)
end
theorem Reps.len {H : Hp} : ∀ {vs : List V} {ds : List D}, Reps H vs ds → vs.length = ds.length
  | _, _, .nil => rfl
  | _, _, .cons _ r => congrArg Nat.succ (Reps.len r)
theorem Reps.get {H : Hp} : ∀ {vs : List V} {ds : List D} {i : Nat} {d : D}, Reps H vs ds → ds[i]? = some d → ∃ v, vs[i]? = some v ∧ Rep H v d
  | _, _, _, _, .nil, h => nomatch h
  | v :: _, _, 0, _, .cons h r, e => ⟨v, rfl, by cases e; exact h⟩
  | _ :: _, _, i + 1, _, .cons h r, e => Reps.get (i := i) r e
theorem Reps.get' {H : Hp} : ∀ {vs : List V} {ds : List D} {i : Nat} {v : V}, Reps H vs ds → vs[i]? = some v → ∃ d, ds[i]? = some d ∧ Rep H v d
  | _, _, _, _, .nil, h => nomatch h
  | v :: _, _, 0, _, .cons (d := d) h r, e => ⟨d, rfl, by cases e; exact h⟩
  | _ :: _, _, i + 1, _, .cons h r, e => Reps.get' (i := i) r e
theorem Reps.append {H : Hp} : ∀ {vs ws : List V} {ds es : List D}, Reps H vs ds → Reps H ws es → Reps H (vs ++ ws) (ds ++ es)
  | _, _, _, _, .nil, r => r
  | _, _, _, _, .cons h t, r => .cons h (Reps.append t r)
def tyD : D → String
  | .non => "NoneType" | .bl _ => "bool" | .int _ => "int" | .str _ => "str" | .tup _ => "tuple" | .lst _ => "list"
theorem Rep.ty {K : PySem.W.Frag} {H : Hp} {v : V} {d : D} (h : Rep H v d) : TyX K H v (.type (tyD d)) := by
  cases h with
  | non => exact .base .non
  | bl b => exact .base (.bl b)
  | int i => exact .base (.int i)
  | str l => exact .base (.str _)
  | tup e _ => exact .base (.tup e)
  | lst e _ => exact .base (.lst e)
def EvD (te : TE) (σ : L2.St) (H : Hp) (d : D) : Prop := EvP te σ H fun v H' => Rep H' v d
section
variable {K : PySem.W.Frag} {σ : L2.St} {H H' : Hp} {ta : TA} {te : TE} {xs ys : List V} {x z v : V} {p : Addr} {E : Ends} {tu tz : TS} {d : D}
theorem evd_v (h : Ev te σ H v) (r : Rep H v d) : EvD te σ H d := fun H1 e Q q => h H1 e Q fun H2 e2 => q v H2 e2 (r.mono (e.trans e2))
theorem ev_isi {T : String} {b : Bool} (h : Ev te σ H v) (r : Rep H v d) (hk : kitB (tyD d) T = some b) : Ev (tCB (rIsi K) (tCons te (tCons (tC (.ty T)) tNil))) σ H (.bl b) := fun H1 e Q q =>
  h H1 e _ fun H2 e2 => ⟨v, .ty T, .type (tyD d), .type T, b, rfl, .ty T, (r.mono (e.trans e2)).ty, kit_ty hk, q H2 e2⟩
theorem et_isN {te : TE} (h : Ev te σ H v) : EvT (tTest (tOp (fun x y H Q => y = .non ∧ Q (.bl (decide (x = .non))) H) te (tC .non))) σ H (decide (v = .non)) := fun H1 e Q q =>
  h H1 e _ fun H2 e2 => ⟨rfl, _, rfl, q H2 e2⟩
/-- xs.extend(a new list) -/
theorem s_extL {l : Addr} (hl : H l = some (.lst xs)) (ha : ∀ H1, Ex H H1 → Ev te σ H1 (.ref l)) {tb : TE} (h : EvL tb σ H ys) (hz : xs.length + ys.length ≤ 100000) (k : ∀ H1, Ex H H1 → E.nx σ (upd H1 l (.lst (xs ++ ys)))) :
    tDrop (tBM K "list" rExtend te (tCons tb tNil)) E σ H := ha H (Ex.refl H) H (Ex.refl H) _ fun H1 e1 =>
  ⟨Or.inl ⟨rfl, xs, sq_of (e1 l _ hl)⟩, h H1 e1 _ fun p H2 hp e2 h2 => ⟨l, p, xs, ys, rfl, rfl, e2 l _ (e1 l _ hl), h2, sz_of hz, k H2 (e1.trans e2)⟩⟩
/-- a loop over a text's signs -/
theorem for_str {x : Str} {g : TG} {tb : TS} {D : Ends} {σ : L2.St} {H : Hp} (Pv : Nat → L2.St → Hp → Prop) (h0 : Pv 0 σ H)
    (hs : ∀ i c σ H, x.cps[i]? = some c → Pv i σ H → g (.str (tx [c])) σ H fun σ2 H2 => tb { D with nx := Pv (i + 1), ct := Pv (i + 1), bk := D.nx } σ2 H2) (hd : ∀ σ H, Pv x.cps.size σ H → D.nx σ H) :
    ∃ W : Nat → Nat → L2.St → Hp → Prop, (∃ m, W 0 m σ H) ∧ ∀ i m σ H, W i m σ H →
      ((Its x).stop i H ∧ D.nx σ H) ∨ ((Its x).go i H ∧ ∃ N : L2.St → Hp → Prop, (∀ σ' H', N σ' H' → ∃ m', m' < m ∧ W (i + 1) m' σ' H') ∧ ∀ v H', (Its x).yld i H v H' → g v σ H' fun σ2 H2 => tb { D with nx := N, ct := N, bk := D.nx } σ2 H2) := by
  refine ⟨fun i m σ H => m = x.cps.size - i ∧ i ≤ x.cps.size ∧ Pv i σ H, ⟨x.cps.size, rfl, Nat.zero_le _, h0⟩, ?_⟩
  rintro i m σ H ⟨rfl, hi, p⟩
  by_cases hlt : i < x.cps.size
  · refine .inr ⟨hlt, Pv (i + 1), fun σ' H' p' => ⟨x.cps.size - (i + 1), by omega, rfl, hlt, p'⟩, fun v H' y => ?_⟩
    obtain ⟨rfl, c, hc, rfl⟩ := y
    exact hs i c σ _ hc p
  · have e : i = x.cps.size := by omega
    subst e
    exact .inl ⟨Nat.le_refl _, hd σ H p⟩
theorem s_forS {l : List Nat} {j : Nat} (h : Ev te σ H (.str (tx l))) (Pv : Nat → L2.St → Hp → Prop) (h0 : ∀ H1, Ex H H1 → Pv 0 σ H1)
    (hs : ∀ i c σ' H', l[i]? = some c → Pv i σ' H' → tu { E with nx := Pv (i + 1), ct := Pv (i + 1), bk := E.nx } (σ'.set j (some (.str (tx [c])))) H') (hd : ∀ σ' H', Pv l.length σ' H' → E.nx σ' H') : tFor (iStr te) (gName j) tu E σ H :=
  h H (Ex.refl H) _ fun H1 e => ⟨tx l, rfl, for_str Pv (h0 H1 e) (fun i c σ' H' hc p => hs i c σ' H' (by simpa [tx] using hc) p) (fun σ' H' p => hd σ' H' (by simpa [tx] using p))⟩
theorem q_forS {l : List Nat} {j : Nat} (h : Ev te σ H (.str (tx l))) (Pv : Nat → L2.St → Hp → Prop) (h0 : ∀ H1, Ex H H1 → Pv 0 σ H1)
    (hs : ∀ i c σ' H', l[i]? = some c → Pv i σ' H' → tu { E with nx := Pv (i + 1), ct := Pv (i + 1), bk := tz E } (σ'.set j (some (.str (tx [c])))) H') (hd : ∀ σ' H', Pv l.length σ' H' → tz E σ' H') : tSeq (tFor (iStr te) (gName j) tu) tz E σ H :=
  s_forS (E := { E with nx := tz E }) h Pv h0 hs hd
end
/-! ### octets of data -/
def sev (n : Nat) : List Nat := if h : n < 128 then [n] else (128 + n % 128) :: sev (n / 128)
termination_by n
decreasing_by omega
theorem sev_lt {n : Nat} (h : n < 128) : sev n = [n] := by rw [sev, dif_pos h]
theorem sev_ge {n : Nat} (h : ¬ n < 128) : sev n = (128 + n % 128) :: sev (n / 128) := by rw [sev, dif_neg h]
theorem sev_len (k : Nat) : ∀ n, n < 128 ^ (k + 1) → (sev n).length ≤ k + 1 := by
  induction k with
  | zero => intro n h; rw [sev_lt (by simpa using h)]; exact Nat.le_refl _
  | succ k ih =>
    intro n h
    by_cases h1 : n < 128
    · rw [sev_lt h1]; simp
    · rw [sev_ge h1, List.length_cons]
      have := ih (n / 128) (by rw [Nat.div_lt_iff_lt_mul (by decide), ← Nat.pow_succ]; exact h)
      omega
theorem sev_oct : ∀ n, ∀ x ∈ sev n, x < 256 := by
  intro n
  induction n using Nat.strongRecOn with
  | _ n ih =>
    intro x hx
    by_cases h1 : n < 128
    · rw [sev_lt h1, List.mem_singleton] at hx
      omega
    · rw [sev_ge h1, List.mem_cons] at hx
      rcases hx with rfl | hx
      · omega
      · exact ih (n / 128) (by omega) x hx
/-- the place of a sign in the row of signs -/
def sgns : List Nat := (List.range 95).map (· + 32) |>.filter (fun c => c != 37) |>.append [10]
def sgn (c : Nat) : Nat := if c = 10 then 94 else if c < 37 then c - 32 else c - 33
mutual
def octs : D → List Nat
  | .non => [0]
  | .bl b => [if b then 2 else 1]
  | .int i => if 0 ≤ i then 3 :: sev i.toNat else 4 :: sev (-i - 1).toNat
  | .str l => 5 :: (sev l.length ++ l.map sgn)
  | .tup ds => 6 :: (sev ds.length ++ octsL ds)
  | .lst _ => []
def octsL : List D → List Nat
  | [] => []
  | d :: ds => octs d ++ octsL ds
end
mutual
def height : D → Nat
  | .tup ds => heightL ds + 1
  | .lst ds => heightL ds + 1
  | _ => 0
def heightL : List D → Nat
  | [] => 0
  | d :: ds => max (height d) (heightL ds)
end
mutual
/-- a plain value, of a size -/
def Pln : D → Prop
  | .non => True
  | .bl _ => True
  | .int i => i.natAbs < 2 ^ 64
  | .str l => l.length ≤ 1000 ∧ ∀ c ∈ l, c ∈ sgns
  | .tup ds => ds.length ≤ 1000 ∧ PlnL ds
  | .lst _ => False
def PlnL : List D → Prop
  | [] => True
  | d :: ds => Pln d ∧ PlnL ds
end
theorem octsL_app : ∀ a b : List D, octsL (a ++ b) = octsL a ++ octsL b
  | [], _ => by simp [octsL]
  | d :: a, b => by rw [List.cons_append, octsL, octsL, octsL_app a b, List.append_assoc]
theorem octsL_take {ds : List D} {i : Nat} {d : D} (h : ds[i]? = some d) : octsL (ds.take (i + 1)) = octsL (ds.take i) ++ octs d := by
  rw [List.take_add_one, h, octsL_app]
  simp [octsL]
theorem heightL_get : ∀ {ds : List D} {i : Nat} {d : D}, ds[i]? = some d → height d ≤ heightL ds
  | [], _, _, h => nomatch h
  | d :: ds, 0, _, h => by cases h; rw [heightL]; exact Nat.le_max_left _ _
  | d :: ds, i + 1, _, h => by rw [heightL]; exact Nat.le_trans (heightL_get (ds := ds) (i := i) h) (Nat.le_max_right _ _)
theorem PlnL_get : ∀ {ds : List D} {i : Nat} {d : D}, PlnL ds → ds[i]? = some d → Pln d
  | [], _, _, _, h => nomatch h
  | d :: ds, 0, _, p, h => by cases h; rw [PlnL] at p; exact p.1
  | d :: ds, i + 1, _, p, h => by rw [PlnL] at p; exact PlnL_get (ds := ds) (i := i) p.2 h
theorem octsL_part : ∀ {ds : List D} {i : Nat} {d : D}, ds[i]? = some d → (octsL (ds.take i)).length + (octs d).length ≤ (octsL ds).length
  | [], _, _, h => nomatch h
  | d :: ds, 0, _, h => by cases h; rw [List.take_zero, octsL, octsL, List.length_append, List.length_nil]; omega
  | d :: ds, i + 1, _, h => by
    rw [List.take_succ_cons, octsL, octsL, List.length_append, List.length_append]
    have := octsL_part (ds := ds) (i := i) h
    omega
theorem sgn_lt {c : Nat} (h : c ∈ sgns) : sgn c < 95 := by
  have : ∀ c ∈ sgns, sgn c < 95 := by decide +kernel
  exact this c h
mutual
theorem octs_oct : ∀ d, Pln d → ∀ x ∈ octs d, x < 256
  | .non, _, x, h => by rw [octs, List.mem_singleton] at h; omega
  | .bl b, _, x, h => by rw [octs, List.mem_singleton] at h; subst h; cases b <;> decide
  | .int i, _, x, h => by
    rw [octs] at h
    split at h <;> rw [List.mem_cons] at h <;> rcases h with rfl | h
    · decide
    · exact sev_oct _ x h
    · decide
    · exact sev_oct _ x h
  | .str l, p, x, h => by
    rw [octs, List.mem_cons, List.mem_append, List.mem_map] at h
    rw [Pln] at p
    rcases h with rfl | h | ⟨c, hc, rfl⟩
    · decide
    · exact sev_oct _ x h
    · have := sgn_lt (p.2 c hc); omega
  | .tup ds, p, x, h => by
    rw [octs, List.mem_cons, List.mem_append] at h
    rw [Pln] at p
    rcases h with rfl | h | h
    · decide
    · exact sev_oct _ x h
    · exact octsL_oct ds p.2 x h
  | .lst _, _, x, h => by rw [octs] at h; simp at h
theorem octsL_oct : ∀ ds, PlnL ds → ∀ x ∈ octsL ds, x < 256
  | [], _, x, h => by rw [octsL] at h; simp at h
  | d :: ds, p, x, h => by
    rw [octsL, List.mem_append] at h
    rw [PlnL] at p
    rcases h with h | h
    · exact octs_oct d p.1 x h
    · exact octsL_oct ds p.2 x h
end
end My

set_option Elab.async false
set_option linter.all false
set_option maxRecDepth 100000
set_option maxHeartbeats 1000000
/-! texts: signs, lengths, slices, comprehensions; chains; all. -/
namespace My
open PySem PySem.Spec PyProof.Rows L2 Evl
section
variable {K : PySem.W.Frag}
theorem ev_sidx {σ : L2.St} {H : Hp} {te tb : TE} {a b : Str} {i : Nat} {r : List Nat} (h : Ev te σ H (.str a)) (hb : Ev tb σ H (.str b)) (ho : Builtin.Str.occurrences a b 0 a.length 1 = i :: r) :
    Ev (tBM K "str" (fun x xs H Q => ∃ a b i rest, x = .str a ∧ xs = [.str b] ∧ Builtin.Str.occurrences a b 0 a.length 1 = i :: rest ∧ Q (.int (i : Nat)) H) te (tCons tb tNil)) σ H (.int (i : Int)) := fun H1 e Q q =>
  h H1 e _ fun H2 e2 => ⟨rfl, hb H2 (e.trans e2) _ fun H3 e3 => ⟨a, b, i, r, rfl, rfl, ho, q H3 (e2.trans e3)⟩⟩
theorem ev_lenT {σ : L2.St} {H : Hp} {ta : TE} {p : Addr} {xs : List V} (ha : Ev ta σ H (.ref p)) (h : SqT K H p xs) : Ev (tCB (rLenS K) (tCons ta tNil)) σ H (.int (xs.length : Int)) := fun H1 e Q q =>
  ha H1 e _ fun H2 e2 => ⟨p, xs, rfl, .inr (ex_t (e.trans e2) h), q H2 e2⟩
theorem ev_lenS {σ : L2.St} {H : Hp} {ta : TE} {l : List Nat} (ha : Ev ta σ H (.str (tx l))) (hz : l.length ≤ 100000) : Ev (tCB (fun xs H Q => ∃ z, xs = [.str z] ∧ z.length ≤ sizeLine ∧ Q (.int z.length) H) (tCons ta tNil)) σ H (.int (l.length : Int)) := fun H1 e Q q =>
  ha H1 e _ fun H2 e2 => ⟨tx l, rfl, by rw [tx_len]; exact sz_of hz, by rw [tx_len]; exact q H2 e2⟩
theorem el_if {σ : L2.St} {H : Hp} {t : TT} {ta tb : TE} {xs : List V} {b : Bool} (h : EvT t σ H b) (h1 : b = true → EvL ta σ H xs) (h2 : b = false → EvL tb σ H xs) : EvL (tIf t ta tb) σ H xs := fun H1 e Q q => h H1 e _ fun H2 e2 => by
  cases b with
  | true => exact h1 rfl H2 (e.trans e2) Q fun p H3 hp e3 h3 => q p H3 (fresh_back e2 hp) (e2.trans e3) h3
  | false => exact h2 rfl H2 (e.trans e2) Q fun p H3 hp e3 h3 => q p H3 (fresh_back e2 hp) (e2.trans e3) h3

variable {σ : L2.St} {H H' : Hp} {ta : TA} {te tb tc tl : TE} {xs ys : List V} {x y z v : V} {p : Addr} {D : Ends} {tu tz : TS}
theorem rv_inSn {c : Nat} {l : List Nat} : RV (fun x y H Q => ∃ (c : Nat) (z : Str), x = .str ⟨#[c]⟩ ∧ y = .str z ∧ Q (.bl (decide (c ∈ z.cps.toList))) H) (.str (tx [c])) (.str (tx l)) H (.bl (decide (c ∈ l))) := rv_val fun H1 _ Q q => ⟨c, tx l, rfl, rfl, q⟩
theorem rv_niSn {c : Nat} {l : List Nat} : RV (fun x y H Q => ∃ (c : Nat) (z : Str), x = .str ⟨#[c]⟩ ∧ y = .str z ∧ Q (.bl (!decide (c ∈ z.cps.toList))) H) (.str (tx [c])) (.str (tx l)) H (.bl (!decide (c ∈ l))) := rv_val fun H1 _ Q q => ⟨c, tx l, rfl, rfl, q⟩
theorem ev_chain {r r' : R2} {w' : V} {k m : Bool} (ha : Ev te σ H x) (hb : Ev tb σ H y) (hr : RV r x y H (.bl k)) (hc : k = true → Ev tc σ H w') (hr' : k = true → RV r' y w' H (.bl m)) : Ev (tChain r r' te tb tc) σ H (.bl (k && m)) := fun H1 e Q q =>
  ha H1 e _ fun H2 e2 => hb H2 (e.trans e2) _ fun H3 e3 => hr H3 ((e.trans e2).trans e3) _ fun H4 e4 => ⟨k, rfl, by
    have E := ((e.trans e2).trans e3).trans e4
    cases k with
    | false => exact q H4 ((e2.trans e3).trans e4)
    | true => exact hc rfl H4 E _ fun H5 e5 => hr' rfl H5 (E.trans e5) _ fun H6 e6 => q H6 ((((e2.trans e3).trans e4).trans e5).trans e6)⟩
theorem ev_all {bs : List Bool} (h : EvL te σ H (bs.map V.bl)) : Ev (tCB (rAll K) (tCons te tNil)) σ H (.bl (bs.all id)) := fun H1 e Q q =>
  h H1 e _ fun p H2 _ e2 hp => ⟨p, bs, rfl, sq_of hp, q H2 e2⟩
theorem el_split {a b : Str} (ha : Ev te σ H (.str a)) (hb : Ev tb σ H (.str b)) (h0 : (b.length == 0) = false) (hz : a.length + 2 ≤ 100000) :
    EvL (tM1 (fun x xs H Q => ∃ a b, x = .str a ∧ xs = [.str b] ∧ (b.length == 0) = false ∧ a.length + 2 ≤ sizeLine ∧ rNewStrs (Txt.split a b) H Q) te tb) σ H ((Txt.split a b).map V.str) := fun H1 e Q q =>
  ha H1 e _ fun H2 e2 => ⟨⟨a, rfl⟩, hb H2 (e.trans e2) _ fun H3 e3 => ⟨a, b, rfl, rfl, h0, sz_of hz, fun l hl => q l _ (fresh_back (e2.trans e3) hl) ((e2.trans e3).trans (Ex.new hl)) upd_same⟩⟩
theorem ev_slS {l : List Nat} {tlo thi : TO} {lo hi : Option Int} (h : Ev te σ H (.str (tx l))) (h1 : EvO tlo σ H lo) (h2 : EvO thi σ H hi) (hz : l.length ≤ 100000) : Ev (tSl rSlS te tlo thi) σ H (.str (cutS (tx l) lo hi)) := fun H1 e Q q =>
  h H1 e _ fun H2 e2 => h1 H2 (e.trans e2) _ fun H3 e3 => h2 H3 ((e.trans e2).trans e3) _ fun H4 e4 => ⟨tx l, rfl, by rw [tx_len]; exact sz_of hz, q H4 ((e2.trans e3).trans e4)⟩
theorem cutS_take (l : List Nat) (n : Nat) : cutS (tx l) none (some (n : Int)) = tx (l.take n) := by
  unfold cutS
  rw [HT.sIx_nat, HT.sIx_none, tx_list, List.drop_zero, Nat.sub_zero, tx_len]
  by_cases h : n ≤ l.length
  · rw [Nat.min_eq_left h]; rfl
  · rw [Nat.min_eq_right (by omega), List.take_of_length_le (Nat.le_refl _), List.take_of_length_le (show l.length ≤ n by omega)]; rfl
/-- a comprehension over a text, no test -/
theorem el_lcS {j : Nat} {vs : List Nat} {l : List Nat} (v : Nat → V) (h : Ev tl σ H (.str (tx l))) (hz : l.length ≤ 40000) (hw : ∀ x, wipe ((wipe σ vs).set j (some x)) vs = wipe σ vs)
    (he : ∀ c H1, Ex H H1 → c ∈ l → Ev te ((wipe σ vs).set j (some (.str (tx [c])))) H1 (v c)) : EvL (tLc (iStr tl) (gName j) tYes te vs) σ H (l.map v) := by
  intro H0 e Q q
  refine h H0 e _ fun H1 e1 => ⟨tx l, rfl, fun Dl hD => ?_⟩
  have hsz : (tx l).cps.size = l.length := List.size_toArray
  refine ⟨fun i m H' => m = l.length - i ∧ i ≤ l.length ∧ Ex H1 H' ∧ H' Dl = some (.lst ((l.take i).map v)), ⟨l.length, rfl, Nat.zero_le _, Ex.new hD, upd_same⟩, ?_⟩
  rintro i m H' ⟨rfl, hi, ex, hl⟩
  by_cases hlt : i < l.length
  · refine .inr ⟨show i < _ by rw [hsz]; exact hlt, fun H' => Ex H1 H' ∧ H' Dl = some (.lst ((l.take (i + 1)).map v)), fun H2 p => ⟨l.length - (i + 1), by omega, rfl, hlt, p⟩, fun x H2 y => ?_⟩
    obtain ⟨rfl, c, hc, rfl⟩ := y
    have hc' : l[i]? = some c := by simpa [tx] using hc
    refine ⟨hw _, ?_⟩
    refine tyes_ ?_
    refine iteT (he c H1 (e.trans e1) (List.mem_of_getElem? hc') H2 ex _ fun H3 e3 => ⟨_, e3 Dl _ hl, sz_lt (by rw [List.length_map, List.length_take]; omega), (ex.trans e3).mut hD, ?_⟩)
    rw [upd_same, List.take_add_one, hc', List.map_append]
    rfl
  · have e0 : i = l.length := by omega
    subst e0
    rw [List.take_of_length_le (Nat.le_refl _)] at hl
    exact .inl ⟨show _ ≤ _ by rw [hsz]; exact Nat.le_refl _, q Dl H' (fresh_back e1 hD) (e1.trans ex) hl⟩
/-- a comprehension over a new list, no test -/
theorem el_lcN {j : Nat} {vs : List Nat} (g : V → V) (h : EvL tl σ H xs) (hz : xs.length ≤ 40000) (hw : ∀ x, wipe ((wipe σ vs).set j (some x)) vs = wipe σ vs)
    (he : ∀ x H1, Ex H H1 → x ∈ xs → Ev te ((wipe σ vs).set j (some x)) H1 (g x)) : EvL (tLc (iList K tl) (gName j) tYes te vs) σ H (xs.map g) := by
  intro H0 e Q q
  refine h H0 e _ fun a H1 ha e1 h1 => ⟨a, rfl, ⟨xs, sq_of h1⟩, fun Dl hD => ?_⟩
  refine ⟨fun i m H' => m = xs.length - i ∧ i ≤ xs.length ∧ Ex H1 H' ∧ H' Dl = some (.lst ((xs.take i).map g)), ⟨xs.length, rfl, Nat.zero_le _, Ex.new hD, upd_same⟩, ?_⟩
  rintro i m H' ⟨rfl, hi, ex, hl⟩
  by_cases hlt : i < xs.length
  · have gx : xs[i]? = some xs[i] := List.getElem?_eq_getElem hlt
    refine .inr ⟨⟨xs, xs[i], sq_of (ex a _ h1), gx⟩, fun H' => Ex H1 H' ∧ H' Dl = some (.lst ((xs.take (i + 1)).map g)), fun H2 p => ⟨xs.length - (i + 1), by omega, rfl, hlt, p⟩, fun x H2 y => ?_⟩
    obtain ⟨rfl, y⟩ := y
    have ex' : x = xs[i] := Option.some.inj ((y xs (sq_of (ex a _ h1))).symm.trans gx)
    subst ex'
    refine ⟨hw _, ?_⟩
    refine tyes_ ?_
    refine iteT (he _ H1 (e.trans e1) (List.mem_of_getElem? gx) H2 ex _ fun H3 e3 => ⟨_, e3 Dl _ hl, sz_lt (by rw [List.length_map, List.length_take]; omega), (ex.trans e3).mut hD, ?_⟩)
    rw [upd_same, List.take_add_one, gx, List.map_append]
    rfl
  · have e0 : i = xs.length := by omega
    subst e0
    rw [List.take_of_length_le (Nat.le_refl _)] at hl
    exact .inl ⟨⟨xs, sq_of (ex a _ h1), Nat.le_refl _⟩, q Dl H' (fresh_back e1 hD) (e1.trans ex) hl⟩
end
end My

set_option Elab.async false
set_option linter.all false
set_option maxRecDepth 100000
set_option maxHeartbeats 1000000
/-! text * int; is True; the laws' pool of draws; sameness of data. -/
namespace My
open PySem PySem.Spec PyProof.Rows L2 Evl
section
variable {X : Cx}
def rMulS : R2 := fun x y H Q => ∃ a n, x = .str a ∧ y = .int n ∧ MulOk a n ∧ Q (.str (Txt.mul a n)) H
theorem op_mulS : OpR X (binaryOp .Mult) rMulS := by
  intro pins s σ H x y v u Q I rx ry h
  obtain ⟨i, j, rfl, rfl, hz, q⟩ := h
  obtain ⟨t, rfl⟩ := rx
  obtain ⟨t', rfl⟩ := ry
  exact SB.mul hz fun t' tk => ⟨.str _, H, I.tok _, ⟨_, rfl⟩, q⟩
def rIsBA : R2 := fun x y H Q => ∃ b, y = .bl b ∧ Q (.bl (decide (x = .bl b))) H
theorem op_isBA : OpR X (compareOp .Is) rIsBA := by
  intro pins s σ H x y v u Q I rx ry h
  obtain ⟨b, rfl, q⟩ := h
  cases (show u = Value.bool b from ry)
  cases x with
  | bl a =>
    cases (show v = Value.bool a from rx)
    by_cases e : a = b
    · subst e
      exact wpAny_is_self rfl ⟨.bl true, H, I, rfl, by simpa using q⟩
    · exact wpAny_is_other rfl (fun z => e (Value.bool.inj z)) ⟨.bl false, H, I, rfl, by simpa [e] using q⟩
  | _ => first
    | (cases rx; exact wpAny_is_other rfl (fun z => nomatch z) ⟨.bl false, H, I, rfl, q⟩)
    | (obtain ⟨t, rfl⟩ := rx; exact wpAny_is_other rfl (fun z => nomatch z) ⟨.bl false, H, I, rfl, q⟩)
end
/-! ### heaps in which the pool alone is written -/
def Keep (p : Addr) (H H' : Hp) : Prop := ∀ a o, a ≠ p → H a = some o → H' a = some o
def Pool (K : PySem.W.Frag) (H : Hp) (p sc : Addr) (ns : List Int) : Prop := ∃ pl r f : Nat, H p = some (.lst [.ref sc, .int (pl : Int), .int (r : Int), .int (f : Int)]) ∧ SqL K H sc (ns.map V.int)
def G (K : PySem.W.Frag) (p sc : Addr) (ns : List Int) (H H' : Hp) : Prop := Keep p H H' ∧ Pool K H' p sc ns
section
variable {K : PySem.W.Frag} {p q a sc : Addr} {ns : List Int} {H H1 H2 H3 : Hp} {xs : List V} {v : V} {d : D} {o : HO}
theorem Keep.of (e : Ex H H1) : Keep p H H1 := fun x o _ h => e x o h
theorem Keep.trans (a : Keep p H H1) (b : Keep p H1 H2) : Keep p H H2 := fun x o n h => b x o n (a x o n h)
theorem Keep.upd : Keep p H (upd H p o) := fun x u n h => by rw [upd_ne n]; exact h
theorem Keep.new (k : Keep p H1 H2) (h : H1 q = none) : Keep p H1 (L2.upd H2 q o) := fun x u n e => by
  have nq : x ≠ q := fun z => by rw [z, h] at e; exact nomatch e
  rw [upd_ne nq]
  exact k x u n e
theorem keep_l (k : Keep p H H1) (n : a ≠ p) (h : SqL K H a xs) : SqL K H1 a xs := by
  rcases h with (h | ⟨o, h⟩) | h
  · exact .inl (.inl (k _ _ n h))
  · exact .inl (.inr ⟨o, k _ _ n h⟩)
  · exact .inr h
theorem keep_t (k : Keep p H H1) (n : a ≠ p) (h : SqT K H a xs) : SqT K H1 a xs := by
  rcases h with (h | ⟨o, h⟩) | h
  · exact .inl (.inl (k _ _ n h))
  · exact .inl (.inr ⟨o, k _ _ n h⟩)
  · exact .inr h
theorem sc_keep (hp : H p = some (.lst (.ref q :: xs))) (k : Keep p H H1) (h : SqL K H sc (ns.map V.int)) : SqL K H1 sc (ns.map V.int) := by
  rcases h with (h | ⟨o, h⟩) | h
  · have n : sc ≠ p := fun e => by
      rw [e, hp] at h
      have := HO.lst.inj (Option.some.inj h)
      cases ns with
      | nil => exact nomatch this
      | cons x r => exact nomatch (List.cons.inj this).1
    exact .inl (.inl (k _ _ n h))
  · have n : sc ≠ p := fun e => by
      rw [e, hp] at h
      exact nomatch Option.some.inj h
    exact .inl (.inr ⟨o, k _ _ n h⟩)
  · exact .inr h
theorem Pool.mk' {pl r f : Nat} (h : Pool K H p sc ns) (k : Keep p H H1) (h1 : H1 p = some (.lst [.ref sc, .int (pl : Int), .int (r : Int), .int (f : Int)])) : Pool K H1 p sc ns := by
  obtain ⟨_, _, _, hp, hs⟩ := h
  exact ⟨pl, r, f, h1, sc_keep hp k hs⟩
theorem Pool.ex (e : Ex H H1) (h : Pool K H p sc ns) : Pool K H1 p sc ns := by
  obtain ⟨pl, r, f, h1, h2⟩ := h
  exact ⟨pl, r, f, e p _ h1, ex_l e h2⟩
theorem G.trans (a : G K p sc ns H H1) (b : G K p sc ns H1 H2) : G K p sc ns H H2 := ⟨a.1.trans b.1, b.2⟩
theorem G.ex (e : Ex H H1) (h : Pool K H p sc ns) : G K p sc ns H H1 := ⟨.of e, h.ex e⟩
theorem G.refl (h : Pool K H p sc ns) : G K p sc ns H H := G.ex (Ex.refl H) h
theorem G.exR (g : G K p sc ns H H1) (e : Ex H1 H2) : G K p sc ns H H2 := g.trans (G.ex e g.2)
theorem G.exL (e : Ex H H1) (g : G K p sc ns H1 H2) : G K p sc ns H H2 := ⟨(Keep.of e).trans g.1, g.2⟩
/-- a new object beside the pool -/
theorem Pool.ne (h : Pool K H p sc ns) (ha : H a = none) : a ≠ p := fun e => by
  obtain ⟨_, r, f, h1, _⟩ := h
  rw [e, h1] at ha
  exact nomatch ha
theorem G.new (h : Pool K H1 p sc ns) (g : G K p sc ns H1 H2) (hq : H1 q = none) : G K p sc ns H1 (upd H2 q o) := by
  refine ⟨g.1.new hq, ?_⟩
  obtain ⟨_, r, f, h1, _⟩ := g.2
  exact h.mk' (g.1.new hq) (by rw [upd_ne (h.ne hq).symm]; exact h1)
mutual
theorem Rep.off (k : Keep p H H1) (hp : ∀ us, H p ≠ some (.tup us)) : ∀ {v : V} {d : D}, Pln d → Rep H v d → Rep H1 v d
  | _, _, _, .non => .non
  | _, _, _, .bl b => .bl b
  | _, _, _, .int i => .int i
  | _, _, _, .str l => .str l
  | _, .tup ds, h, .tup q r => .tup (k _ _ (fun e => hp _ (e ▸ q)) q) (Reps.off k hp (by rw [Pln] at h; exact h.2) r)
  | _, .lst ds, h, .lst q r => (by rw [Pln] at h; exact h.elim)
theorem Reps.off (k : Keep p H H1) (hp : ∀ us, H p ≠ some (.tup us)) : ∀ {vs : List V} {ds : List D}, PlnL ds → Reps H vs ds → Reps H1 vs ds
  | _, _, _, .nil => .nil
  | _, _ :: _, h, .cons r rs => .cons (Rep.off k hp (by rw [PlnL] at h; exact h.1) r) (Reps.off k hp (by rw [PlnL] at h; exact h.2) rs)
end
theorem Pool.noT (h : Pool K H p sc ns) (us : List V) : H p ≠ some (.tup us) := fun e => by
  obtain ⟨_, r, f, h1, _⟩ := h
  rw [h1] at e
  exact nomatch Option.some.inj e
theorem Rep.g (g : G K p sc ns H H1) (hp : Pool K H p sc ns) (h : Pln d) (r : Rep H v d) : Rep H1 v d := Rep.off g.1 hp.noT h r
theorem Reps.g {vs : List V} {ds : List D} (g : G K p sc ns H H1) (hp : Pool K H p sc ns) (h : PlnL ds) (r : Reps H vs ds) : Reps H1 vs ds := Reps.off g.1 hp.noT h r
end
/-! ### promises of the draws -/
def sp_draw (K : PySem.W.Frag) : Sp := fun vs H Q _ => ∃ (p sc : Addr) (ns : List Int) (limit : Nat), vs = [.ref p, .int (limit : Int)] ∧ Pool K H p sc ns ∧ 0 < limit ∧ limit < 2 ^ 63 ∧ ∀ (v : Nat) H', v < limit → G K p sc ns H H' → Q (.int (v : Int)) H'
def sp_pick (K : PySem.W.Frag) : Sp := fun vs H Q _ => ∃ (p sc : Addr) (ns : List Int) (a : Addr) (xs : List V), vs = [.ref p, .ref a] ∧ Pool K H p sc ns ∧ SqL K H a xs ∧ a ≠ p ∧ xs ≠ [] ∧ xs.length ≤ 1000 ∧ ∀ v H', v ∈ xs → G K p sc ns H H' → Q v H'
/-! ### steps by hand -/
section
variable {σ : L2.St} {H : Hp} {Q : VK} {R : List V → Hp → Prop} {ta tr : TA} {te tb : TE} {r : R2} {D : Ends} {sp : Sp} {dvs : List V} {E : XK} {v : V} {i : Nat} {tz : TS}
theorem r_ret (h : te σ H D.rt) : tRet te D σ H := h
theorem r_op (h : te σ H fun x H1 => tb σ H1 fun y H2 => r x y H2 Q) : tOp r te tb σ H Q := h
theorem r_var (h : σ[i]? = some (some v)) (q : Q v H) : tVar i σ H Q := ⟨v, h, q⟩
theorem r_c (q : Q v H) : tC v σ H Q := q
theorem r_call (h : ta σ H fun vs H1 => sp (vs ++ dvs) H1 Q E) : tCall sp dvs E ta σ H Q := h
theorem r_cons (h : te σ H fun x H1 => tr σ H1 fun xs H2 => R (x :: xs) H2) : tCons te tr σ H R := h
theorem r_nil (h : R [] H) : tNil σ H R := h
theorem r_ev {H0 : Hp} (h : Ev te σ H0 v) (e : Ex H0 H) (q : ∀ H2, Ex H H2 → Q v H2) : te σ H Q := h H e Q q
theorem r_el {H0 : Hp} {xs : List V} (h : EvL te σ H0 xs) (e : Ex H0 H) (q : ∀ a H2, H a = none → Ex H H2 → H2 a = some (.lst xs) → Q (.ref a) H2) : te σ H Q := h H e Q q
theorem r_asg (h : te σ H fun v H1 => tz D (σ.set i (some v)) H1) : tSeq (tAsg te (gName i)) tz D σ H := h
theorem r_if {t : TT} (h : t σ H fun b H1 => if b = true then te σ H1 Q else tb σ H1 Q) : tIf t te tb σ H Q := h
theorem r_test {B : Bool → Hp → Prop} (h : te σ H fun x H' => ∃ k, x = .bl k ∧ B k H') : tTest te σ H B := h
theorem r_draw {K : PySem.W.Frag} {p sc : Addr} {ns : List Int} {n : Nat} (hP : Pool K H p sc ns) (ha : EvA ta σ H [.ref p, .int (n : Int)]) (h0 : 0 < n) (hn : n < 2 ^ 63) (q : ∀ (v : Nat) H', v < n → G K p sc ns H H' → Q (.int (v : Int)) H') : tCall (sp_draw K) [] E ta σ H Q :=
  ha H (Ex.refl H) _ fun H1 e1 => ⟨p, sc, ns, n, rfl, hP.ex e1, h0, hn, fun v H' hv g => q v H' hv (G.exL e1 g)⟩
theorem r_pick {K : PySem.W.Frag} {p sc : Addr} {ns : List Int} {xs : List V} (hP : Pool K H p sc ns) (ha : Ev te σ H (.ref p)) (hb : EvL tb σ H xs) (h0 : xs ≠ []) (hn : xs.length ≤ 1000) (q : ∀ v H', v ∈ xs → G K p sc ns H H' → Q v H') : tCall (sp_pick K) [] E (tCons te (tCons tb tNil)) σ H Q :=
  ha H (Ex.refl H) _ fun H1 e1 => hb H1 e1 _ fun a H2 hn2 e2 h2 => ⟨p, sc, ns, a, xs, rfl, hP.ex (e1.trans e2), sq_of h2, (hP.ex e1).ne hn2, h0, hn, fun v H' hv g => q v H' hv (G.exL (e1.trans e2) g)⟩
theorem r_lcR1 {g : TG} {tt : TT} {vs : List Nat} (h : ta σ H fun ws H1 => ∃ j : Int, ws = [.int j] ∧ -(2 ^ 62) ≤ j ∧ j < 2 ^ 62 ∧ ∀ D, H1 D = none → ∃ W : Nat → Nat → Hp → Prop, (∃ m, W 0 m (upd H1 D (.lst []))) ∧ ∀ i m H, W i m H →
    ((Itr 0 j.toNat).stop i H ∧ Q (.ref D) H) ∨ ((Itr 0 j.toNat).go i H ∧ ∃ Nx : Hp → Prop, (∀ H', Nx H' → ∃ m', m' < m ∧ W (i + 1) m' H') ∧ ∀ x H', (Itr 0 j.toNat).yld i H x H' → g x (wipe σ vs) H' fun σ2 H2 => wipe σ2 vs = wipe σ vs ∧ tt σ2 H2 fun b H3 =>
      if b = true then te σ2 H3 fun y H4 => ∃ acc, H4 D = some (.lst acc) ∧ acc.length < sizeLine ∧ Nx (upd H4 D (.lst (acc ++ [y]))) else Nx H3)) : tLc (iRng1 ta) g tt te vs σ H Q := h
theorem r_cb {g : List V → Hp → VK → Prop} (h : ta σ H fun xs H1 => g xs H1 Q) : tCB g ta σ H Q := h
end
/-! ### the numbers -/
def m89 : Nat := 618970019642690137449562111
def m107 : Nat := 162259276829213363391578010288127
def mixF (n p : Nat) : Nat :=
  let f := (n * 48271 + p * 69621 + 11) % m89
  let s := (f * f + 7 * f + p) % m107
  s * m89 + (s * s + f) % m89
def absF (i : Int) : Nat := if i < 0 then (1 - 2 * i).toNat else i.toNat
def restF (xs : List Int) (p f : Nat) : Nat :=
  let n := if 0 < xs.length then absF (xs.getD (p % xs.length) 0) else 0
  if f = 0 ∧ p < xs.length ∧ 10 ^ 18 ≤ n then n - 10 ^ 18 else mixF (n + f * 1000003) p
/-! ### sameness -/
mutual
def sameD : D → D → Bool
  | .non, .non => true
  | .bl a, .bl b => decide (a = b)
  | .int a, .int b => decide (a = b)
  | .str a, .str b => decide (a = b)
  | .tup a, .tup b => sameL a b
  | .lst a, .lst b => sameL a b
  | _, _ => false
def sameL : List D → List D → Bool
  | [], [] => true
  | a :: as, b :: bs => sameD a b && sameL as bs
  | _, _ => false
end
mutual
theorem sameD_refl : ∀ d, sameD d d = true
  | .non => by rw [sameD]
  | .bl _ => by rw [sameD]; exact decide_eq_true rfl
  | .int _ => by rw [sameD]; exact decide_eq_true rfl
  | .str _ => by rw [sameD]; exact decide_eq_true rfl
  | .tup ds => by rw [sameD]; exact sameL_refl ds
  | .lst ds => by rw [sameD]; exact sameL_refl ds
theorem sameL_refl : ∀ ds, sameL ds ds = true
  | [] => by rw [sameL]
  | d :: ds => by rw [sameL, sameD_refl d, sameL_refl ds]; rfl
end
end My

set_option Elab.async false
set_option linter.all false
set_option maxRecDepth 100000
set_option maxHeartbeats 1000000
/-! literals whose items are new tuples; loops over rows of two; a row picked. -/
namespace My
open PySem PySem.Spec PyProof.Rows L2 Evl
mutual
def plnB : D → Bool
  | .non => true
  | .bl _ => true
  | .int i => decide (i.natAbs < 2 ^ 64)
  | .str l => decide (l.length ≤ 1000) && l.all fun c => decide (c ∈ sgns)
  | .tup ds => decide (ds.length ≤ 1000) && plnBL ds
  | .lst _ => false
def plnBL : List D → Bool
  | [] => true
  | d :: ds => plnB d && plnBL ds
end
mutual
theorem plnB_ok : ∀ d, plnB d = true → Pln d
  | .non, _ => by rw [Pln]; trivial
  | .bl _, _ => by rw [Pln]; trivial
  | .int i, h => by rw [plnB] at h; rw [Pln]; exact of_decide_eq_true h
  | .str l, h => by
    rw [plnB, Bool.and_eq_true] at h
    rw [Pln]
    exact ⟨of_decide_eq_true h.1, fun c hc => of_decide_eq_true (List.all_eq_true.mp h.2 c hc)⟩
  | .tup ds, h => by
    rw [plnB, Bool.and_eq_true] at h
    rw [Pln]
    exact ⟨of_decide_eq_true h.1, plnBL_ok ds h.2⟩
  | .lst _, h => by rw [plnB] at h; exact nomatch h
theorem plnBL_ok : ∀ ds, plnBL ds = true → PlnL ds
  | [], _ => by rw [PlnL]; trivial
  | d :: ds, h => by
    rw [plnBL, Bool.and_eq_true] at h
    rw [PlnL]
    exact ⟨plnB_ok d h.1, plnBL_ok ds h.2⟩
end
def EvAR (ta : TA) (σ : L2.St) (H : Hp) (ds : List D) : Prop := EvAP ta σ H fun vs H' => Reps H' vs ds
section
variable {K : PySem.W.Frag} {σ : L2.St} {H : Hp} {ta tr : TA} {te tl tb : TE} {d : D} {ds : List D} {D0 : Ends} {tu tz : TS} {E : XK} {Q : VK}
theorem er_nil : EvAR tNil σ H [] := fun H1 _ Q q => q [] H1 (Ex.refl H1) .nil
theorem er_cons (h : EvD te σ H d) (hr : EvAR tr σ H ds) : EvAR (tCons te tr) σ H (d :: ds) := fun H1 e Q q =>
  h H1 e _ fun v H2 e2 r => hr H2 (e.trans e2) _ fun vs H3 e3 rs => q _ H3 (e2.trans e3) (.cons (r.mono e3) rs)
theorem ed_tup (h : EvAR ta σ H ds) (hn : ds.length ≤ 100000) : EvD (tTup ta) σ H (.tup ds) := fun H1 e Q q =>
  h H1 e _ fun vs H2 e2 rs => ⟨sz_of (by rw [rs.len]; exact hn), fun p hp => q (.ref p) _ (e2.trans (Ex.new hp)) (.tup upd_same (rs.mono (Ex.new hp)))⟩
theorem ed_lst (h : EvAR ta σ H ds) (hn : ds.length ≤ 100000) : EvD (tLst ta) σ H (.lst ds) := fun H1 e Q q =>
  h H1 e _ fun vs H2 e2 rs => ⟨sz_of (by rw [rs.len]; exact hn), fun p hp => q (.ref p) _ (e2.trans (Ex.new hp)) (.lst upd_same (rs.mono (Ex.new hp)))⟩
theorem rv_mulSn {c : Nat} {l : List Nat} {n : Int} (hm : MulOk (tx [c]) n) (he : Txt.mul (tx [c]) n = tx l) : RV rMulS (.str (tx [c])) (.int n) H (.str (tx l)) := fun H1 _ Q q =>
  ⟨tx [c], n, rfl, rfl, hm, by rw [he]; exact q H1 (Ex.refl H1)⟩
theorem q_forD2 {rows : List (D × D)} {j1 j2 : Nat} (h : EvD tl σ H (.lst (rows.map fun r => .tup [r.1, r.2]))) (Pv : Hp → Nat → L2.St → Hp → Prop) (h0 : ∀ H1, Ex H H1 → Pv H1 0 σ H1) (hk : ∀ H1 i σ' H', Pv H1 i σ' H' → Ex H1 H')
    (hs : ∀ H1 i r v1 v2 σ' H', Ex H H1 → rows[i]? = some r → Rep H' v1 r.1 → Rep H' v2 r.2 → Pv H1 i σ' H' → tu { D0 with nx := Pv H1 (i + 1), ct := Pv H1 (i + 1), bk := tz D0 } ((σ'.set j1 (some v1)).set j2 (some v2)) H')
    (hd : ∀ H1 σ' H', Ex H H1 → Pv H1 rows.length σ' H' → tz D0 σ' H') : tSeq (tFor (iList K tl) (gTup K 2 (gCons (gName j1) (gCons (gName j2) gNil))) tu) tz D0 σ H := by
  refine h H (Ex.refl H) _ fun v H1 e r => ?_
  cases r with
  | @lst a vs _ hl rs =>
    have hlen : vs.length = rows.length := by rw [rs.len, List.length_map]
    refine ⟨a, rfl, ⟨vs, sq_of hl⟩, for_list (Pv H1) (h0 H1 e) (fun i σ' H' _ p => sq_of (hk H1 i σ' H' p a _ hl)) (fun i x σ' H' hx p => ?_) (fun σ' H' p => hd H1 σ' H' e (by rw [← hlen]; exact p))⟩
    obtain ⟨d, hd', rd⟩ := rs.get' hx
    rw [List.getElem?_map] at hd'
    obtain ⟨r, hr, e2⟩ := Option.map_eq_some_iff.mp hd'
    rw [← e2] at rd
    have ex := hk H1 i σ' H' p
    cases rd with
    | tup ht rr =>
      cases rr with
      | cons r1 rr =>
        cases rr with
        | cons r2 rr =>
          cases rr
          exact ⟨_, _, rfl, st_of (ex _ _ ht), rfl, _, _, rfl, _, _, rfl, rfl, hs H1 i r _ _ σ' H' e hr (r1.mono ex) (r2.mono ex) p⟩
def tupB : D → Bool
  | .tup _ => true
  | _ => false
/-- a row picked -/
theorem r_pickD {p sc : Addr} {ns : List Int} (hP : Pool K H p sc ns) (ha : Ev te σ H (.ref p)) (hb : EvD tb σ H (.lst ds)) (h0 : ds ≠ []) (hn : ds.length ≤ 1000) (hp : plnBL ds = true) (ht : ds.all tupB = true) (q : ∀ v d H', d ∈ ds → Rep H' v d → G K p sc ns H H' → Q v H') : tCall (sp_pick K) [] E (tCons te (tCons tb tNil)) σ H Q :=
  ha H (Ex.refl H) _ fun H1 e1 => hb H1 e1 _ fun v H2 e2 r => by
    have E2 := e1.trans e2
    have P2 := hP.ex E2
    cases r with
    | @lst a vs _ hl rs =>
      have hne : a ≠ p := fun e => by
        subst e
        obtain ⟨_, r, f, h1, _⟩ := P2
        rw [h1] at hl
        have := HO.lst.inj (Option.some.inj hl)
        subst this
        cases rs with
        | cons r1 rs =>
          cases rs with
          | cons r2 rs =>
            cases r2
            rw [List.all_cons, List.all_cons, Bool.and_eq_true, Bool.and_eq_true] at ht
            exact nomatch ht.2.1
      refine ⟨p, sc, ns, a, vs, rfl, P2, sq_of hl, hne, ?_, by rw [rs.len]; exact hn, fun v H' hv g => ?_⟩
      · intro z
        subst z
        exact h0 (List.length_eq_zero_iff.mp rs.len.symm)
      · obtain ⟨i, hi, rfl⟩ := List.mem_iff_getElem.mp hv
        obtain ⟨d, hd, rd⟩ := rs.get' (List.getElem?_eq_getElem hi)
        exact q _ d H' (List.mem_of_getElem? hd) (Rep.g g P2 (PlnL_get (plnBL_ok _ hp) hd) rd) (G.exL E2 g)
end
end My

set_option Elab.async false
set_option linter.all false
set_option maxRecDepth 100000
set_option maxHeartbeats 1000000
/-! what the top has written: defs, numbers, texts, tuples. -/
namespace My
open PySem PySem.Spec PyProof.Rows L2 Evl
def HasF (K : PySem.W.Frag) (x : Str) (st : Stmt) : Prop := ∃ (f : Addr) (oc : Value) (od : Option Addr) (kV dc pm : Value) (an : Option Addr) (cd ct : Value) (sl : Array (Option Value)),
  PySem.W.nsIn K mainGlobals x = some (some (.ref f)) ∧ K.lookup f = some ⟨oc, od, .func (PySem.W.fnOf x x (defArgs st) (defBody st) (defScope st) .none kV dc pm an cd ct), sl⟩ ∧ PySem.W.codeIn K cd x = true ∧ PySem.W.keepIn K (.ref f) = true
def HasI (K : PySem.W.Frag) (x : Str) (n : Int) : Prop := ∃ t, PySem.W.nsIn K mainGlobals x = some (some (.int n t))
def HasS (K : PySem.W.Frag) (x z : Str) : Prop := ∃ t, PySem.W.nsIn K mainGlobals x = some (some (.str z t))
def HasT (K : PySem.W.Frag) (x : Str) (xs : List V) : Prop := ∃ (a : Addr) (o : Obj) (its : Array Value) (n : Nat), PySem.W.nsIn K mainGlobals x = some (some (.ref a)) ∧ K.lookup a = some o ∧ o.cls = .type "tuple" ∧ o.data = .seq its n ∧ its.size ≤ sizeLine ∧ Vals xs its.toList
section
variable {K : PySem.W.Frag} {h : Heap} {mg : Str → Option Value} {x z : Str} {st : Stmt} {n : Int} {xs : List V}
theorem HasF.mk' {f : Addr} {oc : Value} {od : Option Addr} {kV dc pm : Value} {an : Option Addr} {cd ct : Value} {sl : Array (Option Value)}
    (a : PySem.W.nsIn K mainGlobals x = some (some (.ref f))) (l : K.lookup f = some ⟨oc, od, .func (PySem.W.fnOf x x (defArgs st) (defBody st) (defScope st) .none kV dc pm an cd ct), sl⟩) (c : PySem.W.codeIn K cd x = true) (k : PySem.W.keepIn K (.ref f) = true) : HasF K x st :=
  ⟨f, oc, od, kV, dc, pm, an, cd, ct, sl, a, l, c, k⟩
theorem HasI.mk' {t : Tok} (a : PySem.W.nsIn K mainGlobals x = some (some (.int n t))) : HasI K x n := ⟨t, a⟩
theorem HasS.mk' {t : Tok} (a : PySem.W.nsIn K mainGlobals x = some (some (.str z t))) : HasS K x z := ⟨t, a⟩
theorem HasT.mk' {p : Addr} {od : Option Addr} {its : Array Value} {m : Nat} {sl : Array (Option Value)} (a : PySem.W.nsIn K mainGlobals x = some (some (.ref p))) (l : K.lookup p = some ⟨.type "tuple", od, .seq its m, sl⟩) (z : its.size ≤ sizeLine) (v : Vals xs its.toList) : HasT K x xs :=
  ⟨p, _, its, m, a, l, rfl, rfl, z, v⟩
theorem HasF.get (X : K.In h) (G : h.Ns mainGlobals mg) (H : HasF K x st) : ∃ f fd, Fun K x x st f fd ∧ mg x = some (.ref f) := by
  obtain ⟨f, oc, od, kV, dc, pm, an, cd, ct, sl, a, l, c, k⟩ := H
  exact ⟨f, _, fun_mk l c k, PySem.W.mg_of X G a⟩
theorem HasI.gi (X : K.In h) (G : h.Ns mainGlobals mg) (H : HasI K x n) : GI mg x n := by
  obtain ⟨t, a⟩ := H
  exact ⟨t, PySem.W.mg_of X G a⟩
theorem HasS.gs (X : K.In h) (G : h.Ns mainGlobals mg) (H : HasS K x z) : GS mg x z := by
  obtain ⟨t, a⟩ := H
  exact ⟨t, PySem.W.mg_of X G a⟩
theorem HasT.gt (X : K.In h) (G : h.Ns mainGlobals mg) (H : HasT K x xs) : GT K mg x xs := by
  obtain ⟨a, o, its, n, m, l, c, d, z, v⟩ := H
  exact ⟨a, PySem.W.mg_of X G m, fun _ => .inr ⟨o, its, n, l, c, d, z, v⟩⟩
end
end My

set_option Elab.async false
set_option linter.all false
set_option maxRecDepth 100000
set_option maxHeartbeats 1000000
/-! sorted of texts, any number of them: a list's, a dict's keys. -/
namespace My
open PySem PySem.Spec PyProof.Rows L2 Evl
def rSortSA (K : PySem.W.Frag) : List V → Hp → VK → Prop := fun vs H Q => ∃ (a : Addr) (ks : List Str), vs = [.ref a] ∧ SqL K H a (ks.map V.str) ∧ ks.length ≤ 100000 ∧
  ∀ ys p, ys.Perm ks → sortedS ys = true → H p = none → Q (.ref p) (upd H p (.lst (ys.map V.str)))
def rSortDA : List V → Hp → VK → Prop := fun vs H Q => ∃ (a : Addr) (kvs : List (Key × V)) (ks : List Str), vs = [.ref a] ∧ Rd H a (.dK kvs) ∧ kvs.map (·.1) = ks.map Sum.inr ∧ ks.length ≤ 100000 ∧
  ∀ ys p, ys.Perm ks → sortedS ys = true → H p = none → Q (.ref p) (upd H p (.lst (ys.map V.str)))
section
variable {X : Cx}
theorem cr_sortedSA : CallR X (.builtin "sorted") (rSortSA X.K) := by
  intro pins s σ H vs us Q I r h
  obtain ⟨a, ks, rfl, hs, hn, q⟩ := h
  rw [Vals.ref1 r]
  obtain ⟨its, rv, hl, _⟩ := I.list hs
  have hlen := rv.length
  rw [List.length_map] at hlen
  refine sorted_strsAny hl.isList rv.strs (by rw [← hlen]; exact sz_of hn) fun out ys h1 h2 h3 => ?_
  obtain ⟨ep, hat⟩ := sortedAll_at s.heap its out
  refine ⟨.ref _, upd H (s.heap.objs.size + 1) (.lst (ys.map V.str)), I.laid (t' := s.toks) (fun _ _ => sortedAll_old) (Nat.le_succ _) ⟨?_, out.toList, ep, vals_of_strs h1, hat⟩, rfl, q ys _ h2 h3 (I.hok.fresh (Nat.le_succ _))⟩
  rw [List.length_map, h2.length_eq]
  exact sz_of hn
theorem cr_sortedDA (hcalm : X.calm = true) : CallR X (.builtin "sorted") rSortDA := by
  intro pins s σ H vs us Q I r h
  obtain ⟨a, kvs, ks, rfl, hd, hks, hn, q⟩ := h
  rw [Vals.ref1 r]
  obtain ⟨z, lo, ws, rel, dd⟩ := dk_rd I.hok hd
  obtain ⟨ep, hat⟩ := dd.dictAt
  have hkeys : ws.map (·.1) = ks.map Sum.inr := rel.keys.symm.trans hks
  have hl : ws.length = ks.length := by simpa using congrArg List.length hkeys
  have hz : ks.length ≤ sizeLine := sz_of hn
  refine Calls.call_function_entry kind_sorted plain_sorted entry_sorted (args_sorted1 _) ?_
  unfold Builtin.«sorted»
  refine wpAny_bind (m := checkCount "sorted" 1 1 _) (wpAny_pure ?_)
  refine wpAny_bind (PySem.W.kdu_collect (A := X.A.in1) (PySem.W.kdl_dict (knd := mixKind X.prog X.w) (kvs := ws) (ep := ep) lo) (I.ok.hd hcalm) hat (by rw [hl]; exact hz) fun h' tk acc hk hacc => ?_)
  have hal : acc.toList.length = ks.length := by rw [Array.length_toList, hacc.1, hl]
  have hS : StrsAre acc.toList ks := strs_at hal fun j v e => by
    obtain ⟨k, x, e1, e2⟩ := hacc.2 j v (by rw [← Array.getElem?_toList]; exact e)
    have e3 : (ks.map Sum.inr)[j]? = some k := by rw [← hkeys, List.getElem?_map, e1]; rfl
    rw [List.getElem?_map] at e3
    obtain ⟨y, e4, e5⟩ := Option.map_eq_some_iff.mp e3
    subst e5
    obtain ⟨t, ev⟩ := Value.isStrOf_shape (x := y) (v := v) e2
    exact ⟨y, t, e4, ev⟩
  have I1 : Inv X pins σ H { s with heap := h', toks := tk } := I.kept hk
  refine wpAny_bind (wpAny_newList ?_ (by rw [hal]; exact hz))
  have hoL : (h'.push (seqObj "list" acc.toList.toArray 0)).get? h'.objs.size = some (seqObj "list" acc.toList.toArray 0) := Heap.get?_push_size _ rfl
  show wpAny _ _ _ _ _ { s with heap := h'.push (seqObj "list" acc.toList.toArray 0), toks := tk }
  refine wpAny_bind (wpAny_holding (wpAny_call_entry slot_list_sort ⟨_, hoL, rfl⟩ entry_list_sort
    (list_sort_treeKAny strKind_oneLt (s := { s with heap := h'.push (seqObj "list" acc.toList.toArray 0), toks := tk }) hoL hS.keysOf (fun v₁ v₂ rest e => keyKind_strs (by rw [← e]; exact hS)) (by rw [hal]; exact hz) fun st' hp hs => ⟨_, rfl, ?_⟩)
    (args_list_sort _)))
  obtain ⟨ys, g1, g2, g3⟩ := sorted_out_str hS hp hs
  obtain ⟨e', he'⟩ := sortedHeap_at (vs := acc.toList) (out := (arrOf st').map (·.2)) hoL
  refine wpAny_pure ⟨_, rfl, .ref h'.objs.size, upd H h'.objs.size (.lst (ys.map V.str)), I1.laid (t' := tk) (fun b u e => ?_) (Nat.le_refl _)
    (show ObjOk X.prog X.w _ _ _ (.lst (ys.map V.str)) from ⟨by rw [List.length_map, g2.length_eq]; exact hz, ((arrOf st').map (·.2)).toList, e', vals_of_strs g1, by rw [Array.toArray_toList]; exact he'⟩), rfl, q ys _ g2 g3 (I1.hok.fresh (Nat.le_refl _))⟩
  have hb : b < h'.objs.size := Heap.lt_size e
  rw [sortedHeap_old (Nat.ne_of_lt hb) (by rw [size_push']; exact Nat.lt_succ_of_lt hb)]
  exact Heap.get?_push_of_some _ e
end
end My

set_option Elab.async false
set_option linter.all false
set_option maxRecDepth 100000
set_option maxHeartbeats 1000000
/-! text.split of one sign, as a plain function. -/
namespace My
open PySem PySem.Spec PyProof.Rows L2 Evl PySem.StrLaws
def splitT (c : Nat) : List Nat → List (List Nat)
  | [] => [[]]
  | x :: r => if x = c then [] :: splitT c r else
    match splitT c r with
    | [] => [[x]]
    | p :: q => (x :: p) :: q
/-- where c stands, counted from a -/
def posn (c : Nat) : Nat → List Nat → List Nat
  | _, [] => []
  | a, x :: r => if x = c then a :: posn c (a + 1) r else posn c (a + 1) r
theorem sub_one {l : List Nat} {c i : Nat} : Builtin.Str.subAt (tx l) (tx [c]) i = decide (l[i]? = some c) := by
  rw [subAt_eq]
  show ((l.drop i).take 1 == [c]) = _
  cases h : l[i]? with
  | none =>
    rw [List.drop_of_length_le (List.getElem?_eq_none_iff.mp h)]
    rfl
  | some x =>
    obtain ⟨hi, hx⟩ := List.getElem?_eq_some_iff.mp h
    rw [List.drop_eq_getElem_cons hi, hx]
    show ([x] == [c]) = decide (some x = some c)
    by_cases e : x = c
    · subst e
      simp
    · rw [decide_eq_false fun z => e (Option.some.inj z)]
      exact beq_eq_false_iff_ne.mpr fun z => e (List.cons.inj z).1
theorem occ_run {l : List Nat} {c : Nat} : ∀ (m k : Nat) (st : Array Nat × Nat) (pre : List Nat), k + m = l.length + 1 → st.1.toList = pre → st.2 ≤ k → pre.length ≤ k →
    (forIn (List.range' k m) st (occBody (tx l) (tx [c]) l.length (l.length + 1))).run.fst.toList = pre ++ posn c k (l.drop k)
  | 0, k, st, pre, hk, hp, _, _ => by
    rw [List.drop_of_length_le (by omega)]
    show st.1.toList = pre ++ []
    rw [hp, List.append_nil]
  | m + 1, k, st, pre, hk, hp, h2, h3 => by
    rw [List.range'_succ, List.forIn_cons]
    unfold occBody
    have hsz : st.1.size ≤ k := by rw [← Array.length_toList, hp]; exact h3
    rw [sub_one]
    by_cases hx : l[k]? = some c
    · obtain ⟨hlt, hx'⟩ := List.getElem?_eq_some_iff.mp hx
      rw [if_pos ⟨⟨⟨by omega, h2⟩, by show k + 1 ≤ l.length; omega⟩, decide_eq_true hx⟩]
      have := occ_run (l := l) (c := c) m (k + 1) (st.1.push k, k + 1) (pre ++ [k]) (by omega) (by rw [Array.toList_push, hp]) (Nat.le_refl _) (by rw [List.length_append]; exact Nat.succ_le_succ h3)
      rw [List.drop_eq_getElem_cons hlt, posn, if_pos hx', List.append_cons]
      exact this
    · rw [if_neg fun z => hx (of_decide_eq_true z.2)]
      have := occ_run (l := l) (c := c) m (k + 1) (st.1, st.2) pre (by omega) hp (Nat.le_succ_of_le h2) (Nat.le_succ_of_le h3)
      by_cases hlt : k < l.length
      · rw [List.drop_eq_getElem_cons hlt, posn, if_neg fun z => hx (by rw [List.getElem?_eq_getElem hlt, z])]
        exact this
      · rw [List.drop_of_length_le (by omega)]
        rw [List.drop_of_length_le (by omega)] at this
        exact this
theorem occ_one {l : List Nat} {c : Nat} : Builtin.Str.occurrences (tx l) (tx [c]) 0 l.length (l.length + 1) = posn c 0 l := by
  rw [occ_eq]
  exact occ_run (l.length + 1) 0 (#[], 0) [] (by omega) rfl (Nat.le_refl _) (Nat.le_refl _)
theorem str_sub {l : List Nat} {i j : Nat} : Builtin.Str.strSub (tx l) i j = tx ((l.drop i).take (j - i)) := by
  refine Str.ext' (Array.toList_inj.mp ?_)
  rw [strSub_toList]
  rfl
theorem split_ne (c : Nat) : ∀ l, splitT c l ≠ []
  | [] => fun z => nomatch z
  | x :: r => by
    rw [splitT]
    split
    · exact fun z => nomatch z
    · split <;> exact fun z => nomatch z
def pre1 (p : List Nat) : List (List Nat) → List (List Nat)
  | [] => [p]
  | q :: r => (p ++ q) :: r
theorem parts_run {l : List Nat} {c : Nat} : ∀ (n a b : Nat), b + n = l.length → a ≤ b → partsFrom (tx l) 1 a (posn c b (l.drop b)) = (pre1 ((l.drop a).take (b - a)) (splitT c (l.drop b))).map tx
  | 0, a, b, hb, hab => by
    rw [List.drop_of_length_le (show l.length ≤ b by omega)]
    show [Builtin.Str.strSub (tx l) a (tx l).length] = [tx (_ ++ [])]
    rw [str_sub, tx_len, List.append_nil, show l.length = b by omega]
  | n + 1, a, b, hb, hab => by
    have hlt : b < l.length := by omega
    rw [List.drop_eq_getElem_cons hlt, posn, splitT]
    by_cases hx : l[b] = c
    · rw [if_pos hx, if_pos hx]
      show Builtin.Str.strSub (tx l) a b :: partsFrom (tx l) 1 (b + 1) _ = tx (_ ++ []) :: (splitT c (l.drop (b + 1))).map tx
      rw [str_sub, List.append_nil, parts_run n (b + 1) (b + 1) (by omega) (Nat.le_refl _), Nat.sub_self, List.take_zero]
      cases h : splitT c (l.drop (b + 1)) with
      | nil => exact absurd h (split_ne _ _)
      | cons p q => rfl
    · rw [if_neg hx, if_neg hx, parts_run n a (b + 1) (by omega) (by omega)]
      have e : (l.drop a).take (b + 1 - a) = (l.drop a).take (b - a) ++ [l[b]] := by
        rw [show b + 1 - a = (b - a) + 1 by omega, List.take_add_one, List.getElem?_drop, show a + (b - a) = b by omega, List.getElem?_eq_getElem hlt]
        rfl
      rw [e]
      cases h : splitT c (l.drop (b + 1)) with
      | nil => exact absurd h (split_ne _ _)
      | cons p q =>
        show (((_ ++ [l[b]]) ++ p) :: q).map tx = ((_ ++ (l[b] :: p)) :: q).map tx
        rw [List.append_assoc]
        rfl
theorem split_tx {l : List Nat} {c : Nat} (hc : c < 128) : Txt.split (tx l) (tx [c]) = (splitT c l).map tx := by
  have hk : ∀ x : Str, 1 ≤ Builtin.Str.strKind x := fun x => by
    unfold Builtin.Str.strKind
    split
    · decide
    · split <;> decide
  have h1 : Builtin.Str.strKind (tx [c]) = 1 := by
    unfold Builtin.Str.strKind
    rw [if_pos (by simp [tx]; omega)]
  have key : partsFrom (tx l) 1 0 (posn c 0 l) = (splitT c l).map tx := by
    have := parts_run (l := l) (c := c) l.length 0 0 (by omega) (Nat.le_refl _)
    rw [List.drop_zero, Nat.sub_zero, List.take_zero] at this
    rw [this]
    cases h : splitT c l with
    | nil => exact absurd h (split_ne _ _)
    | cons p q => rfl
  unfold Txt.split
  rw [show (tx [c]).length = 1 from rfl, h1]
  cases l with
  | nil => rfl
  | cons x r =>
    rw [if_neg (by
      have := hk (tx (x :: r))
      rw [tx_len]
      simp
      omega)]
    rw [show (tx (x :: r)).length = (x :: r).length from tx_len _, occ_one]
    cases hp : posn c 0 (x :: r) with
    | nil =>
      rw [hp] at key
      rw [if_pos (show (([] : List Nat).isEmpty = true) from rfl), ← key]
      show [tx (x :: r)] = [Builtin.Str.strSub _ 0 _]
      rw [str_sub, List.drop_zero, tx_len, Nat.sub_zero, List.take_length]
    | cons a b =>
      rw [if_neg (by intro z; exact nomatch z), partsBetween_eq, ← hp, key]
end My

set_option Elab.async false
set_option linter.all false
set_option maxRecDepth 100000
set_option maxHeartbeats 1000000
/-! comprehensions with a test over lists and tuples, by their items. -/
namespace My
open PySem PySem.Spec PyProof.Rows L2 Evl
section
variable {K : PySem.W.Frag} {σ : L2.St} {H : Hp} {te tl : TE} {tt : TT} {xs : List V} {a : Addr}
/-- the turn of a comprehension whose item is x -/
theorem lcf_turn {H1 H' : Hp} {σ2 : L2.St} {Dl : Addr} {f : V → Bool} {g : V → V} {i : Nat} {x : V} (hx : xs[i]? = some x) (hD : H1 Dl = none) (ex : Ex H1 H') (hl : H' Dl = some (.lst (((xs.take i).filter f).map g))) (hz : xs.length ≤ 40000)
    (ht : EvT tt σ2 H1 (f x)) (he : f x = true → Ev te σ2 H1 (g x)) :
    tt σ2 H' fun b H3 => if b = true then te σ2 H3 fun y H4 => ∃ acc, H4 Dl = some (.lst acc) ∧ acc.length < sizeLine ∧ (Ex H1 (upd H4 Dl (.lst (acc ++ [y]))) ∧ (upd H4 Dl (.lst (acc ++ [y]))) Dl = some (.lst (((xs.take (i + 1)).filter f).map g)))
      else (Ex H1 H3 ∧ H3 Dl = some (.lst (((xs.take (i + 1)).filter f).map g))) := by
  refine ht H' ex _ fun H3 e3 => ?_
  have E3 := ex.trans e3
  have l3 := e3 Dl _ hl
  rw [List.take_add_one, hx, List.filter_append]
  cases hf : f x with
  | false =>
    rw [if_neg (by decide)]
    refine ⟨E3, ?_⟩
    rw [l3]
    simp [hf]
  | true =>
    rw [if_pos rfl]
    refine he hf H3 E3 _ fun H4 e4 => ⟨_, e4 Dl _ l3, sz_lt ?_, (E3.trans e4).mut hD, ?_⟩
    · have h1 := List.length_filter_le f (xs.take i)
      rw [List.length_map]
      rw [List.length_take] at h1
      omega
    · rw [upd_same]
      simp [hf]
theorem el_lcF {j : Nat} {vs : List Nat} (f : V → Bool) (g : V → V) (h : EvL tl σ H xs) (hz : xs.length ≤ 40000) (hw : ∀ x, wipe ((wipe σ vs).set j (some x)) vs = wipe σ vs)
    (ht : ∀ x H1, Ex H H1 → x ∈ xs → EvT tt ((wipe σ vs).set j (some x)) H1 (f x)) (he : ∀ x H1, Ex H H1 → x ∈ xs → f x = true → Ev te ((wipe σ vs).set j (some x)) H1 (g x)) : EvL (tLc (iList K tl) (gName j) tt te vs) σ H ((xs.filter f).map g) := by
  intro H0 e Q q
  refine h H0 e _ fun a H1 ha e1 h1 => ⟨a, rfl, ⟨xs, sq_of h1⟩, fun Dl hD => ?_⟩
  refine ⟨fun i m H' => m = xs.length - i ∧ i ≤ xs.length ∧ Ex H1 H' ∧ H' Dl = some (.lst (((xs.take i).filter f).map g)), ⟨xs.length, rfl, Nat.zero_le _, Ex.new hD, upd_same⟩, ?_⟩
  rintro i m H' ⟨rfl, hi, ex, hl⟩
  by_cases hlt : i < xs.length
  · have gx : xs[i]? = some xs[i] := List.getElem?_eq_getElem hlt
    refine .inr ⟨⟨xs, xs[i], sq_of (ex a _ h1), gx⟩, fun H' => Ex H1 H' ∧ H' Dl = some (.lst (((xs.take (i + 1)).filter f).map g)), fun H2 p => ⟨xs.length - (i + 1), by omega, rfl, hlt, p⟩, fun x H2 y => ?_⟩
    obtain ⟨rfl, y⟩ := y
    have ex' : x = xs[i] := Option.some.inj ((y xs (sq_of (ex a _ h1))).symm.trans gx)
    subst ex'
    exact ⟨hw _, lcf_turn gx hD ex hl hz (ht _ H1 (e.trans e1) (List.mem_of_getElem? gx)) (he _ H1 (e.trans e1) (List.mem_of_getElem? gx))⟩
  · have e0 : i = xs.length := by omega
    subst e0
    rw [List.take_of_length_le (Nat.le_refl _)] at hl
    exact .inl ⟨⟨xs, sq_of (ex a _ h1), Nat.le_refl _⟩, q Dl H' (fresh_back e1 hD) (e1.trans ex) hl⟩
theorem el_lcA {j : Nat} {vs : List Nat} (f : V → Bool) (g : V → V) (h : Ev tl σ H (.ref a)) (hS : SqL K H a xs) (hz : xs.length ≤ 40000) (hw : ∀ x, wipe ((wipe σ vs).set j (some x)) vs = wipe σ vs)
    (ht : ∀ x H1, Ex H H1 → x ∈ xs → EvT tt ((wipe σ vs).set j (some x)) H1 (f x)) (he : ∀ x H1, Ex H H1 → x ∈ xs → f x = true → Ev te ((wipe σ vs).set j (some x)) H1 (g x)) : EvL (tLc (iList K tl) (gName j) tt te vs) σ H ((xs.filter f).map g) := by
  intro H0 e Q q
  refine h H0 e _ fun H1 e1 => ⟨a, rfl, ⟨xs, ex_l (e.trans e1) hS⟩, fun Dl hD => ?_⟩
  have S1 := ex_l (e.trans e1) hS
  refine ⟨fun i m H' => m = xs.length - i ∧ i ≤ xs.length ∧ Ex H1 H' ∧ H' Dl = some (.lst (((xs.take i).filter f).map g)), ⟨xs.length, rfl, Nat.zero_le _, Ex.new hD, upd_same⟩, ?_⟩
  rintro i m H' ⟨rfl, hi, ex, hl⟩
  by_cases hlt : i < xs.length
  · have gx : xs[i]? = some xs[i] := List.getElem?_eq_getElem hlt
    refine .inr ⟨⟨xs, xs[i], ex_l ex S1, gx⟩, fun H' => Ex H1 H' ∧ H' Dl = some (.lst (((xs.take (i + 1)).filter f).map g)), fun H2 p => ⟨xs.length - (i + 1), by omega, rfl, hlt, p⟩, fun x H2 y => ?_⟩
    obtain ⟨rfl, y⟩ := y
    have ex' : x = xs[i] := Option.some.inj ((y xs (ex_l ex S1)).symm.trans gx)
    subst ex'
    exact ⟨hw _, lcf_turn gx hD ex hl hz (ht _ H1 (e.trans e1) (List.mem_of_getElem? gx)) (he _ H1 (e.trans e1) (List.mem_of_getElem? gx))⟩
  · have e0 : i = xs.length := by omega
    subst e0
    rw [List.take_of_length_le (Nat.le_refl _)] at hl
    exact .inl ⟨⟨xs, ex_l ex S1, Nat.le_refl _⟩, q Dl H' (fresh_back e1 hD) (e1.trans ex) hl⟩
theorem el_lcT {j : Nat} {vs : List Nat} (f : V → Bool) (g : V → V) (h : Ev tl σ H (.ref a)) (hS : SqT K H a xs) (hz : xs.length ≤ 40000) (hw : ∀ x, wipe ((wipe σ vs).set j (some x)) vs = wipe σ vs)
    (ht : ∀ x H1, Ex H H1 → x ∈ xs → EvT tt ((wipe σ vs).set j (some x)) H1 (f x)) (he : ∀ x H1, Ex H H1 → x ∈ xs → f x = true → Ev te ((wipe σ vs).set j (some x)) H1 (g x)) : EvL (tLc (iTup K tl) (gName j) tt te vs) σ H ((xs.filter f).map g) := by
  intro H0 e Q q
  refine h H0 e _ fun H1 e1 => ⟨a, rfl, ⟨xs, ex_t (e.trans e1) hS⟩, fun Dl hD => ?_⟩
  have S1 := ex_t (e.trans e1) hS
  refine ⟨fun i m H' => m = xs.length - i ∧ i ≤ xs.length ∧ Ex H1 H' ∧ H' Dl = some (.lst (((xs.take i).filter f).map g)), ⟨xs.length, rfl, Nat.zero_le _, Ex.new hD, upd_same⟩, ?_⟩
  rintro i m H' ⟨rfl, hi, ex, hl⟩
  by_cases hlt : i < xs.length
  · have gx : xs[i]? = some xs[i] := List.getElem?_eq_getElem hlt
    refine .inr ⟨⟨xs, xs[i], ex_t ex S1, gx⟩, fun H' => Ex H1 H' ∧ H' Dl = some (.lst (((xs.take (i + 1)).filter f).map g)), fun H2 p => ⟨xs.length - (i + 1), by omega, rfl, hlt, p⟩, fun x H2 y => ?_⟩
    obtain ⟨rfl, y⟩ := y
    have ex' : x = xs[i] := Option.some.inj ((y xs (ex_t ex S1)).symm.trans gx)
    subst ex'
    exact ⟨hw _, lcf_turn gx hD ex hl hz (ht _ H1 (e.trans e1) (List.mem_of_getElem? gx)) (he _ H1 (e.trans e1) (List.mem_of_getElem? gx))⟩
  · have e0 : i = xs.length := by omega
    subst e0
    rw [List.take_of_length_le (Nat.le_refl _)] at hl
    exact .inl ⟨⟨xs, ex_t ex S1, Nat.le_refl _⟩, q Dl H' (fresh_back e1 hD) (e1.trans ex) hl⟩
end
end My

set_option Elab.async false
set_option linter.all false
set_option maxRecDepth 100000
set_option maxHeartbeats 2000000
/-! enumerate(tuple); loops over enumerate(list), enumerate(tuple). -/
namespace My
open PySem PySem.Spec PyProof.Rows L2 Evl
open Sem (wp)
theorem meets_enumerate_newB1 {v : Value} {o : Obj} {H : Heap → Prop} (B : Begins v o H) :
    Meets (Builtin.«enumerate.__new__» ⟨[.type "enumerate", v], []⟩) (fun _ R s => H s.heap ∧
      R (.ok (.ret (.ref (s.heap.push o).objs.size))) { s with heap := (s.heap.push o).push { cls := .type "enumerate", data := .fields #[.none, .bool false, .ref s.heap.objs.size, rawInt 0, .none, .none] } }) :=
  .of_wp fun prog w A R s h => by
    obtain ⟨hp, g, d, tk, os⟩ := s; obtain ⟨h1, h⟩ := h
    have hsub := sub_enumerate
    have q1 : ∀ {A' : Around} {E : Value → Shared → Prop} {Q : Value → Shared → Prop}, Q (.ref hp.objs.size) ⟨hp.push o, g, d, tk, os⟩ → wpAny (model prog w) A' (pyIter v) Q E ⟨hp, g, d, tk, os⟩ :=
      fun q => B.iter prog w _ _ ⟨hp, g, d, tk, os⟩ _ h1 q
    wp_walk using q1
    refine wpAny_stack_any fun st => wpAny_pure ?_
    split
    · rename_i c _ _ _ _ _
      cases (c == Value.type "enumerate")
      · wp_walk using q1
        exact ⟨_, rfl, h⟩
      · wp_walk using q1
        exact ⟨_, rfl, h⟩
    · wp_walk using q1
      exact ⟨_, rfl, h⟩
theorem enum_begins1 {prog : Program} {w : World} {A : Around} {E : Value → Shared → Prop} {s : Shared} {v : Value} {o : Obj} {H : Heap → Prop} {Q : Value → Shared → Prop} (B : Begins v o H) (h1 : H s.heap)
    (h : ∀ h', IsEnum h' (s.heap.objs.size + 1) s.heap.objs.size 0 .none → h'.get? s.heap.objs.size = some o → h'.objs.size = s.heap.objs.size + 2 →
      (∀ b o, s.heap.get? b = some o → h'.get? b = some o) → Q (.ref (s.heap.objs.size + 1)) { s with heap := h' }) :
    wpAny (model prog w) A (call (.type "enumerate") [v]) Q E s := by
  refine callType_new F.called_enumerate (by decide) (F.typeCall_enumerate_1 _) (F.newCall_enumerate_1 _) (fun obj => F.args_object_init_2 obj _) F.entry_enumerate_new
    (meets_enumerate_newB1 B) ⟨h1, ?_⟩
  have hz : (s.heap.push o).objs.size = s.heap.objs.size + 1 := Heap.size_push ..
  show _ ∧ _
  rw [hz]
  have he : IsEnum ((s.heap.push o).push { cls := .type "enumerate", data := .fields #[.none, .bool false, .ref s.heap.objs.size, rawInt 0, .none, .none] }) (s.heap.objs.size + 1) s.heap.objs.size 0 .none := by
    have := Heap.get?_push_size (s.heap.push o) (o := { cls := .type "enumerate", data := .fields #[.none, .bool false, .ref s.heap.objs.size, rawInt 0, .none, .none] }) rfl
    rw [hz] at this; exact this
  refine ⟨⟨_, he, rfl⟩, h _ he (Heap.get?_push_of_some _ (Heap.get?_push_size _ B.free)) (by rw [Heap.size_push, hz]) fun b o x => Heap.get?_push_of_some _ (Heap.get?_push_of_some _ x)⟩
def IteT (K : PySem.W.Frag) (a : Addr) : It :=
  ⟨fun i H => ∃ (xs : List V) (x : V), SqT K H a xs ∧ xs[i]? = some x, fun i H v H' => ∃ T x, v = .ref T ∧ H T = none ∧ H' = upd H T (.tup [.int (i : Nat), x]) ∧ ∀ xs, SqT K H a xs → xs[i]? = some x, fun i H => ∃ xs : List V, SqT K H a xs ∧ xs.length ≤ i⟩
theorem turn_enumT {P : Program} {w : World} {K : PySem.W.Frag} {elts : List Expr} {kk : Nat} {tpos : Pos} (a e it : Addr) :
    Turn P w K (.Tuple elts kk tpos) (IteT K a) [e, it] e (fun i h => (∃ old, IsEnum h e it ((i : Nat) : Int) old) ∧ h.IsTupleIter it a i ∧ e ≠ it ∧ e ≠ a ∧ a ≠ it) where
  mem := by simp
  obj := fun i h st b hb => by
    obtain ⟨⟨old, he⟩, ⟨o, ho, hc, hd⟩, _⟩ := st
    have e' : b = e ∨ b = it := by simpa using hb
    rcases e' with z | z
    · rw [z]; exact ⟨_, he, fun v q => nomatch q⟩
    · rw [z]; exact ⟨o, ho, fun v q => by rw [hd] at q; cases q⟩
  keep := fun i h h' st k => let ⟨⟨old, he⟩, hi, hne⟩ := st; ⟨⟨old, k e (by simp) _ he⟩, hi.at fun o q => k it (by simp) o q, hne⟩
  item := by
    intro X hP hw hK hc i pins s σ H E I hf st hg
    subst hP hw hK
    obtain ⟨⟨old, he⟩, hit, hne, hea, hai⟩ := st
    obtain ⟨xs, x, hq, hx⟩ := hg
    obtain ⟨its, rv, p, hz⟩ := I.tuple hq
    obtain ⟨u, hu, ru⟩ := rv.get hx
    have hel : e < s.heap.objs.size := Heap.lt_size he
    have hil : it < s.heap.objs.size := by obtain ⟨_, q, _⟩ := hit; exact Heap.lt_size q
    have hlt : i < its.toArray.size := by
      have := (List.getElem?_eq_some_iff.mp hu).1
      simpa using this
    have D := Draws.tuple (prog := X.prog) (w := X.w) (A := X.A.in1) (I.ok.hd hc) it a hai its.toArray
    refine wpAny_pyNext_enum_itemD D he ⟨hit, p⟩ hlt hne (by simp [hne, hea]) fun x' h' tk hP ho hst' hT hsz hk => ?_
    obtain ⟨hit', _⟩ := hst'
    have hux : x' = u := by
      have h1 : its.toArray[i]? = some u := by simpa using hu
      exact Option.some.inj (hP.symm.trans h1)
    subst hux
    refine ⟨_, rfl, wpAny_letOwnedTupleGo_enum (s := { s with heap := h', toks := tk + 1 }) ho fun h'' he' sb => ?_⟩
    have hT2 : h''.get? s.heap.objs.size = some { cls := .type "tuple", data := .seq #[.int i tk, x'] } := (sb.2 _ (Nat.ne_of_gt hel)).trans hT
    have new : ObjOk X.prog X.w (upd H s.heap.objs.size (.tup [.int (i : Nat), x])) h'' s.heap.objs.size (.tup [.int (i : Nat), x]) :=
      ⟨by show 2 ≤ sizeLine; decide, [.int i tk, x'], .cons ⟨_, rfl⟩ (.cons ru .nil), ⟨_, hT2, rfl, _, rfl⟩⟩
    have I1 : Inv X pins σ (upd H s.heap.objs.size (.tup [.int (i : Nat), x])) { s with heap := h'', toks := tk + 1 } :=
      I.turnedNew (ch := [e, it]) (fun b ob hb q => (sb.2 b (fun z => hb (by simp [z]))).trans (hk b ob (fun z => hb (by simp [z])) (fun z => hb (by simp [z])) q)) hf (Nat.le_refl _) new
    refine ⟨.ref s.heap.objs.size, _, I1, rfl, ⟨_, x, rfl, I.hok.fresh (Nat.le_refl _), rfl, fun ys hy => by rw [I.tuple_inj hy hq]; exact hx⟩, ⟨⟨x', ?_⟩, hit'.at fun o q => (sb.2 it (Ne.symm hne)).trans q, hne, hea, hai⟩, fun b hb => ?_⟩
    · have e1 : ((i + 1 : Nat) : Int) = (i : Int) + 1 := by omega
      rw [e1]; exact he'
    · have hb' : b < s.heap.objs.size := by
        have e' : b = e ∨ b = it := by simpa using hb
        rcases e' with z | z
        · rw [z]; exact hel
        · rw [z]; exact hil
      rw [upd_ne (Nat.ne_of_lt hb')]
      exact (hf b hb).1
  done := by
    intro X hP hw hK hc i pins s σ H E I hf st hg
    subst hP hw hK
    obtain ⟨⟨old, he⟩, hit, hne, hea, hai⟩ := st
    obtain ⟨xs, hq, hx⟩ := hg
    obtain ⟨its, rv, p, hz⟩ := I.tuple hq
    obtain ⟨f0, f1, f2, f3, f4, f5⟩ := hf it (by simp)
    have hl := rv.length
    have D := Draws.tuple (prog := X.prog) (w := X.w) (A := X.A.in1) (I.ok.hd hc) it a hai its.toArray
    have hT : s.TypeIs (.ref e) "enumerate" := ⟨_, he, rfl⟩
    unfold pyNext
    refine wpAny_bind (wpAny_attempt (wpAny_callSpecial?_slot (name := Str.ofString "__next__") hT F.slot_enumerate_next
      (wpAny_call_entry F.slot_enumerate_next hT F.entry_enumerate_next ?_ (F.args_enumerate_next_1 _))))
    show wpAny _ _ (field (.ref e) 2 >>= _) _ _ _
    refine wpAny_bind (wpAny_field he rfl (x := .ref it) rfl ?_)
    refine wpAny_bind (wpAny_nextOf_tuple_end (I.ok.hd hc) hit (show s.heap.IsTuple a its.toArray from p) (by simp; omega) fun h' x he' hx' => ?_)
    obtain ⟨o, ho, hc'⟩ := hx'
    refine wpAny_bind (wpAny_isInstance (T := "StopIteration") (b := true) ⟨o, ho, hc'⟩ isSubtype_stop ?_)
    exact wpAny_pure ⟨rfl, I.turned (t' := s.toks) (fun b o hb q => he' b o hb q) f0 f1 f3 f4 f5⟩
  self := fun A i s Q E st h => let ⟨⟨_, he⟩, _⟩ := st; wpAny_pyIter_enum he h
def iEnumT (K : PySem.W.Frag) (ta : TA) : TI := fun σ H R => ta σ H fun vs H1 => ∃ a xs, vs = [.ref a] ∧ SqT K H1 a xs ∧ R (IteT K a) H1
theorem pi_enumT {X : Cx} {e : Expr} {ta : TA} {p pos tpos : Pos} {elts : List Expr} {kk : Nat} (hg : Gl X "enumerate") (hm : X.mg "enumerate" = none) (ha : PA X [e] ta) (hs : starEach [e] X.env = [(false, eval e X.env)] := by rfl) :
    PI X (.Tuple elts kk tpos) (.Call (.Name "enumerate" p) [e] [] pos) (iEnumT X.K ta) := by
  refine ⟨fun pins s σ H R I h => ?_⟩
  refine Call_ (ld_blt I hg hm boot_enumerate (PyProof.Rows.callWith_type1 (thn (ha.run pos pins s σ H _ I h) fun us s1 ⟨vs, H1, I1, r1, q1⟩ => ?_) hs rfl))
  obtain ⟨a, xs, ex, hq, q⟩ := q1
  subst ex
  cases r1 with
  | cons r rr =>
    cases rr
    cases r
    obtain ⟨its, rv, p', hz⟩ := I1.tuple hq
    have hal : a < s1.heap.objs.size := by obtain ⟨_, q', _⟩ := (show s1.heap.IsTuple a its.toArray from p'); exact Heap.lt_size q'
    refine enum_begins1 (begins_tuple a its.toArray) (show s1.heap.IsTuple a its.toArray from p') fun h' he hit hsz hk => wpAny_pyIter_enum he ?_
    have I2 : Inv X pins σ H1 { s1 with heap := h' } := I1.kept (t' := s1.toks) hk
    refine ⟨s1.heap.objs.size + 1, [s1.heap.objs.size + 1, s1.heap.objs.size], _, _, H1, rfl, I2, turn_enumT a (s1.heap.objs.size + 1) s1.heap.objs.size, ⟨⟨.none, he⟩, ⟨_, hit, rfl, rfl⟩, Nat.succ_ne_self _, Nat.ne_of_gt (Nat.lt_succ_of_lt hal), Nat.ne_of_lt hal⟩, fun b hb => ?_, q⟩
    have e' : b = s1.heap.objs.size + 1 ∨ b = s1.heap.objs.size := by simpa using hb
    have hle : s1.heap.objs.size ≤ b := by
      rcases e' with z | z
      · rw [z]; exact Nat.le_add_right _ _
      · rw [z]; exact Nat.le_refl _
    exact I1.fpOk hle (I1.hok.fresh hle)
section
variable {K : PySem.W.Frag} {σ : L2.St} {H : Hp} {te : TE} {xs : List V} {a : Addr} {D : Ends} {tu tz : TS}
/-- for i, x in enumerate(xs) -/
theorem s_forE {j1 j2 : Nat} (h : Ev te σ H (.ref a)) (hS : SqL K H a xs) (Pv : Nat → L2.St → Hp → Prop) (h0 : ∀ H1, Ex H H1 → Pv 0 σ H1) (hk : ∀ i σ' H', i ≤ xs.length → Pv i σ' H' → SqL K H' a xs)
    (hs : ∀ i x σ' H' H2, xs[i]? = some x → Pv i σ' H' → Ex H' H2 → tu { D with nx := Pv (i + 1), ct := Pv (i + 1), bk := D.nx } ((σ'.set j1 (some (.int (i : Int)))).set j2 (some x)) H2)
    (hd : ∀ σ' H', Pv xs.length σ' H' → D.nx σ' H') : tFor (iEnum K (tCons te tNil)) (gTup K 2 (gCons (gName j1) (gCons (gName j2) gNil))) tu D σ H := by
  refine h H (Ex.refl H) _ fun H1 e1 => ⟨a, xs, rfl, ex_l e1 hS, ?_⟩
  refine ⟨fun i m σ' H' => m = xs.length - i ∧ i ≤ xs.length ∧ Pv i σ' H', ⟨xs.length, rfl, Nat.zero_le _, h0 H1 e1⟩, ?_⟩
  rintro i m σ' H' ⟨rfl, hi, p⟩
  have S := hk i σ' H' hi p
  by_cases hlt : i < xs.length
  · have gx : xs[i]? = some xs[i] := List.getElem?_eq_getElem hlt
    refine .inr ⟨⟨xs, _, S, gx⟩, Pv (i + 1), fun σ2 H2 p2 => ⟨xs.length - (i + 1), by omega, rfl, hlt, p2⟩, fun v H2 y => ?_⟩
    obtain ⟨T, x', rfl, hT, rfl, f1⟩ := y
    exact ⟨T, [.int (i : Nat), x'], rfl, st_of upd_same, rfl, _, _, rfl, _, _, rfl, rfl, hs i x' σ' H' _ (f1 xs S) p (Ex.new hT)⟩
  · have e0 : i = xs.length := by omega
    subst e0
    exact .inl ⟨⟨xs, S, Nat.le_refl _⟩, hd σ' H' p⟩
theorem s_forET {j1 j2 : Nat} (h : Ev te σ H (.ref a)) (hS : SqT K H a xs) (Pv : Nat → L2.St → Hp → Prop) (h0 : ∀ H1, Ex H H1 → Pv 0 σ H1) (hk : ∀ i σ' H', i ≤ xs.length → Pv i σ' H' → SqT K H' a xs)
    (hs : ∀ i x σ' H' H2, xs[i]? = some x → Pv i σ' H' → Ex H' H2 → tu { D with nx := Pv (i + 1), ct := Pv (i + 1), bk := D.nx } ((σ'.set j1 (some (.int (i : Int)))).set j2 (some x)) H2)
    (hd : ∀ σ' H', Pv xs.length σ' H' → D.nx σ' H') : tFor (iEnumT K (tCons te tNil)) (gTup K 2 (gCons (gName j1) (gCons (gName j2) gNil))) tu D σ H := by
  refine h H (Ex.refl H) _ fun H1 e1 => ⟨a, xs, rfl, ex_t e1 hS, ?_⟩
  refine ⟨fun i m σ' H' => m = xs.length - i ∧ i ≤ xs.length ∧ Pv i σ' H', ⟨xs.length, rfl, Nat.zero_le _, h0 H1 e1⟩, ?_⟩
  rintro i m σ' H' ⟨rfl, hi, p⟩
  have S := hk i σ' H' hi p
  by_cases hlt : i < xs.length
  · have gx : xs[i]? = some xs[i] := List.getElem?_eq_getElem hlt
    refine .inr ⟨⟨xs, _, S, gx⟩, Pv (i + 1), fun σ2 H2 p2 => ⟨xs.length - (i + 1), by omega, rfl, hlt, p2⟩, fun v H2 y => ?_⟩
    obtain ⟨T, x', rfl, hT, rfl, f1⟩ := y
    exact ⟨T, [.int (i : Nat), x'], rfl, st_of upd_same, rfl, _, _, rfl, _, _, rfl, rfl, hs i x' σ' H' _ (f1 xs S) p (Ex.new hT)⟩
  · have e0 : i = xs.length := by omega
    subst e0
    exact .inl ⟨⟨xs, S, Nat.le_refl _⟩, hd σ' H' p⟩
theorem q_forE {j1 j2 : Nat} (h : Ev te σ H (.ref a)) (hS : SqL K H a xs) (Pv : Nat → L2.St → Hp → Prop) (h0 : ∀ H1, Ex H H1 → Pv 0 σ H1) (hk : ∀ i σ' H', i ≤ xs.length → Pv i σ' H' → SqL K H' a xs)
    (hs : ∀ i x σ' H' H2, xs[i]? = some x → Pv i σ' H' → Ex H' H2 → tu { D with nx := Pv (i + 1), ct := Pv (i + 1), bk := tz D } ((σ'.set j1 (some (.int (i : Int)))).set j2 (some x)) H2)
    (hd : ∀ σ' H', Pv xs.length σ' H' → tz D σ' H') : tSeq (tFor (iEnum K (tCons te tNil)) (gTup K 2 (gCons (gName j1) (gCons (gName j2) gNil))) tu) tz D σ H :=
  s_forE (D := { D with nx := tz D }) h hS Pv h0 hk hs hd
theorem q_forET {j1 j2 : Nat} (h : Ev te σ H (.ref a)) (hS : SqT K H a xs) (Pv : Nat → L2.St → Hp → Prop) (h0 : ∀ H1, Ex H H1 → Pv 0 σ H1) (hk : ∀ i σ' H', i ≤ xs.length → Pv i σ' H' → SqT K H' a xs)
    (hs : ∀ i x σ' H' H2, xs[i]? = some x → Pv i σ' H' → Ex H' H2 → tu { D with nx := Pv (i + 1), ct := Pv (i + 1), bk := tz D } ((σ'.set j1 (some (.int (i : Int)))).set j2 (some x)) H2)
    (hd : ∀ σ' H', Pv xs.length σ' H' → tz D σ' H') : tSeq (tFor (iEnumT K (tCons te tNil)) (gTup K 2 (gCons (gName j1) (gCons (gName j2) gNil))) tu) tz D σ H :=
  s_forET (D := { D with nx := tz D }) h hS Pv h0 hk hs hd
end
end My

set_option Elab.async false
set_option linter.all false
set_option maxRecDepth 100000
set_option maxHeartbeats 2000000
/-! own classes: methods bundled, fields read, dicts with text keys. -/
namespace My
open PySem PySem.Spec PyProof.Rows L2 Evl
structure MCal (P : Program) (w : World) (K : PySem.W.Frag) (mg : Str → Option Value) (base : Heap) (k : Nat) (C : Addr) (m : Str) (ps : List Str) (sp : Sp) : Prop where
  ex : ∃ f fd, FnOk P w K mg base CX0 k f fd ps sp ∧ Binds K fd ps [] ∧ Meth K C m f
theorem MCal.mono {P : Program} {w : World} {K : PySem.W.Frag} {mg : Str → Option Value} {base : Heap} {j k : Nat} {C : Addr} {m : Str} {ps : List Str} {sp : Sp} (M : MCal P w K mg base j C m ps sp) (h : j ≤ k) : MCal P w K mg base k C m ps sp := by
  obtain ⟨f, fd, F, b, mm⟩ := M.ex
  exact ⟨f, fd, F.mono h, b, mm⟩
theorem pe_mcal {X : Cx} {k j : Nat} {C : Addr} {m : Str} {ps : List Str} {sp : Sp} {o e : Expr} {es : List Expr} {ta : TE} {t : TA} {pos apos : Pos} {pl : Sem Bool} (c : Cls X.K C) (M : MCal X.prog X.w X.K X.mg X.base k C m ps sp) (hr : Room j X.A) (he : PE X o ta) (ha : PA X (e :: es) t)
    (hle : k ≤ j := by first | exact Nat.le_refl _ | decide | omega)
    (hst : starEach (e :: es) X.env = (false, eval e X.env) :: starEach es X.env := by rfl) (hpl : (backTo pos (starEach es X.env)).any (·.1) = false := by rfl)
    (ht : eval (.Call (.Attribute o m apos) (e :: es) [] pos) X.env = (do
      let ov ← eval o X.env
      standAt apos.atName
      let (f, first) ← holding [ov] (getMethod ov m pl)
      callWith pos f first (backTo pos (starEach (e :: es) X.env)) (backToKw pos (keywordEach [] X.env))) := by rfl) :
    PE X (.Call (.Attribute o m apos) (e :: es) [] pos) (tMeth C m sp [] E0 ta t) := by
  obtain ⟨f, fd, F, b, mm⟩ := M.ex
  exact pe_meth (pl := pl) he c mm F (hr.mono hle) b .nil pass0 ha hst hpl ht
/-- an own class with its __init__ -/
structure MkC (P : Program) (w : World) (K : PySem.W.Frag) (mg : Str → Option Value) (base : Heap) (k : Nat) (x : Str) (C : Addr) (ps : List Str) (sp : Sp) : Prop where
  ex : ∃ f fd, FnOk P w K mg base CX0 k f fd ps sp ∧ Binds K fd ps [] ∧ Mk K C f ∧ mg x = some (.ref C)
theorem MkC.mono {P : Program} {w : World} {K : PySem.W.Frag} {mg : Str → Option Value} {base : Heap} {j k : Nat} {x : Str} {C : Addr} {ps : List Str} {sp : Sp} (M : MkC P w K mg base j x C ps sp) (h : j ≤ k) : MkC P w K mg base k x C ps sp := by
  obtain ⟨f, fd, F, b, mm⟩ := M.ex
  exact ⟨f, fd, F.mono h, b, mm⟩
theorem pe_mkc0 {X : Cx} {k j : Nat} {x : Str} {C : Addr} {ps : List Str} {sp : Sp} {p pos : Pos} (M : MkC X.prog X.w X.K X.mg X.base k x C ps sp) (hr : Room j X.A) (hle : k + 1 ≤ j := by first | exact Nat.le_refl _ | decide | omega) (hg : Gl X x := by rfl) (hdb : (x == ("__debug__" : Str)) = false := by decide) :
    PE X (.Call (.Name x p) [] [] pos) (tMake C sp [] E0 tNil) := by
  obtain ⟨f, fd, F, b, mm, hm⟩ := M.ex
  exact pe_make0 mm F (hr.mono hle) hg hm b .nil pass0 hdb
section
variable {K : PySem.W.Frag} {σ : L2.St} {H H' : Hp} {ta tb tc te td ty tl : TE} {t : TA} {xs : List V} {x y z v : V} {p a d C dx : Addr} {D : Ends} {tu tz : TS} {fs : List (Str × V)} {f : Str} {kvs : List (Key × V)} {l : List Nat}
theorem ev_fld (h : Ev te σ H (.ref a)) (hi : H a = some (.ins C dx fs)) (c : Cls K C) (n : NoAttr K C f) (hl : fs.lookup f = some v) : Ev (tFld K te f) σ H v := fun H1 e Q q =>
  h H1 e _ fun H2 e2 => ⟨a, C, dx, fs, v, rfl, (e.trans e2) a _ hi, c, n, hl, q H2 e2⟩
theorem ev_din (h : Ev td σ H (.ref d)) (hd : H d = some (.dK kvs)) (hk : Ev ty σ H (.str (tx l))) : Ev (tDIn ty td) σ H (.bl (valV kvs (.inr (tx l))).isSome) := fun H1 e Q q =>
  hk H1 e _ fun H2 e2 => h H2 (e.trans e2) _ fun H3 e3 => ⟨d, _, rfl, DGet.k (k := Sum.inr (tx l)) (((e.trans e2).trans e3) d _ hd), q H3 (e2.trans e3)⟩
theorem ev_dget (h : Ev td σ H (.ref d)) (hd : H d = some (.dK kvs)) (hk : Ev ty σ H (.str (tx l))) (hv : valV kvs (.inr (tx l)) = some v) : Ev (tDGet td ty) σ H v := fun H1 e Q q =>
  h H1 e _ fun H2 e2 => hk H2 (e.trans e2) _ fun H3 e3 => ⟨d, v, rfl, by rw [← hv]; exact DGet.k (k := Sum.inr (tx l)) (((e.trans e2).trans e3) d _ hd), q H3 (e2.trans e3)⟩
/-- d[k] = v -/
theorem s_dput (hd : H d = some (.dK kvs)) (hv : Ev te σ H v) (h : Ev td σ H (.ref d)) (hk : Ev ty σ H (.str (tx l))) (hn : kvs.length < 100000) (k : ∀ H1, Ex H H1 → D.nx σ (upd H1 d (.dK (putK kvs (.inr (tx l)) v)))) : sDPut td ty te D σ H :=
  hv H (Ex.refl H) _ fun H1 e1 => h H1 e1 _ fun H2 e2 => hk H2 (e1.trans e2) _ fun H3 e3 => ⟨d, _, rfl, DPut.k (k := Sum.inr (tx l)) (((e1.trans e2).trans e3) d _ hd) (sz_lt hn), k H3 ((e1.trans e2).trans e3)⟩
theorem q_dput (hd : H d = some (.dK kvs)) (hv : Ev te σ H v) (h : Ev td σ H (.ref d)) (hk : Ev ty σ H (.str (tx l))) (hn : kvs.length < 100000) (k : ∀ H1, Ex H H1 → tz D σ (upd H1 d (.dK (putK kvs (.inr (tx l)) v)))) : tSeq (sDPut td ty te) tz D σ H := s_dput (D := { D with nx := tz D }) hd hv h hk hn k
theorem q_dnew {i : Nat} (k : ∀ p, H p = none → tz D (σ.set i (some (.ref p))) (upd H p (.dK []))) : tSeq (tAsg tDNewK (gName i)) tz D σ H := fun p hp => k p hp
/-- a loop over a tuple that an expression gives -/
theorem s_forTX {j : Nat} (h : ∀ Q : VK, (∀ a H1, Ex H H1 → H1 a = some (.tup xs) → Q (.ref a) H1) → te σ H Q) (Pv : Hp → Nat → L2.St → Hp → Prop) (h0 : ∀ H1, Ex H H1 → Pv H1 0 σ H1) (hk : ∀ H1 i σ' H' a us, Pv H1 i σ' H' → H1 a = some (.tup us) → H' a = some (.tup us))
    (hs : ∀ H1 i x σ' H', Ex H H1 → xs[i]? = some x → Pv H1 i σ' H' → tu { D with nx := Pv H1 (i + 1), ct := Pv H1 (i + 1), bk := D.nx } (σ'.set j (some x)) H') (hd : ∀ H1 σ' H', Ex H H1 → Pv H1 xs.length σ' H' → D.nx σ' H') : tFor (iTup K te) (gName j) tu D σ H := by
  refine h _ fun a H1 e1 h1 => ⟨a, rfl, ⟨xs, st_of h1⟩, ?_⟩
  refine ⟨fun i m σ' H' => m = xs.length - i ∧ i ≤ xs.length ∧ Pv H1 i σ' H', ⟨xs.length, rfl, Nat.zero_le _, h0 H1 e1⟩, ?_⟩
  rintro i m σ' H' ⟨rfl, hi, p⟩
  have S : SqT K H' a xs := st_of (hk H1 i σ' H' a xs p h1)
  by_cases hlt : i < xs.length
  · have gx : xs[i]? = some xs[i] := List.getElem?_eq_getElem hlt
    refine .inr ⟨⟨xs, _, S, gx⟩, Pv H1 (i + 1), fun σ2 H2 p2 => ⟨xs.length - (i + 1), by omega, rfl, hlt, p2⟩, fun v H2 y => ?_⟩
    obtain ⟨rfl, f1⟩ := y
    exact hs H1 i v σ' _ e1 (f1 xs S) p
  · have e0 : i = xs.length := by omega
    subst e0
    exact .inl ⟨⟨xs, S, Nat.le_refl _⟩, hd H1 σ' H' e1 p⟩
/-! what a text's dict holds, keys alone -/
def dkS (ks : List (List Nat)) : List (Key × V) := ks.map fun k => (Sum.inr (tx k), V.bl true)
theorem inr_tx {a b : List Nat} : ((Sum.inr (tx a) : Key) = Sum.inr (tx b)) ↔ a = b := ⟨fun h => tx_inj (Sum.inr.inj h), fun h => by rw [h]⟩
theorem dkS_any (ks : List (List Nat)) (w : List Nat) : (dkS ks).any (fun kv => decide (kv.1 = Sum.inr (tx w))) = decide (w ∈ ks) := by
  unfold dkS
  rw [List.any_map, Bool.eq_iff_iff, List.any_eq_true, decide_eq_true_eq]
  constructor
  · rintro ⟨k, hk, h⟩
    have := inr_tx.mp (of_decide_eq_true h)
    rw [← this]
    exact hk
  · exact fun h => ⟨w, h, decide_eq_true rfl⟩
theorem dkS_put (ks : List (List Nat)) (w : List Nat) : putK (dkS ks) (Sum.inr (tx w)) (V.bl true) = dkS (if w ∈ ks then ks else ks ++ [w]) := by
  by_cases h : w ∈ ks
  · have e : (dkS ks).any (fun kv => decide (kv.1 = Sum.inr (tx w))) = true := by rw [dkS_any, decide_eq_true h]
    unfold putK
    rw [if_pos e, if_pos h]
    have : ∀ l : List (List Nat), (dkS l).map (fun kv => if kv.1 = Sum.inr (tx w) then (kv.1, V.bl true) else kv) = dkS l := by
      intro l
      unfold dkS
      rw [List.map_map]
      refine List.map_congr_left fun k _ => ?_
      show (if (Sum.inr (tx k) : Key) = Sum.inr (tx w) then ((Sum.inr (tx k) : Key), V.bl true) else (Sum.inr (tx k), V.bl true)) = _
      rw [ite_self]
    exact this ks
  · have e : (dkS ks).any (fun kv => decide (kv.1 = Sum.inr (tx w))) = false := by rw [dkS_any, decide_eq_false h]
    unfold putK
    rw [e, if_neg (by decide), if_neg h]
    unfold dkS
    rw [List.map_append]
    rfl
end
end My

set_option Elab.async false
set_option linter.all false
set_option maxRecDepth 100000
set_option maxHeartbeats 2000000
/-! distinct texts, sorted texts; sorted(..), tuple(..) of them. -/
namespace My
open PySem PySem.Spec PyProof.Rows L2 Evl
abbrev L := List Nat
/-! distinct texts, in the order of their first places -/
def addF (acc : List L) (x : L) : List L := if x ∈ acc then acc else acc ++ [x]
def dedF (l : List L) : List L := l.foldl addF []
theorem add_mem {acc : List L} {x y : L} : y ∈ addF acc x ↔ y ∈ acc ∨ y = x := by
  unfold addF
  split
  · rename_i h
    constructor
    · exact fun z => .inl z
    · rintro (z | rfl)
      · exact z
      · exact h
  · rw [List.mem_append, List.mem_singleton]
theorem add_nodup {acc : List L} {x : L} (h : acc.Nodup) : (addF acc x).Nodup := by
  unfold addF
  split
  · exact h
  · rename_i hx
    rw [List.nodup_append]
    exact ⟨h, by simp, fun a ha b hb => by
      rw [List.mem_singleton] at hb
      subst hb
      intro e
      subst e
      exact hx ha⟩
theorem add_len {acc : List L} {x : L} : (addF acc x).length ≤ acc.length + 1 := by
  unfold addF
  split
  · exact Nat.le_succ _
  · rw [List.length_append]; exact Nat.le_refl _
theorem fold_mem (l : List L) : ∀ (acc : List L) (y : L), y ∈ l.foldl addF acc ↔ y ∈ acc ∨ y ∈ l := by
  induction l with
  | nil => intro acc y; simp
  | cons x r ih =>
    intro acc y
    rw [List.foldl_cons, ih, add_mem, List.mem_cons, or_assoc]
theorem fold_nodup (l : List L) : ∀ (acc : List L), acc.Nodup → (l.foldl addF acc).Nodup := by
  induction l with
  | nil => exact fun _ h => h
  | cons x r ih => exact fun acc h => ih _ (add_nodup h)
theorem fold_len (l : List L) : ∀ (acc : List L), (l.foldl addF acc).length ≤ acc.length + l.length := by
  induction l with
  | nil => exact fun _ => Nat.le_refl _
  | cons x r ih =>
    intro acc
    have h1 := ih (addF acc x)
    have h2 := @add_len acc x
    rw [List.foldl_cons, List.length_cons]
    omega
theorem ded_mem {l : List L} {y : L} : y ∈ dedF l ↔ y ∈ l := by
  unfold dedF
  rw [fold_mem]
  simp
theorem ded_nodup (l : List L) : (dedF l).Nodup := fold_nodup l [] List.nodup_nil
theorem ded_len (l : List L) : (dedF l).length ≤ l.length := by
  have := fold_len l []
  rw [List.length_nil, Nat.zero_add] at this
  exact this
theorem ded_snoc (l : List L) (x : L) : dedF (l ++ [x]) = addF (dedF l) x := by
  unfold dedF
  rw [List.foldl_append]
  rfl
theorem nodup_sub : ∀ {a b : List L}, a.Nodup → (∀ x ∈ a, x ∈ b) → a.length ≤ b.length
  | [], _, _, _ => Nat.zero_le _
  | x :: a, b, h, g => by
    rw [List.nodup_cons] at h
    have hx := g x (by simp)
    have := nodup_sub (a := a) (b := b.erase x) h.2 fun y hy => (List.mem_erase_of_ne (fun e : y = x => h.1 (by rw [← e]; exact hy))).mpr (g y (by simp [hy]))
    rw [List.length_erase_of_mem hx] at this
    have := List.length_pos_of_mem hx
    rw [List.length_cons]
    omega
/-! sorted texts -/
def leF (a b : L) : Bool := decide (¬ b < a)
def sortF (l : List L) : List L := l.mergeSort leF
theorem le_tot (a b : L) : leF a b = true ∨ leF b a = true := by
  unfold leF
  rw [decide_eq_true_eq, decide_eq_true_eq]
  rcases List.le_total a b with h | h
  · exact .inl h
  · exact .inr h
theorem le_trans' {a b c : L} (h : leF a b = true) (g : leF b c = true) : leF a c = true := by
  unfold leF at *
  rw [decide_eq_true_eq] at *
  exact List.le_trans h g
theorem le_anti {a b : L} (h : leF a b = true) (g : leF b a = true) : a = b := by
  unfold leF at *
  rw [decide_eq_true_eq] at *
  exact List.le_antisymm h g
theorem sort_unique : ∀ {xs ys : List L}, xs.Pairwise (fun a b => leF a b = true) → ys.Pairwise (fun a b => leF a b = true) → xs.Perm ys → xs = ys
  | [], ys, _, _, p => by
    have := p.length_eq
    cases ys with
    | nil => rfl
    | cons y r => exact nomatch this
  | x :: xs, [], _, _, p => nomatch p.length_eq
  | x :: xs, y :: ys, hx, hy, p => by
    rw [List.pairwise_cons] at hx hy
    have e : x = y := by
      have h1 : x ∈ y :: ys := p.mem_iff.mp (by simp)
      have h2 : y ∈ x :: xs := p.mem_iff.mpr (by simp)
      rw [List.mem_cons] at h1 h2
      rcases h1 with h1 | h1
      · exact h1
      · rcases h2 with h2 | h2
        · exact h2.symm
        · exact le_anti (hx.1 y h2) (hy.1 x h1)
    subst e
    rw [sort_unique hx.2 hy.2 (List.perm_cons x |>.mp p)]
theorem sort_perm (l : List L) : (sortF l).Perm l := List.mergeSort_perm l leF
theorem sort_sorted (l : List L) : (sortF l).Pairwise (fun a b => leF a b = true) := List.pairwise_mergeSort (le := leF) (fun a b c h g => le_trans' h g) (fun a b => by
  rw [Bool.or_eq_true]
  exact le_tot a b) l
theorem sort_mem {l : List L} {y : L} : y ∈ sortF l ↔ y ∈ l := (sort_perm l).mem_iff
theorem sort_len (l : List L) : (sortF l).length = l.length := (sort_perm l).length_eq
theorem sort_nodup {l : List L} (h : l.Nodup) : (sortF l).Nodup := (sort_perm l).nodup_iff.mpr h

theorem le_cps {x p : Str} (h : (!ltCps x.cps.toList p.cps.toList) = true) : leF p.cps.toList x.cps.toList = true := by
  rw [ltCps_eq] at h
  unfold leF
  rw [decide_eq_true_eq]
  intro z
  rw [decide_eq_true z] at h
  exact nomatch h
theorem rise_all : ∀ (r : List Str) (p : Str), risingS p r = true → (p :: r).Pairwise fun a b => leF a.cps.toList b.cps.toList = true
  | [], p, _ => by simp
  | x :: r, p, h => by
    rw [risingS, Bool.and_eq_true] at h
    have ih := rise_all r x h.2
    have h1 := le_cps h.1
    refine List.pairwise_cons.mpr ⟨fun y hy => ?_, ih⟩
    rw [List.mem_cons] at hy
    rcases hy with rfl | hy
    · exact h1
    · exact le_trans' h1 ((List.pairwise_cons.mp ih).1 y hy)
theorem sorted_is {ys : List Str} {ks : List L} (hp : ys.Perm (ks.map tx)) (hs : sortedS ys = true) : ys = (sortF ks).map tx := by
  have e : ys = (ys.map fun z => z.cps.toList).map tx := by
    rw [List.map_map]
    exact (List.map_id' ys).symm.trans (List.map_congr_left fun z _ => rfl)
  have h1 : (ys.map fun z => z.cps.toList).Perm ks := by
    have := hp.map fun z : Str => z.cps.toList
    rw [List.map_map] at this
    rw [show ks.map ((fun z : Str => z.cps.toList) ∘ tx) = ks from (List.map_congr_left fun z _ => rfl).trans (List.map_id' ks)] at this
    exact this
  have h2 : (ys.map fun z => z.cps.toList).Pairwise fun a b => leF a b = true := by
    rw [List.pairwise_map]
    cases ys with
    | nil => exact .nil
    | cons p r => exact rise_all r p hs
  rw [e, sort_unique h2 (sort_sorted ks) (h1.trans (sort_perm ks).symm)]
section
variable {K : PySem.W.Frag} {σ : L2.St} {H H' : Hp} {te : TE} {xs : List V} {a p d : Addr} {ks : List L}
theorem el_sortD (h : Ev te σ H (.ref d)) (hd : H d = some (.dK (dkS ks))) (hn : ks.length ≤ 100000) : EvL (tCB rSortDA (tCons te tNil)) σ H ((sortF ks).map fun p => V.str (tx p)) := fun H1 e Q q =>
  h H1 e _ fun H2 e2 => ⟨d, dkS ks, ks.map tx, rfl, .inl ((e.trans e2) d _ hd), by unfold dkS; rw [List.map_map, List.map_map]; rfl, by rw [List.length_map]; exact hn, fun ys p hp hs hn => by
    have := sorted_is hp hs
    subst this
    rw [List.map_map]
    exact q p _ (fresh_back e2 hn) (e2.trans (Ex.new hn)) upd_same⟩
theorem el_sortL (h : EvP te σ H fun v H' => ∃ a, v = .ref a ∧ SqL K H' a (ks.map fun p => V.str (tx p))) (hn : ks.length ≤ 100000) : EvL (tCB (rSortSA K) (tCons te tNil)) σ H ((sortF ks).map fun p => V.str (tx p)) := fun H1 e Q q =>
  h H1 e _ fun v H2 e2 ⟨a, hv, ha⟩ => ⟨a, ks.map tx, by rw [hv], by rw [List.map_map]; exact ha, by rw [List.length_map]; exact hn, fun ys p hp hs hn => by
    have := sorted_is hp hs
    subst this
    rw [List.map_map]
    exact q p _ (fresh_back e2 hn) (e2.trans (Ex.new hn)) upd_same⟩
def rTupS (K : PySem.W.Frag) : List V → Hp → VK → Prop := fun xs H Q => ∃ p ys, xs = [.ref p] ∧ ((SqL K H p ys ∧ ∀ l, H l = none → Q (.ref l) (upd H l (.tup ys))) ∨ (SqT K H p ys ∧ Q (.ref p) H))
theorem eu_tupL (h : EvL te σ H xs) : EvU (tCB (rTupS K) (tCons te tNil)) σ H xs := fun H1 e Q q =>
  h H1 e _ fun p H2 _ e2 hp => ⟨p, xs, rfl, .inl ⟨sq_of hp, fun l hl => q l _ (fresh_back e2 hl) (e2.trans (Ex.new hl)) upd_same⟩⟩
theorem eu_tupV (h : Ev te σ H (.ref a)) (ha : SqL K H a xs) : EvU (tCB (rTupS K) (tCons te tNil)) σ H xs := fun H1 e Q q =>
  h H1 e _ fun H2 e2 => ⟨a, xs, rfl, .inl ⟨ex_l (e.trans e2) ha, fun l hl => q l _ (fresh_back e2 hl) (e2.trans (Ex.new hl)) upd_same⟩⟩
theorem evp_k (h : Ev te σ H (.ref a)) (ha : SqL K H a xs) : EvP te σ H (fun v H' => ∃ a, v = .ref a ∧ SqL K H' a xs) := fun H1 e Q q => h H1 e Q fun H2 e2 => q _ H2 e2 ⟨a, rfl, ex_l (e.trans e2) ha⟩
theorem evp_ln (h : EvL te σ H xs) : EvP te σ H (fun v H' => ∃ a, v = .ref a ∧ SqL K H' a xs) := fun H1 e Q q => h H1 e Q fun p H2 _ e2 hp => q _ H2 e2 ⟨p, rfl, sq_of hp⟩
end
end My

set_option Elab.async false
set_option linter.all false
set_option maxRecDepth 100000
set_option maxHeartbeats 2000000
/-! == and != of two lists, of two tuples, one of them empty. -/
namespace My
open PySem PySem.Spec PyProof.Rows L2 Evl
def rEqE (K : PySem.W.Frag) : R2 := fun x y H Q => ∃ a b xs ys, x = .ref a ∧ y = .ref b ∧ ((SqL K H a xs ∧ SqL K H b ys) ∨ (SqT K H a xs ∧ SqT K H b ys)) ∧ ys = [] ∧ Q (.bl (decide (xs.length = 0))) H
def rNeE (K : PySem.W.Frag) : R2 := fun x y H Q => ∃ a b xs ys, x = .ref a ∧ y = .ref b ∧ (SqL K H a xs ∧ SqL K H b ys) ∧ ys = [] ∧ Q (.bl (!decide (xs.length = 0))) H
section
variable {X : Cx}
theorem op_eqE (hu : X.A.units + 64 < cLine) : OpR X (compareOp .Eq) (rEqE X.K) := by
  intro pins s σ H x y v u Q I rx ry h
  obtain ⟨a, b, xs, ys, rfl, rfl, hs, rfl, q⟩ := h
  cases rx
  cases ry
  have hu1 : X.A.units < cLine := by omega
  rcases hs with ⟨h1, h2⟩ | ⟨h1, h2⟩
  · obtain ⟨its, rv, p1, _⟩ := I.list h1
    obtain ⟨its2, rv2, p2, _⟩ := I.list h2
    cases rv2
    have hl := rv.length
    by_cases h0 : xs.length = 0
    · rw [decide_eq_true h0] at q
      have e : its = [] := List.eq_nil_of_length_eq_zero (by omega)
      subst e
      exact SeqAt.RcAt.lists (A := X.A) (s := s) (e := fun _ => true) p1.isList p2.isList rfl hu1 (fun j h1 _ => absurd h1 (by simp)) X.prog X.w _ _ ⟨.bl true, H, I, rfl, q⟩
    · rw [decide_eq_false h0] at q
      exact SeqAt.RcAt.lists_lengths (A := X.A) (s := s) p1.isList p2.isList (by simp; intro e; rw [e] at hl; exact h0 hl) hu1 X.prog X.w _ _ ⟨.bl false, H, I, rfl, q⟩
  · obtain ⟨its, rv, p1, _⟩ := I.tuple h1
    obtain ⟨its2, rv2, p2, _⟩ := I.tuple h2
    cases rv2
    have hl := rv.length
    have R := SeqAt.RcAt.tuples (A := X.A) (s := s) (e := fun _ => true) (show s.heap.IsTuple a its.toArray from p1) (show s.heap.IsTuple b [].toArray from p2) hu1 (fun j _ h2 => absurd h2 (by simp))
    have e : ((List.range (min its.toArray.size ([] : List Value).toArray.size)).all (fun _ => true) && its.toArray.size == ([] : List Value).toArray.size) = decide (xs.length = 0) := by
      rw [hl]
      cases its <;> simp
    rw [e] at R
    exact R X.prog X.w _ _ ⟨.bl _, H, I, rfl, q⟩
theorem op_neE (hu : X.A.units + 64 < cLine) : OpR X (compareOp .NotEq) (rNeE X.K) := by
  intro pins s σ H x y v u Q I rx ry h
  obtain ⟨a, b, xs, ys, rfl, rfl, ⟨h1, h2⟩, rfl, q⟩ := h
  cases rx
  cases ry
  have hu1 : X.A.units < cLine := by omega
  obtain ⟨its, rv, p1, _⟩ := I.list h1
  obtain ⟨its2, rv2, p2, _⟩ := I.list h2
  cases rv2
  have hl := rv.length
  by_cases h0 : xs.length = 0
  · rw [decide_eq_true h0] at q
    have e : its = [] := List.eq_nil_of_length_eq_zero (by omega)
    subst e
    exact SeqAt.RcNeAt.lists (A := X.A) (s := s) (e := fun _ => true) p1.isList p2.isList rfl hu1 (fun j h1 _ => absurd h1 (by simp)) X.prog X.w _ _ ⟨.bl false, H, I, rfl, q⟩
  · rw [decide_eq_false h0] at q
    exact SeqAt.RcNeAt.lists_lengths (A := X.A) (s := s) p1.isList p2.isList (by simp; intro e; rw [e] at hl; exact h0 hl) hu1 X.prog X.w _ _ ⟨.bl true, H, I, rfl, q⟩
end
section
variable {K : PySem.W.Frag} {σ : L2.St} {H H' : Hp} {te tb : TE} {xs : List V} {a : Addr}
theorem len0 {α : Type} [DecidableEq α] {xs : List α} : decide (xs.length = 0) = decide (xs = []) := decide_eq_decide.mpr List.length_eq_zero_iff
theorem ev_eqE (h : Ev te σ H (.ref a)) (hS : SqL K H a xs) (hb : EvL tb σ H []) : Ev (tOp (rEqE K) te tb) σ H (.bl (decide (xs.length = 0))) := fun H1 e Q q =>
  h H1 e _ fun H2 e2 => hb H2 (e.trans e2) _ fun p H3 _ e3 h3 => ⟨a, p, xs, [], rfl, rfl, .inl ⟨ex_l ((e.trans e2).trans e3) hS, sq_of h3⟩, rfl, q H3 (e2.trans e3)⟩
theorem ev_eqET (h : Ev te σ H (.ref a)) (hS : SqT K H a xs) (hb : EvU tb σ H []) : Ev (tOp (rEqE K) te tb) σ H (.bl (decide (xs.length = 0))) := fun H1 e Q q =>
  h H1 e _ fun H2 e2 => hb H2 (e.trans e2) _ fun p H3 _ e3 h3 => ⟨a, p, xs, [], rfl, rfl, .inr ⟨ex_t ((e.trans e2).trans e3) hS, st_of h3⟩, rfl, q H3 (e2.trans e3)⟩
theorem ev_neE (h : Ev te σ H (.ref a)) (hS : SqL K H a xs) (hb : EvL tb σ H []) : Ev (tOp (rNeE K) te tb) σ H (.bl (!decide (xs.length = 0))) := fun H1 e Q q =>
  h H1 e _ fun H2 e2 => hb H2 (e.trans e2) _ fun p H3 _ e3 h3 => ⟨a, p, xs, [], rfl, rfl, ⟨ex_l ((e.trans e2).trans e3) hS, sq_of h3⟩, rfl, q H3 (e2.trans e3)⟩
end
end My

set_option Elab.async false
set_option linter.all false
set_option maxRecDepth 100000
set_option maxHeartbeats 2000000
/-! e.replace(..) behind a test that gives out a token. -/
namespace My
open PySem PySem.Spec PyProof.Rows L2 Evl
section
variable {X : Cx}
theorem pe_ifTok {op : CmpOp} {r : R2} {l a b : Expr} {tl ta tb : TE} {i : Int} {j : Nat} {p pos pos2 : Pos} (ho : OpR X (compareOp op) r) (hl : PE X l tl) (ha : PET X a ta) (hb : PE X b tb) (hm : behindInMarks op (.Constant (.int i) j p) = false) :
    PE X (.IfExp (.Compare l [op] [.Constant (.int i) j p] pos) a b pos2) (tIf (tTest (tOp r tl (tC (.int i)))) ta tb) := by
  refine ⟨fun pins s σ H Q I h => ?_⟩
  refine wpAny_IfExp (wpAny_isTrue_Compare1 (thn (hl.run pins s σ H _ I h) fun v s1 ⟨x, H1, I1, r1, q1⟩ => wpAny_Constant_int (wpAny_mono (PySem.wpAny_toks (ho pins _ σ H1 x (.int i) v _ _ (I1.tok _) r1 ⟨_, rfl⟩ q1)) (fun c s3 q => ?_) fun _ _ z => z.2)) hm)
  obtain ⟨hk, z, H3, I3, r3, k, e, q3⟩ := q
  subst e
  cases r3
  have hk' : s1.toks + 1 ≤ s3.toks := hk
  refine wpAny_truthy_bool ?_
  cases k with
  | true => exact ha pins s3 σ H3 Q (by omega) I3 q3
  | false => exact hb.run pins s3 σ H3 Q I3 q3
end
end My

set_option Elab.async false
set_option linter.all false
set_option maxRecDepth 100000
set_option maxHeartbeats 1000000
/-! what the top has written: methods of an own class. -/
namespace My
open PySem PySem.Spec PyProof.Rows L2 Evl
def HasM (K : PySem.W.Frag) (C : Addr) (x q : Str) (st : Stmt) : Prop := ∃ (f : Addr) (oc : Value) (od : Option Addr) (kV dc pm : Value) (an : Option Addr) (cd ct : Value) (sl : Array (Option Value)),
  PySem.W.findIn K (.ref C) x = some (some (.ref f)) ∧ PySem.W.isFn K (.ref f) = true ∧ K.lookup f = some ⟨oc, od, .func (PySem.W.fnOf x q (defArgs st) (defBody st) (defScope st) .none kV dc pm an cd ct), sl⟩ ∧ PySem.W.codeIn K cd q = true ∧ PySem.W.keepIn K (.ref f) = true
section
variable {K : PySem.W.Frag} {C : Addr} {x q : Str} {st : Stmt}
theorem HasM.mk' {f : Addr} {oc : Value} {od : Option Addr} {kV dc pm : Value} {an : Option Addr} {cd ct : Value} {sl : Array (Option Value)}
    (a : PySem.W.findIn K (.ref C) x = some (some (.ref f))) (i : PySem.W.isFn K (.ref f) = true) (l : K.lookup f = some ⟨oc, od, .func (PySem.W.fnOf x q (defArgs st) (defBody st) (defScope st) .none kV dc pm an cd ct), sl⟩) (c : PySem.W.codeIn K cd q = true) (k : PySem.W.keepIn K (.ref f) = true) : HasM K C x q st :=
  ⟨f, oc, od, kV, dc, pm, an, cd, ct, sl, a, i, l, c, k⟩
theorem HasM.get (H : HasM K C x q st) : ∃ f fd, Fun K x q st f fd ∧ Meth K C x f := by
  obtain ⟨f, oc, od, kV, dc, pm, an, cd, ct, sl, a, i, l, c, k⟩ := H
  exact ⟨f, _, fun_mk l c k, ⟨a, i, k⟩⟩
end
end My


set_option Elab.async false
set_option linter.all false
set_option maxRecDepth 100000
set_option maxHeartbeats 4000000
namespace K70
open PySem PySem.Spec PyProof.Rows L2 Evl My
def topS (i : Nat) : Stmt := PySem.Challenge.pw_lineage_k70_whole_policies_read.main.body.getD i (.Pass ⟨0, 0, 0, 0⟩)
def digL : List Nat := [48, 49, 50, 51, 52, 53, 54, 55, 56, 57]
def letL : List Nat := (List.range 26).map (· + 97)
theorem dig_eq : (Str.ofString "0123456789") = tx digL := by decide +kernel
theorem let_eq : (Str.ofString "abcdefghijklmnopqrstuvwxyz") = tx letL := by decide +kernel
def madeP (signs : List Nat) (most : Nat) (l : List Nat) : Bool := decide (1 ≤ l.length) && decide (l.length ≤ most) && l.all fun c => decide (c ∈ signs)
def nameP (l : List Nat) : Bool := madeP (digL ++ [97, 98, 99, 100, 101, 102]) 20 l && decide (l.length = 20)
def wordP (l : List Nat) : Bool := madeP (letL ++ digL) 12 l && decide (l.headD 0 ∈ letL)
def segP (l : List Nat) : Bool := madeP (letL ++ digL ++ [46, 45, 95]) 20 l && !(decide (l = [46]) || decide (l = [46, 46]))
/-- a text or another plain scalar -/
def Tst (d : D) (g : List Nat → Bool) (z : V) : Prop := (∃ l, d = .str l ∧ l.length ≤ 1000 ∧ z = .bl (g l)) ∨ (kitB (tyD d) "str" = some false ∧ z = .bl false)
section
variable {P : Program} {w : World} {K : PySem.W.Frag} {mg : Str → Option Value} {base : Heap}
abbrev s_made_of : Stmt := topS 5
theorem sc_made_of : FnScope ["value", "signs", "most", "sign"] ["value", "signs", "most"] (defScope s_made_of) := ⟨rfl, rfl, rfl, by decide +kernel, rfl, by decide +kernel, by decide +kernel⟩
/- 0 value, 1 signs*, 2 most, 3 sign -/
def ok_made_of (vs : List V) (H : Hp) (z : V) : Prop := ∃ (v : V) (d : D) (signs : List Nat) (most : Nat), vs = [v, .str (tx signs), .int (most : Int)] ∧ Rep H v d ∧ signs.length ≤ 100 ∧ Tst d (madeP signs most) z
theorem fn_made_of {f : Addr} {fd : FuncData} {k : Nat} (F : Fun K "made_of" "made_of" s_made_of f fd) (N : Nb mg) : FnOk P w K mg base CX0 (k + 1) f fd ["value", "signs", "most"] (spV ok_made_of) := by
  refine F.ok sc_made_of (fun vs H Q E h => ?_) (fun cdv A outer s H vs Q E hr h => ?_)
  · obtain ⟨_, ⟨_, _, _, _, rfl, _⟩, _⟩ := h
    rfl
  · obtain ⟨z, ⟨v, d, signs, most, rfl, hR, hs, hT⟩, q⟩ := h
    refine ⟨_, (pss_one (ps_ret (pe_and (pe_callB call_isi (by rfl) N.isinstance PyProof.Rows.boot_isinstance (pa_cons (pv 0) (pa_cons (pe_bltn (v := .ty "str") (by rfl) N.str PyProof.Rows.boot_str rfl) pa_nil))) (pe_and (pe_chain op_le op_le pe_int (pe_callB call_len_str (by rfl) N.len PySem.boot_len (pa_cons (pv 0) pa_nil)) (pv 2)) (pe_one (pe_callB (cr_all rfl) (by rfl) N.all PyProof.Rows.boot_all (pa_cons (pe_lc (own := [("sign", 3)]) (by rfl) sc_made_of.nd (pi_str (pv 0)) (blkOk_by (own := [("sign", 3)]) (N := ["value", "signs", "most", "sign"]) (sc := defScope s_made_of) (by decide +kernel)) (fun _ _ _ _ _ => (pg_name (i := 3) sc_made_of.nd rfl (Or.inl rfl))) (fun _ _ _ _ _ => pts_nil) (fun _ _ _ _ _ => (pe_cmpR op_in_sign (pv 3) (pv 1) rfl))) pa_nil))))))), ?_⟩
    rcases hT with ⟨l, rfl, hl, rfl⟩ | ⟨hk, rfl⟩
    · cases hR
      refine s_ret (ev_is (ev_andV (a := true) (ev_isi (ev_v rfl) (.str l) (by rfl)) fun _ => ev_andV (ev_chain (ev_cn 1) (ev_lenS (ev_v rfl) (by omega)) rv_I0 (fun _ => ev_v rfl) (fun _ => rv_I0)) fun _ => ev_all (bs := l.map fun c => decide (c ∈ signs)) ?_) ?_) fun H1 e1 => q H1 e1
      · rw [List.map_map]
        exact el_lcS (fun c => .bl (decide (c ∈ signs))) (ev_v rfl) (by omega) (fun _ => rfl) fun c H1 e1 hc => ev_op (ev_v rfl) (ev_v rfl) rv_inSn
      · have e : (l.map fun c => decide (c ∈ signs)).all id = l.all fun c => decide (c ∈ signs) := by rw [List.all_map]; rfl
        rw [e, Bool.true_and]
        unfold madeP
        congr 3
        · exact decide_eq_decide.mpr (by omega)
        · exact decide_eq_decide.mpr (by omega)
    · exact s_ret (ev_is (ev_andV (a := false) (b := false) (ev_isi (ev_v rfl) hR hk) (fun z => nomatch z)) rfl) fun H1 e1 => q H1 e1
def ok_is (g : List Nat → Bool) (vs : List V) (H : Hp) (z : V) : Prop := ∃ (v : V) (d : D), vs = [v] ∧ Rep H v d ∧ Tst d g z
theorem made_true {signs : List Nat} {most : Nat} {l : List Nat} (h : madeP signs most l = true) : 1 ≤ l.length := by
  unfold madeP at h
  rw [Bool.and_eq_true, Bool.and_eq_true] at h
  exact of_decide_eq_true h.1.1
abbrev s_is_word : Stmt := topS 6
theorem sc_is_word : FnScope ["value"] ["value"] (defScope s_is_word) := ⟨rfl, rfl, rfl, by decide +kernel, rfl, by decide +kernel, by decide +kernel⟩
theorem fn_is_word {f : Addr} {fd : FuncData} {k : Nat} (F : Fun K "is_word" "is_word" s_is_word f fd) (N : Nb mg) (g_DIGITS_names : GS mg "DIGITS_names" (tx digL)) (g_LETTERS : GS mg "LETTERS" (tx letL)) (g_LONGEST_WORD : GI mg "LONGEST_WORD" 12) (C_made_of : Cal P w K mg base k "made_of" ["value", "signs", "most"] (spV ok_made_of)) : FnOk P w K mg base CX0 (k + 1) f fd ["value"] (spV (ok_is wordP)) := by
  refine F.ok sc_is_word (fun vs H Q E h => ?_) (fun cdv A outer s H vs Q E hr h => ?_)
  · obtain ⟨_, ⟨_, _, rfl, _⟩, _⟩ := h
    rfl
  · obtain ⟨z, ⟨v, d, rfl, hR, hT⟩, q⟩ := h
    refine ⟨_, (pss_one (ps_ret (pe_and (pe_cal C_made_of hr (pa_cons (pv 0) (pa_cons (pe_op op_add_str (pe_gs g_LETTERS) (pe_gs g_DIGITS_names)) (pa_cons (pe_gi g_LONGEST_WORD) pa_nil)))) (pe_one (pe_cmpR op_in_sign (pe_ix ix_str (pv 0) pe_int (fun _ _ => rfl)) (pe_gs g_LETTERS) rfl))))), ?_⟩
    have args : EvA (tCons (tVar 0) (tCons (tOp (fun x y H Q => ∃ i j, x = .str i ∧ y = .str j ∧ i.length + j.length ≤ sizeLine ∧ Q (.str (i ++ j)) H) (tC (.str (tx letL))) (tC (.str (tx digL)))) (tCons (tC (.int 12)) tNil))) [some v] H [v, .str (tx (letL ++ digL)), .int ((12 : Nat) : Int)] :=
      ea_cons (ev_v rfl) (ea_cons (ev_op ev_c ev_c (rv_addS (by decide))) (ea_cons ev_c ea_nil))
    rcases hT with ⟨l, rfl, hl, rfl⟩ | ⟨hk, rfl⟩
    · refine s_ret (ev_is (ev_andV (a := madeP (letL ++ digL) 12 l) (b := decide (l.headD 0 ∈ letL)) (ev_cal args fun H1 e1 => ⟨v, _, _, 12, rfl, hR.mono e1, by decide, .inl ⟨l, rfl, hl, rfl⟩⟩) fun hm => ?_) rfl) fun H1 e1 => q H1 e1
      cases hR
      have h1 := made_true hm
      have h0 : l[0]? = some (l.headD 0) := by
        cases l with
        | nil => exact absurd h1 (by decide)
        | cons a r => rfl
      exact ev_op (ev_op (ev_v rfl) (ev_cn 0) (rv_ixSn (by omega) h0)) ev_c rv_inSn
    · exact s_ret (ev_is (ev_andV (a := false) (b := false) (ev_cal args fun H1 e1 => ⟨v, _, _, 12, rfl, hR.mono e1, by decide, .inr ⟨hk, rfl⟩⟩) (fun z => nomatch z)) rfl) fun H1 e1 => q H1 e1
abbrev s_is_segment : Stmt := topS 7
theorem sc_is_segment : FnScope ["value"] ["value"] (defScope s_is_segment) := ⟨rfl, rfl, rfl, by decide +kernel, rfl, by decide +kernel, by decide +kernel⟩
theorem inV_str {l a b : List Nat} : inV (.str (tx l)) [.str (tx a), .str (tx b)] = (decide (l = a) || decide (l = b)) := by
  have e : ∀ a : List Nat, (tx a == tx l) = decide (l = a) := fun a => by
    by_cases h : l = a
    · subst h
      rw [decide_eq_true rfl]
      exact beq_self_eq_true _
    · rw [decide_eq_false h]
      exact beq_eq_false_iff_ne.mpr fun z => h (tx_inj z).symm
  show ((tx a == tx l) || ((tx b == tx l) || false)) = _
  rw [e, e, Bool.or_false]
theorem fn_is_segment {f : Addr} {fd : FuncData} {k : Nat} (F : Fun K "is_segment" "is_segment" s_is_segment f fd) (N : Nb mg) (g_DIGITS_names : GS mg "DIGITS_names" (tx digL)) (g_LETTERS : GS mg "LETTERS" (tx letL)) (g_LONGEST_SEGMENT : GI mg "LONGEST_SEGMENT" 20) (C_made_of : Cal P w K mg base k "made_of" ["value", "signs", "most"] (spV ok_made_of)) : FnOk P w K mg base CX0 (k + 1) f fd ["value"] (spV (ok_is segP)) := by
  refine F.ok sc_is_segment (fun vs H Q E h => ?_) (fun cdv A outer s H vs Q E hr h => ?_)
  · obtain ⟨_, ⟨_, _, rfl, _⟩, _⟩ := h
    rfl
  · obtain ⟨z, ⟨v, d, rfl, hR, hT⟩, q⟩ := h
    refine ⟨_, (pss_one (ps_ret (pe_and (pe_cal C_made_of hr (pa_cons (pv 0) (pa_cons (pe_op op_add_str (pe_op op_add_str (pe_gs g_LETTERS) (pe_gs g_DIGITS_names)) pe_str) (pa_cons (pe_gi g_LONGEST_SEGMENT) pa_nil)))) (pe_one (pe_cmpR op_notIn_seq (pv 0) (pe_tup (pa_cons pe_str (pa_cons pe_str pa_nil))) rfl))))), ?_⟩
    have args : EvA (tCons (tVar 0) (tCons (tOp (fun x y H Q => ∃ i j, x = .str i ∧ y = .str j ∧ i.length + j.length ≤ sizeLine ∧ Q (.str (i ++ j)) H) (tOp (fun x y H Q => ∃ i j, x = .str i ∧ y = .str j ∧ i.length + j.length ≤ sizeLine ∧ Q (.str (i ++ j)) H) (tC (.str (tx letL))) (tC (.str (tx digL)))) (tC (.str ".-_"))) (tCons (tC (.int 20)) tNil))) [some v] H [v, .str (tx (letL ++ digL ++ [46, 45, 95])), .int ((20 : Nat) : Int)] :=
      ea_cons (ev_v rfl) (ea_cons (ev_op (ev_op ev_c ev_c (rv_addS (by decide))) (ev_cs [46, 45, 95] (by decide +kernel)) (rv_addS (by decide))) (ea_cons ev_c ea_nil))
    rcases hT with ⟨l, rfl, hl, rfl⟩ | ⟨hk, rfl⟩
    · refine s_ret (ev_is (ev_andV (a := madeP (letL ++ digL ++ [46, 45, 95]) 20 l) (b := !(decide (l = [46]) || decide (l = [46, 46]))) (ev_cal args fun H1 e1 => ⟨v, _, _, 20, rfl, hR.mono e1, by decide, .inl ⟨l, rfl, hl, rfl⟩⟩) fun hm => ?_) rfl) fun H1 e1 => q H1 e1
      cases hR
      rw [← inV_str]
      exact ev_niU (ev_v rfl) (eu_tup (ea_cons (ev_cs [46] (by decide +kernel)) (ea_cons (ev_cs [46, 46] (by decide +kernel)) ea_nil)) (by decide)) rfl rfl
    · exact s_ret (ev_is (ev_andV (a := false) (b := false) (ev_cal args fun H1 e1 => ⟨v, _, _, 20, rfl, hR.mono e1, by decide, .inr ⟨hk, rfl⟩⟩) (fun z => nomatch z)) rfl) fun H1 e1 => q H1 e1
end
end K70

set_option Elab.async false
set_option linter.all false
set_option maxRecDepth 100000
set_option maxHeartbeats 4000000
namespace K70
open PySem PySem.Spec PyProof.Rows L2 Evl My
/-- a number of one or two digits, 0 where it is none -/
def numF (l : List Nat) : Nat := if madeP digL 2 l = true ∧ l.headD 0 ≠ 48 then l.foldl (fun n c => 10 * n + (c - 48)) 0 else 0
theorem num_text : ∀ l, madeP digL 2 l = true → PySem.intText? (tx l) = some ((l.foldl (fun n c => 10 * n + (c - 48)) 0 : Nat) : Int) := by
  intro l h
  have h1 : ∀ a ∈ digL, PySem.intText? (tx [a]) = some (([a].foldl (fun n c => 10 * n + (c - 48)) 0 : Nat) : Int) := by decide +kernel
  have h2 : ∀ a ∈ digL, ∀ b ∈ digL, PySem.intText? (tx [a, b]) = some (([a, b].foldl (fun n c => 10 * n + (c - 48)) 0 : Nat) : Int) := by decide +kernel
  unfold madeP at h
  rw [Bool.and_eq_true, Bool.and_eq_true, List.all_eq_true] at h
  obtain ⟨⟨ha, hb⟩, hc⟩ := h
  have ha := of_decide_eq_true ha
  have hb := of_decide_eq_true hb
  match l, ha, hb, hc with
  | [a], _, _, hc => exact h1 a (of_decide_eq_true (hc a (by simp)))
  | [a, b], _, _, hc => exact h2 a (of_decide_eq_true (hc a (by simp))) b (of_decide_eq_true (hc b (by simp)))
  | [], ha, _, _ => exact absurd ha (by decide)
  | _ :: _ :: _ :: _, _, hb, _ => simp at hb
theorem made_len {signs : List Nat} {most : Nat} {l : List Nat} (h : madeP signs most l = true) : l.length ≤ most := by
  unfold madeP at h
  rw [Bool.and_eq_true, Bool.and_eq_true] at h
  exact of_decide_eq_true h.1.2
/-- the words of a line -/
def wordsF (l : List Nat) : List (List Nat) := (splitT 32 l).filter fun p => decide (p ≠ [])
def saidF (l : List Nat) : List (List Nat) := if (wordsF l).headD [] = [] ∨ ((wordsF l).headD []).headD 0 ≠ 35 then wordsF l else []
section
variable {P : Program} {w : World} {K : PySem.W.Frag} {mg : Str → Option Value} {base : Heap}
abbrev s_number_in : Stmt := topS 11
theorem sc_number_in : FnScope ["text", "sign"] ["text"] (defScope s_number_in) := ⟨rfl, rfl, rfl, by decide +kernel, rfl, by decide +kernel, by decide +kernel⟩
def ok_number_in (vs : List V) (H : Hp) (z : V) : Prop := ∃ l, vs = [.str (tx l)] ∧ l.length ≤ 1000 ∧ z = .int (numF l : Nat)
theorem fn_number_in {f : Addr} {fd : FuncData} {k : Nat} (F : Fun K "number_in" "number_in" s_number_in f fd) (N : Nb mg) (g_DIGITS_policy : GS mg "DIGITS_policy" (tx digL)) : FnOk P w K mg base CX0 (k + 1) f fd ["text"] (spV ok_number_in) := by
  refine F.ok sc_number_in (fun vs H Q E h => ?_) (fun cdv A outer s H vs Q E hr h => ?_)
  · obtain ⟨_, ⟨_, rfl, _⟩, _⟩ := h
    rfl
  · obtain ⟨_, ⟨l, rfl, hl, hz⟩, q⟩ := h
    rw [hz] at q
    refine ⟨_, (pss_cons (ps_if (PW.pt (pw_or (pt_not (pt_chain op_le op_le pe_int (pe_callB call_len_str (by rfl) N.len PySem.boot_len (pa_cons (pv 0) pa_nil)) pe_int)) (pw_or (pt_not (pt_val (pe_callB (cr_all rfl) (by rfl) N.all PyProof.Rows.boot_all (pa_cons (pe_lc (own := [("sign", 1)]) (by rfl) sc_number_in.nd (pi_str (pv 0)) (blkOk_by (own := [("sign", 1)]) (N := ["text", "sign"]) (sc := defScope s_number_in) (by decide +kernel)) (fun _ _ _ _ _ => (pg_name (i := 1) sc_number_in.nd rfl (Or.inl rfl))) (fun _ _ _ _ _ => pts_nil) (fun _ _ _ _ _ => (pe_cmpR op_in_sign (pv 1) (pe_gs g_DIGITS_policy) rfl))) pa_nil)))) (pw_or1 (pt_cmpR op_eq (pe_ix ix_str (pv 0) pe_int (fun _ _ => rfl)) pe_str (nomark _)))))) (pss_one (ps_ret pe_int)) pss_nil)
      (pss_one (ps_ret (pe_callTy call_int_str (by rfl) N.int PyProof.Rows.boot_int (pa_cons (pv 0) pa_nil))))), ?_⟩
    have hch : Ev (tChain (rI0 fun i j => .bl (decide (i ≤ j))) (rI0 fun i j => .bl (decide (i ≤ j))) (tC (.int 1)) (tCB (fun xs H Q => ∃ z, xs = [.str z] ∧ z.length ≤ sizeLine ∧ Q (.int z.length) H) (tCons (tVar 0) tNil)) (tC (.int 2))) [some (.str (tx l)), none] H (.bl (decide ((1 : Int) ≤ (l.length : Int)) && decide ((l.length : Int) ≤ (2 : Int)))) :=
      ev_chain (ev_cn 1) (ev_lenS (ev_v rfl) (by omega)) rv_I0 (fun _ => ev_cn 2) (fun _ => rv_I0)
    have hall : ∀ (te : TE), EvL te [some (.str (tx l)), none] H ((l.map fun c => decide (c ∈ digL)).map V.bl) → Ev (tCB (rAll K) (tCons te tNil)) [some (.str (tx l)), none] H (.bl (l.all fun c => decide (c ∈ digL))) := fun te h => ev_is (ev_all h) (by rw [List.all_map]; rfl)
    refine q_when (b := !(madeP digL 2 l && !decide (l.headD 0 = 48))) (et_is (et_or (b := !(l.all fun c => decide (c ∈ digL)) || decide (l.headD 0 = 48)) (et_not (et_test hch)) fun hc => et_or (et_not (et_B (hall _ ?_))) fun _ => et_test (ev_is (ev_op (ev_op (ev_v rfl) (ev_cn 0) (rv_ixSn (c := l.headD 0) (by omega) ?_)) (ev_cs [48] (by decide +kernel)) (rv_eq rfl)) (congrArg V.bl (decide_eq_decide.mpr ?_)))) ?_) (fun hb H1 e1 => ?_) fun hb H1 e1 => ?_
    · rw [List.map_map]
      exact el_lcS (fun c => .bl (decide (c ∈ digL))) (ev_v rfl) (by omega) (fun _ => rfl) fun c H1 e1 hc => ev_op (ev_v rfl) ev_c rv_inSn
    · rw [Bool.not_eq_false', Bool.and_eq_true] at hc
      have := of_decide_eq_true hc.1
      cases l with
      | nil => exact absurd this (by decide)
      | cons a r => rfl
    · exact ⟨fun h => (List.cons.inj (tx_inj (V.str.inj h))).1, fun h => by rw [h]⟩
    · unfold madeP
      rw [show decide (1 ≤ l.length) = decide ((1 : Int) ≤ (l.length : Int)) from decide_eq_decide.mpr (by omega), show decide (l.length ≤ 2) = decide ((l.length : Int) ≤ (2 : Int)) from decide_eq_decide.mpr (by omega)]
      cases decide ((1 : Int) ≤ (l.length : Int)) <;> cases decide ((l.length : Int) ≤ (2 : Int)) <;> cases (l.all fun c => decide (c ∈ digL)) <;> cases decide (l.headD 0 = 48) <;> rfl
    · refine s_ret (ev_cn 0) fun H2 e2 => ?_
      have hn : ¬ (madeP digL 2 l = true ∧ l.headD 0 ≠ 48) := fun h => by
        rw [h.1, decide_eq_false h.2] at hb
        exact nomatch hb
      unfold numF at q
      rw [if_neg hn] at q
      exact q H2 (e1.trans e2)
    · have hy : madeP digL 2 l = true ∧ l.headD 0 ≠ 48 := by
        rw [Bool.not_eq_false', Bool.and_eq_true, Bool.not_eq_true'] at hb
        exact ⟨hb.1, of_decide_eq_false hb.2⟩
      unfold numF at q
      rw [if_pos hy] at q
      exact s_ret (fun H2 e2 Q' q' => ev_v (v := .str (tx l)) rfl H2 (e2) _ fun H3 e3 => ⟨tx l, _, rfl, num_text l hy.1, by rw [tx_len]; have := made_len hy.1; omega, q' H3 e3⟩) fun H2 e2 => q H2 (e1.trans e2)
abbrev s_words_in : Stmt := topS 12
theorem sc_words_in : FnScope ["line", "words", "word"] ["line"] (defScope s_words_in) := ⟨rfl, rfl, rfl, by decide +kernel, rfl, by decide +kernel, by decide +kernel⟩
/- 0 line, 1 words, 2 word -/
def txs (ps : List (List Nat)) : List V := ps.map fun p => V.str (tx p)
theorem txs_ne (ps : List (List Nat)) : ((txs ps).filter fun v => !decide (v = V.str (tx []))).map (fun v => v) = txs (ps.filter fun p => decide (p ≠ [])) := by
  unfold txs
  rw [List.map_id', List.filter_map]
  congr 1
  refine List.filter_congr fun p _ => ?_
  show (!decide (V.str (tx p) = V.str (tx []))) = decide (p ≠ [])
  by_cases h : p = []
  · subst h
    rfl
  · rw [decide_eq_false fun z => h (tx_inj (V.str.inj z)), decide_eq_true h]
    rfl
theorem splitT_len (c : Nat) : ∀ l, (splitT c l).length ≤ l.length + 1
  | [] => Nat.le_refl _
  | x :: r => by
    have := splitT_len c r
    rw [splitT]
    split
    · rw [List.length_cons, List.length_cons]; omega
    · split
      · simp
      · rename_i p q h
        rw [h] at this
        rw [List.length_cons] at this ⊢
        rw [List.length_cons]
        omega
theorem splitT_part (c : Nat) : ∀ (l : List Nat) (p : List Nat), p ∈ splitT c l → p.length ≤ l.length
  | [], p, h => by
    rw [splitT, List.mem_singleton] at h
    rw [h]
    exact Nat.le_refl _
  | x :: r, p, h => by
    have ih := splitT_part c r
    rw [splitT] at h
    split at h
    · rw [List.mem_cons] at h
      rcases h with rfl | h
      · exact Nat.zero_le _
      · exact Nat.le_succ_of_le (ih p h)
    · split at h
      · rw [List.mem_singleton] at h
        rw [h]
        simp
      · rename_i a b hab
        rw [hab] at ih
        rw [List.mem_cons] at h
        rcases h with rfl | h
        · exact Nat.succ_le_succ (ih a (by simp))
        · exact Nat.le_succ_of_le (ih p (by simp [h]))
theorem el_splitT {σ : L2.St} {H : Hp} {te tb : TE} {l : List Nat} {c : Nat} (hc : c < 128) (ha : Ev te σ H (.str (tx l))) (hb : Ev tb σ H (.str (tx [c]))) (hz : l.length ≤ 50000) :
    EvL (tM1 (fun x xs H Q => ∃ a b, x = .str a ∧ xs = [.str b] ∧ (b.length == 0) = false ∧ a.length + 2 ≤ sizeLine ∧ rNewStrs (Txt.split a b) H Q) te tb) σ H (txs (splitT c l)) := by
  have := el_split ha hb rfl (by rw [tx_len]; omega)
  rw [split_tx hc, List.map_map] at this
  exact this
def ok_words_in (vs : List V) (H : Hp) (z : List V) : Prop := ∃ l, vs = [.str (tx l)] ∧ l.length ≤ 1000 ∧ z = txs (saidF l)
theorem fn_words_in {f : Addr} {fd : FuncData} {k : Nat} (F : Fun K "words_in" "words_in" s_words_in f fd) (N : Nb mg) : FnOk P w K mg base CX0 (k + 1) f fd ["line"] (spL ok_words_in) := by
  refine F.ok sc_words_in (fun vs H Q E h => ?_) (fun cdv A outer s H vs Q E hr h => ?_)
  · obtain ⟨_, ⟨_, rfl, _⟩, _⟩ := h
    rfl
  · obtain ⟨_, ⟨l, rfl, hl, hz⟩, q⟩ := h
    rw [hz] at q
    refine ⟨_, (pss_cons (ps_setLc (i := 1) (own := [("word", 2)]) (by rfl) sc_words_in.nd rfl rfl (sw_true rfl rfl rfl (by decide +kernel)) (pi_list (pe_split (pv 0) pe_str)) (blkOk_by (own := [("word", 2)]) (N := ["line", "words", "word"]) (sc := defScope s_words_in) (by decide +kernel)) (fun _ _ _ _ _ => (pg_name (i := 2) sc_words_in.nd rfl (Or.inl rfl))) (fun _ _ _ _ _ => (pts_one (pt_cmpR op_ne (pv 2) pe_str (nomark _)))) (fun _ _ _ _ _ => (pv 2)))
      (pss_one (ps_ret (pe_ifExp (PW.pt (pw_and (pt_truth (pv 1) (by intro _; rfl)) (pw_and1 (pt_cmpR op_eq (pe_slice sl_str (pe_ix ix_list (pv 1) pe_int (fun _ _ => rfl)) po_none (po_some pe_int)) pe_str (nomark _))))) (pe_lst pa_nil) (pv 1))))), ?_⟩
    have hsl := splitT_len 32 l
    refine q_asgL (xs := txs (wordsF l)) (by
      unfold wordsF
      rw [← txs_ne]
      exact el_lcF _ _ (el_splitT (by decide) (ev_v rfl) (ev_cs [32] (by decide +kernel)) (by omega)) (by unfold txs; rw [List.length_map]; omega) (fun _ => rfl) (fun x H1 e1 hx => et_test (ev_op (ev_v rfl) (ev_cs [] (by decide +kernel)) (rv_ne (by
        obtain ⟨p, _, rfl⟩ := List.mem_map.mp hx
        rfl)))) (fun x H1 e1 hx _ => ev_v rfl)) fun p H1 hp e1 h1 => ?_
    have hne : ∀ a ∈ wordsF l, a ≠ [] := fun a ha => of_decide_eq_true (List.mem_filter.mp ha).2
    have hlen : ∀ a ∈ wordsF l, a.length ≤ 1000 := fun a ha => Nat.le_trans (splitT_part 32 l a (List.mem_filter.mp ha).1) hl
    unfold saidF at q
    cases hw : wordsF l with
    | nil =>
      rw [hw] at q h1
      refine r_ret (r_if (et_and (a := false) (b := false) (fun H2 e2 Q' q' => r_ev (ev_v (v := .ref p) rfl) e2 fun H3 e3 => ⟨false, .inl ⟨[], sq_of ((e2.trans e3) p _ h1), rfl⟩, q' H3 e3⟩) (fun z => nomatch z) H1 (Ex.refl _) _ fun H2 e2 => ?_))
      rw [if_pos (.inl rfl)] at q
      exact r_var rfl (q p H2 hp (e1.trans e2) (e2 p _ h1))
    | cons a r =>
      rw [hw] at q h1 hne hlen
      have ha := hne a (by simp)
      have hal := hlen a (by simp)
      refine r_ret (r_if (et_and (a := true) (b := decide (a.headD 0 = 35)) (fun H2 e2 Q' q' => r_ev (ev_v (v := .ref p) rfl) e2 fun H3 e3 => ⟨true, .inl ⟨txs (a :: r), sq_of ((e2.trans e3) p _ h1), rfl⟩, q' H3 e3⟩) (fun _ => et_test (ev_is (ev_op (ev_slS (l := a) (ev_ixL (j := 0) (ev_v rfl) (ev_cn 0) (sq_of h1) rfl) eo_none (eo_some (ev_cn 1)) (by omega)) (ev_cs [35] (by decide +kernel)) (rv_eq rfl)) ?_)) H1 (Ex.refl _) _ fun H2 e2 => ?_))
      · rw [cutS_take]
        refine congrArg V.bl (decide_eq_decide.mpr ?_)
        cases a with
        | nil => exact absurd rfl ha
        | cons c t => exact ⟨fun h => (List.cons.inj (tx_inj (V.str.inj h))).1, fun h => by rw [show c = 35 from h]; rfl⟩
      · rw [Bool.true_and]
        by_cases h35 : a.headD 0 = 35
        · rw [decide_eq_true h35, if_pos rfl]
          rw [if_neg (fun z => z.elim ha fun z => z h35)] at q
          exact el_lst ea_nil (by decide) H2 (Ex.refl H2) _ fun p2 H3 hp2 e3 h3 => q p2 H3 (fresh_back (e1.trans e2) hp2) ((e1.trans e2).trans e3) h3
        · rw [decide_eq_false h35, if_neg (by decide)]
          rw [if_pos (.inr h35)] at q
          exact r_var rfl (q p H2 hp (e1.trans e2) (e2 p _ h1))
abbrev s_is_pattern : Stmt := topS 13
theorem sc_is_pattern : FnScope ["segments", "part"] ["segments"] (defScope s_is_pattern) := ⟨rfl, rfl, rfl, by decide +kernel, rfl, by decide +kernel, by decide +kernel⟩
/- 0 segments, 1 part -/
def partF (p : List Nat) : Bool := (decide (p = [42]) || decide (p = [42, 42])) || segP p
def patF (ps : List (List Nat)) : Bool := decide (ps.length ≤ 12) && ps.all partF
def Shrt (ps : List (List Nat)) : Prop := ∀ p ∈ ps, p.length ≤ 1000
def ok_is_pattern (K : PySem.W.Frag) (vs : List V) (H : Hp) (z : V) : Prop := ∃ (a : Addr) (ps : List (List Nat)), vs = [.ref a] ∧ SqT K H a (txs ps) ∧ ps.length ≤ 1000 ∧ Shrt ps ∧ z = .bl (patF ps)
theorem ev_lenTt {σ : L2.St} {H : Hp} {te : TE} {a : Addr} {ps : List (List Nat)} (h : Ev te σ H (.ref a)) (hS : SqT K H a (txs ps)) : Ev (tCB (rLenS K) (tCons te tNil)) σ H (.int (ps.length : Int)) := by
  have := ev_lenT h hS
  unfold txs at this
  rw [List.length_map] at this
  exact this
theorem fn_is_pattern {f : Addr} {fd : FuncData} {k : Nat} (F : Fun K "is_pattern" "is_pattern" s_is_pattern f fd) (N : Nb mg) (g_MOST_PARTS : GI mg "MOST_PARTS" 12) (C_is_segment : Cal P w K mg base k "is_segment" ["value"] (spV (ok_is segP))) : FnOk P w K mg base CX0 (k + 1) f fd ["segments"] (spV (ok_is_pattern K)) := by
  refine F.ok sc_is_pattern (fun vs H Q E h => ?_) (fun cdv A outer s H vs Q E hr h => ?_)
  · obtain ⟨_, ⟨_, _, rfl, _⟩, _⟩ := h
    rfl
  · obtain ⟨_, ⟨a, ps, rfl, hS, hl, hs, hz⟩, q⟩ := h
    rw [hz] at q
    refine ⟨_, (pss_one (ps_ret (pe_and (pe_cmpR op_le (pe_callB call_len_seq (by rfl) N.len PySem.boot_len (pa_cons (pv 0) pa_nil)) (pe_gi g_MOST_PARTS) (nomark _)) (pe_one (pe_callB (cr_all rfl) (by rfl) N.all PyProof.Rows.boot_all (pa_cons (pe_lc (own := [("part", 1)]) (by rfl) sc_is_pattern.nd (pi_tup (pv 0)) (blkOk_by (own := [("part", 1)]) (N := ["segments", "part"]) (sc := defScope s_is_pattern) (by decide +kernel)) (fun _ _ _ _ _ => (pg_name (i := 1) sc_is_pattern.nd rfl (Or.inl rfl))) (fun _ _ _ _ _ => pts_nil) (fun _ _ _ _ _ => (pe_or (pe_cmpR (r := rIn K false) op_in_seq (pv 1) (pe_tup (pa_cons pe_str (pa_cons pe_str pa_nil))) rfl) (pe_one (pe_cal C_is_segment hr (pa_cons (pv 1) pa_nil)))))) pa_nil)))))), ?_⟩
    have gv : (txs ps).map (fun v => match v with | .str s => V.bl (partF s.cps.toList) | _ => .non) = (ps.map partF).map V.bl := by
      unfold txs
      rw [List.map_map, List.map_map]
      rfl
    have fv : (txs ps).filter (fun _ => true) = txs ps := List.filter_eq_self.mpr fun _ _ => rfl
    refine s_ret (ev_is (ev_andV (a := decide ((ps.length : Int) ≤ (12 : Int))) (b := ps.all partF) (ev_op (ev_lenTt (ev_v rfl) hS) ev_c rv_I0) fun _ => ev_is (ev_all (bs := ps.map partF) (by
      rw [← gv, ← fv]
      refine el_lcT (fun _ => true) _ (ev_v rfl) hS (by unfold txs; rw [List.length_map]; omega) (fun _ => rfl) (fun x H1 e1 hx => et_yes) (fun x H1 e1 hx _ => ?_)
      obtain ⟨p, hp, rfl⟩ := List.mem_map.mp hx
      exact ev_orV (a := decide (p = [42]) || decide (p = [42, 42])) (b := segP p) (by rw [← inV_str]; exact ev_inU (ev_v rfl) (eu_tup (ea_cons (ev_cs [42] (by decide +kernel)) (ea_cons (ev_cs [42, 42] (by decide +kernel)) ea_nil)) (by decide)) rfl rfl) fun _ => ev_cal (ea_cons (ev_v rfl) ea_nil) fun H2 e2 => ⟨_, .str p, rfl, .str _, .inl ⟨p, rfl, hs p hp, rfl⟩⟩)) (by rw [List.all_map]; rfl)) ?_) fun H1 e1 => q H1 e1
    unfold patF
    rw [show decide (ps.length ≤ 12) = decide ((ps.length : Int) ≤ (12 : Int)) from decide_eq_decide.mpr (by omega)]
end
end K70

set_option Elab.async false
set_option linter.all false
set_option maxRecDepth 100000
set_option maxHeartbeats 4000000
namespace K70
open PySem PySem.Spec PyProof.Rows L2 Evl My
def stepF (p : List Nat) (g : List (List Nat) → Bool) : List (List Nat) → Bool
  | [] => false
  | x :: S => (decide (p = [42]) || decide (p = x)) && g S
/-- a pattern goes along a path -/
def alongF : List (List Nat) → List (List Nat) → Bool
  | [], s => s.isEmpty
  | p :: P, s => if p = [42, 42] then (List.range (s.length + 1)).any fun k => alongF P (s.drop k) else stepF p (alongF P) s
theorem along_star (P : List (List Nat)) (s : List (List Nat)) : alongF ([42, 42] :: P) s = true ↔ ∃ j, j ≤ s.length ∧ alongF P (s.drop j) = true := by
  rw [alongF, if_pos rfl, List.any_eq_true]
  constructor
  · rintro ⟨k, hk, h⟩
    exact ⟨k, by have := List.mem_range.mp hk; omega, h⟩
  · rintro ⟨k, hk, h⟩
    exact ⟨k, List.mem_range.mpr (by omega), h⟩
theorem along_nil {p : List Nat} {P : List (List Nat)} (h : p ≠ [42, 42]) : alongF (p :: P) [] = false := by
  rw [alongF, if_neg h]
  rfl
theorem along_cons {p x : List Nat} {P S : List (List Nat)} (h : p ≠ [42, 42]) : alongF (p :: P) (x :: S) = ((decide (p = [42]) || decide (p = x)) && alongF P S) := by
  rw [alongF, if_neg h]
  rfl
theorem along_app : ∀ (P R s : List (List Nat)), alongF (P ++ R) s = true ↔ ∃ j, j ≤ s.length ∧ alongF P (s.take j) = true ∧ alongF R (s.drop j) = true
  | [], R, s => by
    rw [List.nil_append]
    constructor
    · intro h
      exact ⟨0, Nat.zero_le _, by rw [List.take_zero]; rfl, h⟩
    · rintro ⟨j, hj, h, g⟩
      rw [alongF, List.isEmpty_iff] at h
      have : j = 0 := by
        have h2 := congrArg List.length h
        rw [List.length_take, List.length_nil] at h2
        omega
      subst this
      exact g
  | p :: P, R, s => by
    rw [List.cons_append]
    by_cases hp : p = [42, 42]
    · subst hp
      rw [along_star]
      constructor
      · rintro ⟨k, hk, h⟩
        obtain ⟨j, hj, h1, h2⟩ := (along_app P R _).mp h
        rw [List.length_drop] at hj
        refine ⟨k + j, by omega, ?_, by rw [← List.drop_drop]; exact h2⟩
        rw [along_star]
        refine ⟨k, by rw [List.length_take]; omega, ?_⟩
        rw [List.drop_take, Nat.add_sub_cancel_left]
        exact h1
      · rintro ⟨j, hj, h1, h2⟩
        obtain ⟨k, hk, h⟩ := (along_star P _).mp h1
        rw [List.length_take] at hk
        refine ⟨k, by omega, (along_app P R _).mpr ⟨j - k, by rw [List.length_drop]; omega, ?_, ?_⟩⟩
        · rw [List.drop_take] at h
          exact h
        · rw [List.drop_drop, Nat.add_sub_cancel' (by omega)]
          exact h2
    · cases s with
      | nil =>
        rw [along_nil hp]
        constructor
        · intro h; exact nomatch h
        · rintro ⟨j, hj, h, _⟩
          rw [List.take_nil, along_nil hp] at h
          exact nomatch h
      | cons x S =>
        rw [along_cons hp, Bool.and_eq_true, along_app P R S]
        constructor
        · rintro ⟨h0, j, hj, h1, h2⟩
          exact ⟨j + 1, by rw [List.length_cons]; omega, by rw [List.take_succ_cons, along_cons hp, h0, h1]; rfl, h2⟩
        · rintro ⟨j, hj, h1, h2⟩
          cases j with
          | zero => rw [List.take_zero, along_nil hp] at h1; exact nomatch h1
          | succ j =>
            rw [List.take_succ_cons, along_cons hp, Bool.and_eq_true] at h1
            rw [List.length_cons] at hj
            exact ⟨h1.1, j, by omega, h1.2, h2⟩
/-- how far, with one part more -/
def goneG (f : Nat → Bool) (p : List Nat) (segs : List (List Nat)) (k : Nat) : Bool :=
  if p = [42, 42] then (List.range (k + 1)).any f else
  match k with
  | 0 => false
  | k + 1 => f k && (decide (p = [42]) || decide (p = segs.getD k []))
theorem gone_zero {f : Nat → Bool} {p : List Nat} {segs : List (List Nat)} (hp : p ≠ [42, 42]) : goneG f p segs 0 = false := by
  unfold goneG
  rw [if_neg hp]
theorem gone_succ {f : Nat → Bool} {p : List Nat} {segs : List (List Nat)} {k : Nat} (hp : p ≠ [42, 42]) : goneG f p segs (k + 1) = (f k && (decide (p = [42]) || decide (p = segs.getD k []))) := by
  unfold goneG
  rw [if_neg hp]
theorem gone_next (P : List (List Nat)) (p : List Nat) (segs : List (List Nat)) {k : Nat} (hk : k ≤ segs.length) : goneG (fun j => alongF P (segs.take j)) p segs k = alongF (P ++ [p]) (segs.take k) := by
  rw [Bool.eq_iff_iff, along_app, List.length_take, Nat.min_eq_left hk]
  unfold goneG
  by_cases hp : p = [42, 42]
  · subst hp
    rw [if_pos rfl, List.any_eq_true]
    constructor
    · rintro ⟨j, hj, h⟩
      have := List.mem_range.mp hj
      refine ⟨j, by omega, by rw [List.take_take, Nat.min_eq_left (by omega)]; exact h, ?_⟩
      rw [along_star]
      refine ⟨((segs.take k).drop j).length, Nat.le_refl _, ?_⟩
      rw [List.drop_length]
      rfl
    · rintro ⟨j, hj, h, _⟩
      rw [List.take_take, Nat.min_eq_left hj] at h
      exact ⟨j, List.mem_range.mpr (by omega), h⟩
  · rw [if_neg hp]
    cases k with
    | zero =>
      constructor
      · intro h; exact nomatch h
      · rintro ⟨j, _, _, h⟩
        rw [List.take_zero, List.drop_nil, along_nil hp] at h
        exact nomatch h
    | succ k =>
      have hk' : k < segs.length := hk
      have e : (segs.take (k + 1)).drop k = [segs[k]] := by
        rw [List.drop_take, Nat.add_sub_cancel_left, List.drop_eq_getElem_cons hk', List.take_succ_cons, List.take_zero]
      have g : segs.getD k [] = segs[k] := by
        rw [List.getD_eq_getElem?_getD, List.getElem?_eq_getElem hk', Option.getD_some]
      show (alongF P (segs.take k) && (decide (p = [42]) || decide (p = segs.getD k []))) = true ↔ _
      rw [g]
      constructor
      · intro h
        rw [Bool.and_eq_true] at h
        refine ⟨k, Nat.le_succ k, by rw [List.take_take, Nat.min_eq_left (Nat.le_succ k)]; exact h.1, ?_⟩
        rw [e, along_cons hp, h.2]
        rfl
      · rintro ⟨j, hj, h1, h2⟩
        rw [List.take_take, Nat.min_eq_left hj] at h1
        rcases Nat.lt_or_ge j k with hjk | hjk
        · exfalso
          have : (segs.take (k + 1)).drop j = segs[j] :: segs[j+1] :: ((segs.take (k + 1)).drop (j + 2)) := by
            have hl : (segs.take (k + 1)).length = k + 1 := by rw [List.length_take]; omega
            rw [List.drop_eq_getElem_cons (by omega), List.drop_eq_getElem_cons (by omega), List.getElem_take, List.getElem_take]
          rw [this, along_cons hp, Bool.and_eq_true] at h2
          exact nomatch h2.2
        · rcases Nat.eq_or_lt_of_le hjk with hjk | hjk
          · subst hjk
            rw [e, along_cons hp, Bool.and_eq_true] at h2
            rw [h1, h2.1]
            rfl
          · have : j = k + 1 := by omega
            subst this
            rw [List.drop_take, Nat.sub_self, List.take_zero, along_nil hp] at h2
            exact nomatch h2
theorem gone_start (segs : List (List Nat)) {k : Nat} (hk : k ≤ segs.length) : decide (k = 0) = alongF [] (segs.take k) := by
  rw [Bool.eq_iff_iff, alongF, List.isEmpty_iff, decide_eq_true_eq]
  constructor
  · intro h
    rw [h, List.take_zero]
  · intro h
    have := congrArg List.length h
    rw [List.length_take, List.length_nil] at this
    omega

def bls (n : Nat) (f : Nat → Bool) : List V := (List.range (n + 1)).map fun k => V.bl (f k)
theorem bls_len (n : Nat) (f : Nat → Bool) : (bls n f).length = n + 1 := by unfold bls; rw [List.length_map, List.length_range]
theorem bls_get {n k : Nat} (f : Nat → Bool) (h : k ≤ n) : (bls n f)[k]? = some (.bl (f k)) := by
  unfold bls
  rw [List.getElem?_map, List.getElem?_range (by omega)]
  rfl
theorem bls_flat (n : Nat) (f : Nat → Bool) : (bls n f).all flatV = true := by
  rw [List.all_eq_true]
  intro x hx
  obtain ⟨k, _, rfl⟩ := List.mem_map.mp hx
  rfl
theorem bls_congr {n : Nat} {f g : Nat → Bool} (h : ∀ k, k ≤ n → f k = g k) : bls n f = bls n g := by
  unfold bls
  refine List.map_congr_left fun k hk => ?_
  rw [h k (by have := List.mem_range.mp hk; omega)]
theorem bls_last (n : Nat) (f : Nat → Bool) : atI (bls n f) (-1) = some (.bl (f n)) := by
  unfold bls
  rw [List.range_succ, List.map_append]
  exact atI_last _ _
theorem bls_in (n : Nat) (f : Nat → Bool) : inV (.bl true) (bls n f) = (List.range (n + 1)).any f := by
  unfold inV bls
  rw [List.any_map]
  refine congrArg (fun g => List.any _ g) (funext fun k => ?_)
  show (f k == true) = f k
  cases f k <;> rfl
def firstF (f : Nat → Bool) (n : Nat) : Nat := ((List.range (n + 1)).find? f).getD (n + 1)
theorem first_some {f : Nat → Bool} {n : Nat} (h : (List.range (n + 1)).any f = true) : f (firstF f n) = true ∧ firstF f n ≤ n ∧ ∀ m, m < firstF f n → f m = false := by
  unfold firstF
  cases e : (List.range (n + 1)).find? f with
  | none =>
    rw [List.any_eq_true] at h
    obtain ⟨x, hx, hf⟩ := h
    exact absurd hf (List.find?_eq_none.mp e x hx)
  | some j =>
    rw [List.find?_range_eq_some] at e
    obtain ⟨h1, h2, h3⟩ := e
    have := List.mem_range.mp h2
    exact ⟨h1, by show j ≤ n; omega, fun m hm => by simpa using h3 m hm⟩
theorem first_le {f : Nat → Bool} {n k : Nat} (hk : k ≤ n) : decide (firstF f n ≤ k) = (List.range (k + 1)).any f := by
  rw [Bool.eq_iff_iff, decide_eq_true_eq, List.any_eq_true]
  constructor
  · intro h
    refine ⟨firstF f n, List.mem_range.mpr (by omega), ?_⟩
    unfold firstF at h ⊢
    cases e : (List.range (n + 1)).find? f with
    | none => rw [e] at h; exact absurd h (by show ¬ (n + 1 ≤ k); omega)
    | some j => exact List.find?_some e
  · rintro ⟨j, hj, h⟩
    have hj := List.mem_range.mp hj
    have ha : (List.range (n + 1)).any f = true := List.any_eq_true.mpr ⟨j, List.mem_range.mpr (by omega), h⟩
    obtain ⟨h1, h2, h3⟩ := first_some ha
    rcases Nat.lt_or_ge j (firstF f n) with q | q
    · rw [h3 j q] at h
      exact nomatch h
    · omega
section
variable {P : Program} {w : World} {K : PySem.W.Frag} {mg : Str → Option Value} {base : Heap}
theorem ev_index {σ : L2.St} {H : Hp} {ta tb : TE} {a : Addr} {ys : List V} {y z : V} {j : Nat} (ha : Ev ta σ H (.ref a)) (hb : Ev tb σ H y) (hS : SqL K H a ys) (fy : flatV y = true) (fs : ys.all flatV = true) (hz : ys[j]? = some z) (he : eqV z y = true)
    (hno : ∀ (m : Nat) (z' : V), m < j → ys[m]? = some z' → eqV z' y = false) : Ev (tBM K "list" (rIndex K) ta (tCons tb tNil)) σ H (.int (j : Int)) := fun H1 e Q q =>
  ha H1 e _ fun H2 e2 => ⟨Or.inl ⟨rfl, ys, ex_l (e.trans e2) hS⟩, hb H2 (e.trans e2) _ fun H3 e3 => ⟨a, ys, y, j, z, rfl, rfl, ex_l ((e.trans e2).trans e3) hS, fy, fs, hz, he, hno, q H3 (e2.trans e3)⟩⟩
theorem el_is {σ : L2.St} {H : Hp} {te : TE} {xs ys : List V} (h : EvL te σ H xs) (e : xs = ys) : EvL te σ H ys := by
  rw [← e]
  exact h
theorem txs_len (ps : List (List Nat)) : (txs ps).length = ps.length := by unfold txs; rw [List.length_map]
theorem txs_get {ps : List (List Nat)} {i : Nat} {p : List Nat} (h : ps[i]? = some p) : (txs ps)[i]? = some (.str (tx p)) := by
  unfold txs
  rw [List.getElem?_map, h]
  rfl
theorem txs_get' {ps : List (List Nat)} {i : Nat} {v : V} (h : (txs ps)[i]? = some v) : v = .str (tx (ps.getD i [])) ∧ i < ps.length ∧ ps[i]? = some (ps.getD i []) := by
  unfold txs at h
  rw [List.getElem?_map] at h
  obtain ⟨p, hp, rfl⟩ := Option.map_eq_some_iff.mp h
  have hl := (List.getElem?_eq_some_iff.mp hp).1
  rw [List.getD_eq_getElem?_getD, hp]
  exact ⟨rfl, hl, rfl⟩
theorem str_dec {a b : List Nat} : decide (V.str (tx a) = V.str (tx b)) = decide (a = b) := decide_eq_decide.mpr ⟨fun h => tx_inj (V.str.inj h), fun h => by rw [h]⟩
abbrev s_gone_along : Stmt := topS 16
theorem sc_gone_along : FnScope ["reached", "part", "segments", "first", "at", "found", "segment"] ["reached", "part", "segments"] (defScope s_gone_along) := ⟨rfl, rfl, rfl, by decide +kernel, rfl, by decide +kernel, by decide +kernel⟩
/- 0 reached, 1 part, 2 segments, 3 first*, 4 at, 5 found, 6 segment -/
def ok_gone_along (K : PySem.W.Frag) (vs : List V) (H : Hp) (z : List V) : Prop := ∃ (r s : Addr) (p : List Nat) (segs : List (List Nat)) (f : Nat → Bool), vs = [.ref r, .str (tx p), .ref s] ∧ SqL K H r (bls segs.length f) ∧ SqL K H s (txs segs) ∧ segs.length ≤ 1000 ∧ z = bls segs.length (goneG f p segs)
theorem fn_gone_along {f : Addr} {fd : FuncData} {k : Nat} (F : Fun K "gone_along" "gone_along" s_gone_along f fd) (N : Nb mg) : FnOk P w K mg base CX0 (k + 1) f fd ["reached", "part", "segments"] (spL (ok_gone_along K)) := by
  refine F.ok sc_gone_along (fun vs H Q E h => ?_) (fun cdv A outer s H vs Q E hr h => ?_)
  · obtain ⟨_, ⟨_, _, _, _, _, rfl, _⟩, _⟩ := h
    rfl
  · obtain ⟨_, ⟨r, sg, p, segs, f, rfl, hR, hS, hn, hz⟩, q⟩ := h
    rw [hz] at q
    refine ⟨_, (pss_cons (ps_if (pt_cmpR op_eq (pv 1) pe_str (nomark _)) (pss_cons (ps_set (i := 3) sc_gone_along.nd rfl (Or.inr rfl) (pe_ifExp (pt_cmpR op_in_seq pe_bl (pv 0) rfl) (pe_bm PySem.F.plainAttrs_list PySem.F.slot_list_index PySem.F.type_list_index mt_index (pv 0) (pa_cons pe_bl pa_nil)) (pe_callB call_len_seq (by rfl) N.len PySem.boot_len (pa_cons (pv 0) pa_nil))))
      (pss_one (ps_ret (pe_lc (own := [("at", 4)]) (by rfl) sc_gone_along.nd (pi_range1 rfl N.range (pa_cons (pe_callB call_len_seq (by rfl) N.len PySem.boot_len (pa_cons (pv 0) pa_nil)) pa_nil)) (blkOk_by (own := [("at", 4)]) (N := ["reached", "part", "segments", "first", "at", "found", "segment"]) (sc := defScope s_gone_along) (by decide +kernel)) (fun _ _ _ _ _ => (pg_name (i := 4) sc_gone_along.nd rfl (Or.inl rfl))) (fun _ _ _ _ _ => pts_nil) (fun _ _ _ _ _ => (pe_cmpR op_ge (pv 4) (pv 3) (nomark _))))))) pss_nil)
      (pss_cons (ps_set (i := 5) sc_gone_along.nd rfl (Or.inl rfl) (pe_lst (pa_cons pe_bl pa_nil)))
      (pss_cons (ps_for PassesOwn.never rfl (pi_enum rfl N.enumerate (pa_cons (pv 2) pa_nil)) (pg_tup rfl (pgs_cons (pg_name (i := 4) sc_gone_along.nd rfl (Or.inl rfl)) (pgs_cons (pg_name (i := 6) sc_gone_along.nd rfl (Or.inl rfl)) pgs_nil))) (pss_one (ps_expr (pe_bm PySem.F.plainAttrs_list PySem.F.slot_list_append PySem.F.type_list_append mt_append (pv 5) (pa_cons (pe_and (pe_ix ix_list (pv 0) (pv 4) (fun _ _ => rfl)) (pe_one (pe_cmpR op_in_seq (pv 1) (pe_tup (pa_cons pe_str (pa_cons (pv 6) pa_nil))) rfl))) pa_nil)))))
      (pss_one (ps_ret (pv 5)))))), ?_⟩
    have hl := bls_len segs.length f
    refine q_when (et_test (ev_is (ev_op (ev_v rfl) (ev_cs [42, 42] (by decide +kernel)) (rv_eq rfl)) (congrArg V.bl str_dec))) (fun hb H1 e1 => ?_) fun hb H1 e1 => ?_
    · have hp := of_decide_eq_true hb
      refine q_asg (v := .int (firstF f segs.length : Nat)) (ev_if (b := (List.range (segs.length + 1)).any f) (et_test (ev_is (ev_op ev_c (ev_v rfl) (rv_isL (ex_l e1 hR) rfl (bls_flat _ _))) (congrArg V.bl (bls_in _ _)))) (fun ha => ?_) fun ha => ?_) fun H2 e2 => ?_
      · obtain ⟨h1, h2, h3⟩ := first_some ha
        exact ev_index (ev_v rfl) ev_c (ex_l e1 hR) rfl (bls_flat _ _) (bls_get f h2) (by rw [h1]; rfl) fun m z' hm hz' => by
          rw [bls_get f (by omega)] at hz'
          cases hz'
          rw [h3 m hm]
          rfl
      · refine ev_is (ev_len (ev_v rfl) (ex_l e1 hR)) ?_
        have : firstF f segs.length = segs.length + 1 := by
          unfold firstF
          cases e : (List.range (segs.length + 1)).find? f with
          | none => rfl
          | some j => rw [List.any_eq_true.mpr ⟨j, List.mem_of_find?_eq_some e, List.find?_some e⟩] at ha; exact nomatch ha
        rw [this, hl]
      · refine s_retL (xs := bls segs.length (goneG f p segs)) ?_ fun p2 H3 hp2 e3 h3 => q p2 H3 (fresh_back (e1.trans e2) hp2) ((e1.trans e2).trans e3) h3
        have hg : bls segs.length (goneG f p segs) = given (((segs.length + 1 : Nat) : Int)).toNat (fun _ => true) (fun k => V.bl (decide (((firstF f segs.length : Nat) : Int) ≤ (k : Int)))) := by
          rw [Int.toNat_natCast, given_all]
          unfold bls
          refine List.map_congr_left fun k hk => ?_
          have hk := List.mem_range.mp hk
          unfold goneG
          rw [if_pos hp, ← first_le (n := segs.length) (by omega)]
          exact congrArg V.bl (decide_eq_decide.mpr (by omega))
        rw [hg]
        exact el_lcR1 _ _ (ea_cons (ev_is (ev_len (ev_v rfl) (ex_l (e1.trans e2) hR)) (by rw [hl])) ea_nil) (by omega) (fun _ => rfl) (fun i H3 e3 hi => et_yes) fun i H3 e3 hi _ => ev_op (ev_v rfl) (ev_v rfl) rv_I0
    · have hp := of_decide_eq_false hb
      refine q_asgL (el_lst (ea_cons ev_c ea_nil) (by decide)) fun fl H2 hfl e2 h2 => ?_
      refine q_forE (xs := txs segs) (ev_v rfl) (ex_l (e1.trans e2) hS) (fun i σ H' => Ex H H' ∧ H fl = none ∧ H' fl = some (.lst ((List.range (i + 1)).map fun k => V.bl (goneG f p segs k))) ∧ ∃ y3 y4 y6, σ = [some (.ref r), some (.str (tx p)), some (.ref sg), y3, y4, some (.ref fl), y6]) (fun H3 e3 => ⟨(e1.trans e2).trans e3, fresh_back e1 hfl, ?_, none, none, none, rfl⟩) (fun i σ H' _ h => ex_l h.1 hS) ?_ ?_
      · rw [e3 fl _ h2]
        show _ = some (HO.lst [V.bl (goneG f p segs 0)])
        rw [gone_zero hp]
      · rintro i x σ H' H3 hx ⟨e', n', h', y3, y4, y6, rfl⟩ e3
        obtain ⟨rfl, hi, hsx⟩ := txs_get' hx
        refine s_app (e3 fl _ h') (ev_v rfl) (ev_andV (a := f i) (b := decide (p = [42]) || decide (p = segs.getD i [])) (ev_ixL (ev_v rfl) (ev_v rfl) (ex_l (e'.trans e3) hR) (bls_get f (by omega))) fun _ => by
          rw [← inV_str]
          exact ev_inU (ev_v rfl) (eu_tup (ea_cons (ev_cs [42] (by decide +kernel)) (ea_cons (ev_v rfl) ea_nil)) (by show 2 ≤ 100000; decide)) rfl rfl) (by rw [List.length_map, List.length_range]; omega) fun H4 e4 => ⟨((e'.trans e3).trans e4).mut n', n', ?_, _, _, _, rfl⟩
        rw [upd_same, List.range_succ (n := i + 1), List.map_append]
        show _ = some (HO.lst (_ ++ [V.bl (goneG f p segs (i + 1))]))
        rw [gone_succ hp]
      · rintro σ H' ⟨e', n', h', y3, y4, y6, rfl⟩
        refine r_ret (r_var rfl (q fl H' n' e' ?_))
        rw [h', txs_len]
        rfl
abbrev s_matches : Stmt := topS 17
theorem sc_matches : FnScope ["pattern", "path", "segments", "reached", "_", "part"] ["pattern", "path"] (defScope s_matches) := ⟨rfl, rfl, rfl, by decide +kernel, rfl, by decide +kernel, by decide +kernel⟩
/- 0 pattern, 1 path, 2 segments, 3 reached, 4 _, 5 part -/
def ok_matches (K : PySem.W.Frag) (vs : List V) (H : Hp) (z : V) : Prop := ∃ (a : Addr) (ps : List (List Nat)) (l : List Nat), vs = [.ref a, .str (tx l)] ∧ SqT K H a (txs ps) ∧ l.length ≤ 500 ∧ z = .bl (alongF ps (splitT 47 l))
theorem fn_matches {f : Addr} {fd : FuncData} {k : Nat} (F : Fun K "matches" "matches" s_matches f fd) (N : Nb mg) (C_gone_along : Cal P w K mg base k "gone_along" ["reached", "part", "segments"] (spL (ok_gone_along K))) : FnOk P w K mg base CX0 (k + 1) f fd ["pattern", "path"] (spV (ok_matches K)) := by
  refine F.ok sc_matches (fun vs H Q E h => ?_) (fun cdv A outer s H vs Q E hr h => ?_)
  · obtain ⟨_, ⟨_, _, _, rfl, _⟩, _⟩ := h
    rfl
  · obtain ⟨_, ⟨a, ps, l, rfl, hS, hn, hz⟩, q⟩ := h
    rw [hz] at q
    refine ⟨_, (pss_cons (ps_set (i := 2) sc_matches.nd rfl (Or.inl rfl) (pe_split (pv 1) pe_str))
      (pss_cons (ps_set (i := 3) sc_matches.nd rfl (Or.inl rfl) (pe_op op_cat (pe_lst (pa_cons pe_bl pa_nil)) (pe_lc (own := [("_", 4)]) (by rfl) sc_matches.nd (pi_list (pv 2)) (blkOk_by (own := [("_", 4)]) (N := ["pattern", "path", "segments", "reached", "_", "part"]) (sc := defScope s_matches) (by decide +kernel)) (fun _ _ _ _ _ => (pg_name (i := 4) sc_matches.nd rfl (Or.inl rfl))) (fun _ _ _ _ _ => pts_nil) (fun _ _ _ _ _ => pe_bl))))
      (pss_cons (ps_for PassesOwn.never rfl (pi_tup (pv 0)) (pg_name (i := 5) sc_matches.nd rfl (Or.inl rfl)) (pss_one (ps_set (i := 3) sc_matches.nd rfl (Or.inl rfl) (pe_cal C_gone_along hr (pa_cons (pv 3) (pa_cons (pv 5) (pa_cons (pv 2) pa_nil)))))))
      (pss_one (ps_ret (pe_ix ix_list (pv 3) (pe_un un_neg pe_int) (fun _ _ => rfl))))))), ?_⟩
    have hsl := splitT_len 47 l
    generalize hsg : splitT 47 l = segs at q hsl
    refine q_asgL (xs := txs segs) (by rw [← hsg]; exact el_splitT (by decide) (ev_v rfl) (ev_cs [47] (by decide +kernel)) (by omega)) fun sp H1 hsp e1 h1 => ?_
    refine q_asgL (xs := bls segs.length fun k => alongF [] (segs.take k)) (el_is (el_cat (evl_n (el_lst (ea_cons ev_c ea_nil) (by decide))) (evl_n (el_lcA (fun _ => true) (fun _ => .bl false) (ev_v rfl) (sq_of h1) (by rw [txs_len]; omega) (fun _ => rfl) (fun x H2 e2 hx => et_yes) fun x H2 e2 hx _ => ev_c)) (by rw [List.length_map]; have := List.length_filter_le (fun _ => true) (txs segs); rw [txs_len] at this; show 1 + _ ≤ _; omega)) ?_) fun r H2 hr2 e2 h2 => ?_
    · rw [show (txs segs).filter (fun _ => true) = txs segs from List.filter_eq_self.mpr fun _ _ => rfl]
      rw [bls_congr (g := fun k => decide (k = 0)) fun k hk => (gone_start segs hk).symm]
      unfold bls txs
      rw [List.map_map, List.range_succ_eq_map, List.map_cons, List.map_map]
      show V.bl true :: _ = V.bl true :: _
      refine congrArg _ (List.ext_getElem (by simp) fun i h1 h2 => ?_)
      simp
    · refine q_forT (xs := txs ps) (ev_v rfl) (ex_t (e1.trans e2) hS) (fun i σ H' => Ex H1 H' ∧ ∃ (r : Addr) (y4 y5 : Option V), H' r = some (.lst (bls segs.length fun k => alongF (ps.take i) (segs.take k))) ∧ σ = [some (.ref a), some (.str (tx l)), some (.ref sp), some (.ref r), y4, y5]) (fun H3 e3 => ⟨e2.trans e3, r, none, none, e3 r _ h2, rfl⟩) (fun i σ H' _ h => ex_t (e1.trans h.1) hS) ?_ ?_
      · rintro i x σ H' hx ⟨e', r', y4, y5, h', rfl⟩
        obtain ⟨rfl, hi, hpx⟩ := txs_get' hx
        refine s_asgL (el_cal (ea_cons (ev_v rfl) (ea_cons (ev_v rfl) (ea_cons (ev_v rfl) ea_nil))) fun H3 e3 => ⟨r', sp, ps.getD i [], segs, _, rfl, sq_of (e3 r' _ h'), sq_of ((e'.trans e3) sp _ h1), by omega, rfl⟩) fun r2 H3 hr3 e3 h3 => ⟨e'.trans e3, r2, _, _, ?_, rfl⟩
        rw [h3]
        refine congrArg (fun x => some (HO.lst x)) (bls_congr fun k hk => ?_)
        rw [gone_next _ _ _ hk, List.take_add_one, hpx]
        rfl
      · rintro σ H' ⟨e', r', y4, y5, h', rfl⟩
        refine s_ret (ev_op (ev_v rfl) (ev_un (ev_cn 1) ru_neg) (rv_ixL (sq_of h') (bls_last _ _))) fun H3 e3 => ?_
        rw [txs_len, List.take_length, List.take_length]
        exact q H3 ((e1.trans e').trans e3)
end
end K70

set_option Elab.async false
set_option linter.all false
set_option maxRecDepth 100000
set_option maxHeartbeats 4000000
namespace K70
open PySem PySem.Spec PyProof.Rows L2 Evl My
/-! people -/
def flatF (g : L → Option (List L)) (ws : List L) : List L := ws.flatMap fun w => (g w).getD [w]
def peopleF (g : L → Option (List L)) (ws : List L) : List L := sortF (dedF (flatF g ws))
theorem people_nodup (g : L → Option (List L)) (ws : List L) : (peopleF g ws).Nodup := sort_nodup (ded_nodup _)
theorem people_mem {g : L → Option (List L)} {ws : List L} {p : L} : p ∈ peopleF g ws ↔ ∃ w, w ∈ ws ∧ p ∈ (g w).getD [w] := by
  unfold peopleF flatF
  rw [sort_mem, ded_mem, List.mem_flatMap]
/-- each group's people are told once, and are words that were used -/
def GoodG (g : L → Option (List L)) (u : List L) : Prop := ∀ w ps, g w = some ps → ps.Nodup ∧ ∀ p ∈ ps, p ∈ u
theorem good_len {g : L → Option (List L)} {u : List L} (h : GoodG g u) (w : L) : ((g w).getD [w]).length ≤ u.length + 1 := by
  cases e : g w with
  | none => show 1 ≤ _; omega
  | some ps =>
    have := nodup_sub (h w ps e).1 (h w ps e).2
    show ps.length ≤ _
    omega
theorem flat_len {g : L → Option (List L)} {u : List L} (h : GoodG g u) : ∀ ws : List L, (flatF g ws).length ≤ ws.length * (u.length + 1)
  | [] => by unfold flatF; simp
  | w :: ws => by
    have h1 := good_len h w
    have h2 := flat_len h ws
    unfold flatF at *
    rw [List.flatMap_cons, List.length_append, List.length_cons, Nat.succ_mul]
    omega
theorem people_in {g : L → Option (List L)} {u ws : List L} (h : GoodG g u) {p : L} (hp : p ∈ peopleF g ws) : p ∈ u ∨ p ∈ ws := by
  obtain ⟨w, hw, hp⟩ := people_mem.mp hp
  cases e : g w with
  | none =>
    rw [e] at hp
    have : p = w := by simpa using hp
    rw [this]
    exact .inr hw
  | some ps =>
    rw [e] at hp
    exact .inl ((h w ps e).2 p hp)
theorem people_len (g : L → Option (List L)) (ws : List L) : (peopleF g ws).length ≤ (flatF g ws).length := by
  unfold peopleF
  rw [sort_len]
  exact ded_len _
def upG (g : L → Option (List L)) (n : L) (ps : List L) : L → Option (List L) := fun w => if w = n then some ps else g w
theorem good_up {g : L → Option (List L)} {u ws : List L} {n : L} (h : GoodG g u) : GoodG (upG g n (peopleF g ws)) (u ++ (n :: ws)) := by
  intro w ps e
  unfold upG at e
  split at e
  · cases e
    refine ⟨people_nodup g ws, fun p hp => ?_⟩
    rw [List.mem_append]
    rcases people_in h hp with q | q
    · exact .inl q
    · exact .inr (by simp [q])
  · exact ⟨(h w ps e).1, fun p hp => List.mem_append_left _ ((h w ps e).2 p hp)⟩
theorem good_more {g : L → Option (List L)} {u v : List L} (h : GoodG g u) : GoodG g (u ++ v) := fun w ps e => ⟨(h w ps e).1, fun p hp => List.mem_append_left _ ((h w ps e).2 p hp)⟩

/-! what a reader knows -/
structure S where
  g : L → Option (List L)
  n : Nat
  u : List L
  out : List D
def s0 : S := ⟨fun _ => none, 0, [], []⟩
def wG : L := [103, 114, 111, 117, 112]
def wE : L := [61]
def wN : L := [110, 101, 101, 100, 115]
def wO : L := [111, 102]
def rF : L := [102, 111, 114, 109]
def rN : L := [110, 97, 109, 101]
def rP : L := [112, 97, 116, 116, 101, 114, 110]
def rU : L := [110, 117, 109, 98, 101, 114]
def rowD (segs : List L) (n : Nat) (ps : List L) : D := .tup [.tup (segs.map .str), .int (n : Int), .tup (ps.map .str)]
def groupF (s : S) (name : L) (ws : List L) : L ⊕ S :=
  if ws = [] then .inl rF else
  if ((name :: ws).all wordP && (!decide (name ∈ s.u) && !decide (name ∈ ws))) = true then .inr ⟨upG s.g name (peopleF s.g ws), s.n + 1, s.u ++ (name :: ws), s.out⟩ else .inl rN
def needsF (s : S) (pat num : L) (ws : List L) : L ⊕ S :=
  if ws = [] then .inl rF else
  if ws.all wordP = true then
    if patF (splitT 47 pat) = true then
      if 1 ≤ numF num ∧ numF num ≤ (peopleF s.g ws).length then .inr ⟨s.g, s.n, s.u ++ ws, s.out ++ [rowD (splitT 47 pat) (numF num) (peopleF s.g ws)]⟩ else .inl rU
    else .inl rP
  else .inl rN
def isG (ws : List L) : Prop := 2 < ws.length ∧ ws.getD 0 [] = wG ∧ ws.getD 2 [] = wE
def isN (ws : List L) : Prop := 3 < ws.length ∧ ws.getD 1 [] = wN ∧ ws.getD 3 [] = wO
instance (ws : List L) : Decidable (isG ws) := by unfold isG; exact inferInstance
instance (ws : List L) : Decidable (isN ws) := by unfold isN; exact inferInstance
def takeF (s : S) (ws : List L) : L ⊕ S :=
  if isG ws then groupF s (ws.getD 1 []) (ws.drop 3) else
  if isN ws then needsF s (ws.getD 0 []) (ws.getD 2 []) (ws.drop 4) else .inl rF
def readF : S → Nat → List L → (Nat × L) ⊕ S
  | s, _, [] => .inr s
  | s, k, l :: ls => if saidF l = [] then readF s (k + 1) ls else
    match takeF s (saidF l) with
    | .inl e => .inl (k, e)
    | .inr s' => readF s' (k + 1) ls
def polD : (Nat × L) ⊕ S → D
  | .inl (k, e) => .tup [.str [119, 114, 111, 110, 103], .int (k : Int), .str e]
  | .inr s => .tup [.str [112, 111, 108, 105, 99, 121], .tup s.out]
theorem take_inr {s s' : S} {ws : List L} (h : takeF s ws = .inr s') : s'.u.length ≤ s.u.length + ws.length ∧ (GoodG s.g s.u → GoodG s'.g s'.u) ∧ s'.n ≤ s.n + 1 := by
  unfold takeF at h
  split at h
  · rename_i hg
    unfold groupF at h
    split at h
    · exact nomatch h
    · split at h
      · cases h
        have := hg.1
        refine ⟨?_, fun g => good_up g, Nat.le_refl _⟩
        rw [List.length_append, List.length_cons, List.length_drop]
        omega
      · exact nomatch h
  · split at h
    · unfold needsF at h
      split at h
      · exact nomatch h
      · split at h
        · split at h
          · split at h
            · cases h
              refine ⟨?_, fun g => good_more g, Nat.le_succ _⟩
              rw [List.length_append, List.length_drop]
              omega
            · exact nomatch h
          · exact nomatch h
        · exact nomatch h
    · exact nomatch h
/-! the reader in the heap -/
def pf (g u l : Addr) : List (Str × V) := putF "lines" (.ref l) (putF "used" (.ref u) (putF "groups" (.ref g) []))
theorem pf_g (g u l : Addr) : (pf g u l).lookup ("groups" : Str) = some (.ref g) := by
  unfold pf
  rw [lookup_putF, if_neg (by decide +kernel), lookup_putF, if_neg (by decide +kernel), lookup_putF, if_pos rfl]
theorem pf_u (g u l : Addr) : (pf g u l).lookup ("used" : Str) = some (.ref u) := by
  unfold pf
  rw [lookup_putF, if_neg (by decide +kernel), lookup_putF, if_pos rfl]
theorem pf_l (g u l : Addr) : (pf g u l).lookup ("lines" : Str) = some (.ref l) := by
  unfold pf
  rw [lookup_putF, if_pos rfl]
theorem pf_no (g u l : Addr) {m : Str} (h1 : ¬ m = "lines") (h2 : ¬ m = "used") (h3 : ¬ m = "groups") : (pf g u l).lookup m = none := by
  unfold pf
  rw [lookup_putF, if_neg h1, lookup_putF, if_neg h2, lookup_putF, if_neg h3]
  rfl
mutual
def NoL : D → Prop
  | .tup ds => NoLL ds
  | .lst _ => False
  | .non => True
  | .bl _ => True
  | .int _ => True
  | .str _ => True
def NoLL : List D → Prop
  | [] => True
  | d :: ds => NoL d ∧ NoLL ds
end
mutual
theorem Rep.keepT {H H1 : Hp} (k : ∀ a us, H a = some (.tup us) → H1 a = some (.tup us)) : ∀ {v : V} {d : D}, NoL d → Rep H v d → Rep H1 v d
  | _, _, _, .non => .non
  | _, _, _, .bl b => .bl b
  | _, _, _, .int i => .int i
  | _, _, _, .str l => .str l
  | _, .tup ds, h, .tup q r => .tup (k _ _ q) (Reps.keepT k (by rw [NoL] at h; exact h) r)
  | _, .lst ds, h, .lst q r => (by rw [NoL] at h; exact h.elim)
theorem Reps.keepT {H H1 : Hp} (k : ∀ a us, H a = some (.tup us) → H1 a = some (.tup us)) : ∀ {vs : List V} {ds : List D}, NoLL ds → Reps H vs ds → Reps H1 vs ds
  | _, _, _, .nil => .nil
  | _, _ :: _, h, .cons r rs => .cons (Rep.keepT k (by rw [NoLL] at h; exact h.1) r) (Reps.keepT k (by rw [NoLL] at h; exact h.2) rs)
end
theorem reps_txs (H : Hp) : ∀ ps : List L, Reps H (txs ps) (ps.map .str)
  | [] => .nil
  | p :: ps => .cons (.str p) (reps_txs H ps)
theorem nol_strs : ∀ ps : List L, NoLL (ps.map .str)
  | [] => by rw [List.map_nil, NoLL]; trivial
  | p :: ps => by rw [List.map_cons, NoLL, NoL]; exact ⟨trivial, nol_strs ps⟩
theorem nol_row (segs : List L) (n : Nat) (ps : List L) : NoL (rowD segs n ps) := by
  unfold rowD
  rw [NoL, NoLL, NoLL, NoLL, NoL, NoL, NoL, NoLL]
  exact ⟨nol_strs segs, trivial, nol_strs ps, trivial⟩
theorem nol_app : ∀ {a b : List D}, NoLL a → NoLL b → NoLL (a ++ b)
  | [], _, _, h => h
  | d :: a, b, g, h => by
    rw [NoLL] at g
    rw [List.cons_append, NoLL]
    exact ⟨g.1, nol_app g.2 h⟩
def GrpAt (H : Hp) (kvs : List (Key × V)) (g : L → Option (List L)) : Prop := ∀ w, match g w with
  | none => valV kvs (.inr (tx w)) = none
  | some ps => ∃ a, valV kvs (.inr (tx w)) = some (.ref a) ∧ H a = some (.tup (txs ps))
structure PolAt (C : Addr) (H : Hp) (r g u l : Addr) (s : S) : Prop where
  ins : ∃ dx, H r = some (.ins C dx (pf g u l))
  gk : ∃ kvs, H g = some (.dK kvs) ∧ kvs.length ≤ s.n ∧ GrpAt H kvs s.g
  uk : ∃ kvs, H u = some (.dK kvs) ∧ kvs.length ≤ s.u.length ∧ ∀ w, (valV kvs (.inr (tx w))).isSome = decide (w ∈ s.u)
  out : ∃ vs, H l = some (.lst vs) ∧ Reps H vs s.out
  nol : NoLL s.out
  ne : g ≠ u
theorem GrpAt.mono {H H' : Hp} {kvs : List (Key × V)} {g : L → Option (List L)} (e : ∀ a us, H a = some (.tup us) → H' a = some (.tup us)) (h : GrpAt H kvs g) : GrpAt H' kvs g := fun w => by
  have := h w
  cases q : g w with
  | none => rw [q] at this; exact this
  | some ps =>
    rw [q] at this
    obtain ⟨a, h1, h2⟩ := this
    exact ⟨a, h1, e a _ h2⟩
theorem PolAt.ex {C : Addr} {H H' : Hp} {r g u l : Addr} {s : S} (e : Ex H H') (h : PolAt C H r g u l s) : PolAt C H' r g u l s := by
  obtain ⟨⟨dx, h1⟩, ⟨k1, h2, h3, h4⟩, ⟨k2, h5, h6, h7⟩, ⟨vs, h8, h9⟩, nol, ne⟩ := h
  exact ⟨⟨dx, e _ _ h1⟩, ⟨k1, e _ _ h2, h3, h4.mono fun a us q => e _ _ q⟩, ⟨k2, e _ _ h5, h6, h7⟩, ⟨vs, e _ _ h8, h9.mono e⟩, nol, ne⟩
def Off (g u l : Addr) (H H' : Hp) : Prop := ∀ a o, a ≠ g → a ≠ u → a ≠ l → H a = some o → H' a = some o
theorem Off.of {g u l : Addr} {H H' : Hp} (e : Ex H H') : Off g u l H H' := fun a o _ _ _ h => e a o h
theorem Off.trans {g u l : Addr} {H H1 H2 : Hp} (a : Off g u l H H1) (b : Off g u l H1 H2) : Off g u l H H2 := fun x o n1 n2 n3 h => b x o n1 n2 n3 (a x o n1 n2 n3 h)
theorem Off.tup {g u l : Addr} {H H' : Hp} {k1 k2 : List (Key × V)} {vs : List V} (f : Off g u l H H') (hg : H g = some (.dK k1)) (hu : H u = some (.dK k2)) (hl : H l = some (.lst vs)) {a : Addr} {us : List V} (h : H a = some (.tup us)) : H' a = some (.tup us) :=
  f a _ (fun e => by rw [e, hg] at h; exact nomatch Option.some.inj h) (fun e => by rw [e, hu] at h; exact nomatch Option.some.inj h) (fun e => by rw [e, hl] at h; exact nomatch Option.some.inj h) h
/-- from before the reader was -/
theorem Off.ex {g u l : Addr} {H0 H H' : Hp} (e : Ex H0 H) (f : Off g u l H H') (hg : H0 g = none) (hu : H0 u = none) (hl : H0 l = none) : Ex H0 H' := fun a o h =>
  f a o (fun z => by rw [z, hg] at h; exact nomatch h) (fun z => by rw [z, hu] at h; exact nomatch h) (fun z => by rw [z, hl] at h; exact nomatch h) (e a o h)
theorem ne_kind {H : Hp} {a b : Addr} {o o' : HO} (h1 : H a = some o) (h2 : H b = some o') (n : o ≠ o') : a ≠ b := fun e => by
  rw [e, h2] at h1
  exact n (Option.some.inj h1).symm
/-- a word is used -/
theorem PolAt.use {C : Addr} {H : Hp} {r g u l : Addr} {s : S} {kvs : List (Key × V)} (h : PolAt C H r g u l s) (hu : H u = some (.dK kvs)) (w : L) : PolAt C (upd H u (.dK (putK kvs (.inr (tx w)) (.bl true)))) r g u l ⟨s.g, s.n, s.u ++ [w], s.out⟩ := by
  obtain ⟨⟨dx, h1⟩, ⟨k1, h2, h3, h4⟩, ⟨k2, h5, h6, h7⟩, ⟨vs, h8, h9⟩, nol, ne⟩ := h
  rw [hu] at h5
  cases h5
  have kt : ∀ a us, H a = some (.tup us) → upd H u (.dK (putK kvs (.inr (tx w)) (.bl true))) a = some (.tup us) := fun a us q => by
    rw [upd_ne (ne_kind q hu (fun z => nomatch z))]
    exact q
  refine ⟨⟨dx, by rw [upd_ne (ne_kind h1 hu (fun z => nomatch z))]; exact h1⟩, ⟨k1, by rw [upd_ne ne]; exact h2, h3, h4.mono kt⟩, ⟨_, upd_same, ?_, fun w' => ?_⟩, ⟨vs, by rw [upd_ne (ne_kind h8 hu (fun z => nomatch z))]; exact h8, Reps.keepT kt nol h9⟩, nol, ne⟩
  · have := length_putK kvs (.inr (tx w)) (V.bl true)
    rw [List.length_append]
    show _ ≤ s.u.length + 1
    omega
  · rw [valV_put]
    by_cases e : w' = w
    · subst e
      rw [if_pos rfl]
      simp
    · rw [if_neg (fun z => e (inr_tx.mp z)), h7]
      exact decide_eq_decide.mpr (by simp [e])
/-- a group is told -/
theorem PolAt.grp {C : Addr} {H : Hp} {r g u l t : Addr} {s : S} {kvs : List (Key × V)} {ps : List L} (h : PolAt C H r g u l s) (hg : H g = some (.dK kvs)) (w : L) (ht : H t = some (.tup (txs ps))) : PolAt C (upd H g (.dK (putK kvs (.inr (tx w)) (.ref t)))) r g u l ⟨upG s.g w ps, s.n + 1, s.u, s.out⟩ := by
  obtain ⟨⟨dx, h1⟩, ⟨k1, h2, h3, h4⟩, ⟨k2, h5, h6, h7⟩, ⟨vs, h8, h9⟩, nol, ne⟩ := h
  rw [hg] at h2
  cases h2
  have kt : ∀ a us, H a = some (.tup us) → upd H g (.dK (putK kvs (.inr (tx w)) (.ref t))) a = some (.tup us) := fun a us q => by
    rw [upd_ne (ne_kind q hg (fun z => nomatch z))]
    exact q
  refine ⟨⟨dx, by rw [upd_ne (ne_kind h1 hg (fun z => nomatch z))]; exact h1⟩, ⟨_, upd_same, ?_, fun w' => ?_⟩, ⟨k2, by rw [upd_ne ne.symm]; exact h5, h6, h7⟩, ⟨vs, by rw [upd_ne (ne_kind h8 hg (fun z => nomatch z))]; exact h8, Reps.keepT kt nol h9⟩, nol, ne⟩
  · have := length_putK kvs (.inr (tx w)) (V.ref t)
    show _ ≤ s.n + 1
    omega
  · have h4' := h4 w'
    show match upG s.g w ps w' with | none => _ | some ps => _
    rw [valV_put]
    unfold upG
    by_cases e : w' = w
    · subst e
      rw [if_pos rfl, if_pos rfl]
      exact ⟨t, rfl, kt _ _ ht⟩
    · rw [if_neg e, if_neg (fun z => e (inr_tx.mp z))]
      exact (GrpAt.mono kt h4) w'
/-- a line is told -/
theorem PolAt.row {C : Addr} {H : Hp} {r g u l : Addr} {s : S} {vs : List V} {v : V} {d : D} (h : PolAt C H r g u l s) (hl : H l = some (.lst vs)) (hv : Rep H v d) (nd : NoL d) : PolAt C (upd H l (.lst (vs ++ [v]))) r g u l ⟨s.g, s.n, s.u, s.out ++ [d]⟩ := by
  obtain ⟨⟨dx, h1⟩, ⟨k1, h2, h3, h4⟩, ⟨k2, h5, h6, h7⟩, ⟨vs', h8, h9⟩, nol, ne⟩ := h
  rw [hl] at h8
  cases h8
  have kt : ∀ a us, H a = some (.tup us) → upd H l (.lst (vs ++ [v])) a = some (.tup us) := fun a us q => by
    rw [upd_ne (ne_kind q hl (fun z => nomatch z))]
    exact q
  exact ⟨⟨dx, by rw [upd_ne (ne_kind h1 hl (fun z => nomatch z))]; exact h1⟩, ⟨k1, by rw [upd_ne (ne_kind h2 hl (fun z => nomatch z))]; exact h2, h3, h4.mono kt⟩, ⟨k2, by rw [upd_ne (ne_kind h5 hl (fun z => nomatch z))]; exact h5, h6, h7⟩,
    ⟨_, upd_same, (Reps.keepT kt nol h9).append (.cons (Rep.keepT kt nd hv) .nil)⟩, nol_app nol (by rw [NoLL]; exact ⟨nd, trivial⟩), ne⟩
theorem PolAt.off {C : Addr} {H : Hp} {r g u l a : Addr} {s : S} {xs : List V} (h : PolAt C H r g u l s) (ha : H a = some (.lst xs)) (n : a ≠ l) : a ≠ g ∧ a ≠ u ∧ a ≠ l := by
  obtain ⟨⟨dx, h1⟩, ⟨k1, h2, h3, h4⟩, ⟨k2, h5, h6, h7⟩, ⟨vs', h8, h9⟩, nol, ne⟩ := h
  exact ⟨ne_kind ha h2 (fun z => nomatch z), ne_kind ha h5 (fun z => nomatch z), n⟩
structure RT (K : PySem.W.Frag) (mg : Str → Option Value) (C : Addr) : Prop where
  cl : Cls K C
  nG : NoAttr K C "groups"
  nU : NoAttr K C "used"
  nL : NoAttr K C "lines"
section
variable {P : Program} {w : World} {K : PySem.W.Frag} {mg : Str → Option Value} {base : Heap} {C : Addr}
abbrev s_PolicyReader___init__ : Stmt := inClass (topS 14) 0
theorem sc_PolicyReader___init__ : FnScope ["self"] ["self"] (defScope s_PolicyReader___init__) := ⟨rfl, rfl, rfl, by decide +kernel, rfl, by decide +kernel, by decide +kernel⟩
def sp_init (C : Addr) : Sp := fun vs H Q _ => ∃ (r dx : Addr), vs = [.ref r] ∧ H r = some (.ins C dx []) ∧ ∀ g u l H', H g = none → H u = none → H l = none → (∀ a o, a ≠ r → H a = some o → H' a = some o) → PolAt C H' r g u l s0 → Q .non H'
theorem fn_init {f : Addr} {fd : FuncData} {k : Nat} (F : Fun K "__init__" "PolicyReader.__init__" s_PolicyReader___init__ f fd) (T : RT K mg C) : FnOk P w K mg base CX0 (k + 1) f fd ["self"] (sp_init C) := by
  refine F.ok sc_PolicyReader___init__ (fun vs H Q E h => ?_) (fun cdv A outer s H vs Q E hr h => ?_)
  · obtain ⟨r, dx, rfl, _⟩ := h
    rfl
  · obtain ⟨r, dx, rfl, hp, k⟩ := h
    refine ⟨_, (pss_cons (ps_fld (pv 0) pe_dnewK rfl)
      (pss_cons (ps_fld (pv 0) pe_dnewK rfl)
      (pss_one (ps_fld (pv 0) (pe_lst pa_nil) rfl)))), ?_⟩
    intro g hg
    have nrg : r ≠ g := ne_of_none hp hg
    refine ⟨_, rfl, r, C, dx, [], rfl, (by rw [upd_ne nrg]; exact hp), T.cl, T.nG, (by show 0 < 1000; decide), ?_⟩
    intro u hu
    have nru : r ≠ u := fun e => by
      rw [e, upd_same] at hu
      exact nomatch hu
    have hu1 : (upd H g (.dK [])) u = none := by rw [upd_ne nru.symm] at hu; exact hu
    have ngu : g ≠ u := fun e => by
      rw [e, upd_same] at hu1
      exact nomatch hu1
    have hu0 : H u = none := by rw [upd_ne ngu.symm] at hu1; exact hu1
    refine ⟨_, rfl, r, C, dx, _, rfl, (by rw [upd_ne nru, upd_same]), T.cl, T.nU, (by show 1 < 1000; decide), ?_⟩
    refine ⟨Nat.zero_le _, fun l hl => ?_⟩
    have nrl : r ≠ l := fun e => by
      rw [e, upd_same] at hl
      exact nomatch hl
    rw [upd_ne nrl.symm] at hl
    have nul : u ≠ l := fun e => by
      rw [e, upd_same] at hl
      exact nomatch hl
    rw [upd_ne nul.symm, upd_ne nrl.symm] at hl
    have ngl : g ≠ l := fun e => by
      rw [e, upd_same] at hl
      exact nomatch hl
    rw [upd_ne ngl.symm] at hl
    refine ⟨_, rfl, r, C, dx, _, rfl, (by rw [upd_ne nrl, upd_same]), T.cl, T.nL, ?_, ?_⟩
    · exact Nat.lt_of_le_of_lt (Nat.le_trans (length_putF ..) (Nat.succ_le_succ (length_putF ..))) (by show 2 < 1000; decide)
    · refine k g u l _ hg hu0 hl (fun a o n h => ?_) ⟨⟨dx, upd_same⟩, ⟨[], ?_, Nat.le_refl _, fun w => rfl⟩, ⟨[], ?_, Nat.le_refl _, fun w => rfl⟩, ⟨[], ?_, .nil⟩, trivial, ngu⟩
      · rw [upd_ne n, upd_ne (ne_of_none h hl), upd_ne n, upd_ne (ne_of_none h hu0), upd_ne n, upd_ne (ne_of_none h hg)]
        exact h
      · rw [upd_ne nrg.symm, upd_ne ngl, upd_ne nrg.symm, upd_ne ngu, upd_ne nrg.symm, upd_same]
      · rw [upd_ne nru.symm, upd_ne nul, upd_ne nru.symm, upd_same]
      · rw [upd_ne nrl.symm, upd_same]
end
end K70

set_option Elab.async false
set_option linter.all false
set_option maxRecDepth 100000
set_option maxHeartbeats 4000000
namespace K70
open PySem PySem.Spec PyProof.Rows L2 Evl My
section
variable {σ : L2.St} {H : Hp} {te tb td ty : TE} {t : TA} {r : Addr} {C dx : Addr} {fs : List (Str × V)} {m : Str} {sp : Sp} {Q : VK} {E : XK} {vs : List V} {Pa : List V → Hp → Prop} {K : PySem.W.Frag} {a : Addr} {ws : List L}
theorem r_mcal (h : Ev te σ H (.ref r)) (hi : H r = some (.ins C dx fs)) (hm : fs.lookup m = none) (ha : EvA t σ H vs) (k : ∀ H1, Ex H H1 → sp (.ref r :: vs) H1 Q E) : tMeth C m sp [] E te t σ H Q :=
  h H (Ex.refl H) _ fun H1 e1 => ⟨r, dx, fs, rfl, e1 r _ hi, hm, ha H1 e1 _ fun H2 e2 => by rw [List.append_nil]; exact k H2 (e1.trans e2)⟩
theorem r_mcalP (h : Ev te σ H (.ref r)) (hi : H r = some (.ins C dx fs)) (hm : fs.lookup m = none) (ha : EvAP t σ H Pa) (k : ∀ vs H1, Ex H H1 → Pa vs H1 → sp (.ref r :: vs) H1 Q E) : tMeth C m sp [] E te t σ H Q :=
  h H (Ex.refl H) _ fun H1 e1 => ⟨r, dx, fs, rfl, e1 r _ hi, hm, ha H1 e1 _ fun vs H2 e2 p => by rw [List.append_nil]; exact k vs H2 (e1.trans e2) p⟩
theorem txs_nil0 : decide ((txs ws).length = 0) = decide (ws = []) := by rw [txs_len, len0]
theorem txs_cons (w : L) (ws : List L) : txs (w :: ws) = V.str (tx w) :: txs ws := rfl
theorem txs_in (w : L) : ∀ ws : List L, inV (.str (tx w)) (txs ws) = decide (w ∈ ws)
  | [] => rfl
  | x :: ws => by
    show ((tx x == tx w) || inV (.str (tx w)) (txs ws)) = _
    rw [txs_in w ws, Bool.eq_iff_iff, Bool.or_eq_true, decide_eq_true_eq, decide_eq_true_eq, List.mem_cons, beq_iff_eq]
    constructor
    · rintro (h | h)
      · exact .inl (tx_inj h).symm
      · exact .inr h
    · rintro (h | h)
      · exact .inl (by rw [h])
      · exact .inr h
theorem txs_flat (ws : List L) : (txs ws).all flatV = true := by
  rw [List.all_eq_true]
  intro x hx
  obtain ⟨k, _, rfl⟩ := List.mem_map.mp hx
  rfl
theorem txs_drop (ws : List L) (n : Nat) : txs (ws.drop n) = (txs ws).drop n := by unfold txs; rw [List.map_drop]
end
/-- all of some words are words -/
def strB (f : L → Bool) : V → Bool
  | .str s => f s.cps.toList
  | _ => false
theorem bls_txs (f : L → Bool) (ws : List L) : (txs ws).map (fun v => V.bl (strB f v)) = (ws.map f).map V.bl := by
  unfold txs
  rw [List.map_map, List.map_map]
  rfl
theorem all_txs (f : L → Bool) (ws : List L) : (ws.map f).all id = ws.all f := by rw [List.all_map]; rfl
section
variable {P : Program} {w : World} {K : PySem.W.Frag} {mg : Str → Option Value} {base : Heap} {C : Addr}
abbrev s_PolicyReader_people_of : Stmt := inClass (topS 14) 1
theorem sc_PolicyReader_people_of : FnScope ["self", "words", "found", "word", "person"] ["self", "words"] (defScope s_PolicyReader_people_of) := ⟨rfl, rfl, rfl, by decide +kernel, rfl, by decide +kernel, by decide +kernel⟩
/- 0 self, 1 words, 2 found, 3 word, 4 person -/
def sp_people (K : PySem.W.Frag) (C : Addr) : Sp := fun vs H Q _ => ∃ (r g u l wl : Addr) (s : S) (ws : List L), vs = [.ref r, .ref wl] ∧ PolAt C H r g u l s ∧ SqL K H wl (txs ws) ∧ GoodG s.g s.u ∧ ws.length * (s.u.length + 1) ≤ 90000 ∧
  ∀ t H', Ex H H' → H' t = some (.tup (txs (peopleF s.g ws))) → Q (.ref t) H'
theorem flat_snoc (g : L → Option (List L)) (a : List L) (x : L) : flatF g (a ++ [x]) = flatF g a ++ (g x).getD [x] := by
  unfold flatF
  rw [List.flatMap_append]
  simp
theorem dkS_len (ks : List L) : (dkS ks).length = ks.length := by unfold dkS; rw [List.length_map]
theorem fn_people {f : Addr} {fd : FuncData} {k : Nat} (F : Fun K "people_of" "PolicyReader.people_of" s_PolicyReader_people_of f fd) (N : Nb mg) (T : RT K mg C) : FnOk P w K mg base CX0 (k + 1) f fd ["self", "words"] (sp_people K C) := by
  refine F.ok sc_PolicyReader_people_of (fun vs H Q E h => ?_) (fun cdv A outer s H vs Q E hr h => ?_)
  · obtain ⟨_, _, _, _, _, _, _, rfl, _⟩ := h
    rfl
  · obtain ⟨r, g, u, l, wl, s, ws, rfl, hP, hS, hG, hn, q⟩ := h
    refine ⟨_, (pss_cons (ps_set (i := 2) sc_PolicyReader_people_of.nd rfl (Or.inl rfl) pe_dnewK)
      (pss_cons (ps_for PassesOwn.never rfl (pi_list (pv 1)) (pg_name (i := 3) sc_PolicyReader_people_of.nd rfl (Or.inl rfl)) (pss_one (ps_for PassesOwn.never rfl (pi_tup (pe_dget2 (hu_of hr) (pe_fld (pv 0) rfl) (pv 3) (pe_tup (pa_cons (pv 3) pa_nil)) ⟨rfl, rfl, rfl, rfl⟩)) (pg_name (i := 4) sc_PolicyReader_people_of.nd rfl (Or.inl rfl)) (pss_one (ps_dput (hu_of hr) (pv 2) (pv 4) pe_bl rfl)))))
      (pss_one (ps_ret (pe_callTy call_tuple_of (by rfl) N.tuple PyProof.Rows.boot_tuple (pa_cons (pe_callB (cr_sortedDA rfl) (by rfl) N.sorted PyProof.Rows.boot_sorted (pa_cons (pv 2) pa_nil)) pa_nil)))))), ?_⟩
    refine q_dnew fun fd hfd => ?_
    have hlen : ∀ i, (dedF (flatF s.g (ws.take i))).length ≤ 90000 := fun i => by
      refine Nat.le_trans (ded_len _) (Nat.le_trans (flat_len hG _) (Nat.le_trans (Nat.mul_le_mul_right _ ?_) hn))
      rw [List.length_take]
      exact Nat.min_le_right _ _
    refine q_forLn (xs := txs ws) (ev_v rfl) (ex_l (Ex.new hfd) hS) (fun i σ H' => Ex H H' ∧ H' fd = some (.dK (dkS (dedF (flatF s.g (ws.take i))))) ∧ ∃ y3 y4, σ = [some (.ref r), some (.ref wl), some (.ref fd), y3, y4]) (fun H1 e1 => ⟨(Ex.new hfd).trans e1, ?_, none, none, rfl⟩) (fun i σ H' _ h => ex_l h.1 hS) ?_ ?_
    · rw [e1 fd _ upd_same]
      rfl
    · rintro i x σ H' hx ⟨e', h', y3, y4, rfl⟩
      obtain ⟨rfl, hi, hwx⟩ := txs_get' hx
      generalize hw : ws.getD i [] = wd at hwx
      have hP' := hP.ex e'
      obtain ⟨dx, hins⟩ := hP'.ins
      obtain ⟨kvs, hgk, _, hgrp⟩ := hP'.gk
      have htk : flatF s.g (ws.take (i + 1)) = flatF s.g (ws.take i) ++ (s.g wd).getD [wd] := by
        rw [List.take_add_one, hwx]
        exact flat_snoc _ _ _
      refine s_forTX (xs := txs ((s.g wd).getD [wd])) (fun Q' hQ => ev_fld (ev_v rfl) hins T.cl T.nG (pf_g g u l) H' (Ex.refl H') _ fun H1 e1 => ⟨g, rfl, .inl ⟨kvs, .inl (e1 g _ hgk)⟩, ?_⟩) (fun H1 j σ2 H2 => Ex H H2 ∧ Keep fd H1 H2 ∧ (∃ kv, H1 fd = some (.dK kv)) ∧ H2 fd = some (.dK (dkS (dedF (flatF s.g (ws.take i) ++ ((s.g wd).getD [wd]).take j)))) ∧ ∃ y3 y4, σ2 = [some (.ref r), some (.ref wl), some (.ref fd), y3, y4]) (fun H1 e1 => ⟨e'.trans e1, .of (Ex.refl H1), ⟨_, e1 fd _ h'⟩, by rw [e1 fd _ h', List.take_zero, List.append_nil], _, _, rfl⟩) (fun H1 j σ2 H2 a us p ha => ?_) ?_ ?_
      · refine ev_v (v := .str (tx wd)) rfl H1 (Ex.refl H1) _ fun H2 e2 => eu_tup (ea_cons (ev_v (v := .str (tx wd)) rfl) ea_nil) (by show 1 ≤ 100000; decide) H2 (Ex.refl H2) _ fun p H3 hp3 e3 h3 => ⟨valV kvs (.inr (tx wd)), DGet.k (k := Sum.inr (tx wd)) (((e1.trans e2).trans e3) g _ hgk), ?_⟩
        have hg := hgrp wd
        cases hq : s.g wd with
        | none =>
          rw [hq] at hg hQ
          rw [hg]
          exact hQ p H3 ((e1.trans e2).trans e3) h3
        | some ps =>
          rw [hq] at hg hQ
          obtain ⟨a, h1, h2⟩ := hg
          rw [h1]
          exact hQ a H3 ((e1.trans e2).trans e3) (((e1.trans e2).trans e3) a _ h2)
      · obtain ⟨_, kp, ⟨kv, hkv⟩, _⟩ := p
        exact kp a _ (ne_kind ha hkv (fun z => nomatch z)) ha
      · rintro H1 j x σ2 H2 e1 hx2 ⟨e2, kp, hkv, h2, z3, z4, rfl⟩
        obtain ⟨rfl, hj, hpx⟩ := txs_get' hx2
        refine s_dput h2 ev_c (ev_v rfl) (ev_v rfl) ?_ fun H3 e3 => ⟨(e2.trans e3).mut hfd, (kp.trans (.of e3)).trans .upd, hkv, ?_, _, _, rfl⟩
        · rw [dkS_len]
          refine Nat.lt_of_le_of_lt (Nat.le_trans (ded_len _) ?_) (show 90000 < 100000 by decide)
          have := flat_len hG (ws.take (i + 1))
          rw [htk, List.length_append] at this
          have h4 : (ws.take (i + 1)).length * (s.u.length + 1) ≤ ws.length * (s.u.length + 1) := Nat.mul_le_mul_right _ (by rw [List.length_take]; exact Nat.min_le_right _ _)
          rw [List.length_append, List.length_take]
          have := Nat.min_le_right j ((s.g wd).getD [wd]).length
          omega
        · rw [upd_same, dkS_put, List.take_add_one, hpx]
          show _ = some (HO.dK (dkS (dedF (flatF s.g (ws.take i) ++ (((s.g wd).getD [wd]).take j ++ [_])))))
          rw [← List.append_assoc, ded_snoc]
          rfl
      · rintro H1 σ2 H2 e1 ⟨e2, kp, hkv, h2, z3, z4, rfl⟩
        rw [txs_len, List.take_length, ← htk] at h2
        exact ⟨e2, h2, _, _, rfl⟩
    · rintro σ H' ⟨e', h', y3, y4, rfl⟩
      rw [txs_len, List.take_length] at h'
      have hl0 := hlen ws.length
      rw [List.take_length] at hl0
      exact r_ret (eu_tupL (el_sortD (ev_v rfl) h' (by omega)) H' (Ex.refl H') _ fun p H1 hp e1 h1 => q p H1 (e'.trans e1) h1)
abbrev s_PolicyReader_note : Stmt := inClass (topS 14) 2
theorem sc_PolicyReader_note : FnScope ["self", "words", "word"] ["self", "words"] (defScope s_PolicyReader_note) := ⟨rfl, rfl, rfl, by decide +kernel, rfl, by decide +kernel, by decide +kernel⟩
/- 0 self, 1 words, 2 word -/
def sp_note (C : Addr) : Sp := fun vs H Q _ => ∃ (r g u l wl : Addr) (s : S) (ws : List L), vs = [.ref r, .ref wl] ∧ PolAt C H r g u l s ∧ H wl = some (.lst (txs ws)) ∧ wl ≠ l ∧ s.u.length + ws.length ≤ 1000 ∧
  ∀ H', Off g u l H H' → PolAt C H' r g u l ⟨s.g, s.n, s.u ++ ws, s.out⟩ → Q .non H'
theorem fn_note {f : Addr} {fd : FuncData} {k : Nat} (F : Fun K "note" "PolicyReader.note" s_PolicyReader_note f fd) (N : Nb mg) (T : RT K mg C) : FnOk P w K mg base CX0 (k + 1) f fd ["self", "words"] (sp_note C) := by
  refine F.ok sc_PolicyReader_note (fun vs H Q E h => ?_) (fun cdv A outer s H vs Q E hr h => ?_)
  · obtain ⟨_, _, _, _, _, _, _, rfl, _⟩ := h
    rfl
  · obtain ⟨r, g, u, l, wl, s, ws, rfl, hP, hS, hwl, hn, q⟩ := h
    refine ⟨_, (pss_one (ps_for PassesOwn.never rfl (pi_list (pv 1)) (pg_name (i := 2) sc_PolicyReader_note.nd rfl (Or.inl rfl)) (pss_one (ps_dput (hu_of hr) (pe_fld (pv 0) rfl) (pv 2) pe_bl rfl)))), ?_⟩
    obtain ⟨n1, n2, n3⟩ := hP.off hS hwl
    refine s_forLn (xs := txs ws) (ev_v rfl) (sq_of hS) (fun i σ H' => Off g u l H H' ∧ PolAt C H' r g u l ⟨s.g, s.n, s.u ++ ws.take i, s.out⟩ ∧ ∃ y2, σ = [some (.ref r), some (.ref wl), y2]) (fun H1 e1 => ⟨.of e1, by rw [List.take_zero, List.append_nil]; exact hP.ex e1, none, rfl⟩) (fun i σ H' _ h => sq_of (h.1 wl _ n1 n2 n3 hS)) ?_ ?_
    · rintro i x σ H' hx ⟨o', hP', y2, rfl⟩
      obtain ⟨rfl, hi, hwx⟩ := txs_get' hx
      obtain ⟨dx, hins⟩ := hP'.ins
      obtain ⟨kvs, hu, hl, _⟩ := hP'.uk
      refine s_dput hu ev_c (ev_fld (ev_v rfl) hins T.cl T.nU (pf_u g u l)) (ev_v rfl) ?_ fun H2 e2 => ⟨?_, ?_, _, rfl⟩
      · refine Nat.lt_of_le_of_lt hl ?_
        show (s.u ++ ws.take i).length < 100000
        rw [List.length_append, List.length_take]
        have := Nat.min_le_right i ws.length
        omega
      · intro a o h1 h2 h3 h
        rw [upd_ne h2]
        exact e2 a _ (o' a o h1 h2 h3 h)
      · have := (hP'.ex e2).use (e2 u _ hu) (ws.getD i [])
        rw [List.take_add_one, hwx]
        show PolAt C _ r g u l ⟨s.g, s.n, s.u ++ (ws.take i ++ [_]), s.out⟩
        rw [← List.append_assoc]
        exact this
    · rintro σ H' ⟨o', hP', y2, rfl⟩
      rw [txs_len, List.take_length] at hP'
      exact q H' o' hP'
end
end K70

set_option Elab.async false
set_option linter.all false
set_option maxRecDepth 100000
set_option maxHeartbeats 4000000
namespace K70
open PySem PySem.Spec PyProof.Rows L2 Evl My
def resV : L ⊕ S → L
  | .inl e => e
  | .inr _ => []
/-- what a line's words find: room enough -/
structure Rm (s : S) (ws : List L) : Prop where
  good : GoodG s.g s.u
  prod : ws.length * (s.u.length + 1) ≤ 90000
  sum : s.u.length + ws.length ≤ 900
  n : s.n ≤ 2000
  out : s.out.length ≤ 2000
  sh : Shrt ws
theorem Rm.drop {s : S} {ws : List L} (h : Rm s ws) (k : Nat) : Rm s (ws.drop k) := by
  have hl : (ws.drop k).length ≤ ws.length := by rw [List.length_drop]; omega
  exact ⟨h.good, Nat.le_trans (Nat.mul_le_mul_right _ hl) h.prod, by have := h.sum; omega, h.n, h.out, fun p hp => h.sh p (List.mem_of_mem_drop hp)⟩
theorem getD_shrt {ws : List L} (h : Shrt ws) (i : Nat) : (ws.getD i []).length ≤ 1000 := by
  rw [List.getD_eq_getElem?_getD]
  cases e : ws[i]? with
  | none => exact Nat.zero_le _
  | some p => exact h p (List.mem_of_getElem? e)
theorem l1 {x : V} : [x].length ≤ 100000 := by show 1 ≤ 100000; decide
theorem l2 {x y : V} : [x, y].length ≤ 100000 := by show 2 ≤ 100000; decide
theorem l3 {x y z : V} : [x, y, z].length ≤ 100000 := by show 3 ≤ 100000; decide
theorem eap_lf {σ : L2.St} {H : Hp} {te : TE} {tr : TA} {xs : List V} {P : List V → Hp → Prop} (h : EvL te σ H xs) (hr : EvAP tr σ H P) : EvAP (tCons te tr) σ H (fun vs H' => ∃ a r, vs = .ref a :: r ∧ H a = none ∧ H' a = some (.lst xs) ∧ P r H') := fun H1 e Q q =>
  h H1 e _ fun a H2 hn e2 ha => hr H2 (e.trans e2) _ fun r H3 e3 p => q _ H3 (e2.trans e3) ⟨a, r, rfl, fresh_back e hn, e3 a _ ha, p⟩
theorem r_drop {σ : L2.St} {H : Hp} {te : TE} {tz : TS} {D : Ends} (h : te σ H fun _ H1 => tz D σ H1) : tSeq (tDrop te) tz D σ H := h
theorem r_dput {σ : L2.St} {H : Hp} {td ty tv : TE} {tz : TS} {D : Ends} (h : tv σ H fun v H1 => td σ H1 fun x H2 => ty σ H2 fun y H3 => ∃ a H4, x = .ref a ∧ DPut H3 a y v H4 ∧ tz D σ H4) : tSeq (sDPut td ty tv) tz D σ H := h
theorem PolAt.fresh {C : Addr} {H : Hp} {r g u l a : Addr} {s : S} (h : PolAt C H r g u l s) (ha : H a = none) : a ≠ l := fun e => by
  obtain ⟨vs, h1, _⟩ := h.out
  rw [e, h1] at ha
  exact nomatch ha
section
variable {P : Program} {w : World} {K : PySem.W.Frag} {mg : Str → Option Value} {base : Heap} {C : Addr}
abbrev s_PolicyReader_group : Stmt := inClass (topS 14) 3
theorem sc_PolicyReader_group : FnScope ["self", "name", "words", "word"] ["self", "name", "words"] (defScope s_PolicyReader_group) := ⟨rfl, rfl, rfl, by decide +kernel, rfl, by decide +kernel, by decide +kernel⟩
/- 0 self, 1 name, 2 words, 3 word -/
def sp_group (C : Addr) : Sp := fun vs H Q _ => ∃ (r g u l wl : Addr) (s : S) (name : L) (ws : List L), vs = [.ref r, .str (tx name), .ref wl] ∧ PolAt C H r g u l s ∧ H wl = some (.lst (txs ws)) ∧ wl ≠ l ∧ Rm s ws ∧ name.length ≤ 1000 ∧
  ∀ H', Off g u l H H' → (∀ s', groupF s name ws = .inr s' → PolAt C H' r g u l s') → Q (.str (tx (resV (groupF s name ws)))) H'
theorem ev_allW {σ : L2.St} {H : Hp} {k : Nat} {ws : List L} {j : Nat} {vs : List Nat} {tl : TE} (C_is_word : Cal P w K mg base k "is_word" ["value"] (spV (ok_is wordP))) (h : EvP tl σ H fun v H' => ∃ a, v = .ref a ∧ SqL K H' a (txs ws)) (hs : Shrt ws) (hn : ws.length ≤ 1000) (hw : ∀ x, wipe ((wipe σ vs).set j (some x)) vs = wipe σ vs) (hj : ∀ x, ((wipe σ vs).set j (some x))[j]? = some (some x)) :
    Ev (tCB (rAll K) (tCons (tLc (iList K tl) (gName j) tYes (tCall (spV (ok_is wordP)) [] E0 (tCons (tVar j) tNil)) vs) tNil)) σ H (.bl (ws.all wordP)) := by
  have gv : (txs ws).map (fun v => V.bl (strB wordP v)) = (ws.map wordP).map V.bl := bls_txs wordP ws
  refine ev_is (ev_all (bs := ws.map wordP) ?_) (congrArg V.bl (all_txs wordP ws))
  rw [← gv, ← show (txs ws).filter (fun _ => true) = txs ws from List.filter_eq_self.mpr fun _ _ => rfl]
  intro H0 e0 Q0 q0
  refine h H0 e0 _ fun v H1 e1 ⟨a, hv, ha⟩ => ?_
  subst hv
  refine el_lcA (σ := σ) (H := H1) (tl := tC (.ref a)) (fun _ => true) _ ev_c ha (by rw [txs_len]; omega) hw (fun x H2 e2 hx => et_yes) (fun x H2 e2 hx _ => ?_) H1 (Ex.refl H1) Q0 fun p H2 hp e2 h2 => q0 p H2 (fresh_back e1 hp) (e1.trans e2) h2
  obtain ⟨p, hp, rfl⟩ := List.mem_map.mp hx
  exact ev_cal (ea_cons (ev_v (hj _)) ea_nil) fun H3 e3 => ⟨_, .str p, rfl, .str _, .inl ⟨p, rfl, hs p hp, rfl⟩⟩
theorem fn_group {f : Addr} {fd : FuncData} {k : Nat} (F : Fun K "group" "PolicyReader.group" s_PolicyReader_group f fd) (N : Nb mg) (T : RT K mg C) (C_is_word : Cal P w K mg base k "is_word" ["value"] (spV (ok_is wordP))) (M_people_of : MCal P w K mg base k C "people_of" ["self", "words"] (sp_people K C)) (M_note : MCal P w K mg base k C "note" ["self", "words"] (sp_note C)) : FnOk P w K mg base CX0 (k + 1) f fd ["self", "name", "words"] (sp_group C) := by
  refine F.ok sc_PolicyReader_group (fun vs H Q E h => ?_) (fun cdv A outer s H vs Q E hr h => ?_)
  · obtain ⟨_, _, _, _, _, _, _, _, rfl, _⟩ := h
    rfl
  · obtain ⟨r, g, u, l, wl, s, name, ws, rfl, hP, hS, hwl, hR, hnm, q⟩ := h
    refine ⟨_, (pss_cons (ps_if (pt_cmpR (op_eqE hr.units) (pv 2) (pe_lst pa_nil) (nomark _)) (pss_one (ps_ret pe_str)) pss_nil)
      (pss_cons (ps_if (PW.pt (pw_or (pt_not (pt_val (pe_callB (cr_all rfl) (by rfl) N.all PyProof.Rows.boot_all (pa_cons (pe_lc (own := [("word", 3)]) (by rfl) sc_PolicyReader_group.nd (pi_list (pe_op op_cat (pe_lst (pa_cons (pv 1) pa_nil)) (pv 2))) (blkOk_by (own := [("word", 3)]) (N := ["self", "name", "words", "word"]) (sc := defScope s_PolicyReader_group) (by decide +kernel)) (fun _ _ _ _ _ => (pg_name (i := 3) sc_PolicyReader_group.nd rfl (Or.inl rfl))) (fun _ _ _ _ _ => pts_nil) (fun _ _ _ _ _ => (pe_cal C_is_word hr (pa_cons (pv 3) pa_nil)))) pa_nil)))) (pw_or (pt_cmp (pc_din (hu_of hr) (pv 1) (pe_fld (pv 0) rfl))) (pw_or1 (pt_cmpR op_in_seq (pv 1) (pv 2) rfl))))) (pss_one (ps_ret pe_str)) pss_nil)
      (pss_cons (ps_dput (hu_of hr) (pe_fld (pv 0) rfl) (pv 1) (pe_mcal T.cl M_people_of hr (pv 0) (pa_cons (pv 2) pa_nil)) rfl)
      (pss_cons (ps_expr (pe_mcal T.cl M_note hr (pv 0) (pa_cons (pe_op op_cat (pe_lst (pa_cons (pv 1) pa_nil)) (pv 2)) pa_nil)))
      (pss_one (ps_ret pe_str)))))), ?_⟩
    obtain ⟨n1, n2, n3⟩ := hP.off hS hwl
    have hsum := hR.sum
    unfold groupF at q
    refine q_when (et_test (ev_is (ev_eqE (ev_v rfl) (sq_of hS) (el_lst ea_nil (by decide))) (congrArg V.bl txs_nil0))) (fun hb H1 e1 => ?_) fun hb H1 e1 => ?_
    · rw [if_pos (of_decide_eq_true hb)] at q
      exact s_ret (ev_cs rF (by decide +kernel)) fun H2 e2 => q H2 (.of (e1.trans e2)) fun s' h => nomatch h
    · rw [if_neg (of_decide_eq_false hb)] at q
      have hP1 := hP.ex e1
      have hS1 := e1 _ _ hS
      obtain ⟨dx, hins⟩ := hP1.ins
      obtain ⟨ku, hu, _, huk⟩ := hP1.uk
      have hcat : ∀ {H2}, Ex H1 H2 → EvL (tOp rCat (tLst (tCons (tVar 1) tNil)) (tVar 2)) [some (.ref r), some (.str (tx name)), some (.ref wl), none] H2 (txs (name :: ws)) := fun {H2} e2 => el_is (el_cat (evl_n (el_lst (ea_cons (ev_v rfl) ea_nil) l1)) (evl_k (ev_v rfl) (e2 _ _ hS1)) (by rw [txs_len]; show 1 + _ ≤ _; omega)) rfl
      refine q_when (b := !((name :: ws).all wordP) || (decide (name ∈ s.u) || decide (name ∈ ws))) (et_or (et_not (et_B (ev_allW C_is_word (evp_ln (hcat (Ex.refl H1))) (fun p hp => by
        rw [List.mem_cons] at hp
        rcases hp with rfl | hp
        · exact hnm
        · exact hR.sh p hp) (by rw [List.length_cons]; omega) (fun _ => rfl) (fun _ => rfl)))) fun _ => et_or (et_test (ev_is (ev_din (ev_fld (ev_v rfl) hins T.cl T.nU (pf_u g u l)) hu (ev_v rfl)) (congrArg V.bl (huk name)))) fun _ => et_test (ev_is (ev_op (ev_v rfl) (ev_v rfl) (rv_isL (sq_of hS1) rfl (txs_flat ws))) (congrArg V.bl (txs_in name ws)))) (fun hb2 H2 e2 => ?_) fun hb2 H2 e2 => ?_
      · have hc : ((name :: ws).all wordP && (!decide (name ∈ s.u) && !decide (name ∈ ws))) ≠ true := by
          revert hb2
          cases ((name :: ws).all wordP) <;> cases decide (name ∈ s.u) <;> cases decide (name ∈ ws) <;> decide
        rw [if_neg hc] at q
        exact s_ret (ev_cs rN (by decide +kernel)) fun H3 e3 => q H3 (.of ((e1.trans e2).trans e3)) fun s' h => nomatch h
      · have hc : ((name :: ws).all wordP && (!decide (name ∈ s.u) && !decide (name ∈ ws))) = true := by
          revert hb2
          cases ((name :: ws).all wordP) <;> cases decide (name ∈ s.u) <;> cases decide (name ∈ ws) <;> decide
        rw [if_pos hc] at q
        have hP2 := hP1.ex e2
        refine r_dput (r_mcal (ev_v rfl) (e2 _ _ hins) (pf_no g u l (by decide +kernel) (by decide +kernel) (by decide +kernel)) (ea_cons (ev_v rfl) ea_nil) fun H3 e3 => ⟨r, g, u, l, wl, s, ws, rfl, hP2.ex e3, sq_of (e3 _ _ (e2 _ _ hS1)), hR.good, hR.prod, fun t H4 e4 ht => ?_⟩)
        have hP4 := (hP2.ex e3).ex e4
        obtain ⟨dx4, hins4⟩ := hP4.ins
        obtain ⟨kg, hgk, hgl, _⟩ := hP4.gk
        refine ev_fld (ev_v rfl) hins4 T.cl T.nG (pf_g g u l) H4 (Ex.refl H4) _ fun H5 e5 => ev_v (v := .str (tx name)) rfl H5 (Ex.refl H5) _ fun H6 e6 => ⟨g, _, rfl, DPut.k (k := Sum.inr (tx name)) ((e5.trans e6) g _ hgk) (sz_lt (by have := hR.n; omega)), ?_⟩
        have hP7 := (hP4.ex (e5.trans e6)).grp ((e5.trans e6) g _ hgk) name ((e5.trans e6) t _ ht)
        have hS7 : (upd H6 g (.dK (putK kg (.inr (tx name)) (.ref t)))) wl = some (.lst (txs ws)) := by
          rw [upd_ne n1]
          exact ((((e2.trans e3).trans e4).trans e5).trans e6) _ _ hS1
        have o7 : Off g u l H (upd H6 g (.dK (putK kg (.inr (tx name)) (.ref t)))) := fun a o h1 h2 h3 h => by
          rw [upd_ne h1]
          exact ((((((e1.trans e2).trans e3).trans e4).trans e5).trans e6)) a o h
        obtain ⟨dx7, hins7⟩ := hP7.ins
        refine r_drop (r_mcalP (ev_v rfl) hins7 (pf_no g u l (by decide +kernel) (by decide +kernel) (by decide +kernel)) (eap_lf (el_is (el_cat (evl_n (el_lst (ea_cons (ev_v rfl) ea_nil) l1)) (evl_k (ev_v rfl) hS7) (by rw [txs_len]; show 1 + _ ≤ _; omega)) (show _ = txs (name :: ws) from rfl)) eap_nil) ?_)
        rintro vs H8 e8 ⟨a, rr, rfl, hna, ha, rfl⟩
        refine ⟨r, g, u, l, a, _, name :: ws, rfl, hP7.ex e8, ha, hP7.fresh hna, by rw [List.length_cons]; show s.u.length + _ ≤ _; omega, fun H9 o9 hP9 => ?_⟩
        exact s_ret (ev_cs [] (by decide +kernel)) fun H10 e10 => q H10 (((o7.trans (.of e8)).trans o9).trans (.of e10)) fun s' h => by
          cases h
          exact hP9.ex e10
abbrev s_PolicyReader_needs : Stmt := inClass (topS 14) 4
theorem sc_PolicyReader_needs : FnScope ["self", "pattern", "number", "words", "word", "segments", "people"] ["self", "pattern", "number", "words"] (defScope s_PolicyReader_needs) := ⟨rfl, rfl, rfl, by decide +kernel, rfl, by decide +kernel, by decide +kernel⟩
/- 0 self, 1 pattern, 2 number, 3 words, 4 word, 5 segments, 6 people -/
def sp_needs (C : Addr) : Sp := fun vs H Q _ => ∃ (r g u l wl : Addr) (s : S) (pat num : L) (ws : List L), vs = [.ref r, .str (tx pat), .str (tx num), .ref wl] ∧ PolAt C H r g u l s ∧ H wl = some (.lst (txs ws)) ∧ wl ≠ l ∧ Rm s ws ∧ pat.length ≤ 900 ∧ num.length ≤ 1000 ∧
  ∀ H', Off g u l H H' → (∀ s', needsF s pat num ws = .inr s' → PolAt C H' r g u l s') → Q (.str (tx (resV (needsF s pat num ws)))) H'
theorem fn_needs {f : Addr} {fd : FuncData} {k : Nat} (F : Fun K "needs" "PolicyReader.needs" s_PolicyReader_needs f fd) (N : Nb mg) (T : RT K mg C) (C_is_word : Cal P w K mg base k "is_word" ["value"] (spV (ok_is wordP))) (C_is_pattern : Cal P w K mg base k "is_pattern" ["segments"] (spV (ok_is_pattern K))) (C_number_in : Cal P w K mg base k "number_in" ["text"] (spV ok_number_in)) (M_people_of : MCal P w K mg base k C "people_of" ["self", "words"] (sp_people K C)) (M_note : MCal P w K mg base k C "note" ["self", "words"] (sp_note C)) : FnOk P w K mg base CX0 (k + 1) f fd ["self", "pattern", "number", "words"] (sp_needs C) := by
  refine F.ok sc_PolicyReader_needs (fun vs H Q E h => ?_) (fun cdv A outer s H vs Q E hr h => ?_)
  · obtain ⟨_, _, _, _, _, _, _, _, _, rfl, _⟩ := h
    rfl
  · obtain ⟨r, g, u, l, wl, s, pat, num, ws, rfl, hP, hS, hwl, hR, hpa, hnu, q⟩ := h
    refine ⟨_, (pss_cons (ps_if (pt_cmpR (op_eqE hr.units) (pv 3) (pe_lst pa_nil) (nomark _)) (pss_one (ps_ret pe_str)) pss_nil)
      (pss_cons (ps_if (pt_not (pt_val (pe_callB (cr_all rfl) (by rfl) N.all PyProof.Rows.boot_all (pa_cons (pe_lc (own := [("word", 4)]) (by rfl) sc_PolicyReader_needs.nd (pi_list (pv 3)) (blkOk_by (own := [("word", 4)]) (N := ["self", "pattern", "number", "words", "word", "segments", "people"]) (sc := defScope s_PolicyReader_needs) (by decide +kernel)) (fun _ _ _ _ _ => (pg_name (i := 4) sc_PolicyReader_needs.nd rfl (Or.inl rfl))) (fun _ _ _ _ _ => pts_nil) (fun _ _ _ _ _ => (pe_cal C_is_word hr (pa_cons (pv 4) pa_nil)))) pa_nil)))) (pss_one (ps_ret pe_str)) pss_nil)
      (pss_cons (ps_set (i := 5) sc_PolicyReader_needs.nd rfl (Or.inl rfl) (pe_callTy call_tuple_of (by rfl) N.tuple PyProof.Rows.boot_tuple (pa_cons (pe_split (pv 1) pe_str) pa_nil)))
      (pss_cons (ps_if (pt_not (pt_val (pe_cal C_is_pattern hr (pa_cons (pv 5) pa_nil)))) (pss_one (ps_ret pe_str)) pss_nil)
      (pss_cons (ps_set (i := 6) sc_PolicyReader_needs.nd rfl (Or.inl rfl) (pe_mcal T.cl M_people_of hr (pv 0) (pa_cons (pv 3) pa_nil)))
      (pss_cons (ps_if (pt_not (pt_chain op_le op_le pe_int (pe_cal C_number_in hr (pa_cons (pv 2) pa_nil)) (pe_callB call_len_seq (by rfl) N.len PySem.boot_len (pa_cons (pv 6) pa_nil)))) (pss_one (ps_ret pe_str)) pss_nil)
      (pss_cons (ps_expr (pe_bm PySem.F.plainAttrs_list PySem.F.slot_list_append PySem.F.type_list_append mt_append (pe_fld (pv 0) rfl) (pa_cons (pe_tup (pa_cons (pv 5) (pa_cons (pe_cal C_number_in hr (pa_cons (pv 2) pa_nil)) (pa_cons (pv 6) pa_nil)))) pa_nil)))
      (pss_cons (ps_expr (pe_mcal T.cl M_note hr (pv 0) (pa_cons (pv 3) pa_nil)))
      (pss_one (ps_ret pe_str)))))))))), ?_⟩
    obtain ⟨n1, n2, n3⟩ := hP.off hS hwl
    have hsum := hR.sum
    unfold needsF at q
    refine q_when (et_test (ev_is (ev_eqE (ev_v rfl) (sq_of hS) (el_lst ea_nil (by decide))) (congrArg V.bl txs_nil0))) (fun hb H1 e1 => ?_) fun hb H1 e1 => ?_
    · rw [if_pos (of_decide_eq_true hb)] at q
      exact s_ret (ev_cs rF (by decide +kernel)) fun H2 e2 => q H2 (.of (e1.trans e2)) fun s' h => nomatch h
    rw [if_neg (of_decide_eq_false hb)] at q
    have hP1 := hP.ex e1
    have hS1 := e1 _ _ hS
    obtain ⟨dx, hins⟩ := hP1.ins
    refine q_when (b := !(ws.all wordP)) (et_not (et_B (ev_allW C_is_word (evp_k (ev_v rfl) (sq_of hS1)) hR.sh (by omega) (fun _ => rfl) (fun _ => rfl)))) (fun hb2 H2 e2 => ?_) fun hb2 H2 e2 => ?_
    · rw [if_neg (by simpa using hb2)] at q
      exact s_ret (ev_cs rN (by decide +kernel)) fun H3 e3 => q H3 (.of ((e1.trans e2).trans e3)) fun s' h => nomatch h
    rw [if_pos (by simpa using hb2)] at q
    have hsl := splitT_len 47 pat
    have hsp : Shrt (splitT 47 pat) := fun p hp => Nat.le_trans (splitT_part 47 pat p hp) (by omega)
    generalize hsg : splitT 47 pat = segs at q hsl hsp
    refine q_asgU (xs := txs segs) (eu_tupL (by rw [← hsg]; exact el_splitT (by decide) (ev_v rfl) (ev_cs [47] (by decide +kernel)) (by omega))) fun sg H3 hsg3 e3 h3 => ?_
    refine q_when (b := !(patF segs)) (et_not (et_B (ev_cal (ea_cons (ev_v rfl) ea_nil) fun H4 e4 => ⟨sg, segs, rfl, st_of (e4 _ _ h3), by omega, hsp, rfl⟩))) (fun hb4 H4 e4 => ?_) fun hb4 H4 e4 => ?_
    · rw [if_neg (by simpa using hb4)] at q
      exact s_ret (ev_cs rP (by decide +kernel)) fun H5 e5 => q H5 (.of ((((e1.trans e2).trans e3).trans e4).trans e5)) fun s' h => nomatch h
    rw [if_pos (by simpa using hb4)] at q
    have E4 := (e2.trans e3).trans e4
    have hP4 := hP1.ex E4
    refine r_asg (r_mcal (ev_v rfl) (E4 _ _ hins) (pf_no g u l (by decide +kernel) (by decide +kernel) (by decide +kernel)) (ea_cons (ev_v rfl) ea_nil) fun H5 e5 => ⟨r, g, u, l, wl, s, ws, rfl, hP4.ex e5, sq_of (e5 _ _ (E4 _ _ hS1)), hR.good, hR.prod, fun t H6 e6 ht => ?_⟩)
    have E6 := (E4.trans e5).trans e6
    have hpl := people_len s.g ws
    have hfl := flat_len hR.good ws
    have hpr := hR.prod
    have hnumE : ∀ {σ : L2.St} {H' : Hp}, σ[2]? = some (some (V.str (tx num))) → Ev (tCall (spV ok_number_in) [] E0 (tCons (tVar 2) tNil)) σ H' (.int (numF num : Nat)) := fun hv => ev_cal (ea_cons (ev_v hv) ea_nil) fun H7 e7 => ⟨num, rfl, hnu, rfl⟩
    refine q_when (b := !(decide (1 ≤ numF num ∧ numF num ≤ (peopleF s.g ws).length))) (et_not (et_is (et_test (ev_chain (ev_cn 1) (hnumE rfl) rv_I0 (fun _ => ev_is (ev_lenT (ev_v rfl) (st_of ht)) (by rw [txs_len])) (fun _ => rv_I0))) ?_)) (fun hb7 H7 e7 => ?_) fun hb7 H7 e7 => ?_
    · rw [Bool.eq_iff_iff, Bool.and_eq_true, decide_eq_true_eq, decide_eq_true_eq, decide_eq_true_eq]
      omega
    · rw [if_neg (of_decide_eq_false (by rw [Bool.not_eq_true'] at hb7; exact hb7))] at q
      exact s_ret (ev_cs rU (by decide +kernel)) fun H8 e8 => q H8 (.of (((e1.trans E6).trans e7).trans e8)) fun s' h => nomatch h
    rw [if_pos (of_decide_eq_true (by rw [Bool.not_eq_false'] at hb7; exact hb7))] at q
    have E7 := E6.trans e7
    have hP7 := hP1.ex E7
    obtain ⟨dx7, hins7⟩ := hP7.ins
    obtain ⟨vs7, hl7, hr7⟩ := hP7.out
    have hlen7 := hr7.len
    refine q_appU (xs := vs7) (ys := [.ref sg, .int (numF num : Nat), .ref t]) hl7 (ev_fld (ev_v rfl) hins7 T.cl T.nL (pf_l g u l)) (eu_tup (ea_cons (ev_v rfl) (ea_cons (hnumE rfl) (ea_cons (ev_v rfl) ea_nil))) l3) (by have := hR.out; omega) fun p H8 hp8 e8 h8 => ?_
    have hrow : Rep H8 (.ref p) (rowD segs (numF num) (peopleF s.g ws)) := .tup h8 (.cons (.tup (((((e4.trans e5).trans e6).trans e7).trans e8) _ _ h3) (reps_txs _ _)) (.cons (.int _) (.cons (.tup ((e7.trans e8) _ _ ht) (reps_txs _ _)) .nil)))
    have hP8 := (hP7.ex e8).row (e8 _ _ hl7) hrow (nol_row _ _ _)
    have hS8 : (upd H8 l (.lst (vs7 ++ [V.ref p]))) wl = some (.lst (txs ws)) := by
      rw [upd_ne n3]
      exact (E7.trans e8) _ _ hS1
    have o8 : Off g u l H (upd H8 l (.lst (vs7 ++ [V.ref p]))) := fun a o h1 h2 h3 h => by
      rw [upd_ne h3]
      exact ((e1.trans E7).trans e8) a o h
    obtain ⟨dx8, hins8⟩ := hP8.ins
    refine r_drop (r_mcal (ev_v rfl) hins8 (pf_no g u l (by decide +kernel) (by decide +kernel) (by decide +kernel)) (ea_cons (ev_v rfl) ea_nil) fun H9 e9 => ⟨r, g, u, l, wl, _, ws, rfl, hP8.ex e9, e9 _ _ hS8, hwl, by show s.u.length + _ ≤ _; omega, fun H10 o10 hP10 => ?_⟩)
    exact s_ret (ev_cs [] (by decide +kernel)) fun H11 e11 => q H11 (((o8.trans (.of e9)).trans o10).trans (.of e11)) fun s' h => by
      cases h
      exact hP10.ex e11
end
end K70

set_option Elab.async false
set_option linter.all false
set_option maxRecDepth 100000
set_option maxHeartbeats 4000000
namespace K70
open PySem PySem.Spec PyProof.Rows L2 Evl My
theorem getD_some {ws : List L} {i : Nat} (h : i < ws.length) : ws[i]? = some (ws.getD i []) := by
  rw [List.getD_eq_getElem?_getD, List.getElem?_eq_getElem h]
  rfl
def szF (l : L) : Nat := l.length + 1
def Lim (ls : List L) : Prop := (ls.map szF).sum ≤ 1100 ∧ ∀ l ∈ ls, l.length ≤ 900
theorem prod_le {a b : Nat} (h : a + b ≤ 550) : a * (b + 1) ≤ 90000 := by
  have h1 : ∀ a, a < 552 → a * (551 - a) ≤ 90000 := by decide +kernel
  exact Nat.le_trans (Nat.mul_le_mul_left a (show b + 1 ≤ 551 - a by omega)) (h1 a (by omega))
theorem split_sum (c : Nat) : ∀ l : L, ((splitT c l).map szF).sum = l.length + 1
  | [] => rfl
  | x :: r => by
    have ih := split_sum c r
    rw [splitT]
    split
    · rw [List.map_cons, List.sum_cons, ih]
      show 0 + 1 + _ = _
      rw [List.length_cons]
      omega
    · split
      · rename_i h
        exact absurd h (by
          intro h
          rw [h] at ih
          exact nomatch ih)
      · rename_i p q h
        rw [h, List.map_cons, List.sum_cons] at ih
        rw [List.map_cons, List.sum_cons, List.length_cons]
        unfold szF at *
        rw [List.length_cons]
        omega
theorem filt_sum : ∀ ps : List L, 2 * (ps.filter fun p => decide (p ≠ [])).length ≤ (ps.map szF).sum
  | [] => Nat.le_refl _
  | p :: ps => by
    have ih := filt_sum ps
    rw [List.filter_cons, List.map_cons, List.sum_cons]
    unfold szF at *
    split
    · rename_i h
      have hp : p ≠ [] := of_decide_eq_true h
      have : 0 < p.length := List.length_pos_iff.mpr hp
      rw [List.length_cons]
      omega
    · omega
theorem said_len (l : L) : 2 * (saidF l).length ≤ l.length + 1 := by
  unfold saidF wordsF
  split
  · rw [← split_sum 32 l]
    exact filt_sum _
  · exact Nat.zero_le _
theorem said_part {l p : L} (h : p ∈ saidF l) : p.length ≤ l.length := by
  unfold saidF wordsF at h
  split at h
  · exact splitT_part 32 l p (List.mem_filter.mp h).1
  · exact absurd h (by simp)
theorem lim_take {ls : List L} {i : Nat} {l : L} (h : ls[i]? = some l) : ((ls.take (i + 1)).map szF).sum = ((ls.take i).map szF).sum + szF l := by
  rw [List.take_add_one, h, List.map_append, List.sum_append]
  simp
theorem lim_le (ls : List L) (i : Nat) : ((ls.take i).map szF).sum ≤ (ls.map szF).sum := by
  have : (ls.map szF).sum = ((ls.take i).map szF).sum + ((ls.drop i).map szF).sum := by
    rw [← List.sum_append, ← List.map_append, List.take_append_drop]
  omega
theorem txs_isEmpty {ws : List L} (h : ws ≠ []) : (txs ws).isEmpty = false := by
  cases ws with
  | nil => exact absurd rfl h
  | cons a r => rfl
theorem lim_len : ∀ ls : List L, ls.length ≤ (ls.map szF).sum
  | [] => Nat.le_refl _
  | l :: ls => by
    have := lim_len ls
    rw [List.map_cons, List.sum_cons, List.length_cons]
    unfold szF at *
    omega
theorem take_ne {s : S} {ws : List L} {e : L} (h : takeF s ws = .inl e) : e ≠ [] := by
  unfold takeF groupF needsF at h
  repeat' (split at h)
  all_goals first
    | (cases h; done)
    | (cases h; exact fun z => nomatch z)
theorem take_out {s s' : S} {ws : List L} (h : takeF s ws = .inr s') : s'.out.length ≤ s.out.length + 1 := by
  unfold takeF groupF needsF at h
  repeat' (split at h)
  all_goals first
    | (cases h; done)
    | (cases h; first | exact Nat.le_succ _ | (rw [List.length_append]; exact Nat.le_refl _))
section
variable {P : Program} {w : World} {K : PySem.W.Frag} {mg : Str → Option Value} {base : Heap} {C : Addr}
theorem ev_word {σ : L2.St} {H : Hp} {ta tb : TE} {a : Addr} {ws : List L} {i : Nat} (ha : Ev ta σ H (.ref a)) (hb : Ev tb σ H (.int (i : Int))) (hS : SqL K H a (txs ws)) (h : i < ws.length) : Ev (tOp (rIxL K) ta tb) σ H (.str (tx (ws.getD i []))) := ev_ixL ha hb hS (txs_get (getD_some h))
theorem el_drop {σ : L2.St} {H : Hp} {ta tb : TE} {a : Addr} {ws : List L} {i : Nat} (ha : Ev ta σ H (.ref a)) (hb : Ev tb σ H (.int (i : Int))) (hS : SqL K H a (txs ws)) : EvL (tSl (rSlL K) ta (tPart tb) tNoPart) σ H (txs (ws.drop i)) := by
  rw [txs_drop, ← cutV_drop]
  exact el_sl ha (eo_some hb) eo_none hS
abbrev s_PolicyReader_take : Stmt := inClass (topS 14) 5
theorem sc_PolicyReader_take : FnScope ["self", "words"] ["self", "words"] (defScope s_PolicyReader_take) := ⟨rfl, rfl, rfl, by decide +kernel, rfl, by decide +kernel, by decide +kernel⟩
/- 0 self, 1 words -/
def sp_take (C : Addr) : Sp := fun vs H Q _ => ∃ (r g u l wl : Addr) (s : S) (ws : List L), vs = [.ref r, .ref wl] ∧ PolAt C H r g u l s ∧ H wl = some (.lst (txs ws)) ∧ wl ≠ l ∧ Rm s ws ∧ (∀ p ∈ ws, p.length ≤ 900) ∧
  ∀ H', Off g u l H H' → (∀ s', takeF s ws = .inr s' → PolAt C H' r g u l s') → Q (.str (tx (resV (takeF s ws)))) H'
theorem fn_take {f : Addr} {fd : FuncData} {k : Nat} (F : Fun K "take" "PolicyReader.take" s_PolicyReader_take f fd) (N : Nb mg) (T : RT K mg C) (M_group : MCal P w K mg base k C "group" ["self", "name", "words"] (sp_group C)) (M_needs : MCal P w K mg base k C "needs" ["self", "pattern", "number", "words"] (sp_needs C)) : FnOk P w K mg base CX0 (k + 1) f fd ["self", "words"] (sp_take C) := by
  refine F.ok sc_PolicyReader_take (fun vs H Q E h => ?_) (fun cdv A outer s H vs Q E hr h => ?_)
  · obtain ⟨_, _, _, _, _, _, _, rfl, _⟩ := h
    rfl
  · obtain ⟨r, g, u, l, wl, s, ws, rfl, hP, hS, hwl, hR, h9, q⟩ := h
    refine ⟨_, (pss_cons (ps_if (PW.pt (pw_and (pt_cmpR op_gt (pe_callB call_len_seq (by rfl) N.len PySem.boot_len (pa_cons (pv 1) pa_nil)) pe_int (nomark _)) (pw_and (pt_cmpR op_eq (pe_ix ix_list (pv 1) pe_int (fun _ _ => rfl)) pe_str (nomark _)) (pw_and1 (pt_cmpR op_eq (pe_ix ix_list (pv 1) pe_int (fun _ _ => rfl)) pe_str (nomark _)))))) (pss_one (ps_ret (pe_mcal T.cl M_group hr (pv 0) (pa_cons (pe_ix ix_list (pv 1) pe_int (fun _ _ => rfl)) (pa_cons (pe_slice sl_list (pv 1) (po_some pe_int) po_none) pa_nil))))) pss_nil)
      (pss_cons (ps_if (PW.pt (pw_and (pt_cmpR op_gt (pe_callB call_len_seq (by rfl) N.len PySem.boot_len (pa_cons (pv 1) pa_nil)) pe_int (nomark _)) (pw_and (pt_cmpR op_eq (pe_ix ix_list (pv 1) pe_int (fun _ _ => rfl)) pe_str (nomark _)) (pw_and1 (pt_cmpR op_eq (pe_ix ix_list (pv 1) pe_int (fun _ _ => rfl)) pe_str (nomark _)))))) (pss_one (ps_ret (pe_mcal T.cl M_needs hr (pv 0) (pa_cons (pe_ix ix_list (pv 1) pe_int (fun _ _ => rfl)) (pa_cons (pe_ix ix_list (pv 1) pe_int (fun _ _ => rfl)) (pa_cons (pe_slice sl_list (pv 1) (po_some pe_int) po_none) pa_nil)))))) pss_nil)
      (pss_one (ps_ret pe_str)))), ?_⟩
    have h9' : ∀ i, (ws.getD i []).length ≤ 900 := fun i => by
      rw [List.getD_eq_getElem?_getD]
      cases e : ws[i]? with
      | none => exact Nat.zero_le _
      | some p => exact h9 p (List.mem_of_getElem? e)
    obtain ⟨dx, hins⟩ := hP.ins
    unfold takeF at q
    have hwd : ∀ {H' : Hp} {i : Nat} {z : Str} {c : L}, Ex H H' → i < ws.length → z = tx c → Ev (tOp rEq (tOp (rIxL K) (tVar 1) (tC (.int (i : Int)))) (tC (.str z))) [some (.ref r), some (.ref wl)] H' (.bl (decide (ws.getD i [] = c))) := fun e hi hz => ev_is (ev_op (ev_word (ev_v rfl) (ev_cn _) (sq_of (e _ _ hS)) hi) (ev_cs _ hz) (rv_eq rfl)) (congrArg V.bl str_dec)
    have hln : ∀ {H' : Hp} {n : Nat}, Ex H H' → Ev (tOp (rI0 fun i j => .bl (decide (j < i))) (tCB (rLenS K) (tCons (tVar 1) tNil)) (tC (.int (n : Int)))) [some (.ref r), some (.ref wl)] H' (.bl (decide (n < ws.length))) := fun e => ev_is (ev_op (ev_len (ev_v rfl) (sq_of (e _ _ hS))) (ev_cn _) rv_I0) (congrArg V.bl (by rw [txs_len]; exact decide_eq_decide.mpr (by omega)))
    refine q_when (b := decide (2 < ws.length) && (decide (ws.getD 0 [] = wG) && decide (ws.getD 2 [] = wE))) (et_and (et_test (hln (Ex.refl H))) fun h2 => et_and (et_test (hwd (i := 0) (Ex.refl H) (by have := of_decide_eq_true h2; omega) (by decide +kernel))) fun _ => et_test (hwd (i := 2) (Ex.refl H) (by have := of_decide_eq_true h2; omega) (by decide +kernel))) (fun hb H1 e1 => ?_) fun hb H1 e1 => ?_
    · have hg : isG ws := by
        rw [Bool.and_eq_true, Bool.and_eq_true, decide_eq_true_eq, decide_eq_true_eq, decide_eq_true_eq] at hb
        exact hb
      rw [if_pos hg] at q
      have hP1 := hP.ex e1
      have hg1 := hg.1
      refine r_ret (r_mcalP (ev_v rfl) (e1 _ _ hins) (pf_no g u l (by decide +kernel) (by decide +kernel) (by decide +kernel)) (eap_v (ev_word (ev_v rfl) (ev_cn 1) (sq_of (e1 _ _ hS)) (by omega)) (eap_lf (el_drop (ev_v rfl) (ev_cn 3) (sq_of (e1 _ _ hS))) eap_nil)) ?_)
      rintro vs H2 e2 ⟨_, rfl, a, _, rfl, hna, ha, rfl⟩
      exact ⟨r, g, u, l, a, s, _, _, rfl, hP1.ex e2, ha, hP1.fresh hna, hR.drop 3, by have := h9' 1; omega, fun H3 o3 hp => q H3 ((Off.of (e1.trans e2)).trans o3) hp⟩
    have hg : ¬ isG ws := by
      intro hg
      unfold isG at hg
      rw [decide_eq_true hg.1, decide_eq_true hg.2.1, decide_eq_true hg.2.2] at hb
      exact nomatch hb
    rw [if_neg hg] at q
    refine q_when (b := decide (3 < ws.length) && (decide (ws.getD 1 [] = wN) && decide (ws.getD 3 [] = wO))) (et_and (et_test (hln e1)) fun h2 => et_and (et_test (hwd (i := 1) e1 (by have := of_decide_eq_true h2; omega) (by decide +kernel))) fun _ => et_test (hwd (i := 3) e1 (by have := of_decide_eq_true h2; omega) (by decide +kernel))) (fun hb H2 e2 => ?_) fun hb H2 e2 => ?_
    · have hg : isN ws := by
        rw [Bool.and_eq_true, Bool.and_eq_true, decide_eq_true_eq, decide_eq_true_eq, decide_eq_true_eq] at hb
        exact hb
      rw [if_pos hg] at q
      have E2 := e1.trans e2
      have hP2 := hP.ex E2
      have hg1 := hg.1
      refine r_ret (r_mcalP (ev_v rfl) (E2 _ _ hins) (pf_no g u l (by decide +kernel) (by decide +kernel) (by decide +kernel)) (eap_v (ev_word (ev_v rfl) (ev_cn 0) (sq_of (E2 _ _ hS)) (by omega)) (eap_v (ev_word (ev_v rfl) (ev_cn 2) (sq_of (E2 _ _ hS)) (by omega)) (eap_lf (el_drop (ev_v rfl) (ev_cn 4) (sq_of (E2 _ _ hS))) eap_nil))) ?_)
      rintro vs H3 e3 ⟨_, rfl, _, rfl, a, _, rfl, hna, ha, rfl⟩
      exact ⟨r, g, u, l, a, s, _, _, _, rfl, hP2.ex e3, ha, hP2.fresh hna, hR.drop 4, h9' 0, by have := h9' 2; omega, fun H4 o4 hp => q H4 ((Off.of (E2.trans e3)).trans o4) hp⟩
    have hg : ¬ isN ws := by
      intro hg
      unfold isN at hg
      rw [decide_eq_true hg.1, decide_eq_true hg.2.1, decide_eq_true hg.2.2] at hb
      exact nomatch hb
    rw [if_neg hg] at q
    exact s_ret (ev_cs rF (by decide +kernel)) fun H3 e3 => q H3 (.of ((e1.trans e2).trans e3)) fun s' h => nomatch h
abbrev s_read_policy : Stmt := topS 15
theorem sc_read_policy : FnScope ["lines", "reader", "index", "line", "words", "reason"] ["lines"] (defScope s_read_policy) := ⟨rfl, rfl, rfl, by decide +kernel, rfl, by decide +kernel, by decide +kernel⟩
/- 0 lines, 1 reader, 2 index, 3 line, 4 words, 5 reason -/
def sp_read (K : PySem.W.Frag) : Sp := fun vs H Q _ => ∃ (a : Addr) (ls : List L), vs = [.ref a] ∧ SqT K H a (txs ls) ∧ Lim ls ∧ ∀ v H', Ex H H' → Rep H' v (polD (readF s0 0 ls)) → Q v H'
theorem ed_tupR {σ : L2.St} {H : Hp} {te : TE} {a : Addr} {vs : List V} {ds : List D} (h : Ev te σ H (.ref a)) (ha : SqL K H a vs) (r : Reps H vs ds) : EvD (tCB (rTupS K) (tCons te tNil)) σ H (.tup ds) := fun H1 e Q q =>
  eu_tupV h ha H1 e _ fun p H2 _ e2 h2 => q (.ref p) H2 e2 (.tup h2 (r.mono (e.trans e2)))
theorem fn_read_policy {f : Addr} {fd : FuncData} {k : Nat} (F : Fun K "read_policy" "read_policy" s_read_policy f fd) (N : Nb mg) (T : RT K mg C) (C_words_in : Cal P w K mg base k "words_in" ["line"] (spL ok_words_in)) (M_take : MCal P w K mg base k C "take" ["self", "words"] (sp_take C)) {m : Nat} (M_new : MkC P w K mg base m "PolicyReader" C ["self"] (sp_init C)) (hk : m + 1 ≤ k) : FnOk P w K mg base CX0 (k + 1) f fd ["lines"] (sp_read K) := by
  refine F.ok sc_read_policy (fun vs H Q E h => ?_) (fun cdv A outer s H vs Q E hr h => ?_)
  · obtain ⟨_, _, rfl, _⟩ := h
    rfl
  · obtain ⟨a, ls, rfl, hS, hL, q⟩ := h
    refine ⟨_, (pss_cons (ps_set (i := 1) sc_read_policy.nd rfl (Or.inl rfl) (pe_mkc0 M_new hr hk))
      (pss_cons (ps_for PassesOwn.never rfl (pi_enumT rfl N.enumerate (pa_cons (pv 0) pa_nil)) (pg_tup rfl (pgs_cons (pg_name (i := 2) sc_read_policy.nd rfl (Or.inl rfl)) (pgs_cons (pg_name (i := 3) sc_read_policy.nd rfl (Or.inl rfl)) pgs_nil))) (pss_cons (ps_set (i := 4) sc_read_policy.nd rfl (Or.inl rfl) (pe_cal C_words_in hr (pa_cons (pv 3) pa_nil)))
      (pss_cons (ps_set (i := 5) sc_read_policy.nd rfl (Or.inl rfl) (pe_ifExp (pt_truth (pv 4) (by intro _; rfl)) (pe_mcal T.cl M_take hr (pv 1) (pa_cons (pv 4) pa_nil)) pe_str))
      (pss_one (ps_if (pt_cmpR op_ne (pv 5) pe_str (nomark _)) (pss_one (ps_ret (pe_tup (pa_cons pe_str (pa_cons (pv 2) (pa_cons (pv 5) pa_nil)))))) pss_nil)))))
      (pss_one (ps_ret (pe_tup (pa_cons pe_str (pa_cons (pe_callTy call_tuple_of (by rfl) N.tuple PyProof.Rows.boot_tuple (pa_cons (pe_fld (pv 1) rfl) pa_nil)) pa_nil))))))), ?_⟩
    intro r dx nr ndx nex
    have e0 : Ex H (upd (upd H dx (.own r)) r (.ins C dx [])) := ((Ex.refl H).mut ndx).mut nr
    refine ⟨r, dx, rfl, upd_same, fun g u l H1 hg hu hl hk0 hP => ⟨rfl, ?_⟩⟩
    have e1 : Ex H H1 := fun b o h => hk0 b o (ne_of_none h nr) (e0 b o h)
    have ng := fresh_back e0 hg
    have nu := fresh_back e0 hu
    have nl := fresh_back e0 hl
    have hlm := hL.1
    refine q_forET (xs := txs ls) (ev_v rfl) (ex_t e1 hS) (fun i σ H' => Ex H H' ∧ ∃ (s : S) (y2 y3 y4 y5 : Option V), PolAt C H' r g u l s ∧ GoodG s.g s.u ∧ s.n ≤ i ∧ s.out.length ≤ i ∧ 2 * s.u.length ≤ ((ls.take i).map szF).sum ∧ readF s0 0 ls = readF s i (ls.drop i) ∧ σ = [some (.ref a), some (.ref r), y2, y3, y4, y5]) (fun H2 e2 => ⟨e1.trans e2, s0, none, none, none, none, hP.ex e2, fun w ps h => (nomatch h), Nat.le_refl _, Nat.le_refl _, Nat.zero_le _, rfl, rfl⟩) (fun i σ H' _ h => ex_t h.1 hS) ?_ ?_
    · rintro i x σ H' H2 hx ⟨e', s, y2, y3, y4, y5, hP', hG, hn, ho, hu2, hrd, rfl⟩ e2
      obtain ⟨rfl, hi, hlx⟩ := txs_get' hx
      generalize hln : ls.getD i [] = ln at hlx
      have hsum : ((ls.take (i + 1)).map szF).sum = ((ls.take i).map szF).sum + (ln.length + 1) := lim_take hlx
      have hle := lim_le ls (i + 1)
      have hll := lim_len ls
      have hl9 : ln.length ≤ 900 := hL.2 ln (List.mem_of_getElem? hlx)
      have hsl := said_len ln
      have hdr : ls.drop i = ln :: ls.drop (i + 1) := by
        rw [List.drop_eq_getElem_cons hi]
        have := (List.getElem?_eq_getElem hi).symm.trans hlx
        rw [Option.some.inj this]
      rw [hdr, readF] at hrd
      have hP2 := hP'.ex e2
      have E2 := e'.trans e2
      refine q_asgL (el_cal (ea_cons (ev_v rfl) ea_nil) fun H3 e3 => ⟨ln, rfl, by omega, rfl⟩) fun wl H3 hwl e3 h3 => ?_
      have hP3 := hP2.ex e3
      obtain ⟨dx3, hins⟩ := hP3.ins
      by_cases hs : saidF ln = []
      · rw [hs] at h3
        rw [if_pos hs] at hrd
        refine r_asg (r_if (r_ev (ev_v (v := .ref wl) rfl) (Ex.refl H3) fun H4 e4 => ⟨false, .inl ⟨[], sq_of (e4 _ _ h3), rfl⟩, ?_⟩))
        refine iteF ?_
        refine r_ev (ev_cs [] (by decide +kernel)) (Ex.refl H4) fun H5 e5 => ?_
        refine s_when (et_test (ev_op (ev_v rfl) (ev_cs [] (by decide +kernel)) (rv_ne rfl))) (fun hb => by simp at hb) fun hb H6 e6 => ?_
        have E6 := ((e3.trans e4).trans e5).trans e6
        exact ⟨E2.trans E6, s, _, _, _, _, hP2.ex E6, hG, by omega, by omega, by omega, hrd, rfl⟩
      · rw [if_neg hs] at hrd
        refine r_asg (r_if (r_ev (ev_v (v := .ref wl) rfl) (Ex.refl H3) fun H4 e4 => ⟨true, .inl ⟨txs (saidF ln), sq_of (e4 _ _ h3), by rw [txs_isEmpty hs]; rfl⟩, ?_⟩))
        refine iteT ?_
        have hprod : (saidF ln).length * (s.u.length + 1) ≤ 90000 := prod_le (by omega)
        refine r_mcal (ev_v rfl) (e4 _ _ hins) (pf_no g u l (by decide +kernel) (by decide +kernel) (by decide +kernel)) (ea_cons (ev_v rfl) ea_nil) fun H5 e5 => ⟨r, g, u, l, wl, s, saidF ln, rfl, hP3.ex (e4.trans e5), (e4.trans e5) _ _ h3, hP2.fresh hwl, ⟨hG, hprod, by omega, by omega, by omega, fun p hp => by have := said_part hp; omega⟩, fun p hp => by have := said_part hp; omega, fun H6 o6 hp6 => ?_⟩
        have E6 : Ex H H6 := o6.ex (((E2.trans e3).trans e4).trans e5) ng nu nl
        refine s_when (et_test (ev_is (ev_op (ev_v rfl) (ev_cs [] (by decide +kernel)) (rv_ne rfl)) (congrArg V.bl (congrArg Bool.not str_dec)))) (fun hb H7 e7 => ?_) fun hb H7 e7 => ?_
        · cases ht : takeF s (saidF ln) with
          | inr s' =>
            rw [ht] at hb
            have hb' : (!decide (([] : L) = [])) = true := hb
            exact absurd hb' (by decide)
          | inl e =>
            rw [ht] at hrd
            rw [hrd] at q
            refine r_ret (ed_tup (er_cons (evd_v (ev_cs [119, 114, 111, 110, 103] (by decide +kernel)) (.str _)) (er_cons (evd_v (ev_v rfl) (.int _)) (er_cons (evd_v (v := .str (tx e)) (ev_v rfl) (.str _)) er_nil))) (by show 3 ≤ 100000; decide) H7 (Ex.refl H7) _ fun v H8 e8 r8 => q v H8 ((E6.trans e7).trans e8) r8)
        · cases ht : takeF s (saidF ln) with
          | inl e =>
            rw [ht] at hb
            have := take_ne ht
            have hb' : (!decide (e = [])) = false := hb
            rw [decide_eq_false this] at hb'
            exact nomatch hb'
          | inr s' =>
            rw [ht] at hrd
            obtain ⟨t1, t2, t3⟩ := take_inr ht
            have t4 := take_out ht
            exact ⟨E6.trans e7, s', _, _, _, _, (hp6 s' ht).ex e7, t2 hG, by omega, by omega, by omega, hrd, rfl⟩
    · rintro σ H' ⟨e', s, y2, y3, y4, y5, hP', hG, hn, ho, hu2, hrd, rfl⟩
      rw [txs_len, List.drop_length, readF] at hrd
      rw [hrd] at q
      obtain ⟨dx3, hins⟩ := hP'.ins
      obtain ⟨vs, hlv, hrv⟩ := hP'.out
      exact r_ret (ed_tup (er_cons (evd_v (ev_cs [112, 111, 108, 105, 99, 121] (by decide +kernel)) (.str _)) (er_cons (ed_tupR (ev_fld (ev_v rfl) hins T.cl T.nL (pf_l g u l)) (sq_of hlv) hrv) er_nil)) (by show 2 ≤ 100000; decide) H' (Ex.refl H') _ fun v H8 e8 r8 => q v H8 (e'.trans e8) r8)
end
end K70

set_option Elab.async false
set_option linter.all false
set_option maxRecDepth 100000
set_option maxHeartbeats 4000000
namespace K70
open PySem PySem.Spec PyProof.Rows L2 Evl My
theorem letdig_eq : (Str.ofString "abcdefghijklmnopqrstuvwxyz0123456789") = tx (letL ++ digL) := by decide +kernel
theorem letdigx_eq : (Str.ofString "abcdefghijklmnopqrstuvwxyz0123456789.-_") = tx (letL ++ digL ++ [46, 45, 95]) := by decide +kernel
def numL : List L := (List.range 99).map fun k => if k + 1 < 10 then [49 + k] else [48 + (k + 1) / 10, 48 + (k + 1) % 10]
theorem numL_len : numL.length = 99 := by decide +kernel
theorem numL_txt : ∀ k, k < 99 → (toString (((k + 1 : Nat) : Int)) : Str) = tx (numL.getD k []) := by decide +kernel
theorem num_of : ∀ k, k < 99 → numF (numL.getD k []) = k + 1 := by decide +kernel
theorem num_in {l : L} (h : numF l ≠ 0) : numF l ≤ 99 ∧ numL.getD (numF l - 1) [] = l := by
  have h1 : ∀ a ∈ digL, numF [a] ≠ 0 → numF [a] ≤ 99 ∧ numL.getD (numF [a] - 1) [] = [a] := by decide +kernel
  have h2 : ∀ a ∈ digL, ∀ b ∈ digL, numF [a, b] ≠ 0 → numF [a, b] ≤ 99 ∧ numL.getD (numF [a, b] - 1) [] = [a, b] := by decide +kernel
  have hm : madeP digL 2 l = true := by
    unfold numF at h
    split at h
    · rename_i q; exact q.1
    · exact absurd rfl h
  unfold madeP at hm
  rw [Bool.and_eq_true, Bool.and_eq_true, List.all_eq_true] at hm
  obtain ⟨⟨ha, hb⟩, hc⟩ := hm
  have ha := of_decide_eq_true ha
  have hb := of_decide_eq_true hb
  match l, ha, hb, hc, h with
  | [a], _, _, hc, h => exact h1 a (of_decide_eq_true (hc a (by simp))) h
  | [a, b], _, _, hc, h => exact h2 a (of_decide_eq_true (hc a (by simp))) b (of_decide_eq_true (hc b (by simp))) h
  | [], ha, _, _, _ => exact absurd ha (by decide)
  | _ :: _ :: _ :: _, _, hb, _, _ => simp at hb
section
variable {P : Program} {w : World} {K : PySem.W.Frag} {mg : Str → Option Value} {base : Heap}
theorem el_listT {σ : L2.St} {H : Hp} {te : TE} {p : Addr} {xs : List V} (ha : Ev te σ H (.ref p)) (h : SqT K H p xs) : EvL (tCB (rListS K) (tCons te tNil)) σ H xs := fun H1 e Q q =>
  ha H1 e _ fun H2 e2 => ⟨p, xs, rfl, Or.inr (ex_t (e.trans e2) h), fun l hl => q l _ (fresh_back e2 hl) (e2.trans (Ex.new hl)) upd_same⟩
theorem el_lcR2N {σ : L2.St} {H : Hp} {te : TE} {ta : TA} {j : Nat} {vs : List Nat} {lo n : Nat} (v : Nat → V) (h : EvA ta σ H [.int (lo : Int), .int ((lo + n : Nat) : Int)]) (hn : lo + n ≤ 40000) (hw : ∀ x, wipe ((wipe σ vs).set j (some x)) vs = wipe σ vs)
    (he : ∀ (i : Nat) H1, Ex H H1 → i < n → Ev te ((wipe σ vs).set j (some (.int ((lo + i : Nat) : Int)))) H1 (v i)) : EvL (tLc (iRng2 ta) (gName j) tYes te vs) σ H ((List.range n).map v) := by
  intro H0 e Q q
  refine h H0 e _ fun H1 e1 => ⟨_, _, rfl, ⟨by omega, by omega, by omega, by omega⟩, fun Dl hD => ?_⟩
  have hN : (((lo + n : Nat) : Int) - (lo : Int)).toNat = n := by omega
  rw [hN]
  refine ⟨fun i m H' => m = n - i ∧ i ≤ n ∧ Ex H1 H' ∧ H' Dl = some (.lst ((List.range i).map v)), ⟨n, rfl, Nat.zero_le _, Ex.new hD, upd_same⟩, ?_⟩
  rintro i m H' ⟨rfl, hi, ex, hl⟩
  by_cases hlt : i < n
  · refine .inr ⟨hlt, fun H' => Ex H1 H' ∧ H' Dl = some (.lst ((List.range (i + 1)).map v)), fun H2 p => ⟨n - (i + 1), by omega, rfl, hlt, p⟩, fun x H2 y => ?_⟩
    obtain ⟨rfl, rfl⟩ := y
    have e3 : ((lo : Int) + (i : Int)) = ((lo + i : Nat) : Int) := by omega
    rw [e3]
    refine ⟨hw _, ?_⟩
    refine tyes_ ?_
    refine iteT (he i H1 (e.trans e1) hlt _ ex _ fun H3 e3 => ⟨_, e3 Dl _ hl, sz_lt (by rw [List.length_map, List.length_range]; omega), (ex.trans e3).mut hD, ?_⟩)
    rw [upd_same, List.range_succ, List.map_append]
    rfl
  · have e0 : i = n := by omega
    subst e0
    exact .inl ⟨Nat.le_refl _, q Dl H' (fresh_back e1 hD) (e1.trans ex) hl⟩
abbrev s_law_different : Stmt := topS 27
theorem sc_law_different : FnScope ["items", "found", "item"] ["items"] (defScope s_law_different) := ⟨rfl, rfl, rfl, by decide +kernel, rfl, by decide +kernel, by decide +kernel⟩
/- 0 items, 1 found, 2 item -/
def ok_different (K : PySem.W.Frag) (vs : List V) (H : Hp) (z : List V) : Prop := ∃ (a : Addr) (ws : List L), vs = [.ref a] ∧ SqL K H a (txs ws) ∧ ws.length ≤ 90000 ∧ z = txs (dedF ws)
theorem fn_different {f : Addr} {fd : FuncData} {k : Nat} (F : Fun K "_law_different" "_law_different" s_law_different f fd) (N : Nb mg) : FnOk P w K mg base CX0 (k + 1) f fd ["items"] (spL (ok_different K)) := by
  refine F.ok sc_law_different (fun vs H Q E h => ?_) (fun cdv A outer s H vs Q E hr h => ?_)
  · obtain ⟨_, ⟨_, _, rfl, _⟩, _⟩ := h
    rfl
  · obtain ⟨_, ⟨a, ws, rfl, hS, hn, hz⟩, q⟩ := h
    rw [hz] at q
    refine ⟨_, (pss_cons (ps_set (i := 1) sc_law_different.nd rfl (Or.inl rfl) (pe_lst pa_nil))
      (pss_cons (ps_for PassesOwn.never rfl (pi_list (pv 0)) (pg_name (i := 2) sc_law_different.nd rfl (Or.inl rfl)) (pss_one (ps_if (pt_cmpR op_notIn_seq (pv 2) (pv 1) rfl) (pss_one (ps_expr (pe_bm PySem.F.plainAttrs_list PySem.F.slot_list_append PySem.F.type_list_append mt_append (pv 1) (pa_cons (pv 2) pa_nil)))) pss_nil)))
      (pss_one (ps_ret (pv 1))))), ?_⟩
    refine q_asgL (el_lst ea_nil (by decide)) fun fl H1 hfl e1 h1 => ?_
    refine q_forLn (xs := txs ws) (ev_v rfl) (ex_l e1 hS) (fun i σ H' => Ex H H' ∧ H' fl = some (.lst (txs (dedF (ws.take i)))) ∧ ∃ y2, σ = [some (.ref a), some (.ref fl), y2]) (fun H2 e2 => ⟨e1.trans e2, by rw [e2 fl _ h1]; rfl, none, rfl⟩) (fun i σ H' _ h => ex_l h.1 hS) ?_ ?_
    · rintro i x σ H' hx ⟨e', h', y2, rfl⟩
      obtain ⟨rfl, hi, hwx⟩ := txs_get' hx
      have hd : dedF (ws.take (i + 1)) = addF (dedF (ws.take i)) (ws.getD i []) := by
        rw [List.take_add_one, hwx]
        exact ded_snoc _ _
      have hle : (dedF (ws.take i)).length ≤ i := Nat.le_trans (ded_len _) (by rw [List.length_take]; exact Nat.min_le_left _ _)
      refine s_when (et_test (ev_is (ev_op (ev_v rfl) (ev_v rfl) (rv_niL (sq_of h') rfl (txs_flat _))) (congrArg V.bl (congrArg Bool.not (txs_in _ _))))) (fun hb H2 e2 => ?_) fun hb H2 e2 => ?_
      · have hni : ws.getD i [] ∉ dedF (ws.take i) := by simpa using hb
        refine s_app (e2 fl _ h') (ev_v rfl) (ev_v rfl) (by rw [txs_len]; omega) fun H3 e3 => ⟨((e'.trans e2).trans e3).mut hfl, ?_, _, rfl⟩
        rw [upd_same, hd]
        unfold addF
        rw [if_neg hni]
        unfold txs
        rw [List.map_append]
        rfl
      · have hni : ws.getD i [] ∈ dedF (ws.take i) := by simpa using hb
        refine ⟨e'.trans e2, ?_, _, rfl⟩
        rw [e2 fl _ h', hd]
        unfold addF
        rw [if_pos hni]
    · rintro σ H' ⟨e', h', y2, rfl⟩
      rw [txs_len, List.take_length] at h'
      exact r_ret (r_var rfl (q fl H' hfl e' h'))
abbrev s_law_is_word : Stmt := topS 28
theorem sc_law_is_word : FnScope ["text", "sign"] ["text"] (defScope s_law_is_word) := ⟨rfl, rfl, rfl, by decide +kernel, rfl, by decide +kernel, by decide +kernel⟩
/- 0 text, 1 sign -/
def ok_test (g : L → Bool) (vs : List V) (H : Hp) (z : V) : Prop := ∃ l, vs = [.str (tx l)] ∧ l.length ≤ 1000 ∧ z = .bl (g l)
theorem fn_lword {f : Addr} {fd : FuncData} {k : Nat} (F : Fun K "_law_is_word" "_law_is_word" s_law_is_word f fd) (N : Nb mg) : FnOk P w K mg base CX0 (k + 1) f fd ["text"] (spV (ok_test wordP)) := by
  refine F.ok sc_law_is_word (fun vs H Q E h => ?_) (fun cdv A outer s H vs Q E hr h => ?_)
  · obtain ⟨_, ⟨_, rfl, _⟩, _⟩ := h
    rfl
  · obtain ⟨_, ⟨l, rfl, hn, hz⟩, q⟩ := h
    rw [hz] at q
    refine ⟨_, (pss_cons (ps_if (PW.pt (pw_or (pt_cmpR op_lt (pe_callB call_len_str (by rfl) N.len PySem.boot_len (pa_cons (pv 0) pa_nil)) pe_int (nomark _)) (pw_or (pt_cmpR op_gt (pe_callB call_len_str (by rfl) N.len PySem.boot_len (pa_cons (pv 0) pa_nil)) pe_int (nomark _)) (pw_or1 (pt_cmpR op_notIn_sign (pe_ix ix_str (pv 0) pe_int (fun _ _ => rfl)) pe_str rfl))))) (pss_one (ps_ret pe_bl)) pss_nil)
      (pss_one (ps_ret (pe_callB (cr_all rfl) (by rfl) N.all PyProof.Rows.boot_all (pa_cons (pe_lc (own := [("sign", 1)]) (by rfl) sc_law_is_word.nd (pi_str (pv 0)) (blkOk_by (own := [("sign", 1)]) (N := ["text", "sign"]) (sc := defScope s_law_is_word) (by decide +kernel)) (fun _ _ _ _ _ => (pg_name (i := 1) sc_law_is_word.nd rfl (Or.inl rfl))) (fun _ _ _ _ _ => pts_nil) (fun _ _ _ _ _ => (pe_cmpR op_in_sign (pv 1) pe_str rfl))) pa_nil))))), ?_⟩
    refine q_when (b := decide (l.length < 1) || (decide (12 < l.length) || !decide (l.headD 0 ∈ letL))) (et_or (et_test (ev_is (ev_op (ev_lenS (ev_v rfl) (by omega)) (ev_cn 1) rv_I0) (congrArg V.bl (decide_eq_decide.mpr (by omega))))) fun h1 => et_or (et_test (ev_is (ev_op (ev_lenS (ev_v rfl) (by omega)) (ev_cn 12) rv_I0) (congrArg V.bl (decide_eq_decide.mpr (by omega))))) fun _ => et_test (ev_op (ev_op (ev_v rfl) (ev_cn 0) (rv_ixSn (c := l.headD 0) (by omega) ?_)) (ev_cs letL let_eq) rv_niSn)) (fun hb H1 e1 => ?_) fun hb H1 e1 => ?_
    · have := of_decide_eq_false h1
      cases l with
      | nil => exact absurd (show ([] : List Nat).length < 1 by decide) this
      | cons a r => rfl
    · refine s_ret ev_c fun H2 e2 => ?_
      have : wordP l = false := by
        unfold wordP madeP
        rw [Bool.or_eq_true, Bool.or_eq_true, decide_eq_true_eq, decide_eq_true_eq, Bool.not_eq_true', decide_eq_false_iff_not] at hb
        rcases hb with h | h | h
        · rw [decide_eq_false (show ¬ 1 ≤ l.length by omega)]; rfl
        · rw [decide_eq_false (show ¬ l.length ≤ 12 by omega), Bool.and_false]; rfl
        · rw [decide_eq_false h, Bool.and_false]
      rw [this] at q
      exact q H2 (e1.trans e2)
    · rw [Bool.or_eq_false_iff, Bool.or_eq_false_iff, decide_eq_false_iff_not, decide_eq_false_iff_not, Bool.not_eq_false', decide_eq_true_eq] at hb
      refine s_ret (ev_is (ev_all (bs := l.map fun c => decide (c ∈ letL ++ digL)) (by rw [List.map_map]; exact el_lcS (fun c => .bl (decide (c ∈ letL ++ digL))) (ev_v rfl) (by omega) (fun _ => rfl) fun c H2 e2 hc => ev_op (ev_v rfl) (ev_cs _ letdig_eq) rv_inSn)) ?_) fun H2 e2 => q H2 (e1.trans e2)
      unfold wordP madeP
      rw [decide_eq_true (show 1 ≤ l.length by omega), decide_eq_true (show l.length ≤ 12 by omega), decide_eq_true hb.2.2, Bool.and_true, List.all_map]
      rfl
abbrev s_law_is_part : Stmt := topS 29
theorem sc_law_is_part : FnScope ["text", "sign"] ["text"] (defScope s_law_is_part) := ⟨rfl, rfl, rfl, by decide +kernel, rfl, by decide +kernel, by decide +kernel⟩
/- 0 text, 1 sign -/
theorem fn_lpart {f : Addr} {fd : FuncData} {k : Nat} (F : Fun K "_law_is_part" "_law_is_part" s_law_is_part f fd) (N : Nb mg) : FnOk P w K mg base CX0 (k + 1) f fd ["text"] (spV (ok_test partF)) := by
  refine F.ok sc_law_is_part (fun vs H Q E h => ?_) (fun cdv A outer s H vs Q E hr h => ?_)
  · obtain ⟨_, ⟨_, rfl, _⟩, _⟩ := h
    rfl
  · obtain ⟨_, ⟨l, rfl, hn, hz⟩, q⟩ := h
    rw [hz] at q
    refine ⟨_, (pss_cons (ps_if (pt_cmpR op_in_seq (pv 0) (pe_tup (pa_cons pe_str (pa_cons pe_str pa_nil))) rfl) (pss_one (ps_ret pe_bl)) pss_nil)
      (pss_cons (ps_if (PW.pt (pw_or (pt_cmpR op_lt (pe_callB call_len_str (by rfl) N.len PySem.boot_len (pa_cons (pv 0) pa_nil)) pe_int (nomark _)) (pw_or (pt_cmpR op_gt (pe_callB call_len_str (by rfl) N.len PySem.boot_len (pa_cons (pv 0) pa_nil)) pe_int (nomark _)) (pw_or1 (pt_cmpR op_in_seq (pv 0) (pe_tup (pa_cons pe_str (pa_cons pe_str pa_nil))) rfl))))) (pss_one (ps_ret pe_bl)) pss_nil)
      (pss_one (ps_ret (pe_callB (cr_all rfl) (by rfl) N.all PyProof.Rows.boot_all (pa_cons (pe_lc (own := [("sign", 1)]) (by rfl) sc_law_is_part.nd (pi_str (pv 0)) (blkOk_by (own := [("sign", 1)]) (N := ["text", "sign"]) (sc := defScope s_law_is_part) (by decide +kernel)) (fun _ _ _ _ _ => (pg_name (i := 1) sc_law_is_part.nd rfl (Or.inl rfl))) (fun _ _ _ _ _ => pts_nil) (fun _ _ _ _ _ => (pe_cmpR op_in_sign (pv 1) pe_str rfl))) pa_nil)))))), ?_⟩
    unfold partF segP madeP at q
    have hin : ∀ {H' : Hp} (a b : L) (z1 z2 : Str), z1 = tx a → z2 = tx b → Ev (tOp (rIn K false) (tVar 0) (tTup (tCons (tC (.str z1)) (tCons (tC (.str z2)) tNil)))) [some (.str (tx l)), none] H' (.bl (decide (l = a) || decide (l = b))) := fun a b z1 z2 h1 h2 => by
      rw [← inV_str]
      exact ev_inU (ev_v rfl) (eu_tup (ea_cons (ev_cs _ h1) (ea_cons (ev_cs _ h2) ea_nil)) l2) rfl rfl
    refine q_when (et_test (hin [42] [42, 42] _ _ (by decide +kernel) (by decide +kernel))) (fun hb H1 e1 => ?_) fun hb H1 e1 => ?_
    · rw [hb, Bool.true_or] at q
      exact s_ret ev_c fun H2 e2 => q H2 (e1.trans e2)
    rw [hb, Bool.false_or] at q
    refine q_when (b := decide (l.length < 1) || (decide (20 < l.length) || (decide (l = [46]) || decide (l = [46, 46])))) (et_or (et_test (ev_is (ev_op (ev_lenS (ev_v rfl) (by omega)) (ev_cn 1) rv_I0) (congrArg V.bl (decide_eq_decide.mpr (by omega))))) fun h1 => et_or (et_test (ev_is (ev_op (ev_lenS (ev_v rfl) (by omega)) (ev_cn 20) rv_I0) (congrArg V.bl (decide_eq_decide.mpr (by omega))))) fun _ => et_test (hin [46] [46, 46] _ _ (by decide +kernel) (by decide +kernel))) (fun hb2 H2 e2 => ?_) fun hb2 H2 e2 => ?_
    · refine s_ret ev_c fun H3 e3 => ?_
      rw [Bool.or_eq_true, Bool.or_eq_true, decide_eq_true_eq, decide_eq_true_eq] at hb2
      have q' := q H3 ((e1.trans e2).trans e3)
      rcases hb2 with h | h | h
      · rw [decide_eq_false (show ¬ 1 ≤ l.length by omega)] at q'
        simpa using q'
      · rw [decide_eq_false (show ¬ l.length ≤ 20 by omega)] at q'
        simpa using q'
      · rw [h, Bool.not_true, Bool.and_false] at q'
        exact q'
    · rw [Bool.or_eq_false_iff, Bool.or_eq_false_iff, decide_eq_false_iff_not, decide_eq_false_iff_not] at hb2
      refine s_ret (ev_is (ev_all (bs := l.map fun c => decide (c ∈ letL ++ digL ++ [46, 45, 95])) (by rw [List.map_map]; exact el_lcS (fun c => .bl (decide (c ∈ letL ++ digL ++ [46, 45, 95]))) (ev_v rfl) (by omega) (fun _ => rfl) fun c H2 e2 hc => ev_op (ev_v rfl) (ev_cs _ letdigx_eq) rv_inSn)) ?_) fun H3 e3 => q H3 ((e1.trans e2).trans e3)
      rw [decide_eq_true (show 1 ≤ l.length by omega), decide_eq_true (show l.length ≤ 20 by omega), hb2.2.2, Bool.not_false, Bool.and_true, List.all_map]
      rfl
abbrev s_law_people : Stmt := topS 30
theorem sc_law_people : FnScope ["groups", "words", "found", "word"] ["groups", "words"] (defScope s_law_people) := ⟨rfl, rfl, rfl, by decide +kernel, rfl, by decide +kernel, by decide +kernel⟩
/- 0 groups, 1 words, 2 found, 3 word -/
def sp_lpeople (K : PySem.W.Frag) : Sp := fun vs H Q _ => ∃ (gd wl : Addr) (kvs : List (Key × V)) (g : L → Option (List L)) (u ws : List L), vs = [.ref gd, .ref wl] ∧ H gd = some (.dK kvs) ∧ GrpAt H kvs g ∧ SqL K H wl (txs ws) ∧ GoodG g u ∧ ws.length * (u.length + 1) ≤ 90000 ∧
  ∀ t H', Ex H H' → H' t = some (.tup (txs (peopleF g ws))) → Q (.ref t) H'
theorem txs_app (a b : List L) : txs (a ++ b) = txs a ++ txs b := List.map_append
theorem fn_lpeople {f : Addr} {fd : FuncData} {k : Nat} (F : Fun K "_law_people" "_law_people" s_law_people f fd) (N : Nb mg) (C_law_different : Cal P w K mg base k "_law_different" ["items"] (spL (ok_different K))) : FnOk P w K mg base CX0 (k + 1) f fd ["groups", "words"] (sp_lpeople K) := by
  refine F.ok sc_law_people (fun vs H Q E h => ?_) (fun cdv A outer s H vs Q E hr h => ?_)
  · obtain ⟨_, _, _, _, _, _, rfl, _⟩ := h
    rfl
  · obtain ⟨gd, wl, kvs, g, u, ws, rfl, hd, hG, hS, hg, hn, q⟩ := h
    refine ⟨_, (pss_cons (ps_set (i := 2) sc_law_people.nd rfl (Or.inl rfl) (pe_lst pa_nil))
      (pss_cons (ps_for PassesOwn.never rfl (pi_list (pv 1)) (pg_name (i := 3) sc_law_people.nd rfl (Or.inl rfl)) (pss_one (ps_set (i := 2) sc_law_people.nd rfl (Or.inl rfl) (pe_op op_cat (pv 2) (pe_ifExp (pt_cmp (pc_din (hu_of hr) (pv 3) (pv 0))) (pe_callTy call_list_of (by rfl) N.list PyProof.Rows.boot_list (pa_cons (pe_dget (hu_of hr) (pv 0) (pv 3) (fun _ _ => rfl)) pa_nil)) (pe_lst (pa_cons (pv 3) pa_nil)))))))
      (pss_one (ps_ret (pe_callTy call_tuple_of (by rfl) N.tuple PyProof.Rows.boot_tuple (pa_cons (pe_callB cr_sortedSA (by rfl) N.sorted PyProof.Rows.boot_sorted (pa_cons (pe_cal C_law_different hr (pa_cons (pv 2) pa_nil)) pa_nil)) pa_nil)))))), ?_⟩
    have hlen : ∀ i, (flatF g (ws.take i)).length ≤ 90000 := fun i => by
      refine Nat.le_trans (flat_len hg _) (Nat.le_trans (Nat.mul_le_mul_right _ ?_) hn)
      rw [List.length_take]
      exact Nat.min_le_right _ _
    refine q_asgL (el_lst ea_nil (by decide)) fun fl H1 hfl e1 h1 => ?_
    refine q_forLn (xs := txs ws) (ev_v rfl) (ex_l e1 hS) (fun i σ H' => Ex H H' ∧ ∃ (fl : Addr) (y3 : Option V), H' fl = some (.lst (txs (flatF g (ws.take i)))) ∧ σ = [some (.ref gd), some (.ref wl), some (.ref fl), y3]) (fun H2 e2 => ⟨e1.trans e2, fl, none, by rw [e2 fl _ h1]; rfl, rfl⟩) (fun i σ H' _ h => ex_l h.1 hS) ?_ ?_
    · rintro i x σ H' hx ⟨e', fl', y3, h', rfl⟩
      obtain ⟨rfl, hi, hwx⟩ := txs_get' hx
      generalize hw : ws.getD i [] = wd at hwx
      have htk : flatF g (ws.take (i + 1)) = flatF g (ws.take i) ++ (g wd).getD [wd] := by
        rw [List.take_add_one, hwx]
        exact flat_snoc _ _ _
      have hl1 := hlen (i + 1)
      rw [htk, List.length_append] at hl1
      have hgw := hG wd
      refine s_asgL (el_cat (xs := txs (flatF g (ws.take i))) (ys := txs ((g wd).getD [wd])) (evl_k (ev_v rfl) h') (evl_n (el_if (b := (g wd).isSome) (et_test (ev_is (ev_din (ev_v rfl) (e' _ _ hd) (ev_v rfl)) ?_)) (fun hb => ?_) fun hb => ?_)) (by rw [txs_len, txs_len]; omega)) fun fl2 H3 hfl2 e3 h3 => ⟨e'.trans e3, fl2, _, by rw [h3, htk, txs_app], rfl⟩
      · cases hq : g wd with
        | none => rw [hq] at hgw; rw [hgw]; rfl
        | some ps => rw [hq] at hgw; obtain ⟨a, h1, h2⟩ := hgw; rw [h1]; rfl
      · cases hq : g wd with
        | none => rw [hq] at hb; exact nomatch hb
        | some ps =>
          rw [hq] at hgw
          obtain ⟨a, h1, h2⟩ := hgw
          exact el_listT (ev_dget (ev_v rfl) (e' _ _ hd) (ev_v rfl) h1) (st_of (e' _ _ h2))
      · cases hq : g wd with
        | none => exact el_lst (ea_cons (ev_v rfl) ea_nil) (by show 1 ≤ 100000; decide)
        | some ps => rw [hq] at hb; exact nomatch hb
    · rintro σ H' ⟨e', fl', y3, h', rfl⟩
      rw [txs_len, List.take_length] at h'
      have hl0 := hlen ws.length
      rw [List.take_length] at hl0
      have hdl := ded_len (flatF g ws)
      exact r_ret (eu_tupL (el_sortL (ks := dedF (flatF g ws)) (evp_ln (el_cal (ea_cons (ev_v rfl) ea_nil) fun H3 e3 => ⟨fl', flatF g ws, rfl, sq_of (e3 _ _ h'), by omega, rfl⟩)) (by omega)) H' (Ex.refl H') _ fun p H3 hp e3 h3 => q p H3 (e'.trans e3) h3)
abbrev s_law_number : Stmt := topS 31
theorem sc_law_number : FnScope ["text", "told", "number"] ["text"] (defScope s_law_number) := ⟨rfl, rfl, rfl, by decide +kernel, rfl, by decide +kernel, by decide +kernel⟩
/- 0 text, 1 told, 2 number -/
theorem fn_lnumber {f : Addr} {fd : FuncData} {k : Nat} (F : Fun K "_law_number" "_law_number" s_law_number f fd) (N : Nb mg) : FnOk P w K mg base CX0 (k + 1) f fd ["text"] (spV ok_number_in) := by
  refine F.ok sc_law_number (fun vs H Q E h => ?_) (fun cdv A outer s H vs Q E hr h => ?_)
  · obtain ⟨_, ⟨_, rfl, _⟩, _⟩ := h
    rfl
  · obtain ⟨_, ⟨l, rfl, hn, hz⟩, q⟩ := h
    rw [hz] at q
    refine ⟨_, (pss_cons (ps_setLc (i := 1) (own := [("number", 2)]) (by rfl) sc_law_number.nd rfl rfl (sw_true rfl rfl rfl (by decide +kernel)) (pi_range2 rfl N.range (pa_cons pe_int (pa_cons pe_int pa_nil))) (blkOk_by (own := [("number", 2)]) (N := ["text", "told", "number"]) (sc := defScope s_law_number) (by decide +kernel)) (fun _ _ _ _ _ => (pg_name (i := 2) sc_law_number.nd rfl (Or.inl rfl))) (fun _ _ _ _ _ => pts_nil) (fun _ _ _ _ _ => (pe_callTy call_str_int (by rfl) N.str PyProof.Rows.boot_str (pa_cons (pv 2) pa_nil))))
      (pss_one (ps_ret (pe_ifExp (pt_cmpR op_in_seq (pv 0) (pv 1) rfl) (pe_op op_add (pe_bm PySem.F.plainAttrs_list PySem.F.slot_list_index PySem.F.type_list_index mt_index (pv 1) (pa_cons (pv 0) pa_nil)) pe_int) pe_int)))), ?_⟩
    refine q_asgL (xs := txs numL) (el_is (el_lcR2N (lo := 1) (n := 99) (fun k => .str (tx (numL.getD k []))) (ea_cons (ev_cn 1) (ea_cons (ev_cn 100) ea_nil)) (by decide) (fun _ => rfl) fun i H1 e1 hi => fun H2 e2 Q' q' => ev_v rfl H2 e2 _ fun H3 e3 => ⟨_, rfl, ?_, ?_⟩) ?_) fun tl H1 htl e1 h1 => ?_
    · have : ((1 + i : Nat) : Int).natAbs ≤ 100 := by omega
      generalize ((1 + i : Nat) : Int).natAbs = m at this
      exact Nat.lt_of_le_of_lt (Nat.log2_le_self m) (by omega)
    · rw [show (((1 + i : Nat) : Int)) = ((i + 1 : Nat) : Int) by omega, numL_txt i hi]
      exact q' H3 e3
    · have := range_map numL [] fun p => V.str (tx p)
      rw [numL_len] at this
      exact this
    have hget : ∀ j, j < 99 → (txs numL)[j]? = some (.str (tx (numL.getD j []))) := fun j hj => txs_get (getD_some (by rw [numL_len]; exact hj))
    by_cases h0 : numF l = 0
    · have hni : l ∉ numL := fun hm => by
        obtain ⟨j, hj, e⟩ := List.mem_iff_getElem.mp hm
        rw [numL_len] at hj
        have := num_of j hj
        rw [List.getD_eq_getElem?_getD, List.getElem?_eq_getElem (by rw [numL_len]; exact hj), Option.getD_some, e, h0] at this
        exact nomatch this
      rw [h0] at q
      exact s_ret (ev_if (b := false) (et_test (ev_is (ev_op (ev_v rfl) (ev_v rfl) (rv_isL (sq_of h1) rfl (txs_flat _))) (congrArg V.bl ((txs_in _ _).trans (decide_eq_false hni))))) (fun z => nomatch z) fun _ => ev_cn 0) fun H2 e2 => q H2 (e1.trans e2)
    · obtain ⟨h9, hnum⟩ := num_in h0
      have hin : l ∈ numL := by
        have := List.mem_of_getElem? (getD_some (ws := numL) (i := numF l - 1) (by rw [numL_len]; omega))
        rw [hnum] at this
        exact this
      refine s_ret (ev_if (b := true) (et_test (ev_is (ev_op (ev_v rfl) (ev_v rfl) (rv_isL (sq_of h1) rfl (txs_flat _))) (congrArg V.bl ((txs_in _ _).trans (decide_eq_true hin))))) (fun _ => ?_) (fun z => nomatch z)) fun H2 e2 => q H2 (e1.trans e2)
      refine ev_is (ev_op (ev_index (j := numF l - 1) (z := .str (tx l)) (ev_v rfl) (ev_v rfl) (sq_of h1) rfl (txs_flat _) (by rw [hget _ (by omega), hnum]) (beq_self_eq_true _) fun m z' hm hz' => ?_) (ev_cn 1) rv_I0) (congrArg V.int (by omega))
      rw [hget m (by omega)] at hz'
      cases hz'
      show (tx (numL.getD m []) == tx l) = false
      refine beq_eq_false_iff_ne.mpr fun e => ?_
      have := num_of m (by omega)
      rw [tx_inj e] at this
      omega
end
end K70

set_option Elab.async false
set_option linter.all false
set_option maxRecDepth 100000
set_option maxHeartbeats 4000000
namespace K70
open PySem PySem.Spec PyProof.Rows L2 Evl My
theorem words_ne {l p : L} (h : p ∈ wordsF l) : p ≠ [] := of_decide_eq_true (List.mem_filter.mp h).2
theorem said_cond (l : L) : (decide (wordsF l = []) || decide (((wordsF l).headD []).headD 0 = 35)) = decide (saidF l = []) := by
  unfold saidF
  cases h : wordsF l with
  | nil => rfl
  | cons w r =>
    have hw : w ≠ [] := words_ne (l := l) (by rw [h]; simp)
    show (false || decide (w.headD 0 = 35)) = decide ((if w = [] ∨ w.headD 0 ≠ 35 then w :: r else []) = [])
    by_cases h35 : w.headD 0 = 35
    · rw [if_neg (fun z => z.elim hw fun z => z h35), decide_eq_true h35]
      rfl
    · rw [if_pos (.inr h35), decide_eq_false h35]
      rfl
theorem said_eq {l : L} (h : saidF l ≠ []) : saidF l = wordsF l := by
  unfold saidF at *
  split
  · rfl
  · rename_i hn
    rw [if_neg hn] at h
    exact absurd rfl h
/-- the law's own state -/
structure LawAt (H : Hp) (gd up fp : Addr) (s : S) (us : List L) : Prop where
  gk : ∃ kvs, H gd = some (.dK kvs) ∧ kvs.length ≤ s.n ∧ GrpAt H kvs s.g
  uk : H up = some (.lst (txs us))
  um : ∀ w, w ∈ us ↔ w ∈ s.u
  ul : us.length ≤ s.u.length
  out : ∃ vs, H fp = some (.lst vs) ∧ Reps H vs s.out
  nol : NoLL s.out
  ne : up ≠ fp
theorem LawAt.ex {H H' : Hp} {gd up fp : Addr} {s : S} {us : List L} (e : Ex H H') (h : LawAt H gd up fp s us) : LawAt H' gd up fp s us := by
  obtain ⟨⟨k1, h2, h3, h4⟩, h5, h6, h7, ⟨vs, h8, h9⟩, nol, ne⟩ := h
  exact ⟨⟨k1, e _ _ h2, h3, h4.mono fun a us q => e _ _ q⟩, e _ _ h5, h6, h7, ⟨vs, e _ _ h8, h9.mono e⟩, nol, ne⟩
theorem LawAt.grp {H : Hp} {gd up fp t : Addr} {s : S} {us : List L} {kvs : List (Key × V)} {ps : List L} (h : LawAt H gd up fp s us) (hg : H gd = some (.dK kvs)) (w : L) (ht : H t = some (.tup (txs ps))) : LawAt (upd H gd (.dK (putK kvs (.inr (tx w)) (.ref t)))) gd up fp ⟨upG s.g w ps, s.n + 1, s.u, s.out⟩ us := by
  obtain ⟨⟨k1, h2, h3, h4⟩, h5, h6, h7, ⟨vs, h8, h9⟩, nol, ne⟩ := h
  rw [hg] at h2
  cases h2
  have kt : ∀ a us, H a = some (.tup us) → upd H gd (.dK (putK kvs (.inr (tx w)) (.ref t))) a = some (.tup us) := fun a us q => by
    rw [upd_ne (ne_kind q hg (fun z => nomatch z))]
    exact q
  refine ⟨⟨_, upd_same, ?_, fun w' => ?_⟩, by rw [upd_ne (ne_kind h5 hg (fun z => nomatch z))]; exact h5, h6, h7, ⟨vs, by rw [upd_ne (ne_kind h8 hg (fun z => nomatch z))]; exact h8, Reps.keepT kt nol h9⟩, nol, ne⟩
  · have := length_putK kvs (.inr (tx w)) (V.ref t)
    show _ ≤ s.n + 1
    omega
  · show match upG s.g w ps w' with | none => _ | some ps => _
    rw [valV_put]
    unfold upG
    by_cases e : w' = w
    · subst e
      rw [if_pos rfl, if_pos rfl]
      exact ⟨t, rfl, kt _ _ ht⟩
    · rw [if_neg e, if_neg (fun z => e (inr_tx.mp z))]
      exact (GrpAt.mono kt h4) w'
theorem LawAt.row {H : Hp} {gd up fp : Addr} {s : S} {us : List L} {vs : List V} {v : V} {d : D} (h : LawAt H gd up fp s us) (hl : H fp = some (.lst vs)) (hv : Rep H v d) (nd : NoL d) : LawAt (upd H fp (.lst (vs ++ [v]))) gd up fp ⟨s.g, s.n, s.u, s.out ++ [d]⟩ us := by
  obtain ⟨⟨k1, h2, h3, h4⟩, h5, h6, h7, ⟨vs', h8, h9⟩, nol, ne⟩ := h
  rw [hl] at h8
  cases h8
  have kt : ∀ a us, H a = some (.tup us) → upd H fp (.lst (vs ++ [v])) a = some (.tup us) := fun a us q => by
    rw [upd_ne (ne_kind q hl (fun z => nomatch z))]
    exact q
  exact ⟨⟨k1, by rw [upd_ne (ne_kind h2 hl (fun z => nomatch z))]; exact h2, h3, h4.mono kt⟩, by rw [upd_ne ne]; exact h5, h6, h7,
    ⟨_, upd_same, (Reps.keepT kt nol h9).append (.cons (Rep.keepT kt nd hv) .nil)⟩, nol_app nol (by rw [NoLL]; exact ⟨nd, trivial⟩), ne⟩
theorem LawAt.use {H : Hp} {gd up up' fp : Addr} {s : S} {us us' u' : List L} (h : LawAt H gd up fp s us) (hn : up' ≠ fp) (hu : H up' = some (.lst (txs us'))) (hm : ∀ w, w ∈ us' ↔ w ∈ u') (hl : us'.length ≤ u'.length) : LawAt H gd up' fp ⟨s.g, s.n, u', s.out⟩ us' :=
  ⟨h.gk, hu, hm, hl, h.out, h.nol, hn⟩
section
variable {P : Program} {w : World} {K : PySem.W.Frag} {mg : Str → Option Value} {base : Heap}
theorem ev_allG {g : L → Bool} {x : Str} {σ : L2.St} {H : Hp} {k : Nat} {ws : List L} {j : Nat} {vs : List Nat} {tl : TE} (C : Cal P w K mg base k x ["text"] (spV (ok_test g))) {a : Addr} (h : Ev tl σ H (.ref a)) (ha : SqL K H a (txs ws)) (hs : Shrt ws) (hn : ws.length ≤ 1000) (hw : ∀ x, wipe ((wipe σ vs).set j (some x)) vs = wipe σ vs) (hj : ∀ x, ((wipe σ vs).set j (some x))[j]? = some (some x)) :
    Ev (tCB (rAll K) (tCons (tLc (iList K tl) (gName j) tYes (tCall (spV (ok_test g)) [] E0 (tCons (tVar j) tNil)) vs) tNil)) σ H (.bl (ws.all g)) := by
  refine ev_is (ev_all (bs := ws.map g) ?_) (congrArg V.bl (all_txs g ws))
  rw [← bls_txs g ws, ← show (txs ws).filter (fun _ => true) = txs ws from List.filter_eq_self.mpr fun _ _ => rfl]
  refine el_lcA (fun _ => true) _ h ha (by rw [txs_len]; omega) hw (fun x H2 e2 hx => et_yes) fun x H2 e2 hx _ => ?_
  obtain ⟨p, hp, rfl⟩ := List.mem_map.mp hx
  exact ev_cal (ea_cons (ev_v (hj _)) ea_nil) fun H3 e3 => ⟨p, rfl, hs p hp, rfl⟩
theorem ev_allGT {g : L → Bool} {x : Str} {σ : L2.St} {H : Hp} {k : Nat} {ws : List L} {j : Nat} {vs : List Nat} {tl : TE} (C : Cal P w K mg base k x ["text"] (spV (ok_test g))) {a : Addr} (h : Ev tl σ H (.ref a)) (ha : SqT K H a (txs ws)) (hs : Shrt ws) (hn : ws.length ≤ 1000) (hw : ∀ x, wipe ((wipe σ vs).set j (some x)) vs = wipe σ vs) (hj : ∀ x, ((wipe σ vs).set j (some x))[j]? = some (some x)) :
    Ev (tCB (rAll K) (tCons (tLc (iTup K tl) (gName j) tYes (tCall (spV (ok_test g)) [] E0 (tCons (tVar j) tNil)) vs) tNil)) σ H (.bl (ws.all g)) := by
  refine ev_is (ev_all (bs := ws.map g) ?_) (congrArg V.bl (all_txs g ws))
  rw [← bls_txs g ws, ← show (txs ws).filter (fun _ => true) = txs ws from List.filter_eq_self.mpr fun _ _ => rfl]
  refine el_lcT (fun _ => true) _ h ha (by rw [txs_len]; omega) hw (fun x H2 e2 hx => et_yes) fun x H2 e2 hx _ => ?_
  obtain ⟨p, hp, rfl⟩ := List.mem_map.mp hx
  exact ev_cal (ea_cons (ev_v (hj _)) ea_nil) fun H3 e3 => ⟨p, rfl, hs p hp, rfl⟩
theorem eu_lpeople {σ : L2.St} {H : Hp} {ta tb : TE} {gd wl : Addr} {kvs : List (Key × V)} {g : L → Option (List L)} {u ws : List L} (h1 : Ev ta σ H (.ref gd)) (h2 : Ev tb σ H (.ref wl)) (hd : H gd = some (.dK kvs)) (hG : GrpAt H kvs g) (hS : SqL K H wl (txs ws)) (hg : GoodG g u) (hn : ws.length * (u.length + 1) ≤ 90000) :
    EvP (tCall (sp_lpeople K) [] E0 (tCons ta (tCons tb tNil))) σ H (fun v H' => ∃ t, v = .ref t ∧ H' t = some (.tup (txs (peopleF g ws)))) := fun H1 e Q q =>
  (ea_cons h1 (ea_cons h2 ea_nil)) H1 e _ fun H2 e2 => ⟨gd, wl, kvs, g, u, ws, rfl, (e.trans e2) _ _ hd, hG.mono fun a us h => (e.trans e2) _ _ h, ex_l (e.trans e2) hS, hg, hn, fun t H3 e3 ht => q (.ref t) H3 (e2.trans e3) ⟨t, rfl, ht⟩⟩
theorem ev_lenP {σ : L2.St} {H : Hp} {te : TE} {xs : List V} (h : EvP te σ H fun v H' => ∃ t, v = .ref t ∧ H' t = some (.tup xs)) : Ev (tCB (rLenS K) (tCons te tNil)) σ H (.int (xs.length : Int)) := fun H1 e Q q =>
  h H1 e _ fun v H2 e2 ⟨p, hp, h2⟩ => ⟨p, xs, by rw [hp], .inr (st_of h2), q H2 e2⟩
theorem ed_people {σ : L2.St} {H : Hp} {te : TE} {ps : List L} (h : EvP te σ H fun v H' => ∃ t, v = .ref t ∧ H' t = some (.tup (txs ps))) : EvD te σ H (.tup (ps.map .str)) := fun H1 e Q q =>
  h H1 e _ fun v H2 e2 ⟨p, hp, h2⟩ => by
    subst hp
    exact q (.ref p) H2 e2 (.tup h2 (reps_txs H2 ps))
theorem s_appD {σ : L2.St} {H : Hp} {ta te : TE} {D : Ends} {l : Addr} {xs : List V} {d : My.D} (hl : H l = some (.lst xs)) (ha : Ev ta σ H (.ref l)) (h : EvD te σ H d) (hz : xs.length < 100000) (k : ∀ v H1, Ex H H1 → Rep H1 v d → D.nx σ (upd H1 l (.lst (xs ++ [v])))) :
    tDrop (tBM K "list" rAppend ta (tCons te tNil)) D σ H :=
  ha H (Ex.refl H) _ fun H1 e1 => ⟨.inl ⟨rfl, xs, sq_of (e1 l _ hl)⟩, h H1 e1 _ fun v H2 e2 r => ⟨l, xs, v, rfl, rfl, e2 l _ (e1 l _ hl), sz_lt hz, k v H2 (e1.trans e2) r⟩⟩
abbrev s_law_read : Stmt := topS 32
theorem sc_law_read : FnScope ["lines", "groups", "used", "found", "k", "words", "word", "group", "needs", "people", "names", "parts", "part", "number"] ["lines"] (defScope s_law_read) := ⟨rfl, rfl, rfl, by decide +kernel, rfl, by decide +kernel, by decide +kernel⟩
/- 0 lines, 1 groups, 2 used, 3 found, 4 k, 5 words, 6 word, 7 group, 8 needs, 9 people, 10 names, 11 parts, 12 part, 13 number -/
def sp_lread (K : PySem.W.Frag) : Sp := fun vs H Q _ => ∃ (a : Addr) (ls : List L), vs = [.ref a] ∧ SqL K H a (txs ls) ∧ Lim ls ∧ ∀ v H', Ex H H' → Rep H' v (polD (readF s0 0 ls)) → Q v H'
theorem fn_lread {f : Addr} {fd : FuncData} {k : Nat} (F : Fun K "_law_read" "_law_read" s_law_read f fd) (N : Nb mg) (C_law_is_word : Cal P w K mg base k "_law_is_word" ["text"] (spV (ok_test wordP))) (C_law_is_part : Cal P w K mg base k "_law_is_part" ["text"] (spV (ok_test partF))) (C_law_number : Cal P w K mg base k "_law_number" ["text"] (spV ok_number_in)) (C_law_people : Cal P w K mg base k "_law_people" ["groups", "words"] (sp_lpeople K)) : FnOk P w K mg base CX0 (k + 1) f fd ["lines"] (sp_lread K) := by
  refine F.ok sc_law_read (fun vs H Q E h => ?_) (fun cdv A outer s H vs Q E hr h => ?_)
  · obtain ⟨_, _, rfl, _⟩ := h
    rfl
  · obtain ⟨a, ls, rfl, hS, hL, q⟩ := h
    refine ⟨_, (pss_cons (ps_set (i := 1) sc_law_read.nd rfl (Or.inl rfl) pe_dnewK)
      (pss_cons (ps_set (i := 2) sc_law_read.nd rfl (Or.inl rfl) (pe_lst pa_nil))
      (pss_cons (ps_set (i := 3) sc_law_read.nd rfl (Or.inl rfl) (pe_lst pa_nil))
      (pss_cons (ps_for PassesOwn.never rfl (pi_range1 rfl N.range (pa_cons (pe_callB call_len_seq (by rfl) N.len PySem.boot_len (pa_cons (pv 0) pa_nil)) pa_nil)) (pg_name (i := 4) sc_law_read.nd rfl (Or.inl rfl)) (pss_cons (ps_setLc (i := 5) (own := [("word", 6)]) (by rfl) sc_law_read.nd rfl rfl (sw_true rfl rfl rfl (by decide +kernel)) (pi_list (pe_split (pe_ix ix_list (pv 0) (pv 4) (fun _ _ => rfl)) pe_str)) (blkOk_by (own := [("word", 6)]) (N := ["lines", "groups", "used", "found", "k", "words", "word", "group", "needs", "people", "names", "parts", "part", "number"]) (sc := defScope s_law_read) (by decide +kernel)) (fun _ _ _ _ _ => (pg_name (i := 6) sc_law_read.nd rfl (Or.inl rfl))) (fun _ _ _ _ _ => (pts_one (pt_cmpR op_ne (pv 6) pe_str (nomark _)))) (fun _ _ _ _ _ => (pv 6)))
      (pss_cons (ps_if (PW.pt (pw_or (pt_cmpR (op_eqE hr.units) (pv 5) (pe_lst pa_nil) (nomark _)) (pw_or1 (pt_cmpR op_eq (pe_ix ix_str (pe_ix ix_list (pv 5) pe_int (fun _ _ => rfl)) pe_int (fun _ _ => rfl)) pe_str (nomark _))))) (pss_one ps_continue) pss_nil)
      (pss_cons (ps_set (i := 7) sc_law_read.nd rfl (Or.inl rfl) (pe_and (pe_cmpR op_gt (pe_callB call_len_seq (by rfl) N.len PySem.boot_len (pa_cons (pv 5) pa_nil)) pe_int (nomark _)) (pe_and (pe_cmpR op_eq (pe_ix ix_list (pv 5) pe_int (fun _ _ => rfl)) pe_str (nomark _)) (pe_one (pe_cmpR op_eq (pe_ix ix_list (pv 5) pe_int (fun _ _ => rfl)) pe_str (nomark _))))))
      (pss_cons (ps_set (i := 8) sc_law_read.nd rfl (Or.inl rfl) (pe_and (pe_not (pv 7)) (pe_and (pe_cmpR op_gt (pe_callB call_len_seq (by rfl) N.len PySem.boot_len (pa_cons (pv 5) pa_nil)) pe_int (nomark _)) (pe_and (pe_cmpR op_eq (pe_ix ix_list (pv 5) pe_int (fun _ _ => rfl)) pe_str (nomark _)) (pe_one (pe_cmpR op_eq (pe_ix ix_list (pv 5) pe_int (fun _ _ => rfl)) pe_str (nomark _)))))))
      (pss_cons (ps_set (i := 9) sc_law_read.nd rfl (Or.inl rfl) (pe_ifExp (pt_val (pv 7)) (pe_slice sl_list (pv 5) (po_some pe_int) po_none) (pe_slice sl_list (pv 5) (po_some pe_int) po_none)))
      (pss_cons (ps_if (PW.pt (pw_or (PW.pt (pw_and (pt_not (pt_val (pv 7))) (pw_and1 (pt_not (pt_val (pv 8)))))) (pw_or1 (pt_cmpR (op_eqE hr.units) (pv 9) (pe_lst pa_nil) (nomark _))))) (pss_one (ps_ret (pe_tup (pa_cons pe_str (pa_cons (pv 4) (pa_cons pe_str pa_nil)))))) pss_nil)
      (pss_cons (ps_set (i := 10) sc_law_read.nd rfl (Or.inl rfl) (pe_op op_cat (pv 9) (pe_ifExp (pt_val (pv 7)) (pe_slice sl_list (pv 5) (po_some pe_int) (po_some pe_int)) (pe_lst pa_nil))))
      (pss_cons (ps_if (PW.pt (pw_or (pt_not (pt_val (pe_callB (cr_all rfl) (by rfl) N.all PyProof.Rows.boot_all (pa_cons (pe_lc (own := [("word", 6)]) (by rfl) sc_law_read.nd (pi_list (pv 10)) (blkOk_by (own := [("word", 6)]) (N := ["lines", "groups", "used", "found", "k", "words", "word", "group", "needs", "people", "names", "parts", "part", "number"]) (sc := defScope s_law_read) (by decide +kernel)) (fun _ _ _ _ _ => (pg_name (i := 6) sc_law_read.nd rfl (Or.inl rfl))) (fun _ _ _ _ _ => pts_nil) (fun _ _ _ _ _ => (pe_cal C_law_is_word hr (pa_cons (pv 6) pa_nil)))) pa_nil)))) (pw_or1 (PW.pt (pw_and (pt_val (pv 7)) (pw_and1 (PW.pt (pw_or (pt_cmpR op_in_seq (pe_ix ix_list (pv 5) pe_int (fun _ _ => rfl)) (pv 2) rfl) (pw_or1 (pt_cmpR op_in_seq (pe_ix ix_list (pv 5) pe_int (fun _ _ => rfl)) (pv 9) rfl)))))))))) (pss_one (ps_ret (pe_tup (pa_cons pe_str (pa_cons (pv 4) (pa_cons pe_str pa_nil)))))) pss_nil)
      (pss_cons (ps_if (pt_val (pv 8)) (pss_cons (ps_set (i := 11) sc_law_read.nd rfl (Or.inl rfl) (pe_callTy call_tuple_of (by rfl) N.tuple PyProof.Rows.boot_tuple (pa_cons (pe_split (pe_ix ix_list (pv 5) pe_int (fun _ _ => rfl)) pe_str) pa_nil)))
      (pss_cons (ps_if (PW.pt (pw_or (pt_cmpR op_gt (pe_callB call_len_seq (by rfl) N.len PySem.boot_len (pa_cons (pv 11) pa_nil)) pe_int (nomark _)) (pw_or1 (pt_not (pt_val (pe_callB (cr_all rfl) (by rfl) N.all PyProof.Rows.boot_all (pa_cons (pe_lc (own := [("part", 12)]) (by rfl) sc_law_read.nd (pi_tup (pv 11)) (blkOk_by (own := [("part", 12)]) (N := ["lines", "groups", "used", "found", "k", "words", "word", "group", "needs", "people", "names", "parts", "part", "number"]) (sc := defScope s_law_read) (by decide +kernel)) (fun _ _ _ _ _ => (pg_name (i := 12) sc_law_read.nd rfl (Or.inl rfl))) (fun _ _ _ _ _ => pts_nil) (fun _ _ _ _ _ => (pe_cal C_law_is_part hr (pa_cons (pv 12) pa_nil)))) pa_nil))))))) (pss_one (ps_ret (pe_tup (pa_cons pe_str (pa_cons (pv 4) (pa_cons pe_str pa_nil)))))) pss_nil)
      (pss_cons (ps_set (i := 13) sc_law_read.nd rfl (Or.inl rfl) (pe_cal C_law_number hr (pa_cons (pe_ix ix_list (pv 5) pe_int (fun _ _ => rfl)) pa_nil)))
      (pss_cons (ps_if (PW.pt (pw_or (pt_cmpR op_lt (pv 13) pe_int (nomark _)) (pw_or1 (pt_cmpR op_gt (pv 13) (pe_callB call_len_seq (by rfl) N.len PySem.boot_len (pa_cons (pe_cal C_law_people hr (pa_cons (pv 1) (pa_cons (pv 9) pa_nil))) pa_nil)) (nomark _))))) (pss_one (ps_ret (pe_tup (pa_cons pe_str (pa_cons (pv 4) (pa_cons pe_str pa_nil)))))) pss_nil)
      (pss_one (ps_expr (pe_bm PySem.F.plainAttrs_list PySem.F.slot_list_append PySem.F.type_list_append mt_append (pv 3) (pa_cons (pe_tup (pa_cons (pv 11) (pa_cons (pv 13) (pa_cons (pe_cal C_law_people hr (pa_cons (pv 1) (pa_cons (pv 9) pa_nil))) pa_nil)))) pa_nil)))))))) (pss_one (ps_dput (hu_of hr) (pv 1) (pe_ix ix_list (pv 5) pe_int (fun _ _ => rfl)) (pe_cal C_law_people hr (pa_cons (pv 1) (pa_cons (pv 9) pa_nil))) rfl)))
      (pss_one (ps_set (i := 2) sc_law_read.nd rfl (Or.inl rfl) (pe_op op_cat (pv 2) (pv 10))))))))))))))
      (pss_one (ps_ret (pe_tup (pa_cons pe_str (pa_cons (pe_callTy call_tuple_of (by rfl) N.tuple PyProof.Rows.boot_tuple (pa_cons (pv 3) pa_nil)) pa_nil))))))))), ?_⟩
    have hlm := hL.1
    have hll := lim_len ls
    refine q_dnew fun gd hgd => ?_
    have e0 : Ex H (upd H gd (.dK [])) := Ex.new hgd
    refine q_asgL (el_lst ea_nil (by decide)) fun up H1 hup e1 h1 => ?_
    refine q_asgL (el_lst ea_nil (by decide)) fun fp H2 hfp e2 h2 => ?_
    have hf0 : H fp = none := fresh_back (e0.trans e1) hfp
    have nuf : up ≠ fp := fun e => by rw [← e, h1] at hfp; exact nomatch hfp
    have hdgd : H2 gd = some (.dK []) := (e1.trans e2) _ _ upd_same
    have ngf : gd ≠ fp := ne_kind hdgd h2 (fun z => nomatch z)
    refine q_forR1N (n := ls.length) (ea_cons (ev_is (ev_len (ev_v rfl) (ex_l ((e0.trans e1).trans e2) hS)) (by rw [txs_len])) ea_nil) (by omega) (fun i σ H' => Ex H H' ∧ ∃ (s : S) (us : List L) (up : Addr) (y4 y5 y6 y7 y8 y9 y10 y11 y12 y13 : Option V), LawAt H' gd up fp s us ∧ GoodG s.g s.u ∧ s.n ≤ i ∧ s.out.length ≤ i ∧ 2 * s.u.length ≤ ((ls.take i).map szF).sum ∧ readF s0 0 ls = readF s i (ls.drop i) ∧ σ = [some (.ref a), some (.ref gd), some (.ref up), some (.ref fp), y4, y5, y6, y7, y8, y9, y10, y11, y12, y13]) (fun H3 e3 => ⟨((e0.trans e1).trans e2).trans e3, s0, [], up, none, none, none, none, none, none, none, none, none, none, (show LawAt H2 gd up fp s0 [] from ⟨⟨[], hdgd, Nat.le_refl _, fun w => rfl⟩, e2 _ _ h1, fun w => Iff.rfl, Nat.le_refl _, ⟨[], h2, .nil⟩, trivial, nuf⟩).ex e3, fun w ps h => (nomatch h), Nat.le_refl _, Nat.le_refl _, Nat.zero_le _, rfl, rfl⟩) ?_ ?_
    · rintro i σ H' hi ⟨e', s, us, up, y4, y5, y6, y7, y8, y9, y10, y11, y12, y13, hA, hG, hn, ho, hu2, hrd, rfl⟩
      have hlx := getD_some hi
      generalize hln : ls.getD i [] = ln at hlx
      have hsum : ((ls.take (i + 1)).map szF).sum = ((ls.take i).map szF).sum + (ln.length + 1) := lim_take hlx
      have hle := lim_le ls (i + 1)
      have hsl := said_len ln
      have hl9 : ln.length ≤ 900 := hL.2 ln (List.mem_of_getElem? hlx)
      have hdr : ls.drop i = ln :: ls.drop (i + 1) := by
        rw [List.drop_eq_getElem_cons hi]
        have := (List.getElem?_eq_getElem hi).symm.trans hlx
        rw [Option.some.inj this]
      rw [hdr, readF] at hrd
      have hspl := splitT_len 32 ln
      refine q_asgL (xs := txs (wordsF ln)) (by
        unfold wordsF
        rw [← txs_ne]
        exact el_lcF _ _ (el_splitT (by decide) (ev_ixL (ev_v rfl) (ev_v rfl) (ex_l e' hS) (txs_get hlx)) (ev_cs [32] (by decide +kernel)) (by omega)) (by rw [txs_len]; omega) (fun _ => rfl) (fun x H1 e1 hx => et_test (ev_op (ev_v rfl) (ev_cs [] (by decide +kernel)) (rv_ne (by
          obtain ⟨p, _, rfl⟩ := List.mem_map.mp hx
          rfl)))) (fun x H1 e1 hx _ => ev_v rfl)) fun wl H3 hwl e3 h3 => ?_
      refine q_when (b := decide (saidF ln = [])) (et_is (et_or (a := decide (wordsF ln = [])) (b := decide (((wordsF ln).headD []).headD 0 = 35)) (et_test (ev_is (ev_eqE (ev_v rfl) (sq_of h3) (el_lst ea_nil (by decide))) (congrArg V.bl txs_nil0))) fun hne => et_test (ev_is (ev_op (ev_op (ev_ixL (j := 0) (v := .str (tx ((wordsF ln).headD []))) (ev_v rfl) (ev_cn 0) (sq_of h3) ?_) (ev_cn 0) (rv_ixSn (c := ((wordsF ln).headD []).headD 0) ?_ ?_)) (ev_cs [35] (by decide +kernel)) (rv_eq rfl)) (congrArg V.bl ((decide_eq_decide.mpr ⟨fun h => (List.cons.inj (tx_inj (V.str.inj h))).1, fun h => by rw [h]⟩))))) (said_cond ln)) (fun hb H4 e4 => ?_) fun hb H4 e4 => ?_
      · cases hw : wordsF ln with
        | nil => rw [hw] at hne; exact nomatch hne
        | cons w0 wr => rfl
      · cases hw : wordsF ln with
        | nil => exact Nat.zero_le _
        | cons w0 wr =>
          have := splitT_part 32 ln w0 (List.mem_filter.mp (show w0 ∈ wordsF ln by rw [hw]; simp)).1
          show w0.length ≤ _
          omega
      · cases hw : wordsF ln with
        | nil => rw [hw] at hne; exact nomatch hne
        | cons w0 wr =>
          have := words_ne (l := ln) (p := w0) (by rw [hw]; simp)
          cases w0 with
          | nil => exact absurd rfl this
          | cons c t => rfl
      · rw [if_pos (of_decide_eq_true hb)] at hrd
        have E4 := e3.trans e4
        exact ⟨e'.trans E4, s, us, up, _, _, _, _, _, _, _, _, _, _, hA.ex E4, hG, by omega, by omega, by omega, hrd, rfl⟩
      have hs0 := of_decide_eq_false hb
      rw [if_neg hs0] at hrd
      rw [← said_eq hs0] at h3
      have hpart : ∀ p ∈ saidF ln, p.length ≤ 900 := fun p hp => by have := said_part hp; omega
      generalize saidF ln = ws at hsl hs0 hrd h3 hpart
      have hsh : ∀ i, (ws.getD i []).length ≤ 900 := fun i => by
        rw [List.getD_eq_getElem?_getD]
        cases e : ws[i]? with
        | none => exact Nat.zero_le _
        | some p => exact hpart p (List.mem_of_getElem? e)
      have E4 := e3.trans e4
      have A4 := hA.ex E4
      have S4 := e4 _ _ h3
      have hwd : ∀ {H' : Hp} {σ : L2.St} {i : Nat} {z : Str} {c : L}, Ex H4 H' → σ[5]? = some (some (.ref wl)) → i < ws.length → z = tx c → Ev (tOp rEq (tOp (rIxL K) (tVar 5) (tC (.int (i : Int)))) (tC (.str z))) σ H' (.bl (decide (ws.getD i [] = c))) := fun e hv hi hz => ev_is (ev_op (ev_word (ev_v hv) (ev_cn _) (sq_of (e _ _ S4)) hi) (ev_cs _ hz) (rv_eq rfl)) (congrArg V.bl str_dec)
      have hlen : ∀ {H' : Hp} {σ : L2.St} {n : Nat}, Ex H4 H' → σ[5]? = some (some (.ref wl)) → Ev (tOp (rI0 fun i j => .bl (decide (j < i))) (tCB (rLenS K) (tCons (tVar 5) tNil)) (tC (.int (n : Int)))) σ H' (.bl (decide (n < ws.length))) := fun e hv => ev_is (ev_op (ev_len (ev_v hv) (sq_of (e _ _ S4))) (ev_cn _) rv_I0) (congrArg V.bl (by rw [txs_len]; exact decide_eq_decide.mpr (by omega)))
      have hgB : (decide (2 < ws.length) && (decide (ws.getD 0 [] = wG) && decide (ws.getD 2 [] = wE))) = decide (isG ws) := by
        rw [Bool.eq_iff_iff, Bool.and_eq_true, Bool.and_eq_true, decide_eq_true_eq, decide_eq_true_eq, decide_eq_true_eq, decide_eq_true_eq]
        exact Iff.rfl
      have hnB : (decide (3 < ws.length) && (decide (ws.getD 1 [] = wN) && decide (ws.getD 3 [] = wO))) = decide (isN ws) := by
        rw [Bool.eq_iff_iff, Bool.and_eq_true, Bool.and_eq_true, decide_eq_true_eq, decide_eq_true_eq, decide_eq_true_eq, decide_eq_true_eq]
        exact Iff.rfl
      refine q_asg (v := .bl (decide (isG ws))) (ev_is (ev_andV (hlen (Ex.refl H4) rfl) fun h2 => ev_andV (hwd (i := 0) (Ex.refl H4) rfl (by have := of_decide_eq_true h2; omega) (by decide +kernel)) fun _ => hwd (i := 2) (Ex.refl H4) rfl (by have := of_decide_eq_true h2; omega) (by decide +kernel)) (congrArg V.bl hgB)) fun H5 e5 => ?_
      refine q_asg (v := .bl (!decide (isG ws) && decide (isN ws))) (ev_is (ev_andV (ev_notV (ev_v rfl)) fun _ => ev_andV (hlen (n := 3) e5 rfl) fun h2 => ev_andV (hwd (i := 1) e5 rfl (by have := of_decide_eq_true h2; omega) (by decide +kernel)) fun _ => hwd (i := 3) e5 rfl (by have := of_decide_eq_true h2; omega) (by decide +kernel)) (congrArg (fun b => V.bl (!decide (isG ws) && b)) hnB)) fun H6 e6 => ?_
      have S6 := (e5.trans e6) _ _ S4
      refine q_asgL (xs := txs (if isG ws then ws.drop 3 else ws.drop 4)) (el_if (b := decide (isG ws)) (et_B (ev_v rfl)) (fun hg => by rw [if_pos (of_decide_eq_true hg)]; exact el_drop (ev_v rfl) (ev_cn 3) (sq_of S6)) fun hg => by rw [if_neg (of_decide_eq_false hg)]; exact el_drop (ev_v rfl) (ev_cn 4) (sq_of S6)) fun pp H7 hpp e7 h7 => ?_
      have E7 := (e5.trans e6).trans e7
      have A7 := A4.ex E7
      have S7 := E7 _ _ S4
      generalize hpl : (if isG ws then ws.drop 3 else ws.drop 4) = pl at h7
      have hpll : pl.length ≤ ws.length := by
        rw [← hpl]
        split <;> (rw [List.length_drop]; omega)
      have hpls : ∀ p ∈ pl, p.length ≤ 900 := fun p hp => hpart p (by
        rw [← hpl] at hp
        split at hp <;> exact List.mem_of_mem_drop hp)
      have hwrong : ∀ (H9 : Hp) (σ : L2.St) (e z : L) (te : TE), Ex H4 H9 → σ[4]? = some (some (.int (i : Nat))) → takeF s ws = .inl z → Ev te σ H9 (.str (tx z)) → tTup (tCons (tC (.str "wrong")) (tCons (tVar 4) (tCons te tNil))) σ H9 Q := fun H9 σ e z te e9 hv ht hz => by
        rw [ht] at hrd
        rw [hrd] at q
        exact ed_tup (er_cons (evd_v (ev_cs [119, 114, 111, 110, 103] (by decide +kernel)) (.str _)) (er_cons (evd_v (ev_v hv) (.int _)) (er_cons (evd_v hz (.str _)) er_nil))) (by show 3 ≤ 100000; decide) H9 (Ex.refl H9) _ fun v H10 e10 r10 => q v H10 (((e'.trans E4).trans e9).trans e10) r10
      have hG1 : isG ws → takeF s ws = groupF s (ws.getD 1 []) pl := fun h => by
        unfold takeF
        rw [if_pos h, ← hpl, if_pos h]
      have hN1 : ¬ isG ws → isN ws → takeF s ws = needsF s (ws.getD 0 []) (ws.getD 2 []) pl := fun h g => by
        unfold takeF
        rw [if_neg h, if_pos g, ← hpl, if_neg h]
      have hO1 : ¬ isG ws → ¬ isN ws → takeF s ws = .inl rF := fun h g => by
        unfold takeF
        rw [if_neg h, if_neg g]
      refine q_when (b := (!decide (isG ws) && !(!decide (isG ws) && decide (isN ws))) || decide (pl = [])) (et_or (et_and (et_not (et_B (ev_v rfl))) fun _ => et_not (et_B (ev_v rfl))) fun _ => et_test (ev_is (ev_eqE (ev_v rfl) (sq_of h7) (el_lst ea_nil (by decide))) (congrArg V.bl txs_nil0))) (fun hb8 H8 e8 => ?_) fun hb8 H8 e8 => ?_
      · refine r_ret (hwrong H8 _ [] rF _ (E7.trans e8) rfl ?_ (ev_cs rF (by decide +kernel)))
        by_cases hg : isG ws
        · rw [hG1 hg]
          unfold groupF
          rw [decide_eq_true hg] at hb8
          rw [if_pos (by simpa using hb8)]
        · by_cases hm : isN ws
          · rw [hN1 hg hm]
            unfold needsF
            rw [decide_eq_true hm, decide_eq_false hg] at hb8
            rw [if_pos (by simpa using hb8)]
          · exact hO1 hg hm
      have hpn : pl ≠ [] := fun e => by
        rw [decide_eq_true e, Bool.or_true] at hb8
        exact nomatch hb8
      have E8 := E7.trans e8
      have A8 := A7.ex e8
      have S8 := E8 _ _ S4
      have P8 := e8 _ _ h7
      generalize hnm : pl ++ (if isG ws then [ws.getD 1 []] else []) = nms
      have hnl : nms.length ≤ ws.length := by
        rw [← hnm, List.length_append, ← hpl]
        split
        · rename_i hg
          have := hg.1
          rw [List.length_drop]
          show _ + 1 ≤ _
          omega
        · rw [List.length_drop]
          show _ + 0 ≤ _
          omega
      have hns : ∀ p ∈ nms, p.length ≤ 900 := fun p hp => by
        rw [← hnm, List.mem_append] at hp
        rcases hp with hp | hp
        · exact hpls p hp
        · split at hp
          · rw [List.mem_singleton] at hp
            rw [hp]
            exact hsh 1
          · exact absurd hp (by simp)
      refine q_asgL (xs := txs nms) (el_is (el_cat (xs := txs pl) (ys := txs (if isG ws then [ws.getD 1 []] else [])) (evl_k (ev_v rfl) P8) (evl_n (el_if (b := decide (isG ws)) (et_B (ev_v rfl)) (fun hg => ?_) fun hg => ?_)) (by rw [txs_len, txs_len]; have := congrArg List.length hnm; rw [List.length_append] at this; omega)) (by rw [← txs_app, hnm])) fun np H9 hnp e9 h9 => ?_
      · have hg := of_decide_eq_true hg
        rw [if_pos hg]
        have hcut : cutV (txs ws) (some ((1 : Nat) : Int)) (some ((2 : Nat) : Int)) = txs [ws.getD 1 []] := by
          have h1 := hg.1
          rw [cutV_mid _ _ _ (by rw [txs_len]; omega), ← txs_drop]
          have hd : ws.drop 1 = ws.getD 1 [] :: ws.drop 2 := by
            rw [List.drop_eq_getElem_cons (by omega), List.getD_eq_getElem?_getD, List.getElem?_eq_getElem (show 1 < ws.length by omega)]
            rfl
          rw [hd]
          rfl
        rw [← hcut]
        exact el_sl (ev_v rfl) (eo_some (ev_cn 1)) (eo_some (ev_cn 2)) (sq_of S8)
      · rw [if_neg (of_decide_eq_false hg)]
        exact el_lst ea_nil (by decide)
      have E9 := E8.trans e9
      have A9 := A8.ex e9
      have S9 := E9 _ _ S4
      have P9 := e9 _ _ P8
      refine q_when (b := !(nms.all wordP) || (decide (isG ws) && (decide (ws.getD 1 [] ∈ s.u) || decide (ws.getD 1 [] ∈ pl)))) (et_or (et_not (et_B (ev_allG C_law_is_word (ev_v rfl) (sq_of h9) (fun p hp => by have := hns p hp; omega) (by omega) (fun _ => rfl) (fun _ => rfl)))) fun _ => et_and (et_B (ev_v rfl)) fun hg => et_or (et_test (ev_is (ev_op (ev_word (ev_v rfl) (ev_cn 1) (sq_of S9) (by have := (of_decide_eq_true hg).1; omega)) (ev_v rfl) (rv_isL (sq_of A9.uk) rfl (txs_flat _))) (congrArg V.bl ((txs_in _ _).trans (decide_eq_decide.mpr (A9.um _)))))) fun _ => et_test (ev_is (ev_op (ev_word (ev_v rfl) (ev_cn 1) (sq_of S9) (by have := (of_decide_eq_true hg).1; omega)) (ev_v rfl) (rv_isL (sq_of P9) rfl (txs_flat _))) (congrArg V.bl (txs_in _ _)))) (fun hb10 H10 e10 => ?_) fun hb10 H10 e10 => ?_
      · refine r_ret (hwrong H10 _ [] rN _ (E9.trans e10) rfl ?_ (ev_cs rN (by decide +kernel)))
        by_cases hg : isG ws
        · rw [hG1 hg]
          unfold groupF
          rw [if_neg hpn, if_neg]
          rw [decide_eq_true hg, ← hnm, if_pos hg, List.all_append] at hb10
          rw [List.all_cons]
          revert hb10
          show (!(pl.all wordP && (wordP (ws.getD 1 []) && true)) || _) = true → _
          cases pl.all wordP <;> cases wordP (ws.getD 1 []) <;> cases decide (ws.getD 1 [] ∈ s.u) <;> cases decide (ws.getD 1 [] ∈ pl) <;> decide
        · have hm : isN ws := Classical.byContradiction fun hm => by
            rw [decide_eq_false hg, decide_eq_false hm] at hb8
            exact nomatch hb8
          rw [hN1 hg hm]
          unfold needsF
          rw [decide_eq_false hg, ← hnm, if_neg hg, List.append_nil] at hb10
          rw [if_neg hpn, if_neg (by simpa using hb10)]
      have E10 := E9.trans e10
      have A10 := A9.ex e10
      have S10 := E10 _ _ S4
      have P10 := e10 _ _ P9
      have N10 := e10 _ _ h9
      have hprod : pl.length * (s.u.length + 1) ≤ 90000 := prod_le (by omega)
      have htail : ∀ (H11 : Hp) (s' : S) (y11 y12 y13 : Option V), Ex H H11 → H11 np = some (.lst (txs nms)) → LawAt H11 gd up fp ⟨s'.g, s'.n, s.u, s'.out⟩ us → takeF s ws = .inr s' → (∀ w, w ∈ us ++ nms ↔ w ∈ s'.u) → s'.u.length = s.u.length + nms.length → s'.out.length ≤ i + 1 → ∀ (σ' : L2.St) (D : Ends), σ' = [some (.ref a), some (.ref gd), some (.ref up), some (.ref fp), some (.int (i : Nat)), some (.ref wl), y6, some (.bl (decide (isG ws))), some (.bl (!decide (isG ws) && decide (isN ws))), some (.ref pp), some (.ref np), y11, y12, y13] →
          (∀ (H' : Hp) (up2 : Addr), (Ex H H' ∧ ∃ (s : S) (us : List L) (up : Addr) (y4 y5 y6 y7 y8 y9 y10 y11 y12 y13 : Option V), LawAt H' gd up fp s us ∧ GoodG s.g s.u ∧ s.n ≤ i + 1 ∧ s.out.length ≤ i + 1 ∧ 2 * s.u.length ≤ ((ls.take (i + 1)).map szF).sum ∧ readF s0 0 ls = readF s (i + 1) (ls.drop (i + 1)) ∧ σ'.set 2 (some (.ref up2)) = [some (.ref a), some (.ref gd), some (.ref up), some (.ref fp), y4, y5, y6, y7, y8, y9, y10, y11, y12, y13]) → D.nx (σ'.set 2 (some (.ref up2))) H') → tAsg (tOp rCat (tVar 2) (tVar 10)) (gName 2) D σ' H11 := by
        intro H11 s' y11 y12 y13 e11 hnp11 A11 ht hm hul hol σ' D hσ hD
        subst hσ
        obtain ⟨t1, t2, t3⟩ := take_inr ht
        refine s_asgL (xs := txs (us ++ nms)) (el_is (el_cat (evl_k (ev_v rfl) A11.uk) (evl_k (ev_v rfl) hnp11) (by rw [txs_len, txs_len]; have := A11.ul; have h5 : us.length ≤ s.u.length := this; omega)) (txs_app _ _).symm) fun up2 H12 hup2 e12 h12 => hD H12 up2 ⟨e11.trans e12, s', us ++ nms, up2, _, _, _, _, _, _, _, _, _, _, ?_, t2 hG, by omega, hol, by omega, by rw [hrd, ht], rfl⟩
        have A12 := A11.ex e12
        refine A12.use (s := ⟨s'.g, s'.n, s.u, s'.out⟩) (fun e => ?_) h12 hm (by rw [List.length_append]; have := A11.ul; have h5 : us.length ≤ s.u.length := this; omega)
        obtain ⟨vs, hv, _⟩ := A11.out
        rw [e, hv] at hup2
        exact nomatch hup2
      obtain ⟨kvs, hgk, hgl, hgrp⟩ := A10.gk
      obtain ⟨vsf, hfl, hfr⟩ := A10.out
      have hfrl := hfr.len
      refine q_if (b := !decide (isG ws) && decide (isN ws)) (et_B (ev_v rfl)) (fun hb11 H11 e11 => ?_) fun hb11 H11 e11 => ?_
      · have hg : ¬ isG ws := fun h => by
          rw [decide_eq_true h] at hb11
          exact nomatch hb11
        have hm : isN ws := Classical.byContradiction fun h => by
          rw [decide_eq_false h, Bool.and_false] at hb11
          exact nomatch hb11
        have ht := hN1 hg hm
        unfold needsF at ht
        rw [if_neg hpn] at ht
        have hnms : nms = pl := by rw [← hnm, if_neg hg, List.append_nil]
        have hall : pl.all wordP = true := by
          rw [decide_eq_false hg, Bool.false_and, Bool.or_false, Bool.not_eq_false', hnms] at hb10
          exact hb10
        rw [if_pos hall] at ht
        have E11 := E10.trans e11
        have S11 := e11 _ _ S10
        have P11 := e11 _ _ P10
        have hm1 := hm.1
        have hl0 := hsh 0
        have hss := splitT_len 47 (ws.getD 0 [])
        have hsp : Shrt (splitT 47 (ws.getD 0 [])) := fun p hp => Nat.le_trans (splitT_part 47 _ p hp) (by omega)
        generalize hsg : splitT 47 (ws.getD 0 []) = segs at ht hss hsp
        refine q_asgU (xs := txs segs) (eu_tupL (by rw [← hsg]; exact el_splitT (by decide) (ev_word (ev_v rfl) (ev_cn 0) (sq_of S11) (by omega)) (ev_cs [47] (by decide +kernel)) (by omega))) fun sg H12 hsg2 e12 h12 => ?_
        refine q_when (b := decide (12 < segs.length) || !(segs.all partF)) (et_or (et_test (ev_is (ev_op (ev_lenT (ev_v rfl) (st_of h12)) (ev_cn 12) rv_I0) (congrArg V.bl (by rw [txs_len]; exact decide_eq_decide.mpr (by omega))))) fun _ => et_not (et_B (ev_allGT C_law_is_part (ev_v rfl) (st_of h12) hsp (by omega) (fun _ => rfl) (fun _ => rfl)))) (fun hb13 H13 e13 => ?_) fun hb13 H13 e13 => ?_
        · have hpf : ¬ patF segs = true := by
            unfold patF
            intro h
            rw [Bool.and_eq_true, decide_eq_true_eq] at h
            rw [h.2, decide_eq_false (show ¬ 12 < segs.length by omega)] at hb13
            exact nomatch hb13
          rw [if_neg hpf] at ht
          exact r_ret (hwrong H13 _ [] rP _ ((E11.trans e12).trans e13) rfl ht (ev_cs rP (by decide +kernel)))
        have hpf : patF segs = true := by
          unfold patF
          rw [Bool.or_eq_false_iff, decide_eq_false_iff_not, Bool.not_eq_false'] at hb13
          rw [hb13.2, Bool.and_true, decide_eq_true_eq]
          omega
        rw [if_pos hpf] at ht
        have E13 := (e11.trans e12).trans e13
        have hl2 := hsh 2
        refine q_asg (v := .int (numF (ws.getD 2 []) : Nat)) (ev_cal (ea_cons (ev_word (ev_v rfl) (ev_cn 2) (sq_of (E13 _ _ S10)) (by omega)) ea_nil) fun H14 e14 => ⟨_, rfl, by omega, rfl⟩) fun H14 e14 => ?_
        have E14 := E13.trans e14
        have hpe : ∀ {H' : Hp} {σ : L2.St}, Ex H14 H' → σ[1]? = some (some (.ref gd)) → σ[9]? = some (some (.ref pp)) → EvP (tCall (sp_lpeople K) [] E0 (tCons (tVar 1) (tCons (tVar 9) tNil))) σ H' (fun v H' => ∃ t, v = .ref t ∧ H' t = some (.tup (txs (peopleF s.g pl)))) := fun e h1 h2 => eu_lpeople (ev_v h1) (ev_v h2) ((E14.trans e) _ _ hgk) (hgrp.mono fun a us h => (E14.trans e) _ _ h) (sq_of ((E14.trans e) _ _ P10)) hG hprod
        refine q_when (b := !(decide (1 ≤ numF (ws.getD 2 []) ∧ numF (ws.getD 2 []) ≤ (peopleF s.g pl).length))) (et_is (et_or (a := decide (numF (ws.getD 2 []) < 1)) (b := decide ((peopleF s.g pl).length < numF (ws.getD 2 []))) (et_test (ev_is (ev_op (ev_v rfl) (ev_cn 1) rv_I0) (congrArg V.bl (decide_eq_decide.mpr (by omega))))) fun _ => et_test (ev_is (ev_op (ev_v rfl) (ev_lenP (hpe (Ex.refl H14) rfl rfl)) rv_I0) (congrArg V.bl (by rw [txs_len]; exact decide_eq_decide.mpr (by omega))))) ?_) (fun hb15 H15 e15 => ?_) fun hb15 H15 e15 => ?_
        · rw [Bool.eq_iff_iff, Bool.or_eq_true, decide_eq_true_eq, decide_eq_true_eq, Bool.not_eq_true', decide_eq_false_iff_not]
          omega
        · rw [if_neg (of_decide_eq_false (by rw [Bool.not_eq_true'] at hb15; exact hb15))] at ht
          exact r_ret (hwrong H15 _ [] rU _ ((E10.trans E14).trans e15) rfl ht (ev_cs rU (by decide +kernel)))
        rw [if_pos (of_decide_eq_true (by rw [Bool.not_eq_false'] at hb15; exact hb15))] at ht
        have E15 := E14.trans e15
        refine s_appD (d := rowD segs (numF (ws.getD 2 [])) (peopleF s.g pl)) (E15 _ _ hfl) (ev_v rfl) (ed_tup (er_cons (evd_v (ev_v rfl) (.tup ((((e13.trans e14).trans e15)) _ _ h12) (reps_txs _ _))) (er_cons (evd_v (ev_v rfl) (.int _)) (er_cons (ed_people (hpe e15 rfl rfl)) er_nil))) (by show 3 ≤ 100000; decide)) (by omega) fun v H16 e16 r16 => ?_
        have E16 := E15.trans e16
        have A16 := (A10.ex E16).row (E16 _ _ hfl) r16 (nol_row _ _ _)
        refine htail _ _ _ _ _ ((((e'.trans E4).trans E10).trans E16).mut hf0) ?_ A16 ht (fun w => ?_) ?_ ?_ _ _ rfl fun H' up' h => h
        · rw [upd_ne (fun e => ?_)]
          · exact E16 _ _ N10
          · have h1 := A9.out
            obtain ⟨v9, h2, _⟩ := A8.out
            rw [e, h2] at hnp
            exact nomatch hnp
        · show w ∈ us ++ nms ↔ w ∈ s.u ++ pl
          rw [List.mem_append, List.mem_append, hA.um w, hnms]
        · show (s.u ++ pl).length = _
          rw [List.length_append, hnms]
        · show (s.out ++ [_]).length ≤ _
          rw [List.length_append]
          show s.out.length + 1 ≤ _
          omega
      · have hg : isG ws := Classical.byContradiction fun h => by
          by_cases hm : isN ws
          · rw [decide_eq_false h, decide_eq_true hm] at hb11
            exact nomatch hb11
          · rw [decide_eq_false h, decide_eq_false hm] at hb8
            exact nomatch hb8
        have hg1 := hg.1
        have ht := hG1 hg
        unfold groupF at ht
        rw [if_neg hpn, if_pos] at ht
        · have E11 := E10.trans e11
          refine eu_lpeople (ev_v rfl) (ev_v rfl) (e11 _ _ hgk) (hgrp.mono fun a us h => e11 _ _ h) (sq_of (e11 _ _ P10)) hG hprod H11 (Ex.refl H11) _ fun v H12 e12 ⟨t, hv, ht2⟩ => ?_
          subst hv
          refine ev_v (v := .ref gd) rfl H12 (Ex.refl H12) _ fun H13 e13 => ev_word (ws := ws) (i := 1) (ev_v rfl) (ev_cn 1) (sq_of (((e11.trans e12).trans e13) _ _ S10)) (by omega) H13 (Ex.refl H13) _ fun H14 e14 => ⟨gd, _, rfl, DPut.k (k := Sum.inr (tx (ws.getD 1 []))) ((((e11.trans e12).trans e13).trans e14) _ _ hgk) (sz_lt (by omega)), ?_⟩
          have E14 := ((e11.trans e12).trans e13).trans e14
          have A14 := (A10.ex E14).grp (E14 _ _ hgk) (ws.getD 1 []) ((e13.trans e14) _ _ ht2)
          refine htail _ _ _ _ _ ((((e'.trans E4).trans E10).trans E14).mut hgd) ?_ A14 ht (fun w => ?_) ?_ ?_ _ _ rfl fun H' up' h => h
          · rw [upd_ne (ne_kind (E14 _ _ N10) (E14 _ _ hgk) (fun z => nomatch z))]
            exact E14 _ _ N10
          · show w ∈ us ++ nms ↔ w ∈ s.u ++ (ws.getD 1 [] :: pl)
            rw [← hnm, if_pos hg, List.mem_append, List.mem_append, List.mem_append, hA.um w, List.mem_singleton, List.mem_cons, or_comm (a := w ∈ pl)]
          · show (s.u ++ (ws.getD 1 [] :: pl)).length = _
            rw [← hnm, if_pos hg, List.length_append, List.length_append, List.length_cons]
            rfl
          · show s.out.length ≤ _
            omega
        · rw [decide_eq_true hg, ← hnm, if_pos hg, List.all_append] at hb10
          rw [List.all_cons]
          revert hb10
          show (!(pl.all wordP && (wordP (ws.getD 1 []) && true)) || _) = false → _
          cases pl.all wordP <;> cases wordP (ws.getD 1 []) <;> cases decide (ws.getD 1 [] ∈ s.u) <;> cases decide (ws.getD 1 [] ∈ pl) <;> decide
    · rintro σ H' ⟨e', s, us, up, y4, y5, y6, y7, y8, y9, y10, y11, y12, y13, hA, hG, hn, ho, hu2, hrd, rfl⟩
      rw [List.drop_length, readF] at hrd
      rw [hrd] at q
      obtain ⟨vs, hlv, hrv⟩ := hA.out
      exact r_ret (ed_tup (er_cons (evd_v (ev_cs [112, 111, 108, 105, 99, 121] (by decide +kernel)) (.str _)) (er_cons (ed_tupR (ev_v rfl) (sq_of hlv) hrv) er_nil)) (by show 2 ≤ 100000; decide) H' (Ex.refl H') _ fun v H8 e8 r8 => q v H8 (e'.trans e8) r8)
end
end K70

set_option Elab.async false
set_option linter.all false
set_option maxRecDepth 100000
set_option maxHeartbeats 4000000
namespace K70
open PySem PySem.Spec PyProof.Rows L2 Evl My
section
variable {P : Program} {w : World} {K : PySem.W.Frag} {mg : Str → Option Value} {base : Heap}
abbrev s_law_mixed : Stmt := topS 20
theorem sc_law_mixed : FnScope ["number", "place", "first", "second", "third"] ["number", "place"] (defScope s_law_mixed) := ⟨rfl, rfl, rfl, by decide +kernel, rfl, by decide +kernel, by decide +kernel⟩
/- 0 number, 1 place, 2 first, 3 second, 4 third -/
def ok_mixed_ (vs : List V) (H : Hp) (z : V) : Prop := ∃ n p : Nat, vs = [.int (n : Int), .int (p : Int)] ∧ z = .int (mixF n p : Nat)
theorem fn_mixed_ {f : Addr} {fd : FuncData} {k : Nat} (F : Fun K "_law_mixed" "_law_mixed" s_law_mixed f fd) (N : Nb mg) : FnOk P w K mg base CX0 (k + 1) f fd ["number", "place"] (spV ok_mixed_) := by
  refine F.ok sc_law_mixed (fun vs H Q E h => ?_) (fun cdv A outer s H vs Q E hr h => ?_)
  · obtain ⟨_, ⟨_, _, rfl, _⟩, _⟩ := h
    rfl
  · obtain ⟨_, ⟨n, p, rfl, hz⟩, q⟩ := h
    rw [hz] at q
    refine ⟨_, (pss_cons (ps_set (i := 2) sc_law_mixed.nd rfl (Or.inl rfl) (pe_op op_mod (pe_callTy call_int1 (by rfl) N.int PyProof.Rows.boot_int (pa_cons (pe_op op_add (pe_op op_add (pe_op op_mul (pv 0) pe_int) (pe_op op_mul (pv 1) pe_int)) pe_int) pa_nil)) pe_int))
      (pss_cons (ps_set (i := 3) sc_law_mixed.nd rfl (Or.inl rfl) (pe_op op_mod (pe_callTy call_int1 (by rfl) N.int PyProof.Rows.boot_int (pa_cons (pe_op op_add (pe_op op_add (pe_op op_mulW (pv 2) (pv 2)) (pe_op op_mul pe_int (pv 2))) (pv 1)) pa_nil)) pe_int))
      (pss_cons (ps_set (i := 4) sc_law_mixed.nd rfl (Or.inl rfl) (pe_op op_mod (pe_callTy call_int1 (by rfl) N.int PyProof.Rows.boot_int (pa_cons (pe_op op_add (pe_op op_mulW (pv 3) (pv 3)) (pv 2)) pa_nil)) pe_int))
      (pss_one (ps_ret (pe_op op_add (pe_op op_mulW (pv 3) pe_int) (pv 4))))))), ?_⟩
    have l1 : (n * 48271 + p * 69621 + 11) % m89 < 2 ^ 89 := Nat.lt_trans (Nat.mod_lt _ (by decide)) (by decide)
    refine q_asg (v := .int (((n * 48271 + p * 69621 + 11) % m89 : Nat) : Int)) (ev_op (ev_int (ev_op (ev_op (ev_op (ev_v rfl) (ev_cn 48271) (rv_mulN (.inr (by decide)))) (ev_op (ev_v rfl) (ev_cn 69621) (rv_mulN (.inr (by decide)))) rv_addN) (ev_cn 11) rv_addN)) (ev_cn m89) (rv_modN (by decide))) fun H1 e1 => ?_
    unfold mixF at q
    generalize (n * 48271 + p * 69621 + 11) % m89 = a at l1 q ⊢
    have l2 : (a * a + 7 * a + p) % m107 < 2 ^ 107 := Nat.lt_trans (Nat.mod_lt _ (by decide)) (by decide)
    refine q_asg (v := .int (((a * a + 7 * a + p) % m107 : Nat) : Int)) (ev_op (ev_int (ev_op (ev_op (ev_op (ev_v rfl) (ev_v rfl) (rv_mulWN l1 l1 (by decide) (by decide) (by decide))) (ev_op (ev_cn 7) (ev_v rfl) (rv_mulN (.inl (by decide)))) rv_addN) (ev_v rfl) rv_addN)) (ev_cn m107) (rv_modN (by decide))) fun H2 e2 => ?_
    dsimp only at q
    generalize (a * a + 7 * a + p) % m107 = b at l2 q ⊢
    refine q_asg (v := .int (((b * b + a) % m89 : Nat) : Int)) (ev_op (ev_int (ev_op (ev_op (ev_v rfl) (ev_v rfl) (rv_mulWN l2 l2 (by decide) (by decide) (by decide))) (ev_v rfl) rv_addN)) (ev_cn m89) (rv_modN (by decide))) fun H3 e3 => ?_
    exact s_ret (ev_op (ev_op (ev_v rfl) (ev_cn m89) (rv_mulWN (m := 89) l2 (by decide) (by decide) (by decide) (by decide))) (ev_v rfl) rv_addN) fun H4 e4 => q H4 (((e1.trans e2).trans e3).trans e4)
abbrev s_law_rest : Stmt := topS 21
theorem sc_law_rest : FnScope ["script", "place", "fills", "number"] ["script", "place", "fills"] (defScope s_law_rest) := ⟨rfl, rfl, rfl, by decide +kernel, rfl, by decide +kernel, by decide +kernel⟩
/- 0 script, 1 place, 2 fills, 3 number -/
def ok_rest_ (K : PySem.W.Frag) (vs : List V) (H : Hp) (z : V) : Prop := ∃ (sc : Addr) (xs : List Int) (p f : Nat), vs = [.ref sc, .int (p : Int), .int (f : Int)] ∧ SqL K H sc (xs.map V.int) ∧ z = .int (restF xs p f : Nat)
theorem fn_rest_ {f : Addr} {fd : FuncData} {k : Nat} (F : Fun K "_law_rest" "_law_rest" s_law_rest f fd) (N : Nb mg) (C_law_mixed : Cal P w K mg base k "_law_mixed" ["number", "place"] (spV ok_mixed_)) : FnOk P w K mg base CX0 (k + 1) f fd ["script", "place", "fills"] (spV (ok_rest_ K)) := by
  refine F.ok sc_law_rest (fun vs H Q E h => ?_) (fun cdv A outer s H vs Q E hr h => ?_)
  · obtain ⟨_, ⟨_, _, _, _, rfl, _⟩, _⟩ := h
    rfl
  · obtain ⟨_, ⟨sc, xs, p, f, rfl, hS, hz⟩, q⟩ := h
    rw [hz] at q
    refine ⟨_, (pss_cons (ps_set (i := 3) sc_law_rest.nd rfl (Or.inl rfl) pe_int)
      (pss_cons (ps_if (pt_cmpR op_gt (pe_callB call_len_seq (by rfl) N.len PySem.boot_len (pa_cons (pv 0) pa_nil)) pe_int (nomark _)) (pss_one (ps_set (i := 3) sc_law_rest.nd rfl (Or.inl rfl) (pe_callTy call_int1 (by rfl) N.int PyProof.Rows.boot_int (pa_cons (pe_ix ix_list (pv 0) (pe_op op_mod (pe_callTy call_int1 (by rfl) N.int PyProof.Rows.boot_int (pa_cons (pv 1) pa_nil)) (pe_callB call_len_seq (by rfl) N.len PySem.boot_len (pa_cons (pv 0) pa_nil))) (fun _ _ => rfl)) pa_nil)))) pss_nil)
      (pss_cons (ps_if (pt_cmpR op_lt (pv 3) pe_int (nomark _)) (pss_one (ps_set (i := 3) sc_law_rest.nd rfl (Or.inl rfl) (pe_op op_sub pe_int (pe_op op_mul pe_int (pv 3))))) pss_nil)
      (pss_cons (ps_if (PW.pt (pw_and (pt_cmpR op_eq (pv 2) pe_int (nomark _)) (pw_and (pt_cmpR op_lt (pv 1) (pe_callB call_len_seq (by rfl) N.len PySem.boot_len (pa_cons (pv 0) pa_nil)) (nomark _)) (pw_and1 (pt_cmpR op_ge (pv 3) (pe_op op_pow pe_int pe_int) (nomark _)))))) (pss_one (ps_ret (pe_op op_sub (pv 3) (pe_op op_pow pe_int pe_int)))) pss_nil)
      (pss_one (ps_ret (pe_cal C_law_mixed hr (pa_cons (pe_op op_add (pv 3) (pe_op op_mul (pv 2) pe_int)) (pa_cons (pv 1) pa_nil))))))))), ?_⟩
    have hlen : ∀ σ' H', Ex H H' → σ'[0]? = some (some (.ref sc)) → Ev (tCB (rLenS K) (tCons (tVar 0) tNil)) σ' H' (.int (xs.length : Int)) := fun σ' H' e' s' => by
      have := ev_len (K := K) (ta := tVar 0) (ev_v s') (ex_l e' hS)
      rw [List.length_map] at this
      exact this
    obtain ⟨i0, hi0⟩ : ∃ i0 : Int, i0 = if 0 < xs.length then xs.getD (p % xs.length) 0 else 0 := ⟨_, rfl⟩
    have hn : (if 0 < xs.length then absF (xs.getD (p % xs.length) 0) else 0) = absF i0 := by
      rw [hi0]
      split <;> rfl
    unfold restF at q
    rw [hn] at q
    refine q_asg (ev_cn 0) fun H1 e1 => ?_
    refine q_ifAsg (v := .int i0) (b := decide ((0 : Int) < (xs.length : Int))) (et_test (ev_op (hlen _ _ e1 rfl) (ev_cn 0) rv_I0)) (fun hb => ?_) (fun hb => ?_) fun H2 e2 => ?_
    · have h0 : 0 < xs.length := by have := of_decide_eq_true hb; omega
      rw [if_pos h0] at hi0
      have hj : p % xs.length < xs.length := Nat.mod_lt _ h0
      exact ev_int (ev_op (ev_v rfl) (ev_op (ev_int (ev_v rfl)) (hlen _ _ e1 rfl) (rv_modN h0)) (rv_ixLn (ex_l e1 hS) (by
        rw [hi0, List.getElem?_map, List.getD_eq_getElem?_getD, List.getElem?_eq_getElem hj]
        rfl)))
    · have h0 : ¬ 0 < xs.length := by have := of_decide_eq_false hb; omega
      rw [if_neg h0] at hi0
      rw [hi0]
      rfl
    refine q_ifAsg (v := .int (absF i0 : Nat)) (b := decide (i0 < 0)) (et_test (ev_op (ev_v rfl) (ev_cn 0) rv_I0)) (fun hb => ?_) (fun hb => ?_) fun H3 e3 => ?_
    · have h0 := of_decide_eq_true hb
      refine ev_is (ev_op (ev_cn 1) (ev_op (ev_cn 2) (ev_v rfl) (rv_I (.inl ⟨by decide, by decide⟩))) rv_I0) ?_
      unfold absF
      rw [if_pos h0, Int.toNat_of_nonneg (by omega)]
      rfl
    · have h0 := of_decide_eq_false hb
      unfold absF
      rw [if_neg h0, Int.toNat_of_nonneg (by omega)]
      rfl
    have E3 := (e1.trans e2).trans e3
    generalize absF i0 = n at q ⊢
    have t18 : Ev (tOp (rI CPow fun i j => .int (i ^ j.toNat)) (tC (.int 10)) (tC (.int 18))) [some (.ref sc), some (.int (p : Int)), some (.int (f : Int)), some (.int (n : Int))] H3 (.int ((10 ^ 18 : Nat) : Int)) := ev_op (ev_cn 10) (ev_cn 18) (rv_I (by unfold CPow; decide))
    refine q_when (b := decide (f = 0) && (decide (p < xs.length) && decide (10 ^ 18 ≤ n))) (et_and (et_test (ev_is (ev_op (ev_v rfl) (ev_cn 0) (rv_eq rfl)) (congrArg V.bl (decide_eq_decide.mpr ⟨fun h => by have := V.int.inj h; omega, fun h => by rw [h]⟩)))) fun _ =>
      et_and (et_test (ev_is (ev_op (ev_v rfl) (hlen _ _ E3 rfl) rv_I0) (congrArg V.bl (decide_eq_decide.mpr (by omega))))) fun _ => et_test (ev_is (ev_op (ev_v rfl) t18 rv_I0) (congrArg V.bl (decide_eq_decide.mpr (by omega))))) (fun hb H4 e4 => ?_) fun hb H4 e4 => ?_
    · rw [Bool.and_eq_true, Bool.and_eq_true, decide_eq_true_eq, decide_eq_true_eq, decide_eq_true_eq] at hb
      rw [if_pos ⟨hb.1, hb.2.1, hb.2.2⟩] at q
      exact s_ret (ev_op (ev_v rfl) (t18.mono e4) (rv_subN hb.2.2)) fun H5 e5 => q H5 ((E3.trans e4).trans e5)
    · have hb' : ¬ (f = 0 ∧ p < xs.length ∧ 10 ^ 18 ≤ n) := fun h => by
        rw [decide_eq_true h.1, decide_eq_true h.2.1, decide_eq_true h.2.2] at hb
        exact nomatch hb
      rw [if_neg hb'] at q
      exact s_ret (ev_cal (ea_cons (ev_op (ev_v rfl) (ev_op (ev_v rfl) (ev_cn 1000003) (rv_mulN (.inr (by decide)))) rv_addN) (ea_cons (ev_v rfl) ea_nil)) fun _ _ => ⟨_, p, rfl, rfl⟩) fun H5 e5 => q H5 ((E3.trans e4).trans e5)
abbrev s_law_pool : Stmt := topS 22
theorem sc_law_pool : FnScope ["script"] ["script"] (defScope s_law_pool) := ⟨rfl, rfl, rfl, by decide +kernel, rfl, by decide +kernel, by decide +kernel⟩
def ok_pool_ (K : PySem.W.Frag) (vs : List V) (H : Hp) (z : List V) : Prop := ∃ (sc : Addr) (xs : List Int), vs = [.ref sc] ∧ SqL K H sc (xs.map V.int) ∧ z = [.ref sc, .int ((0 : Nat) : Int), .int (restF xs 0 0 : Nat), .int ((0 : Nat) : Int)]
theorem fn_pool_ {f : Addr} {fd : FuncData} {k : Nat} (F : Fun K "_law_pool" "_law_pool" s_law_pool f fd) (N : Nb mg) (C_law_rest : Cal P w K mg base k "_law_rest" ["script", "place", "fills"] (spV (ok_rest_ K))) : FnOk P w K mg base CX0 (k + 1) f fd ["script"] (spL (ok_pool_ K)) := by
  refine F.ok sc_law_pool (fun vs H Q E h => ?_) (fun cdv A outer s H vs Q E hr h => ?_)
  · obtain ⟨_, ⟨_, _, rfl, _⟩, _⟩ := h
    rfl
  · obtain ⟨_, ⟨sc, xs, rfl, hS, hz⟩, q⟩ := h
    rw [hz] at q
    refine ⟨_, (pss_one (ps_ret (pe_lst (pa_cons (pv 0) (pa_cons pe_int (pa_cons (pe_cal C_law_rest hr (pa_cons (pv 0) (pa_cons pe_int (pa_cons pe_int pa_nil)))) (pa_cons pe_int pa_nil))))))), ?_⟩
    exact s_retL (el_lst (ea_cons (ev_v rfl) (ea_cons (ev_cn 0) (ea_cons (ev_cal (ea_cons (ev_v rfl) (ea_cons (ev_cn 0) (ea_cons (ev_cn 0) ea_nil))) fun H1 e1 => ⟨sc, xs, 0, 0, rfl, ex_l e1 hS, rfl⟩) (ea_cons (ev_cn 0) ea_nil)))) (by show 4 ≤ 100000; decide)) fun p H1 hp e1 h1 => q p H1 hp e1 h1
abbrev s_law_draw : Stmt := topS 24
theorem sc_law_draw : FnScope ["pool", "limit", "value"] ["pool", "limit"] (defScope s_law_draw) := ⟨rfl, rfl, rfl, by decide +kernel, rfl, by decide +kernel, by decide +kernel⟩
/- 0 pool, 1 limit, 2 value -/
theorem fn_draw {f : Addr} {fd : FuncData} {k : Nat} (F : Fun K "_law_draw" "_law_draw" s_law_draw f fd) (N : Nb mg) (C_law_rest : Cal P w K mg base k "_law_rest" ["script", "place", "fills"] (spV (ok_rest_ K))) : FnOk P w K mg base CX0 (k + 1) f fd ["pool", "limit"] (sp_draw K) := by
  refine F.ok sc_law_draw (fun vs H Q E h => ?_) (fun cdv A outer s H vs Q E hr h => ?_)
  · obtain ⟨_, _, _, _, rfl, _⟩ := h
    rfl
  · obtain ⟨p, sc, xs, limit, rfl, hP, h0, hlim, q⟩ := h
    refine ⟨_, (pss_cut (ps_if (pt_cmpR op_le (pe_ix ix_list (pv 0) pe_int (fun _ _ => rfl)) pe_int (nomark _)) (pss_cons (ps_asg (pe_op op_add (pe_ix ix_list (pv 0) pe_int (fun _ _ => rfl)) pe_int) (pg_sub (pv 0) pe_int set_list))
      (pss_one (ps_asg (pe_cal C_law_rest hr (pa_cons (pe_ix ix_list (pv 0) pe_int (fun _ _ => rfl)) (pa_cons (pe_ix ix_list (pv 0) pe_int (fun _ _ => rfl)) (pa_cons (pe_ix ix_list (pv 0) pe_int (fun _ _ => rfl)) pa_nil)))) (pg_sub (pv 0) pe_int set_list)))) pss_nil)
      (pss_cons (ps_set (i := 2) sc_law_draw.nd rfl (Or.inl rfl) (pe_op op_mod (pe_callTy call_int1 (by rfl) N.int PyProof.Rows.boot_int (pa_cons (pe_ix ix_list (pv 0) pe_int (fun _ _ => rfl)) pa_nil)) (pv 1)))
      (pss_cons (ps_asg (pe_op op_fdivW (pe_callTy call_int1 (by rfl) N.int PyProof.Rows.boot_int (pa_cons (pe_ix ix_list (pv 0) pe_int (fun _ _ => rfl)) pa_nil)) (pv 1)) (pg_sub (pv 0) pe_int set_list))
      (pss_one (ps_ret (pv 2)))))), ?_⟩
    have hP0 := hP
    obtain ⟨pl, r, f, hp, hS⟩ := hP
    refine q_cut (M := fun σ' H' => σ' = [some (.ref p), some (.int (limit : Int)), none] ∧ Keep p H H' ∧ ∃ r f : Nat, H' p = some (.lst [.ref sc, .int (pl : Int), .int (r : Int), .int (f : Int)])) ?_ ?_
    · refine s_when (b := decide ((r : Int) ≤ ((1 : Nat) : Int))) (et_test (ev_op (ev_ixL (ev_v rfl) (ev_cn 2) (sq_of hp) rfl) (ev_cn 1) rv_I0)) (fun hb H1 e1 => ?_) fun hb H1 e1 => ⟨rfl, .of e1, r, f, e1 p _ hp⟩
      refine q_setL (j := 3) (v := .int ((f + 1 : Nat) : Int)) (e1 p _ hp) (ev_op (ev_ixL (ev_v rfl) (ev_cn 3) (sq_of (e1 p _ hp)) rfl) (ev_cn 1) rv_addN) (ev_v rfl) (ev_cn 3) (by show 3 < 4; decide) fun H2 e2 => ?_
      have E2 := e1.trans e2
      have k2 : Keep p H (upd H2 p (.lst [.ref sc, .int (pl : Int), .int (r : Int), .int ((f + 1 : Nat) : Int)])) := (Keep.of E2).trans .upd
      refine s_setL (j := 2) (v := .int (restF xs pl (f + 1) : Nat)) (xs := [.ref sc, .int (pl : Int), .int (r : Int), .int ((f + 1 : Nat) : Int)]) upd_same (ev_cal (ea_cons (ev_ixL (ev_v rfl) (ev_cn 0) (sq_of upd_same) rfl) (ea_cons (ev_ixL (ev_v rfl) (ev_cn 1) (sq_of upd_same) rfl) (ea_cons (ev_ixL (ev_v rfl) (ev_cn 3) (sq_of upd_same) rfl) ea_nil))) fun H3 e3 => ⟨sc, xs, pl, f + 1, rfl, ex_l e3 (sc_keep hp k2 hS), rfl⟩) (ev_v rfl) (ev_cn 2) (by show 2 < 4; decide) fun H3 e3 => ?_
      exact ⟨rfl, (k2.trans (.of e3)).trans .upd, _, _, upd_same⟩
    · rintro σ' H' ⟨rfl, hk, r', f', hp'⟩
      refine q_asg (v := .int ((r' % limit : Nat) : Int)) (ev_op (ev_int (ev_ixL (ev_v rfl) (ev_cn 2) (sq_of hp') rfl)) (ev_v rfl) (rv_modN h0)) fun H1 e1 => ?_
      refine q_setL (j := 2) (v := .int ((r' / limit : Nat) : Int)) (e1 p _ hp') (ev_op (ev_int (ev_ixL (ev_v rfl) (ev_cn 2) (sq_of (e1 p _ hp')) rfl)) (ev_v rfl) (rv_divWN (n := 63) h0 hlim (by decide) (by decide))) (ev_v rfl) (ev_cn 2) (by show 2 < 4; decide) fun H2 e2 => ?_
      have k3 : Keep p H (upd H2 p (.lst [.ref sc, .int (pl : Int), .int ((r' / limit : Nat) : Int), .int (f' : Int)])) := (hk.trans (.of (e1.trans e2))).trans .upd
      refine s_ret (ev_v rfl) fun H3 e3 => q (r' % limit) H3 (Nat.mod_lt _ h0) (G.exR ⟨k3, hP0.mk' (r := r' / limit) (f := f') k3 upd_same⟩ e3)
abbrev s_law_pick : Stmt := topS 25
theorem sc_law_pick : FnScope ["pool", "options"] ["pool", "options"] (defScope s_law_pick) := ⟨rfl, rfl, rfl, by decide +kernel, rfl, by decide +kernel, by decide +kernel⟩
/- 0 pool, 1 options -/
theorem fn_pick {f : Addr} {fd : FuncData} {k : Nat} (F : Fun K "_law_pick" "_law_pick" s_law_pick f fd) (N : Nb mg) (C_law_draw : Cal P w K mg base k "_law_draw" ["pool", "limit"] (sp_draw K)) : FnOk P w K mg base CX0 (k + 1) f fd ["pool", "options"] (sp_pick K) := by
  refine F.ok sc_law_pick (fun vs H Q E h => ?_) (fun cdv A outer s H vs Q E hr h => ?_)
  · obtain ⟨_, _, _, _, _, rfl, _⟩ := h
    rfl
  · obtain ⟨p, sc, ns, a, xs, rfl, hP, hS, hne, hx, hl, q⟩ := h
    refine ⟨_, (pss_one (ps_ret (pe_ix ix_list (pv 1) (pe_cal C_law_draw hr (pa_cons (pv 0) (pa_cons (pe_callB call_len_seq (by rfl) N.len PySem.boot_len (pa_cons (pv 1) pa_nil)) pa_nil))) (fun _ _ => rfl)))), ?_⟩
    have h0 : 0 < xs.length := List.length_pos_iff.mpr hx
    refine r_ret (r_op (r_var rfl (r_call (r_cons (r_var rfl (r_cons (r_ev (ev_len (K := K) (ev_v rfl) hS) (Ex.refl H) fun H3 e3 => r_nil ?_)))))))
    refine ⟨p, sc, ns, xs.length, rfl, hP.ex e3, h0, by omega, fun v H4 hv g => ?_⟩
    exact rv_ixLn (keep_l g.1 hne (ex_l e3 hS)) (List.getElem?_eq_getElem hv) H4 (Ex.refl H4) _ fun H5 e5 => q _ H5 (List.getElem_mem hv) ((G.exL e3 g).exR e5)
abbrev s_law_next : Stmt := topS 23
theorem sc_law_next : FnScope ["pool"] ["pool"] (defScope s_law_next) := ⟨rfl, rfl, rfl, by decide +kernel, rfl, by decide +kernel, by decide +kernel⟩
/- 0 pool -/
def sp_next (K : PySem.W.Frag) : Sp := fun vs H Q _ => ∃ (p sc : Addr) (ns : List Int), vs = [.ref p] ∧ Pool K H p sc ns ∧ ∀ H', G K p sc ns H H' → Q .non H'
theorem fn_next {f : Addr} {fd : FuncData} {k : Nat} (F : Fun K "_law_next" "_law_next" s_law_next f fd) (N : Nb mg) (C_law_rest : Cal P w K mg base k "_law_rest" ["script", "place", "fills"] (spV (ok_rest_ K))) : FnOk P w K mg base CX0 (k + 1) f fd ["pool"] (sp_next K) := by
  refine F.ok sc_law_next (fun vs H Q E h => ?_) (fun cdv A outer s H vs Q E hr h => ?_)
  · obtain ⟨_, _, _, rfl, _⟩ := h
    rfl
  · obtain ⟨p, sc, xs, rfl, hP, q⟩ := h
    refine ⟨_, (pss_cons (ps_asg (pe_op op_add (pe_ix ix_list (pv 0) pe_int (fun _ _ => rfl)) pe_int) (pg_sub (pv 0) pe_int set_list))
      (pss_cons (ps_asg (pe_cal C_law_rest hr (pa_cons (pe_ix ix_list (pv 0) pe_int (fun _ _ => rfl)) (pa_cons (pe_ix ix_list (pv 0) pe_int (fun _ _ => rfl)) (pa_cons pe_int pa_nil)))) (pg_sub (pv 0) pe_int set_list))
      (pss_one (ps_asg pe_int (pg_sub (pv 0) pe_int set_list))))), ?_⟩
    have hP0 := hP
    obtain ⟨pl, r, f, hp, hS⟩ := hP
    refine q_setL (j := 1) (v := .int ((pl + 1 : Nat) : Int)) hp (ev_op (ev_ixL (ev_v rfl) (ev_cn 1) (sq_of hp) rfl) (ev_cn 1) rv_addN) (ev_v rfl) (ev_cn 1) (by show 1 < 4; decide) fun H1 e1 => ?_
    have k1 : Keep p H (upd H1 p (.lst [.ref sc, .int ((pl + 1 : Nat) : Int), .int (r : Int), .int (f : Int)])) := (Keep.of e1).trans .upd
    refine q_setL (j := 2) (v := .int (restF xs (pl + 1) 0 : Nat)) (xs := [.ref sc, .int ((pl + 1 : Nat) : Int), .int (r : Int), .int (f : Int)]) upd_same (ev_cal (ea_cons (ev_ixL (ev_v rfl) (ev_cn 0) (sq_of upd_same) rfl) (ea_cons (ev_ixL (ev_v rfl) (ev_cn 1) (sq_of upd_same) rfl) (ea_cons (ev_cn 0) ea_nil))) fun H3 e3 => ⟨sc, xs, pl + 1, 0, rfl, ex_l e3 (sc_keep hp k1 hS), rfl⟩) (ev_v rfl) (ev_cn 2) (by show 2 < 4; decide) fun H2 e2 => ?_
    have k2 : Keep p H (upd H2 p (.lst [.ref sc, .int ((pl + 1 : Nat) : Int), .int (restF xs (pl + 1) 0 : Nat), .int (f : Int)])) := (k1.trans (.of e2)).trans .upd
    refine s_setL (j := 3) (v := .int ((0 : Nat) : Int)) (xs := [.ref sc, .int ((pl + 1 : Nat) : Int), .int (restF xs (pl + 1) 0 : Nat), .int (f : Int)]) upd_same (ev_cn 0) (ev_v rfl) (ev_cn 3) (by show 3 < 4; decide) fun H3 e3 => ?_
    have k3 : Keep p H (upd H3 p (.lst [.ref sc, .int ((pl + 1 : Nat) : Int), .int (restF xs (pl + 1) 0 : Nat), .int ((0 : Nat) : Int)])) := (k2.trans (.of e3)).trans .upd
    exact q _ ⟨k3, hP0.mk' k3 upd_same⟩
abbrev s_law_along : Stmt := topS 33
theorem sc_law_along : FnScope ["pattern", "segments", "k"] ["pattern", "segments"] (defScope s_law_along) := ⟨rfl, rfl, rfl, by decide +kernel, rfl, by decide +kernel, by decide +kernel⟩
/- 0 pattern*, 1 segments*, 2 k -/
def ok_along (K : PySem.W.Frag) (h : Nat) (vs : List V) (H : Hp) (z : V) : Prop := ∃ (a b : Addr) (ps segs : List L), vs = [.ref a, .ref b] ∧ SqT K H a (txs ps) ∧ SqL K H b (txs segs) ∧ segs.length ≤ 1000 ∧ ps.length < h ∧ z = .bl (alongF ps segs)
theorem eu_dropT {σ : L2.St} {H : Hp} {ta tb : TE} {a : Addr} {x : L} {ws : List L} (ha : Ev ta σ H (.ref a)) (hb : Ev tb σ H (.int ((1 : Nat) : Int))) (hS : SqT K H a (txs (x :: ws))) : EvU (tSl (rSlT K) ta (tPart tb) tNoPart) σ H (txs ws) := fun H1 e Q q =>
  ha H1 e _ fun H2 e2 => (eo_some hb) H2 (e.trans e2) _ fun H3 e3 => (eo_none (σ := σ) (H := H3)) H3 (Ex.refl H3) _ fun H4 e4 => ⟨a, _, rfl, ex_t (((e.trans e2).trans e3).trans e4) hS, fun z => by
    have h1 := z.1
    rw [HT.sIx_nat, txs_len, List.length_cons] at h1
    omega, fun p hp => q p _ (fresh_back ((e2.trans e3).trans e4) hp) (((e2.trans e3).trans e4).trans (Ex.new hp)) (by
    rw [upd_same, cutV_drop]
    rfl)⟩
theorem ev_any {σ : L2.St} {H : Hp} {te : TE} {bs : List Bool} (h : EvL te σ H (bs.map V.bl)) : Ev (tCB (rAny K) (tCons te tNil)) σ H (.bl (bs.any id)) := fun H1 e Q q =>
  h H1 e _ fun p H2 _ e2 hp => ⟨p, bs, rfl, sq_of hp, q H2 e2⟩
theorem fn_along {f : Addr} {fd : FuncData} {k h : Nat} (F : Fun K "_law_along" "_law_along" s_law_along f fd) (N : Nb mg) (C_law_along : Cal P w K mg base k "_law_along" ["pattern", "segments"] (spV (ok_along K h))) : FnOk P w K mg base CX0 (k + 1) f fd ["pattern", "segments"] (spV (ok_along K (h + 1))) := by
  refine F.ok sc_law_along (fun vs H Q E h => ?_) (fun cdv A outer s H vs Q E hr h => ?_)
  · obtain ⟨_, ⟨_, _, _, _, rfl, _⟩, _⟩ := h
    rfl
  · obtain ⟨_, ⟨a, b, ps, segs, rfl, hA, hB, hn, hh, hz⟩, q⟩ := h
    rw [hz] at q
    refine ⟨_, (pss_cons (ps_if (pt_cmpR (op_eqE hr.units) (pv 0) (pe_tup pa_nil) (nomark _)) (pss_one (ps_ret (pe_cmpR (op_eqE hr.units) (pv 1) (pe_lst pa_nil) (nomark _)))) pss_nil)
      (pss_cons (ps_if (pt_cmpR op_eq (pe_ix ix_tup (pv 0) pe_int (fun _ _ => rfl)) pe_str (nomark _)) (pss_one (ps_ret (pe_callB (cr_any rfl) (by rfl) N.any PyProof.Rows.boot_any (pa_cons (pe_lc (own := [("k", 2)]) (by rfl) sc_law_along.nd (pi_range1 rfl N.range (pa_cons (pe_op op_add (pe_callB call_len_seq (by rfl) N.len PySem.boot_len (pa_cons (pv 1) pa_nil)) pe_int) pa_nil)) (blkOk_by (own := [("k", 2)]) (N := ["pattern", "segments", "k"]) (sc := defScope s_law_along) (by decide +kernel)) (fun _ _ _ _ _ => (pg_name (i := 2) sc_law_along.nd rfl (Or.inl rfl))) (fun _ _ _ _ _ => pts_nil) (fun _ _ _ _ _ => (pe_cal C_law_along hr (pa_cons (pe_slice (r := rSlT K) sl_tup (pv 0) (po_some pe_int) po_none) (pa_cons (pe_slice (r := rSlL K) sl_list (pv 1) (po_some (pv 2)) po_none) pa_nil))))) pa_nil)))) pss_nil)
      (pss_one (ps_ret (pe_and (pe_cmpR (op_neE hr.units) (pv 1) (pe_lst pa_nil) (nomark _)) (pe_and (pe_cmpR op_in_seq (pe_ix ix_tup (pv 0) pe_int (fun _ _ => rfl)) (pe_tup (pa_cons pe_str (pa_cons (pe_ix ix_list (pv 1) pe_int (fun _ _ => rfl)) pa_nil))) rfl) (pe_one (pe_cal C_law_along hr (pa_cons (pe_slice sl_tup (pv 0) (po_some pe_int) po_none) (pa_cons (pe_slice sl_list (pv 1) (po_some pe_int) po_none) pa_nil)))))))))), ?_⟩
    refine q_when (et_test (ev_is (ev_eqET (ev_v rfl) hA (eu_tup ea_nil (by decide))) (congrArg V.bl txs_nil0))) (fun hb H1 e1 => ?_) fun hb H1 e1 => ?_
    · have hp := of_decide_eq_true hb
      subst hp
      refine s_ret (ev_is (ev_eqE (ev_v rfl) (ex_l e1 hB) (el_lst ea_nil (by decide))) (congrArg V.bl ?_)) fun H2 e2 => q H2 (e1.trans e2)
      rw [txs_nil0, alongF]
      cases segs <;> rfl
    cases ps with
    | nil => exact nomatch hb
    | cons p ps =>
      have hh2 : ps.length < h := by rw [List.length_cons] at hh; omega
      refine q_when (et_test (ev_is (ev_op (ev_ixT (j := 0) (ev_v rfl) (ev_cn 0) (ex_t e1 hA) rfl) (ev_cs [42, 42] (by decide +kernel)) (rv_eq rfl)) (congrArg V.bl str_dec))) (fun hb2 H2 e2 => ?_) fun hb2 H2 e2 => ?_
      · have hp := of_decide_eq_true hb2
        subst hp
        have E2 := e1.trans e2
        refine s_ret (ev_is (ev_any (bs := (List.range (segs.length + 1)).map fun k => alongF ps (segs.drop k)) ?_) ?_) fun H3 e3 => q H3 (E2.trans e3)
        · have hg : ((List.range (segs.length + 1)).map fun k => alongF ps (segs.drop k)).map V.bl = given (((segs.length + 1 : Nat) : Int)).toNat (fun _ => true) (fun k => .bl (alongF ps (segs.drop k))) := by
            rw [Int.toNat_natCast, given_all, List.map_map]
            rfl
          rw [hg]
          refine el_lcR1 (fun _ => true) (fun k => .bl (alongF ps (segs.drop k))) (n := ((segs.length + 1 : Nat) : Int)) (ea_cons (ev_is (ev_op (ev_len (ev_v rfl) (ex_l E2 hB)) (ev_cn 1) rv_addN) (by rw [txs_len])) ea_nil) (by omega) (fun _ => rfl) (fun i H4 e4 hi => et_yes) fun i H4 e4 hi _ => ev_calP (eap_u (eu_dropT (ev_v rfl) (ev_cn 1) (ex_t (E2.trans e4) hA)) (eap_l (el_drop (ev_v rfl) (ev_v rfl) (ex_l (E2.trans e4) hB)) eap_nil)) fun vs H5 e5 hv => ?_
          obtain ⟨a2, _, rfl, h2, b2, _, rfl, h3, rfl⟩ := hv
          exact ⟨a2, b2, ps, segs.drop i, rfl, st_of h2, sq_of h3, by rw [List.length_drop]; omega, hh2, rfl⟩
        · rw [List.any_map, alongF, if_pos rfl]
          rfl
      · have hp := of_decide_eq_false hb2
        have E2 := e1.trans e2
        cases segs with
        | nil =>
          rw [along_nil hp] at q
          exact s_ret (ev_andV (a := false) (b := false) (ev_neE (ev_v rfl) (ex_l E2 hB) (el_lst ea_nil (by decide))) fun z => nomatch z) fun H3 e3 => q H3 (E2.trans e3)
        | cons x segs =>
          rw [along_cons hp] at q
          refine s_ret (ev_andV (a := true) (b := (decide (p = [42]) || decide (p = x)) && alongF ps segs) (ev_neE (ev_v rfl) (ex_l E2 hB) (el_lst ea_nil (by decide))) fun _ => ev_andV (by
            rw [← inV_str]
            exact ev_inU (ev_ixT (j := 0) (ev_v rfl) (ev_cn 0) (ex_t E2 hA) rfl) (eu_tup (ea_cons (ev_cs [42] (by decide +kernel)) (ea_cons (ev_ixL (j := 0) (ev_v rfl) (ev_cn 0) (ex_l E2 hB) rfl) ea_nil)) l2) rfl rfl) fun _ => ev_calP (eap_u (eu_dropT (ev_v rfl) (ev_cn 1) (ex_t E2 hA)) (eap_l (el_drop (ws := x :: segs) (i := 1) (ev_v rfl) (ev_cn 1) (ex_l E2 hB)) eap_nil)) fun vs H5 e5 hv => ?_) fun H3 e3 => q H3 (E2.trans e3)
          obtain ⟨a2, _, rfl, h2, b2, _, rfl, h3, rfl⟩ := hv
          exact ⟨a2, b2, ps, segs, rfl, st_of h2, sq_of h3, by rw [List.length_cons] at hn; omega, hh2, rfl⟩
theorem cal_along {f : Addr} {fd : FuncData} {k : Nat} (F : Fun K "_law_along" "_law_along" s_law_along f fd) (hb : Binds K fd ["pattern", "segments"] []) (hk : PySem.W.keepIn K (.ref f) = true) (hm : mg "_law_along" = some (.ref f)) (N : Nb mg) : ∀ h, Cal P w K mg base (k + h) "_law_along" ["pattern", "segments"] (spV (ok_along K h))
  | 0 => ⟨f, fd, ⟨fun vs H Q E h => by obtain ⟨_, ⟨_, _, _, _, _, _, _, _, h, _⟩, _⟩ := h; exact (Nat.not_lt_zero _ h).elim, fun A outer s H args us vs Q E _ _ _ _ h => by obtain ⟨_, ⟨_, _, _, _, _, _, _, _, h, _⟩, _⟩ := h; exact (Nat.not_lt_zero _ h).elim⟩, hb, hk, hm⟩
  | h + 1 => ⟨f, fd, fn_along F N (cal_along F hb hk hm N h), hb, hk, hm⟩
abbrev s_lines_for : Stmt := topS 18
theorem sc_lines_for : FnScope ["policy", "paths", "found", "index", "line", "path"] ["policy", "paths"] (defScope s_lines_for) := ⟨rfl, rfl, rfl, by decide +kernel, rfl, by decide +kernel, by decide +kernel⟩
/- 0 policy, 1 paths, 2 found, 3 index, 4 line*, 5 path -/
/-- which lines go along some path -/
def forF (rows : List (List L)) (paths : List L) : List Nat := (List.range rows.length).filter fun k => paths.any fun p => alongF (rows.getD k []) (splitT 47 p)
end
end K70

set_option Elab.async false
set_option linter.all false
set_option maxRecDepth 100000
set_option maxHeartbeats 4000000
namespace K70
open PySem PySem.Spec PyProof.Rows L2 Evl My
def isRow (d : D) : Prop := ∃ segs n ps, d = rowD segs n ps ∧ segs.length ≤ 12
def strD : D → L
  | .str l => l
  | _ => []
def partsD : D → List L
  | .tup (.tup xs :: _) => xs.map strD
  | _ => []
theorem parts_row (segs : List L) (n : Nat) (ps : List L) : partsD (rowD segs n ps) = segs := by
  show (segs.map D.str).map strD = segs
  rw [List.map_map]
  exact (List.map_congr_left fun z _ => rfl).trans (List.map_id' segs)
theorem reps_strs {H : Hp} : ∀ {vs : List V} {ps : List L}, Reps H vs (ps.map .str) → vs = txs ps
  | vs, [], h => by cases h; rfl
  | vs, p :: ps, h => by
    cases h with
    | cons h r =>
      cases h
      rw [reps_strs r]
      rfl
/-- a row in the heap -/
theorem row_at {H : Hp} {v : V} {d : D} (h : Rep H v d) (hd : isRow d) : ∃ (a b : Addr) (r : List V), v = .ref a ∧ H a = some (.tup (.ref b :: r)) ∧ H b = some (.tup (txs (partsD d))) ∧ (partsD d).length ≤ 12 := by
  obtain ⟨segs, n, ps, rfl, hl⟩ := hd
  rw [parts_row]
  unfold rowD at h
  cases h with
  | @tup a vs _ e r =>
    cases r with
    | @cons v1 _ vs1 _ h1 r1 =>
      cases h1 with
      | @tup b us _ e1 r2 =>
        have := reps_strs r2
        subst this
        exact ⟨a, b, _, rfl, e, e1, hl⟩
/-- a policy in the heap -/
theorem pol_at {H : Hp} {v : V} {hd : D} {ds : List D} (h : Rep H v (.tup [hd, .tup ds])) : ∃ (a b : Addr) (v0 : V) (us : List V), v = .ref a ∧ H a = some (.tup [v0, .ref b]) ∧ H b = some (.tup us) ∧ Reps H us ds ∧ Rep H v0 hd := by
  cases h with
  | @tup a vs _ e r =>
    cases r with
    | @cons v1 _ vs1 _ h1 r1 =>
      cases r1 with
      | @cons v2 _ vs2 _ h2 r2 =>
        cases r2
        cases h2 with
        | @tup b us _ e1 r3 => exact ⟨a, b, v1, us, rfl, e, e1, r3, h1⟩
section
variable {P : Program} {w : World} {K : PySem.W.Frag} {mg : Str → Option Value} {base : Heap}
def sp_lines (K : PySem.W.Frag) : Sp := fun vs H Q _ => ∃ (v : V) (b : Addr) (hd : D) (ds : List D) (paths : List L), vs = [v, .ref b] ∧ Rep H v (.tup [hd, .tup ds]) ∧ (∀ d ∈ ds, isRow d) ∧ SqT K H b (txs paths) ∧ (∀ p ∈ paths, p.length ≤ 500) ∧ ds.length ≤ 1000 ∧ paths.length ≤ 1000 ∧
  ∀ t H', Ex H H' → H' t = some (.tup (nats (forF (ds.map partsD) paths))) → Q (.ref t) H'
theorem fn_lines_for {f : Addr} {fd : FuncData} {k : Nat} (F : Fun K "lines_for" "lines_for" s_lines_for f fd) (N : Nb mg) (C_matches : Cal P w K mg base k "matches" ["pattern", "path"] (spV (ok_matches K))) : FnOk P w K mg base CX0 (k + 1) f fd ["policy", "paths"] (sp_lines K) := by
  refine F.ok sc_lines_for (fun vs H Q E h => ?_) (fun cdv A outer s H vs Q E hr h => ?_)
  · obtain ⟨_, _, _, _, _, rfl, _⟩ := h
    rfl
  · obtain ⟨v, b, hd, ds, paths, rfl, hR, hrow, hS, hpl, hdl, hpn, q⟩ := h
    refine ⟨_, (pss_cons (ps_set (i := 2) sc_lines_for.nd rfl (Or.inl rfl) (pe_lst pa_nil))
      (pss_cons (ps_for PassesOwn.never rfl (pi_enumT rfl N.enumerate (pa_cons (pe_ix ix_tup (pv 0) pe_int (fun _ _ => rfl)) pa_nil)) (pg_tup rfl (pgs_cons (pg_name (i := 3) sc_lines_for.nd rfl (Or.inl rfl)) (pgs_cons (pg_name (i := 4) sc_lines_for.nd rfl (Or.inr rfl)) pgs_nil))) (pss_one (ps_if (pt_val (pe_callB (cr_any rfl) (by rfl) N.any PyProof.Rows.boot_any (pa_cons (pe_lc (own := [("path", 5)]) (by rfl) sc_lines_for.nd (pi_tup (pv 1)) (blkOk_by (own := [("path", 5)]) (N := ["policy", "paths", "found", "index", "line", "path"]) (sc := defScope s_lines_for) (by decide +kernel)) (fun _ _ _ _ _ => (pg_name (i := 5) sc_lines_for.nd rfl (Or.inl rfl))) (fun _ _ _ _ _ => pts_nil) (fun _ _ _ _ _ => (pe_cal C_matches hr (pa_cons (pe_ix (r := rIxT K) ix_tup (pv 4) pe_int (fun _ _ => rfl)) (pa_cons (pv 5) pa_nil))))) pa_nil))) (pss_one (ps_expr (pe_bm PySem.F.plainAttrs_list PySem.F.slot_list_append PySem.F.type_list_append mt_append (pv 2) (pa_cons (pv 3) pa_nil)))) pss_nil)))
      (pss_one (ps_ret (pe_callTy call_tuple_of (by rfl) N.tuple PyProof.Rows.boot_tuple (pa_cons (pv 2) pa_nil)))))), ?_⟩
    obtain ⟨a, a1, v0, us, rfl, ha, ha1, hus, _⟩ := pol_at hR
    have hul := hus.len
    let f : Nat → Bool := fun k => paths.any fun p => alongF ((ds.map partsD).getD k []) (splitT 47 p)
    refine q_asgL (el_lst ea_nil (by decide)) fun fl H1 hfl e1 h1 => ?_
    refine q_forET (xs := us) (ev_ixT (j := 1) (ev_v rfl) (ev_cn 1) (st_of (e1 _ _ ha)) rfl) (st_of (e1 _ _ ha1)) (fun i σ H' => Ex H H' ∧ H' fl = some (.lst (nats ((List.range i).filter f))) ∧ ∃ y3 y4 y5, σ = [some (.ref a), some (.ref b), some (.ref fl), y3, y4, y5]) (fun H2 e2 => ⟨e1.trans e2, e2 fl _ h1, none, none, none, rfl⟩) (fun i σ H' _ h => st_of (h.1 _ _ ha1)) ?_ ?_
    · rintro i x σ H' H2 hx ⟨e', h', y3, y4, y5, rfl⟩ e2
      obtain ⟨d, hdx, hrd⟩ := hus.get' hx
      have hi := (List.getElem?_eq_some_iff.mp hx).1
      obtain ⟨ar, as, rr, rfl, har, has, hseg⟩ := row_at hrd (hrow d (List.mem_of_getElem? hdx))
      have hgd : (ds.map partsD).getD i [] = partsD d := by
        rw [List.getD_eq_getElem?_getD, List.getElem?_map, hdx]
        rfl
      have E2 := e'.trans e2
      have hany : Ev (tCB (rAny K) (tCons (tLc (iTup K (tVar 1)) (gName 5) tYes (tCall (spV (ok_matches K)) [] E0 (tCons (tOp (rIxT K) (tVar 4) (tC (.int 0))) (tCons (tVar 5) tNil))) [5]) tNil)) [some (.ref a), some (.ref b), some (.ref fl), some (.int (i : Int)), some (.ref ar), y5] H2 (.bl (f i)) := by
        refine ev_is (ev_any (bs := paths.map fun p => alongF (partsD d) (splitT 47 p)) ?_) ?_
        · rw [← bls_txs (fun p => alongF (partsD d) (splitT 47 p)) paths, ← show (txs paths).filter (fun _ => true) = txs paths from List.filter_eq_self.mpr fun _ _ => rfl]
          refine el_lcT (fun _ => true) _ (ev_v rfl) (ex_t E2 hS) (by rw [txs_len]; omega) (fun _ => rfl) (fun x H3 e3 hx => et_yes) fun x H3 e3 hx _ => ?_
          obtain ⟨p, hp, rfl⟩ := List.mem_map.mp hx
          exact ev_cal (ea_cons (ev_ixT (j := 0) (ev_v rfl) (ev_cn 0) (st_of ((E2.trans e3) _ _ har)) rfl) (ea_cons (ev_v rfl) ea_nil)) fun H4 e4 => ⟨as, partsD d, p, rfl, st_of (((E2.trans e3).trans e4) _ _ has), hpl p hp, rfl⟩
        · show _ = V.bl (paths.any fun p => alongF ((ds.map partsD).getD i []) (splitT 47 p))
          rw [List.any_map, hgd]
          rfl
      refine s_when (et_B hany) (fun hb H3 e3 => ?_) fun hb H3 e3 => ?_
      · refine s_app (e3 fl _ (e2 fl _ h')) (ev_v rfl) (ev_v rfl) ?_ fun H4 e4 => ⟨((E2.trans e3).trans e4).mut (hfl), ?_, _, _, _, rfl⟩
        · rw [nats_len]
          have := List.length_filter_le f (List.range i)
          rw [List.length_range] at this
          omega
        · rw [upd_same, List.range_succ, List.filter_append, List.filter_cons, hb, if_pos rfl, nats_app]
          rfl
      · refine ⟨E2.trans e3, ?_, _, _, _, rfl⟩
        rw [e3 fl _ (e2 fl _ h'), List.range_succ, List.filter_append, List.filter_cons, hb, if_neg (by decide)]
        show _ = some (HO.lst (nats (_ ++ [])))
        rw [List.append_nil]
    · rintro σ H' ⟨e', h', y3, y4, y5, rfl⟩
      refine r_ret (eu_tupV (ev_v rfl) (sq_of h') H' (Ex.refl H') _ fun p H3 hp e3 h3 => q p H3 (e'.trans e3) ?_)
      rw [h3]
      unfold forF
      rw [List.length_map, hul]
/-! sameness, of equal data -/
mutual
def Wid : D → Prop
  | .tup ds => ds.length ≤ 10000 ∧ WidL ds
  | .lst ds => ds.length ≤ 10000 ∧ WidL ds
  | _ => True
def WidL : List D → Prop
  | [] => True
  | d :: ds => Wid d ∧ WidL ds
end
theorem WidL_get : ∀ {ds : List D} {i : Nat} {d : D}, WidL ds → ds[i]? = some d → Wid d
  | [], _, _, _, h => nomatch h
  | d :: ds, 0, _, p, h => by cases h; rw [WidL] at p; exact p.1
  | d :: ds, i + 1, _, p, h => by rw [WidL] at p; exact WidL_get (ds := ds) (i := i) p.2 h
def isTD : D → Bool
  | .tup _ => true
  | _ => false
def isLD : D → Bool
  | .lst _ => true
  | _ => false
def isSD : D → Bool
  | .str _ => true
  | _ => false
def isID : D → Bool
  | .int _ => true
  | .bl _ => true
  | _ => false
def isBD : D → Bool
  | .bl _ => true
  | _ => false
theorem kTD (d : D) : kitB (tyD d) "tuple" = some (isTD d) := by cases d <;> rfl
theorem kLD (d : D) : kitB (tyD d) "list" = some (isLD d) := by cases d <;> rfl
theorem kSD (d : D) : kitB (tyD d) "str" = some (isSD d) := by cases d <;> rfl
theorem kID (d : D) : kitB (tyD d) "int" = some (isID d) := by cases d <;> rfl
theorem kBD (d : D) : kitB (tyD d) "bool" = some (isBD d) := by cases d <;> rfl
theorem kDD (d : D) : kitB (tyD d) "dict" = some false := by cases d <;> rfl
theorem ev_isN {te : TE} {σ : L2.St} {H : Hp} {v : V} (h : Ev te σ H v) : Ev (tOp (fun x y H Q => y = .non ∧ Q (.bl (decide (x = .non))) H) te (tC .non)) σ H (.bl (decide (v = .non))) := fun H1 e Q q =>
  h H1 e _ fun H2 e2 => ⟨rfl, q H2 e2⟩
theorem ev_isBA {te : TE} {σ : L2.St} {H : Hp} {v : V} {b : Bool} (h : Ev te σ H v) : Ev (tOp rIsBA te (tC (.bl b))) σ H (.bl (decide (v = .bl b))) := fun H1 e Q q =>
  h H1 e _ fun H2 e2 => ⟨b, rfl, q H2 e2⟩
theorem ev_isNv {i : Nat} {c : Bool} {σ : L2.St} {H : Hp} {v : V} (h : σ[i]? = some (some v)) (hc : decide (v = .non) = c) : Ev (tOp (fun x y H Q => y = .non ∧ Q (.bl (decide (x = .non))) H) (tVar i) (tC .non)) σ H (.bl c) := ev_is (ev_isN (ev_v h)) (by rw [hc])
theorem ev_isBv {i : Nat} {c b : Bool} {σ : L2.St} {H : Hp} {v : V} (h : σ[i]? = some (some v)) (hc : decide (v = .bl b) = c) : Ev (tOp rIsBA (tVar i) (tC (.bl b))) σ H (.bl c) := ev_is (ev_isBA (ev_v h)) (by rw [hc])
theorem ev_lenQ {σ : L2.St} {H : Hp} {ta : TE} {p : Addr} {xs : List V} (ha : Ev ta σ H (.ref p)) (h : SqL K H p xs ∨ SqT K H p xs) : Ev (tCB (rLenS K) (tCons ta tNil)) σ H (.int (xs.length : Int)) := by
  rcases h with h | h
  · exact ev_len ha h
  · exact ev_lenT ha h
theorem rv_ixQ {H : Hp} {p : Addr} {xs : List V} {i : Nat} {v : V} (h : SqL K H p xs ∨ SqT K H p xs) (ha : xs[i]? = some v) : RV (rIx K) (.ref p) (.int (i : Int)) H v := by
  rcases h with h | h
  · exact fun H1 e Q q => .inl (rv_ixLn h ha H1 e Q q)
  · exact fun H1 e Q q => .inr (.inl (rv_ixTn h ha H1 e Q q))
theorem ex_q {H H' : Hp} {p : Addr} {xs : List V} (e : Ex H H') (h : SqL K H p xs ∨ SqT K H p xs) : SqL K H' p xs ∨ SqT K H' p xs := h.imp (ex_l e) (ex_t e)
abbrev s_law_same : Stmt := topS 26
theorem sc_law_same : FnScope ["answer", "due", "key", "k"] ["answer", "due"] (defScope s_law_same) := ⟨rfl, rfl, rfl, by decide +kernel, rfl, by decide +kernel, by decide +kernel⟩
/- 0 answer*, 1 due*, 2 key, 3 k -/
def ok_same (h : Nat) (vs : List V) (H : Hp) (z : V) : Prop := ∃ (a b : V) (d : D), vs = [a, b] ∧ Rep H a d ∧ Rep H b d ∧ Wid d ∧ height d < h ∧ z = .bl true
theorem fn_same {f : Addr} {fd : FuncData} {k h : Nat} (F : Fun K "_law_same" "_law_same" s_law_same f fd) (N : Nb mg) (C_law_same : Cal P w K mg base k "_law_same" ["answer", "due"] (spV (ok_same h))) : FnOk P w K mg base CX0 (k + 1) f fd ["answer", "due"] (spV (ok_same (h + 1))) := by
  refine F.ok sc_law_same (fun vs H Q E h => ?_) (fun cdv A outer s H vs Q E hr h => ?_)
  · obtain ⟨_, ⟨_, _, _, rfl, _⟩, _⟩ := h
    rfl
  · obtain ⟨_, ⟨a, b, d, rfl, r1, r2, hw, hh, hz⟩, q⟩ := h
    rw [hz] at q
    refine ⟨_, (pss_cons (ps_if (pt_val (pe_callB call_isi (by rfl) N.isinstance PyProof.Rows.boot_isinstance (pa_cons (pv 1) (pa_cons (pe_bltn (v := .ty "dict") (by rfl) N.dict PyProof.Rows.boot_dict rfl) pa_nil)))) pss_never pss_nil)
      (pss_cons (ps_if (PW.pt (pw_or (pt_val (pe_callB call_isi (by rfl) N.isinstance PyProof.Rows.boot_isinstance (pa_cons (pv 1) (pa_cons (pe_bltn (v := .ty "list") (by rfl) N.list PyProof.Rows.boot_list rfl) pa_nil)))) (pw_or1 (pt_val (pe_callB call_isi (by rfl) N.isinstance PyProof.Rows.boot_isinstance (pa_cons (pv 1) (pa_cons (pe_bltn (v := .ty "tuple") (by rfl) N.tuple PyProof.Rows.boot_tuple rfl) pa_nil))))))) (pss_cons (ps_if (PW.pt (pw_or (pt_cmpR op_ne (pe_callB call_isi (by rfl) N.isinstance PyProof.Rows.boot_isinstance (pa_cons (pv 1) (pa_cons (pe_bltn (v := .ty "list") (by rfl) N.list PyProof.Rows.boot_list rfl) pa_nil))) (pe_callB call_isi (by rfl) N.isinstance PyProof.Rows.boot_isinstance (pa_cons (pv 0) (pa_cons (pe_bltn (v := .ty "list") (by rfl) N.list PyProof.Rows.boot_list rfl) pa_nil))) (nomark _)) (pw_or1 (pt_cmpR op_ne (pe_callB call_isi (by rfl) N.isinstance PyProof.Rows.boot_isinstance (pa_cons (pv 1) (pa_cons (pe_bltn (v := .ty "tuple") (by rfl) N.tuple PyProof.Rows.boot_tuple rfl) pa_nil))) (pe_callB call_isi (by rfl) N.isinstance PyProof.Rows.boot_isinstance (pa_cons (pv 0) (pa_cons (pe_bltn (v := .ty "tuple") (by rfl) N.tuple PyProof.Rows.boot_tuple rfl) pa_nil))) (nomark _))))) (pss_one (ps_ret pe_bl)) pss_nil)
      (pss_one (ps_ret (pe_and (pe_cmpR op_eq (pe_callB call_len_seq (by rfl) N.len PySem.boot_len (pa_cons (pv 0) pa_nil)) (pe_callB call_len_seq (by rfl) N.len PySem.boot_len (pa_cons (pv 1) pa_nil)) (nomark _)) (pe_one (pe_callB (cr_all rfl) (by rfl) N.all PyProof.Rows.boot_all (pa_cons (pe_lc (own := [("k", 3)]) (by rfl) sc_law_same.nd (pi_range1 rfl N.range (pa_cons (pe_callB call_len_seq (by rfl) N.len PySem.boot_len (pa_cons (pv 1) pa_nil)) pa_nil)) (blkOk_by (own := [("k", 3)]) (N := ["answer", "due", "key", "k"]) (sc := defScope s_law_same) (by decide +kernel)) (fun _ _ _ _ _ => (pg_name (i := 3) sc_law_same.nd rfl (Or.inl rfl))) (fun _ _ _ _ _ => pts_nil) (fun _ _ _ _ _ => (pe_cal C_law_same hr (pa_cons (pe_ix (r := rIx K) ix_seq (pv 0) (pv 3) (fun _ _ => rfl)) (pa_cons (pe_ix (r := rIx K) ix_seq (pv 1) (pv 3) (fun _ _ => rfl)) pa_nil))))) pa_nil))))))) pss_nil)
      (pss_cons (ps_if (pt_val (pe_callB call_isi (by rfl) N.isinstance PyProof.Rows.boot_isinstance (pa_cons (pv 1) (pa_cons (pe_bltn (v := .ty "str") (by rfl) N.str PyProof.Rows.boot_str rfl) pa_nil)))) (pss_one (ps_ret (pe_and (pe_callB call_isi (by rfl) N.isinstance PyProof.Rows.boot_isinstance (pa_cons (pv 0) (pa_cons (pe_bltn (v := .ty "str") (by rfl) N.str PyProof.Rows.boot_str rfl) pa_nil))) (pe_one (pe_cmpR op_eq (pv 0) (pv 1) (nomark _)))))) pss_nil)
      (pss_cons (ps_if (PW.pt (pw_or (pt_cmpR op_isN (pv 1) pe_non (nomark _)) (pw_or (pt_cmpR op_isBA (pv 1) pe_bl (nomark _)) (pw_or1 (pt_cmpR op_isBA (pv 1) pe_bl (nomark _)))))) (pss_one (ps_ret (pe_or (pe_and (pe_cmpR op_isN (pv 1) pe_non (nomark _)) (pe_one (pe_cmpR op_isN (pv 0) pe_non (nomark _)))) (pe_or (pe_and (pe_cmpR op_isBA (pv 1) pe_bl (nomark _)) (pe_one (pe_cmpR op_isBA (pv 0) pe_bl (nomark _)))) (pe_one (pe_and (pe_cmpR op_isBA (pv 1) pe_bl (nomark _)) (pe_one (pe_cmpR op_isBA (pv 0) pe_bl (nomark _))))))))) pss_nil)
      (pss_one (ps_ret (pe_and (pe_callB call_isi (by rfl) N.isinstance PyProof.Rows.boot_isinstance (pa_cons (pv 0) (pa_cons (pe_bltn (v := .ty "int") (by rfl) N.int PyProof.Rows.boot_int rfl) pa_nil))) (pe_and (pe_not (pe_callB call_isi (by rfl) N.isinstance PyProof.Rows.boot_isinstance (pa_cons (pv 0) (pa_cons (pe_bltn (v := .ty "bool") (by rfl) N.bool PyProof.Rows.boot_bool rfl) pa_nil)))) (pe_one (pe_cmpR op_eq (pv 0) (pv 1) (nomark _))))))))))), ?_⟩
    have isi0 : ∀ {T : String} {σ : L2.St} {H' : Hp} {c : Bool}, Ex H H' → σ[0]? = some (some a) → kitB (tyD d) T = some c → Ev (tCB (rIsi K) (tCons (tVar 0) (tCons (tC (.ty T)) tNil))) σ H' (.bl c) := fun e hv hk => ev_isi (ev_v hv) (r1.mono e) hk
    have isi1 : ∀ {T : String} {σ : L2.St} {H' : Hp} {c : Bool}, Ex H H' → σ[1]? = some (some b) → kitB (tyD d) T = some c → Ev (tCB (rIsi K) (tCons (tVar 1) (tCons (tC (.ty T)) tNil))) σ H' (.bl c) := fun e hv hk => ev_isi (ev_v hv) (r2.mono e) hk
    refine q_when (et_test (isi1 (Ex.refl H) rfl (kDD d))) (fun z => nomatch z) fun _ H1 e1 => ?_
    refine q_when (b := isLD d || isTD d) (et_or (et_test (isi1 e1 rfl (kLD d))) fun _ => et_test (isi1 e1 rfl (kTD d))) (fun hb H2 e2 => ?_) fun hb H2 e2 => ?_
    · have E2 := e1.trans e2
      refine q_when (b := false) (et_is (et_or (et_test (ev_op (isi1 E2 rfl (kLD d)) (isi0 E2 rfl (kLD d)) (rv_ne rfl))) fun _ => et_test (ev_op (isi1 E2 rfl (kTD d)) (isi0 E2 rfl (kTD d)) (rv_ne rfl))) (by simp)) (fun z => nomatch z) fun _ H3 e3 => ?_
      have E3 := E2.trans e3
      have core : ∃ (a1 b1 : Addr) (us ws : List V) (ds : List D), a = .ref a1 ∧ b = .ref b1 ∧ (SqL K H a1 us ∨ SqT K H a1 us) ∧ (SqL K H b1 ws ∨ SqT K H b1 ws) ∧ Reps H us ds ∧ Reps H ws ds ∧ ds.length ≤ 10000 ∧ WidL ds ∧ heightL ds < h := by
        cases r2 with
        | tup e2 rs2 =>
          cases r1 with
          | tup e1 rs1 =>
            rw [Wid] at hw
            rw [height] at hh
            exact ⟨_, _, _, _, _, rfl, rfl, .inr (st_of e1), .inr (st_of e2), rs1, rs2, hw.1, hw.2, by omega⟩
        | lst e2 rs2 =>
          cases r1 with
          | lst e1 rs1 =>
            rw [Wid] at hw
            rw [height] at hh
            exact ⟨_, _, _, _, _, rfl, rfl, .inl (sq_of e1), .inl (sq_of e2), rs1, rs2, hw.1, hw.2, by omega⟩
        | non => exact nomatch hb
        | bl c => exact nomatch hb
        | int i => exact nomatch hb
        | str l => exact nomatch hb
      obtain ⟨a1, b1, us, ws, ds, rfl, rfl, s1, s2, rs1, rs2, hn, hW, hH⟩ := core
      have l1 := rs1.len
      have l2 := rs2.len
      refine s_ret (ev_andV (a := true) (b := true) (ev_is (ev_op (ev_lenQ (ev_v rfl) (ex_q E3 s1)) (ev_lenQ (ev_v rfl) (ex_q E3 s2)) (rv_eq rfl)) (by rw [l1, l2, decide_eq_true rfl])) fun _ => ev_is (ev_all (bs := (List.range ds.length).map fun _ => true) ?_) (by simp)) fun H4 e4 => q H4 (E3.trans e4)
      have hg : ((List.range ds.length).map fun _ => true).map V.bl = given ((ds.length : Int)).toNat (fun _ => true) (fun _ => .bl true) := by
        rw [Int.toNat_natCast, given_all, List.map_map]
        rfl
      rw [hg]
      refine el_lcR1 (fun _ => true) (fun _ => .bl true) (n := (ds.length : Int)) (ea_cons (ev_is (ev_lenQ (ev_v rfl) (ex_q E3 s2)) (by rw [l2])) ea_nil) (by omega) (fun _ => rfl) (fun i H4 e4 hi => et_yes) fun i H4 e4 hi _ => ?_
      obtain ⟨d, gd⟩ : ∃ d, ds[i]? = some d := ⟨_, List.getElem?_eq_getElem (by omega)⟩
      obtain ⟨v1, hv1, rv1⟩ := rs1.get gd
      obtain ⟨v2, hv2, rv2⟩ := rs2.get gd
      have gh := heightL_get gd
      have E4 := E3.trans e4
      exact ev_cal (ea_cons (ev_op (ev_v rfl) (ev_v rfl) (rv_ixQ (ex_q E4 s1) hv1)) (ea_cons (ev_op (ev_v rfl) (ev_v rfl) (rv_ixQ (ex_q E4 s2) hv2)) ea_nil)) fun H5 e5 => ⟨v1, v2, d, rfl, rv1.mono (E4.trans e5), rv2.mono (E4.trans e5), WidL_get hW gd, by omega, rfl⟩
    have E2 := e1.trans e2
    refine q_when (et_test (isi1 E2 rfl (kSD d))) (fun hb2 H3 e3 => ?_) fun hb2 H3 e3 => ?_
    · cases r2 with
      | str l =>
        cases r1
        exact s_ret (ev_andV (a := true) (b := true) (isi0 (E2.trans e3) rfl (kSD _)) fun _ => ev_is (ev_op (ev_v rfl) (ev_v rfl) (rv_eq rfl)) (by rw [decide_eq_true rfl])) fun H4 e4 => q H4 ((E2.trans e3).trans e4)
      | _ => exact nomatch hb2
    have E3 := E2.trans e3
    cases r2 with
    | tup _ _ => exact nomatch hb
    | lst _ _ => exact nomatch hb
    | str _ => exact nomatch hb2
    | non =>
      cases r1
      refine q_when (b := true) (et_or (a := true) (b := false) (et_test (ev_isNv rfl (by rfl))) fun z => nomatch z) (fun _ H4 e4 => ?_) fun z => nomatch z
      exact s_ret (ev_orV (a := true) (b := false) (ev_andV (a := true) (b := true) (ev_isNv rfl (by rfl)) fun _ => ev_isNv rfl (by rfl)) fun z => nomatch z) fun H5 e5 => q H5 ((E3.trans e4).trans e5)
    | bl c =>
      cases r1
      cases c with
      | true =>
        refine q_when (b := true) (et_or (a := false) (b := true) (et_test (ev_isNv rfl (by rfl))) fun _ => et_or (a := true) (b := false) (et_test (ev_isBv rfl (by rfl))) fun z => nomatch z) (fun _ H4 e4 => ?_) fun z => nomatch z
        exact s_ret (ev_orV (a := false) (b := true) (ev_andV (a := false) (b := false) (ev_isNv rfl (by rfl)) fun z => nomatch z) fun _ => ev_orV (a := true) (b := false) (ev_andV (a := true) (b := true) (ev_isBv rfl (by rfl)) fun _ => ev_isBv rfl (by rfl)) fun z => nomatch z) fun H5 e5 => q H5 ((E3.trans e4).trans e5)
      | false =>
        refine q_when (b := true) (et_or (a := false) (b := true) (et_test (ev_isNv rfl (by rfl))) fun _ => et_or (a := false) (b := true) (et_test (ev_isBv rfl (by rfl))) fun _ => et_test (ev_isBv rfl (by rfl))) (fun _ H4 e4 => ?_) fun z => nomatch z
        exact s_ret (ev_orV (a := false) (b := true) (ev_andV (a := false) (b := false) (ev_isNv rfl (by rfl)) fun z => nomatch z) fun _ => ev_orV (a := false) (b := true) (ev_andV (a := false) (b := false) (ev_isBv rfl (by rfl)) fun z => nomatch z) fun _ => ev_andV (a := true) (b := true) (ev_isBv rfl (by rfl)) fun _ => ev_isBv rfl (by rfl)) fun H5 e5 => q H5 ((E3.trans e4).trans e5)
    | int i =>
      cases r1
      refine q_when (b := false) (et_or (a := false) (b := false) (et_test (ev_isNv rfl (by rfl))) fun _ => et_or (a := false) (b := false) (et_test (ev_isBv rfl (by rfl))) fun _ => et_test (ev_isBv rfl (by rfl))) (fun z => nomatch z) fun _ H4 e4 => ?_
      exact s_ret (ev_andV (a := true) (b := true) (isi0 (E3.trans e4) rfl (kID _)) fun _ => ev_andV (a := true) (b := true) (ev_notV (a := false) (isi0 (E3.trans e4) rfl (kBD _))) fun _ => ev_is (ev_op (ev_v rfl) (ev_v rfl) (rv_eq rfl)) (by rw [decide_eq_true rfl])) fun H5 e5 => q H5 ((E3.trans e4).trans e5)
theorem cal_same {f : Addr} {fd : FuncData} {k : Nat} (F : Fun K "_law_same" "_law_same" s_law_same f fd) (hb : Binds K fd ["answer", "due"] []) (hk : PySem.W.keepIn K (.ref f) = true) (hm : mg "_law_same" = some (.ref f)) (N : Nb mg) : ∀ h, Cal P w K mg base (k + h) "_law_same" ["answer", "due"] (spV (ok_same h))
  | 0 => ⟨f, fd, ⟨fun vs H Q E h => by obtain ⟨_, ⟨_, _, _, _, _, _, _, h, _⟩, _⟩ := h; exact (Nat.not_lt_zero _ h).elim, fun A outer s H args us vs Q E _ _ _ _ h => by obtain ⟨_, ⟨_, _, _, _, _, _, _, h, _⟩, _⟩ := h; exact (Nat.not_lt_zero _ h).elim⟩, hb, hk, hm⟩
  | h + 1 => ⟨f, fd, fn_same F N (cal_same F hb hk hm N h), hb, hk, hm⟩
end
end K70

set_option Elab.async false
set_option linter.all false
set_option maxRecDepth 100000
set_option maxHeartbeats 4000000
namespace K70
open PySem PySem.Spec PyProof.Rows L2 Evl My
def rJoinS (K : PySem.W.Frag) : V → List V → Hp → VK → Prop := fun x xs H Q => ∃ a p, ∃ ys : List Str, x = .str a ∧ xs = [.ref p] ∧ (SqL K H p (ys.map V.str) ∨ SqT K H p (ys.map V.str)) ∧ (ys.map (·.length)).sum + ys.length * a.length ≤ 16777216 ∧ Q (.str (Txt.join a ys)) H
/-! texts joined -/
def joinT (c : Nat) : List L → L
  | [] => []
  | [x] => x
  | x :: y :: r => x ++ c :: joinT c (y :: r)
theorem join_tx (c : Nat) (ps : List L) : Txt.join (tx [c]) (ps.map tx) = tx (joinT c ps) := by
  show Builtin.Str.glued _ _ = _
  rw [StrLaws.glued_eq_join]
  have h : ∀ ps : List L, Str.join (tx [c]) (ps.map tx) = tx (joinT c ps) := by
    intro ps
    induction ps with
    | nil => rfl
    | cons x r ih =>
      cases r with
      | nil => rfl
      | cons y r =>
        show tx x ++ tx [c] ++ Str.join (tx [c]) ((y :: r).map tx) = _
        rw [ih, tx_app, tx_app, joinT, List.append_assoc]
        rfl
  exact h ps
theorem join_len (c : Nat) : ∀ ps : List L, (joinT c ps).length ≤ (ps.map szF).sum
  | [] => Nat.le_refl _
  | [x] => by
    rw [joinT, List.map_cons, List.sum_cons]
    unfold szF
    omega
  | x :: y :: r => by
    have ih := join_len c (y :: r)
    rw [joinT, List.length_append, List.length_cons, List.map_cons, List.sum_cons]
    unfold szF at *
    omega
theorem split_one {c : Nat} : ∀ {p : L}, c ∉ p → splitT c p = [p]
  | [], _ => rfl
  | x :: p, h => by
    have hx : ¬ x = c := fun e => h (by rw [e]; simp)
    rw [splitT, if_neg hx, split_one (p := p) fun z => h (by simp [z])]
theorem split_app {c : Nat} (r : L) : ∀ {p : L}, c ∉ p → splitT c (p ++ c :: r) = p :: splitT c r
  | [], _ => by
    show splitT c (c :: r) = _
    rw [splitT, if_pos rfl]
  | x :: p, h => by
    have hx : ¬ x = c := fun e => h (by rw [e]; simp)
    show splitT c (x :: (p ++ c :: r)) = _
    rw [splitT, if_neg hx, split_app r (p := p) fun z => h (by simp [z])]
theorem split_join {c : Nat} : ∀ {ps : List L}, ps ≠ [] → (∀ p ∈ ps, c ∉ p) → splitT c (joinT c ps) = ps
  | [], h, _ => absurd rfl h
  | [x], _, h => split_one (h x (by simp))
  | x :: y :: r, _, h => by
    rw [joinT, split_app _ (h x (by simp)), split_join (ps := y :: r) (fun z => nomatch z) fun p hp => h p (by simp [hp])]
theorem sum_sz (ps : List L) : ((ps.map tx).map (·.length)).sum + (ps.map tx).length = (ps.map szF).sum := by
  induction ps with
  | nil => rfl
  | cons p r ih =>
    rw [List.map_cons, List.map_cons, List.sum_cons, List.length_cons, List.map_cons, List.sum_cons, ← ih]
    unfold szF
    rw [tx_len p]
    omega
theorem sz_bound (m : Nat) : ∀ ps : List L, (∀ p ∈ ps, p.length ≤ m) → (ps.map szF).sum ≤ ps.length * (m + 1)
  | [], _ => Nat.zero_le _
  | p :: r, h => by
    have h1 := h p (by simp)
    have h2 := sz_bound m r fun p hp => h p (by simp [hp])
    rw [List.map_cons, List.sum_cons, List.length_cons, Nat.succ_mul]
    unfold szF at *
    omega
section
variable {K : PySem.W.Frag} {σ : L2.St} {H : Hp} {Q : VK} {p sc : Addr} {ns : List Int}
theorem ev_joinT {to te : TE} {c : Nat} {ps : List L} (ho : Ev to σ H (.str (tx [c]))) (he : EvP te σ H fun v H' => ∃ a, v = .ref a ∧ SqL K H' a (txs ps)) (hz : (ps.map szF).sum ≤ 10000) : Ev (tM1 (rJoinS K) to te) σ H (.str (tx (joinT c ps))) := fun H1 e Q q =>
  ho H1 e _ fun H2 e2 => ⟨⟨_, rfl⟩, he H2 (e.trans e2) _ fun v H3 e3 ⟨a, hv, ha⟩ => ⟨tx [c], a, ps.map tx, rfl, by rw [hv], .inl (by rw [List.map_map]; exact ha), by
    have := sum_sz ps
    have h1 : (tx [c]).length = 1 := rfl
    rw [h1, Nat.mul_one]
    omega, by rw [join_tx]; exact q H3 (e2.trans e3)⟩⟩
theorem G.back {H H1 : Hp} {a : Addr} (g : G K p sc ns H H1) (h : H1 a = none) : H a = none := by
  cases e : H a with
  | none => rfl
  | some o =>
    by_cases ha : a = p
    · obtain ⟨pl, r, f, hp, _⟩ := g.2
      rw [ha, hp] at h
      exact nomatch h
    · rw [g.1 a o ha e] at h
      exact nomatch h
/-- a comprehension over a range whose items draw -/
theorem r_lcG {ta : TA} {te : TE} {j : Nat} {vs : List Nat} (Pd : Addr → V → Hp → Prop) (lo M : Nat) (hM : M ≤ 1000)
    (hm : ∀ b v H1 H2, (∀ a o, a ≠ p → a ≠ b → H1 a = some o → H2 a = some o) → Pd b v H1 → Pd b v H2) (hP : Pool K H p sc ns)
    (ht : ∀ R : List V → Hp → Prop, (∀ (m : Nat) H1, lo ≤ m → m ≤ M → G K p sc ns H H1 → R [.int (m : Int)] H1) → ta σ H R)
    (hw : ∀ x, wipe ((wipe σ vs).set j (some x)) vs = wipe σ vs)
    (he : ∀ (x : V) H1 (Q' : VK), G K p sc ns H H1 → (∀ v H2, (∀ b, H1 b ≠ none → b ≠ p → Pd b v H2) → G K p sc ns H1 H2 → Q' v H2) → te ((wipe σ vs).set j (some x)) H1 Q')
    (q : ∀ Dl xs H', lo ≤ xs.length → xs.length ≤ M → H Dl = none → H' Dl = some (.lst xs) → (∀ x ∈ xs, Pd Dl x H') → G K p sc ns H H' → Q (.ref Dl) H') : tLc (iRng1 ta) (gName j) tYes te vs σ H Q := by
  refine r_lcR1 (ht _ fun m H1 hlo hhi g1 => ⟨m, rfl, by omega, by omega, fun Dl hD => ?_⟩)
  have hD0 := G.back g1 hD
  have hDp : Dl ≠ p := hP.ne hD0
  rw [Int.toNat_natCast]
  refine ⟨fun i k H' => k = m - i ∧ i ≤ m ∧ G K p sc ns H H' ∧ ∃ xs, H' Dl = some (.lst xs) ∧ xs.length = i ∧ ∀ x ∈ xs, Pd Dl x H', ⟨m, rfl, Nat.zero_le _, G.new hP g1 hD0, [], upd_same, rfl, fun x hx => absurd hx (by simp)⟩, ?_⟩
  rintro i k H' ⟨rfl, hi, g, xs, hl, hlen, hx⟩
  by_cases hlt : i < m
  · refine .inr ⟨hlt, fun H' => G K p sc ns H H' ∧ ∃ xs, H' Dl = some (.lst xs) ∧ xs.length = i + 1 ∧ ∀ x ∈ xs, Pd Dl x H', fun H2 pp => ⟨m - (i + 1), by omega, rfl, hlt, pp⟩, fun x H2 y => ?_⟩
    obtain ⟨rfl, rfl⟩ := y
    refine ⟨hw _, ?_⟩
    refine tyes_ ?_
    refine iteT (he _ _ _ g fun v H4 hv g4 => ⟨xs, g4.1 Dl _ hDp hl, sz_lt (by omega), G.new hP (g.trans g4) hD0, xs ++ [v], upd_same, by rw [List.length_append, hlen]; rfl, fun x hx' => ?_⟩)
    rw [List.mem_append, List.mem_singleton] at hx'
    rcases hx' with hx' | rfl
    · exact hm Dl x _ _ (fun a o n1 n2 h => by rw [upd_ne n2]; exact g4.1 a o n1 h) (hx x hx')
    · exact hm Dl x _ _ (fun a o n1 n2 h => by rw [upd_ne n2]; exact h) (hv Dl (by rw [hl]; exact fun z => nomatch z) hDp)
  · have e0 : i = m := by omega
    subst e0
    exact .inl ⟨Nat.le_refl _, q Dl xs _ (by omega) (by omega) hD0 hl hx g⟩
/-- a text of a length, without a sign -/
def okV (m : Nat) (c : Nat) : V → Bool
  | .str s => decide (s.cps.toList.length ≤ m) && decide (c ∉ s.cps.toList)
  | _ => false
theorem okV_tx {m c : Nat} {v : V} (h : okV m c v = true) : ∃ l : L, v = .str (tx l) ∧ l.length ≤ m ∧ c ∉ l := by
  cases v with
  | str s =>
    unfold okV at h
    rw [Bool.and_eq_true, decide_eq_true_eq, decide_eq_true_eq] at h
    exact ⟨s.cps.toList, rfl, h.1, h.2⟩
  | _ => exact nomatch h
theorem okV_list {m c : Nat} : ∀ {xs : List V}, (∀ x ∈ xs, okV m c x = true) → ∃ ps : List L, xs = txs ps ∧ ps.length = xs.length ∧ (∀ p ∈ ps, p.length ≤ m) ∧ ∀ p ∈ ps, c ∉ p
  | [], _ => ⟨[], rfl, rfl, fun p h => absurd h (by simp), fun p h => absurd h (by simp)⟩
  | x :: xs, h => by
    obtain ⟨ps, h1, h2, h3, h4⟩ := okV_list (xs := xs) fun x hx => h x (by simp [hx])
    obtain ⟨l, rfl, hl, hc⟩ := okV_tx (h x (by simp))
    refine ⟨l :: ps, by rw [h1]; rfl, by rw [List.length_cons, List.length_cons, h2], fun p hp => ?_, fun p hp => ?_⟩
    · rw [List.mem_cons] at hp
      rcases hp with rfl | hp
      · exact hl
      · exact h3 p hp
    · rw [List.mem_cons] at hp
      rcases hp with rfl | hp
      · exact hc
      · exact h4 p hp
/-- a comprehension over a range whose items are picked -/
theorem r_picks {ta : TA} {tl : TE} {j ip : Nat} {vs : List Nat} {E : XK} {opts : List V} (m c lo M : Nat) (hM : M ≤ 1000) (hP : Pool K H p sc ns)
    (ht : ∀ R : List V → Hp → Prop, (∀ (m : Nat) H1, lo ≤ m → m ≤ M → G K p sc ns H H1 → R [.int (m : Int)] H1) → ta σ H R)
    (hw : ∀ x, wipe ((wipe σ vs).set j (some x)) vs = wipe σ vs) (hv : ∀ x, ((wipe σ vs).set j (some x))[ip]? = some (some (.ref p)))
    (hl : ∀ x H1, EvL tl ((wipe σ vs).set j (some x)) H1 opts) (h0 : opts ≠ []) (hn : opts.length ≤ 1000) (ho : opts.all (okV m c) = true)
    (q : ∀ (Dl : Addr) (ps : List L) H', lo ≤ ps.length → ps.length ≤ M → H Dl = none → H' Dl = some (.lst (txs ps)) → (∀ p ∈ ps, p.length ≤ m) → (∀ p ∈ ps, c ∉ p) → G K p sc ns H H' → Q (.ref Dl) H') :
    tLc (iRng1 ta) (gName j) tYes (tCall (sp_pick K) [] E (tCons (tVar ip) (tCons tl tNil))) vs σ H Q :=
  r_lcG (fun _ v _ => okV m c v = true) lo M hM (fun _ _ _ _ _ h => h) hP ht hw (fun x H1 Q' g hQ => r_pick g.2 (ev_v (hv x)) (hl x H1) h0 hn fun v H' hm g' => hQ v H' (fun _ _ _ => List.all_eq_true.mp ho v hm) g') fun Dl xs H' h1 h2 h3 h4 h5 h6 => by
    obtain ⟨ps, rfl, hl2, ha, hb⟩ := okV_list h5
    exact q Dl ps H' (by omega) (by omega) h3 h4 ha hb h6
/-- 1 + a draw -/
theorem r_one {E : XK} {ip n : Nat} (hP : Pool K H p sc ns) (hv : σ[ip]? = some (some (.ref p))) (h0 : 0 < n) (hn : n < 1000) (R : List V → Hp → Prop) (h : ∀ (m : Nat) H1, 1 ≤ m → m ≤ n → G K p sc ns H H1 → R [.int (m : Int)] H1) :
    tCons (tOp (rI0 fun i j => .int (i + j)) (tC (.int 1)) (tCall (sp_draw K) [] E (tCons (tVar ip) (tCons (tC (.int (n : Int))) tNil)))) tNil σ H R :=
  r_cons (r_op (r_c (r_draw hP (ea_cons (ev_v hv) (ea_cons (ev_cn n) ea_nil)) h0 (by omega) fun v H1 hv g => rv_I0 H1 (Ex.refl H1) _ fun H2 e2 => r_nil (by
    have := h (v + 1) H2 (by omega) (by omega) (g.exR e2)
    rw [show ((1 : Int) + (v : Int)) = ((v + 1 : Nat) : Int) by omega]
    exact this))))
/-- two texts joined -/
theorem szS {a b : L} (h : a.length + b.length ≤ 100000) : (tx a).length + (tx b).length ≤ sizeLine := by rw [tx_len, tx_len]; exact sz_of h
/-- a draw as a number of turns -/
theorem r_zero {E : XK} {ip n : Nat} (hP : Pool K H p sc ns) (hv : σ[ip]? = some (some (.ref p))) (h0 : 0 < n) (hn : n < 1000) (R : List V → Hp → Prop) (h : ∀ (m : Nat) H1, 0 ≤ m → m ≤ n - 1 → G K p sc ns H H1 → R [.int (m : Int)] H1) :
    tCons (tCall (sp_draw K) [] E (tCons (tVar ip) (tCons (tC (.int (n : Int))) tNil))) tNil σ H R :=
  r_cons (r_draw hP (ea_cons (ev_v hv) (ea_cons (ev_cn n) ea_nil)) h0 (by omega) fun v H1 hv g => r_nil (h v H1 (Nat.zero_le _) (by omega) g))
end
section
variable {P : Program} {w : World} {K : PySem.W.Frag} {mg : Str → Option Value} {base : Heap}
def sp_line (K : PySem.W.Frag) : Sp := fun vs H Q _ => ∃ (p sc : Addr) (ns : List Int), vs = [.ref p] ∧ Pool K H p sc ns ∧ ∀ (l : L) H', l.length ≤ 60 → G K p sc ns H H' → Q (.str (tx l)) H'
abbrev s_law_line_drawn : Stmt := topS 34
theorem sc_law_line_drawn : FnScope ["pool", "way", "people", "k", "parts", "odd"] ["pool"] (defScope s_law_line_drawn) := ⟨rfl, rfl, rfl, by decide +kernel, rfl, by decide +kernel, by decide +kernel⟩
theorem fn_line {f : Addr} {fd : FuncData} {k : Nat} (F : Fun K "_law_line_drawn" "_law_line_drawn" s_law_line_drawn f fd) (N : Nb mg) (C_law_draw : Cal P w K mg base k "_law_draw" ["pool", "limit"] (sp_draw K)) (C_law_pick : Cal P w K mg base k "_law_pick" ["pool", "options"] (sp_pick K)) : FnOk P w K mg base CX0 (k + 1) f fd ["pool"] (sp_line K) := by
  refine F.ok sc_law_line_drawn (fun vs H Q E h => ?_) (fun cdv A outer s H vs Q E hr h => ?_)
  · obtain ⟨_, _, _, rfl, _⟩ := h
    rfl
  · obtain ⟨p, sc, ns, rfl, hP, q⟩ := h
    refine ⟨_, (pss_cons (ps_set (i := 1) sc_law_line_drawn.nd rfl (Or.inl rfl) (pe_cal C_law_draw hr (pa_cons (pv 0) (pa_cons pe_int pa_nil))))
      (pss_cons (ps_setLc (i := 2) (own := [("k", 3)]) (by rfl) sc_law_line_drawn.nd rfl rfl (sw_true rfl rfl rfl (by decide +kernel)) (pi_range1 rfl N.range (pa_cons (pe_op op_add pe_int (pe_cal C_law_draw hr (pa_cons (pv 0) (pa_cons pe_int pa_nil)))) pa_nil)) (blkOk_by (own := [("k", 3)]) (N := ["pool", "way", "people", "k", "parts", "odd"]) (sc := defScope s_law_line_drawn) (by decide +kernel)) (fun _ _ _ _ _ => (pg_name (i := 3) sc_law_line_drawn.nd rfl (Or.inl rfl))) (fun _ _ _ _ _ => pts_nil) (fun _ _ _ _ _ => (pe_cal C_law_pick hr (pa_cons (pv 0) (pa_cons (pe_lst (pa_cons pe_str (pa_cons pe_str (pa_cons pe_str (pa_cons pe_str (pa_cons pe_str (pa_cons pe_str pa_nil))))))) pa_nil)))))
      (pss_cons (ps_if (pt_cmpR op_lt (pv 1) pe_int (nomark _)) (pss_one (ps_ret (pe_cal C_law_pick hr (pa_cons (pv 0) (pa_cons (pe_lst (pa_cons pe_str (pa_cons pe_str (pa_cons pe_str (pa_cons pe_str pa_nil))))) pa_nil))))) pss_nil)
      (pss_cons (ps_if (pt_cmpR op_lt (pv 1) pe_int (nomark _)) (pss_one (ps_ret (pe_op op_add_str (pe_op op_add_str (pe_op op_add_str pe_str (pe_cal C_law_pick hr (pa_cons (pv 0) (pa_cons (pe_lst (pa_cons pe_str (pa_cons pe_str (pa_cons pe_str pa_nil)))) pa_nil)))) pe_str) (pe_join pe_str (pv 2))))) pss_nil)
      (pss_cons (ps_if (pt_cmpR op_lt (pv 1) pe_int (nomark _)) (pss_cons (ps_setLc (i := 4) (own := [("k", 3)]) (by rfl) sc_law_line_drawn.nd rfl rfl (sw_true rfl rfl rfl (by decide +kernel)) (pi_range1 rfl N.range (pa_cons (pe_op op_add pe_int (pe_cal C_law_draw hr (pa_cons (pv 0) (pa_cons pe_int pa_nil)))) pa_nil)) (blkOk_by (own := [("k", 3)]) (N := ["pool", "way", "people", "k", "parts", "odd"]) (sc := defScope s_law_line_drawn) (by decide +kernel)) (fun _ _ _ _ _ => (pg_name (i := 3) sc_law_line_drawn.nd rfl (Or.inl rfl))) (fun _ _ _ _ _ => pts_nil) (fun _ _ _ _ _ => (pe_cal C_law_pick hr (pa_cons (pv 0) (pa_cons (pe_lst (pa_cons pe_str (pa_cons pe_str (pa_cons pe_str (pa_cons pe_str (pa_cons pe_str pa_nil)))))) pa_nil)))))
      (pss_one (ps_ret (pe_op op_add_str (pe_op op_add_str (pe_op op_add_str (pe_op op_add_str (pe_join pe_str (pv 4)) pe_str) (pe_callTy call_str_int (by rfl) N.str PyProof.Rows.boot_str (pa_cons (pe_op op_add pe_int (pe_cal C_law_draw hr (pa_cons (pv 0) (pa_cons pe_int pa_nil)))) pa_nil))) pe_str) (pe_join pe_str (pv 2)))))) pss_nil)
      (pss_cons (ps_set (i := 5) sc_law_line_drawn.nd rfl (Or.inl rfl) (pe_lst (pa_cons pe_str (pa_cons pe_str (pa_cons pe_str (pa_cons pe_str (pa_cons pe_str (pa_cons pe_str (pa_cons pe_str (pa_cons pe_str (pa_cons pe_str pa_nil)))))))))))
      (pss_cons (ps_set (i := 5) sc_law_line_drawn.nd rfl (Or.inl rfl) (pe_op op_cat (pv 5) (pe_lst (pa_cons pe_str (pa_cons pe_str (pa_cons pe_str (pa_cons pe_str (pa_cons pe_str (pa_cons pe_str (pa_cons pe_str pa_nil))))))))))
      (pss_cons (ps_set (i := 5) sc_law_line_drawn.nd rfl (Or.inl rfl) (pe_op op_cat (pv 5) (pe_lst (pa_cons pe_str (pa_cons pe_str (pa_cons pe_str (pa_cons pe_str (pa_cons pe_str (pa_cons pe_str (pa_cons pe_str pa_nil))))))))))
      (pss_one (ps_ret (pe_cal C_law_pick hr (pa_cons (pv 0) (pa_cons (pv 5) pa_nil))))))))))))), ?_⟩
    refine r_asg (r_draw hP (ea_cons (ev_v rfl) (ea_cons (ev_cn 12) ea_nil)) (by decide) (by decide) fun way H1 hw g1 => ?_)
    refine r_asg (r_picks 4 0 1 3 (by decide) g1.2 (fun R h => r_one g1.2 rfl (by decide) (by decide) R h) (fun _ => rfl) (fun _ => rfl) (fun x H1 => el_lst (ea_cons ev_c (ea_cons ev_c (ea_cons ev_c (ea_cons ev_c (ea_cons ev_c (ea_cons ev_c ea_nil)))))) (by show 6 ≤ 100000; decide)) (fun z => nomatch z) (by show 6 ≤ 1000; decide) (by decide +kernel) fun pp people H2 hp1 hp3 hpn h2 hpl _ g2 => ?_)
    have G2 := g1.trans g2
    have hsz := sz_bound 4 people hpl
    have hjl := join_len 32 people
    have hjn : (joinT 32 people).length ≤ 15 := by
      have : people.length * 5 ≤ 3 * 5 := Nat.mul_le_mul_right 5 hp3
      omega
    have hjoin : ∀ {H' : Hp} {σ : L2.St}, G K p sc ns H2 H' → σ[2]? = some (some (.ref pp)) → Ev (tM1 (rJoinS K) (tC (.str " ")) (tVar 2)) σ H' (.str (tx (joinT 32 people))) := fun g hv => ev_joinT (ev_cs [32] (by decide +kernel)) (evp_k (ev_v hv) (sq_of (g.1 _ _ (g1.2.ne hpn) h2))) (by omega)
    have hpick : ∀ {H' : Hp} {σ : L2.St} {tl : TE} {opts : List V} {E : XK} (m : Nat) (Q' : VK), Pool K H' p sc ns → σ[0]? = some (some (.ref p)) → EvL tl σ H' opts → opts ≠ [] → opts.length ≤ 1000 → opts.all (okV m 0) = true → (∀ (l : L) H3, l.length ≤ m → G K p sc ns H' H3 → Q' (.str (tx l)) H3) → tCall (sp_pick K) [] E (tCons (tVar 0) (tCons tl tNil)) σ H' Q' := fun m Q' hP' hv hl h0 hn ho k => r_pick hP' (ev_v hv) hl h0 hn fun v H3 hm g => by
      obtain ⟨l, rfl, h1, _⟩ := okV_tx (List.all_eq_true.mp ho v hm)
      exact k l H3 h1 g
    refine q_when (et_test (ev_op (ev_v rfl) (ev_cn 2) rv_I0)) (fun hb H3 e3 => ?_) fun hb H3 e3 => ?_
    · exact r_ret (hpick 60 _ (G2.2.ex e3) rfl (el_lst (ea_cons ev_c (ea_cons ev_c (ea_cons ev_c (ea_cons ev_c ea_nil)))) (by show 4 ≤ 100000; decide)) (fun z => nomatch z) (by show 4 ≤ 1000; decide) (by decide +kernel) fun l H4 hl g => q l H4 hl ((G2.exR e3).trans g))
    refine q_when (et_test (ev_op (ev_v rfl) (ev_cn 5) rv_I0)) (fun hb H4 e4 => ?_) fun hb H4 e4 => ?_
    · have G4 := G2.exR (e3.trans e4)
      have g4 := (g2.exR (e3.trans e4))
      refine r_ret (r_op (r_op (r_op (r_ev (ev_cs [103, 114, 111, 117, 112, 32] (by decide +kernel)) (Ex.refl H4) fun H5 e5 => hpick 5 _ (G4.2.ex e5) rfl (el_lst (ea_cons ev_c (ea_cons ev_c (ea_cons ev_c ea_nil))) (by show 3 ≤ 100000; decide)) (fun z => nomatch z) (by show 3 ≤ 1000; decide) (by decide +kernel) fun l H6 hl g6 => ⟨tx ([103, 114, 111, 117, 112, 32]), tx (l), rfl, rfl, szS (by show 6 + _ ≤ _; omega), ?_⟩))))
      rw [tx_app]
      try dsimp only
      refine r_ev (ev_cs [32, 61, 32] (by decide +kernel)) (Ex.refl H6) fun H8 e8 => ⟨tx ([103, 114, 111, 117, 112, 32] ++ l), tx ([32, 61, 32]), rfl, rfl, szS (by rw [List.length_append]; show 6 + _ + 3 ≤ _; omega), ?_⟩
      rw [tx_app]
      try dsimp only
      have gx : G K p sc ns H4 H8 := ((G.ex e5 G4.2).trans g6).exR e8
      refine r_ev (hjoin ((G.ex (e3.trans e4) g2.2).trans gx) rfl) (Ex.refl H8) fun H10 e10 => ⟨tx ([103, 114, 111, 117, 112, 32] ++ l ++ [32, 61, 32]), tx (joinT 32 people), rfl, rfl, szS (by rw [List.length_append, List.length_append]; show 6 + _ + 3 + _ ≤ _; omega), ?_⟩
      rw [tx_app]
      refine q _ H10 ?_ ((G4.trans gx).exR e10)
      rw [List.length_append, List.length_append, List.length_append]
      show 6 + _ + 3 + _ ≤ _
      omega
    have G4 := G2.exR (e3.trans e4)
    refine q_when (et_test (ev_op (ev_v rfl) (ev_cn 10) rv_I0)) (fun hb H5 e5 => ?_) fun hb H5 e5 => ?_
    · have G5 := G4.exR e5
      refine r_asg (r_picks 5 0 1 3 (by decide) G5.2 (fun R h => r_one G5.2 rfl (by decide) (by decide) R h) (fun _ => rfl) (fun _ => rfl) (fun x H1 => el_lst (ea_cons ev_c (ea_cons ev_c (ea_cons ev_c (ea_cons ev_c (ea_cons ev_c ea_nil))))) (by show 5 ≤ 100000; decide)) (fun z => nomatch z) (by show 5 ≤ 1000; decide) (by decide +kernel) fun qp parts H6 hq1 hq3 hqn h6 hql _ g6 => ?_)
      have hsz2 := sz_bound 5 parts hql
      have hjl2 := join_len 47 parts
      have hjn2 : (joinT 47 parts).length ≤ 18 := by
        have : parts.length * 6 ≤ 3 * 6 := Nat.mul_le_mul_right 6 hq3
        omega
      refine r_ret (r_op (r_op (r_op (r_op (r_ev (ev_joinT (K := K) (c := 47) (ps := parts) (ev_cs [47] (by decide +kernel)) (evp_k (ev_v rfl) (sq_of h6)) (by omega)) (Ex.refl H6) fun H7 e7 => ?_)))))
      try dsimp only
      refine r_ev (ev_cs [32, 110, 101, 101, 100, 115, 32] (by decide +kernel)) (Ex.refl H7) fun H8 e8 => ⟨tx (joinT 47 parts), tx ([32, 110, 101, 101, 100, 115, 32]), rfl, rfl, szS (by show _ + 7 ≤ _; omega), ?_⟩
      rw [tx_app]
      try dsimp only
      have G9 := (G5.trans g6).exR (e7.trans e8)
      refine r_cb (r_one (n := 2) G9.2 rfl (by decide) (by decide) _ fun m H10 hm1 hm2 g10 => ⟨_, rfl, ?_, ?_⟩)
      · exact Nat.lt_of_le_of_lt (Nat.log2_le_self _) (by omega)
      · obtain ⟨dg, hdg, hdl⟩ : ∃ dg : L, Str.ofString (toString ((m : Nat) : Int)) = tx dg ∧ dg.length = 1 := by
          have : m = 1 ∨ m = 2 := by omega
          rcases this with rfl | rfl
          · exact ⟨[49], by decide +kernel, rfl⟩
          · exact ⟨[50], by decide +kernel, rfl⟩
        rw [hdg]
        try dsimp only
        refine ⟨tx (joinT 47 parts ++ [32, 110, 101, 101, 100, 115, 32]), tx (dg), rfl, rfl, szS (by rw [List.length_append]; show _ + 7 + _ ≤ _; omega), ?_⟩
        rw [tx_app]
        try dsimp only
        refine r_ev (ev_cs [32, 111, 102, 32] (by decide +kernel)) (Ex.refl H10) fun H12 e12 => ⟨tx (joinT 47 parts ++ [32, 110, 101, 101, 100, 115, 32] ++ dg), tx ([32, 111, 102, 32]), rfl, rfl, szS (by rw [List.length_append, List.length_append]; show _ + 7 + _ + 4 ≤ _; omega), ?_⟩
        rw [tx_app]
        try dsimp only
        have gx : G K p sc ns H2 H12 := (((G.ex ((e3.trans e4).trans e5) g2.2).trans g6).exR (e7.trans e8)).trans (g10.exR e12)
        refine r_ev (hjoin gx rfl) (Ex.refl H12) fun H14 e14 => ⟨tx (joinT 47 parts ++ [32, 110, 101, 101, 100, 115, 32] ++ dg ++ [32, 111, 102, 32]), tx (joinT 32 people), rfl, rfl, szS (by rw [List.length_append, List.length_append, List.length_append]; show _ + 7 + _ + 4 + _ ≤ _; omega), ?_⟩
        rw [tx_app]
        refine q _ H14 ?_ ((G2.trans gx).exR e14)
        rw [List.length_append, List.length_append, List.length_append, List.length_append]
        show _ + 7 + _ + 4 + _ ≤ _
        omega
    have G5 := G4.exR e5
    refine q_asgL (el_lst (ea_cons ev_c (ea_cons ev_c (ea_cons ev_c (ea_cons ev_c (ea_cons ev_c (ea_cons ev_c (ea_cons ev_c (ea_cons ev_c (ea_cons ev_c ea_nil))))))))) (by show 9 ≤ 100000; decide)) fun o1 H6 _ e6 h6 => ?_
    refine q_asgL (el_cat (evl_k (ev_v rfl) h6) (evl_n (el_lst (ea_cons ev_c (ea_cons ev_c (ea_cons ev_c (ea_cons ev_c (ea_cons ev_c (ea_cons ev_c (ea_cons ev_c ea_nil))))))) (by show 7 ≤ 100000; decide))) (by show 9 + 7 ≤ 100000; decide)) fun o2 H7 _ e7 h7 => ?_
    refine q_asgL (el_cat (evl_k (ev_v rfl) h7) (evl_n (el_lst (ea_cons ev_c (ea_cons ev_c (ea_cons ev_c (ea_cons ev_c (ea_cons ev_c (ea_cons ev_c (ea_cons ev_c ea_nil))))))) (by show 7 ≤ 100000; decide))) (by show 16 + 7 ≤ 100000; decide)) fun o3 H8 hn3 e8 h8 => ?_
    have G8 := G5.exR ((e6.trans e7).trans e8)
    refine r_ret (r_call (r_cons (r_var rfl (r_cons (r_var rfl (r_nil ⟨p, sc, ns, o3, _, rfl, G8.2, sq_of h8, (G5.exR (e6.trans e7)).2.ne hn3, by simp, by show 23 ≤ 1000; decide, fun v H9 hv g9 => ?_⟩))))))
    have hall : ∀ (xs : List V), xs.all (okV 60 0) = true → v ∈ xs → ∃ l : L, v = .str (tx l) ∧ l.length ≤ 60 := fun xs h1 h2 => by
      obtain ⟨l, h3, h4, _⟩ := okV_tx (List.all_eq_true.mp h1 v h2)
      exact ⟨l, h3, h4⟩
    obtain ⟨l, rfl, hl⟩ := hall _ (by decide +kernel) hv
    exact q l H9 hl (G8.trans g9)
end
end K70

set_option Elab.async false
set_option linter.all false
set_option maxRecDepth 100000
set_option maxHeartbeats 4000000
namespace K70
open PySem PySem.Spec PyProof.Rows L2 Evl My
def bobL : L := [98, 111, 98]
def tailB : L := [32, 110, 101, 101, 100, 115, 32, 49, 32, 111, 102, 32, 98, 111, 98]
def aL (m : Nat) : List L := List.replicate m [97]
def lineA (m : Nat) : L := joinT 47 (aL m) ++ tailB
def dgL (k : Nat) : L := if k < 10 then [48 + k] else [48 + k / 10, 48 + k % 10]
def pplL : List L := (List.range 99).map fun k => 112 :: dgL k
def headP : L := [42, 42, 32, 110, 101, 101, 100, 115, 32, 57, 57, 32, 111, 102, 32]
def lineP : L := headP ++ joinT 32 pplL
theorem dg_txt : ∀ k, k < 99 → Str.ofString (toString ((k : Nat) : Int)) = tx (dgL k) := by decide +kernel
theorem dgL_len (k : Nat) : (dgL k).length ≤ 2 := by
  unfold dgL
  split
  · show 1 ≤ 2; decide
  · show 2 ≤ 2; decide
theorem ppl_len : pplL.length = 99 := by decide +kernel
theorem said12 : saidF (lineA 12) = [joinT 47 (aL 12), wN, [49], wO, bobL] := by decide +kernel
theorem said13 : saidF (lineA 13) = [joinT 47 (aL 13), wN, [49], wO, bobL] := by decide +kernel
theorem saidP : saidF lineP = [42, 42] :: wN :: [57, 57] :: wO :: pplL := by decide +kernel
theorem lim12 : Lim [lineA 12] := by unfold Lim; decide +kernel
theorem lim13 : Lim [lineA 13] := by unfold Lim; decide +kernel
theorem limP : Lim [lineP] := by unfold Lim; decide +kernel
theorem flat_none : ∀ ws : List L, flatF (fun _ => none) ws = ws
  | [] => rfl
  | w :: ws => by
    have := flat_none ws
    unfold flatF at *
    rw [List.flatMap_cons, this]
    rfl
theorem ded_fold : ∀ (l acc : List L), (acc ++ l).Nodup → l.foldl addF acc = acc ++ l
  | [], acc, _ => by simp
  | x :: l, acc, h => by
    have hx : x ∉ acc := by
      intro hx
      rw [List.nodup_append] at h
      exact h.2.2 x hx x (by simp) rfl
    rw [List.foldl_cons]
    unfold addF
    rw [if_neg hx]
    have := ded_fold l (acc ++ [x]) (by rw [List.append_assoc]; exact h)
    rw [List.append_assoc] at this
    exact this
theorem ded_self {l : List L} (h : l.Nodup) : dedF l = l := ded_fold l [] h
theorem people_none {ws : List L} (h : ws.Nodup) : peopleF (fun _ => none) ws = sortF ws := by
  unfold peopleF
  rw [flat_none, ded_self h]
theorem sort_one (x : L) : sortF [x] = [x] := List.perm_singleton.mp (sort_perm [x])
theorem read_yes {l : L} {s' : S} (h1 : saidF l ≠ []) (h2 : takeF s0 (saidF l) = .inr s') : readF s0 0 [l] = .inr s' := by
  rw [readF, if_neg h1, h2]
  rfl
theorem read_no {l e : L} (h1 : saidF l ≠ []) (h2 : takeF s0 (saidF l) = .inl e) : readF s0 0 [l] = .inl (0, e) := by
  rw [readF, if_neg h1, h2]
def d12 : D := .tup [.str [112, 111, 108, 105, 99, 121], .tup [.tup [.tup (List.replicate 12 (.str [97])), .int 1, .tup [.str bobL]]]]
def d13 : D := .tup [.str [119, 114, 111, 110, 103], .int 0, .str rP]
def dP : D := .tup [.str [112, 111, 108, 105, 99, 121], .tup [.tup [.tup [.str [42, 42]], .int 99, .tup ((sortF pplL).map .str)]]]
theorem b12 : polD (readF s0 0 [lineA 12]) = d12 := by
  rw [read_yes (s' := ⟨fun _ => none, 0, [bobL], [rowD (aL 12) 1 [bobL]]⟩) (by rw [said12]; exact fun z => nomatch z)]
  · rfl
  · rw [said12]
    unfold takeF
    rw [if_neg (by decide +kernel), if_pos (by decide +kernel)]
    show needsF s0 (joinT 47 (aL 12)) [49] [bobL] = _
    unfold needsF
    rw [if_neg (by decide +kernel), if_pos (by decide +kernel), show splitT 47 (joinT 47 (aL 12)) = aL 12 by decide +kernel, if_pos (by decide +kernel), show numF [49] = 1 by decide +kernel]
    rw [show peopleF s0.g [bobL] = [bobL] from (people_none (by simp)).trans (sort_one _), if_pos ⟨Nat.le_refl 1, Nat.le_refl 1⟩]
    rfl
theorem b13 : polD (readF s0 0 [lineA 13]) = d13 := by
  rw [read_no (e := rP) (by rw [said13]; exact fun z => nomatch z)]
  · rfl
  · rw [said13]
    unfold takeF
    rw [if_neg (by decide +kernel), if_pos (by decide +kernel)]
    show needsF s0 (joinT 47 (aL 13)) [49] [bobL] = _
    unfold needsF
    rw [if_neg (by decide +kernel), if_pos (by decide +kernel), if_neg (by decide +kernel)]
theorem bP : polD (readF s0 0 [lineP]) = dP := by
  rw [read_yes (s' := ⟨fun _ => none, 0, pplL, [rowD [[42, 42]] 99 (sortF pplL)]⟩) (by rw [saidP]; exact fun z => nomatch z)]
  · rfl
  · rw [saidP]
    unfold takeF
    rw [if_neg (by decide +kernel), if_pos (by decide +kernel)]
    show needsF s0 [42, 42] [57, 57] pplL = _
    unfold needsF
    rw [if_neg (by decide +kernel), if_pos (by decide +kernel), show splitT 47 [42, 42] = [[42, 42]] by decide +kernel, if_pos (by decide +kernel), show numF [57, 57] = 99 by decide +kernel]
    rw [show peopleF s0.g pplL = sortF pplL from people_none (by decide +kernel), sort_len, ppl_len, if_pos ⟨by decide, Nat.le_refl 99⟩]
    rfl
theorem rep_tx (k : Nat) (p : L) : (List.replicate k (txs [p])).flatten = txs (List.replicate k p) := by
  induction k with
  | zero => rfl
  | succ k ih => rw [List.replicate_succ, List.flatten_cons, ih, List.replicate_succ]; rfl
section
variable {P : Program} {w : World} {K : PySem.W.Frag} {mg : Str → Option Value} {base : Heap}
variable {σ : L2.St} {H : Hp} {ta tb te tl : TE} {d : D}
theorem ed_read {ls : List L} (h : EvU te σ H (txs ls)) (hL : Lim ls) : EvD (tCall (sp_read K) [] E0 (tCons te tNil)) σ H (polD (readF s0 0 ls)) := fun H1 e Q q =>
  h H1 e _ fun p H2 _ e2 h2 => ⟨p, ls, rfl, st_of h2, hL, fun v H3 e3 r => q v H3 (e2.trans e3) r⟩
theorem ev_same (h1 : EvD ta σ H d) (h2 : EvD tb σ H d) (hw : Wid d) (hh : height d < 6) : Ev (tCall (spV (ok_same 6)) [] E0 (tCons ta (tCons tb tNil))) σ H (.bl true) := fun H1 e Q q =>
  h1 H1 e _ fun v1 H2 e2 r1 => h2 H2 (e.trans e2) _ fun v2 H3 e3 r2 => ⟨_, ⟨v1, v2, d, rfl, r1.mono e3, r2, hw, hh, rfl⟩, fun H4 e4 => q H4 ((e2.trans e3).trans e4)⟩
/-- a comprehension over a new list, its items tuples -/
theorem ed_lcN {j : Nat} {vs : List Nat} {xs : List V} (g : V → D) (h : EvL tl σ H xs) (hz : xs.length ≤ 40000) (hw : ∀ x, wipe ((wipe σ vs).set j (some x)) vs = wipe σ vs)
    (hg : ∀ x ∈ xs, NoL (g x)) (he : ∀ x H1, Ex H H1 → x ∈ xs → EvD te ((wipe σ vs).set j (some x)) H1 (g x)) : EvD (tLc (iList K tl) (gName j) tYes te vs) σ H (.lst (xs.map g)) := by
  intro H0 e Q q
  refine h H0 e _ fun a H1 ha e1 h1 => ⟨a, rfl, ⟨xs, sq_of h1⟩, fun Dl hD => ?_⟩
  refine ⟨fun i m H' => m = xs.length - i ∧ i ≤ xs.length ∧ Ex H1 H' ∧ ∃ us, H' Dl = some (.lst us) ∧ Reps H' us ((xs.take i).map g) ∧ NoLL ((xs.take i).map g), ⟨xs.length, rfl, Nat.zero_le _, Ex.new hD, [], upd_same, .nil, by rw [List.take_zero, List.map_nil, NoLL]; trivial⟩, ?_⟩
  rintro i m H' ⟨rfl, hi, ex, us, hl, hr, hn⟩
  by_cases hlt : i < xs.length
  · have gx : xs[i]? = some xs[i] := List.getElem?_eq_getElem hlt
    refine .inr ⟨⟨xs, xs[i], sq_of (ex a _ h1), gx⟩, fun H' => Ex H1 H' ∧ ∃ us, H' Dl = some (.lst us) ∧ Reps H' us ((xs.take (i + 1)).map g) ∧ NoLL ((xs.take (i + 1)).map g), fun H2 p => ⟨xs.length - (i + 1), by omega, rfl, hlt, p⟩, fun x H2 y => ?_⟩
    obtain ⟨rfl, y⟩ := y
    have ex' : x = xs[i] := Option.some.inj ((y xs (sq_of (ex a _ h1))).symm.trans gx)
    subst ex'
    have hm := List.mem_of_getElem? gx
    refine ⟨hw _, ?_⟩
    refine tyes_ ?_
    refine iteT (he _ H1 (e.trans e1) hm _ ex _ fun v H3 e3 r3 => ⟨us, e3 Dl _ hl, ?_, (ex.trans e3).mut hD, us ++ [v], upd_same, ?_, ?_⟩)
    · have := hr.len
      rw [List.length_map, List.length_take] at this
      exact sz_lt (by omega)
    · have kt : ∀ b ws, H3 b = some (.tup ws) → upd H3 Dl (.lst (us ++ [v])) b = some (.tup ws) := fun b ws hb => by
        rw [upd_ne (ne_kind hb (e3 Dl _ hl) (fun z => nomatch z))]
        exact hb
      rw [List.take_add_one, gx, List.map_append]
      exact (Reps.keepT kt hn (hr.mono e3)).append (.cons (Rep.keepT kt (hg _ hm) r3) .nil)
    · rw [List.take_add_one, gx, List.map_append]
      refine nol_app hn ?_
      show NoLL [g _]
      rw [NoLL, NoLL]
      exact ⟨hg _ hm, trivial⟩
  · have e0 : i = xs.length := by omega
    subst e0
    rw [List.take_of_length_le (Nat.le_refl _)] at hr
    exact .inl ⟨⟨xs, sq_of (ex a _ h1), Nat.le_refl _⟩, q (.ref Dl) H' (e1.trans ex) (.lst hl hr)⟩
theorem eu_repT {k : Nat} {xs : List V} (h : EvU ta σ H xs) (hb : Ev tb σ H (.int (k : Int))) (h0 : xs ≠ []) (h2 : 2 ≤ k) (h3 : k ≤ 1000) (h4 : xs.length ≤ 1000) : EvU (tOp (rRepT K) ta tb) σ H (List.replicate k xs).flatten := fun H1 e Q q =>
  h H1 e _ fun p H2 _ e2 hp => hb H2 (e.trans e2) _ fun H3 e3 => ⟨p, k, xs, rfl, rfl, st_of (e3 _ _ hp), h0, by omega, by omega, h4, fun l hl => by
    rw [Int.toNat_natCast]
    exact q l _ (fresh_back (e2.trans e3) hl) ((e2.trans e3).trans (Ex.new hl)) upd_same⟩
theorem ed_txs {ps : List L} (h : EvU te σ H (txs ps)) : EvD te σ H (.tup (ps.map .str)) := fun H1 e Q q =>
  h H1 e _ fun p H2 _ e2 h2 => q (.ref p) H2 e2 (.tup h2 (reps_txs H2 ps))
def sp_bounds : Sp := fun vs H Q _ => vs = [] ∧ ∀ H', Ex H H' → Q (.bl true) H'
abbrev s_law_bounds : Stmt := topS 35
theorem sc_law_bounds : FnScope ["told", "many", "people", "k"] [] (defScope s_law_bounds) := ⟨rfl, rfl, rfl, by decide +kernel, rfl, by decide +kernel, by decide +kernel⟩
/- 0 told, 1 many, 2 people, 3 k -/
def manyD (v : V) : D := match v with
  | .int 12 => d12
  | _ => d13
theorem ed_is {d d' : D} (h : EvD te σ H d) (e : d = d') : EvD te σ H d' := by
  rw [← e]
  exact h
theorem fn_bounds {f : Addr} {fd : FuncData} {k : Nat} (F : Fun K "_law_bounds" "_law_bounds" s_law_bounds f fd) (N : Nb mg) (C_read_policy : Cal P w K mg base k "read_policy" ["lines"] (sp_read K)) (C_matches : Cal P w K mg base k "matches" ["pattern", "path"] (spV (ok_matches K))) (C_law_same : Cal P w K mg base k "_law_same" ["answer", "due"] (spV (ok_same 6))) : FnOk P w K mg base CX0 (k + 1) f fd [] sp_bounds := by
  refine F.ok sc_law_bounds (fun vs H Q E h => ?_) (fun cdv A outer s H vs Q E hr h => ?_)
  · obtain ⟨rfl, _⟩ := h
    rfl
  · obtain ⟨rfl, q⟩ := h
    refine ⟨_, (pss_cons (ps_setLc (i := 0) (own := [("many", 1)]) (by rfl) sc_law_bounds.nd rfl rfl (sw_true rfl rfl rfl (by decide +kernel)) (pi_list (pe_lst (pa_cons pe_int (pa_cons pe_int pa_nil)))) (blkOk_by (own := [("many", 1)]) (N := ["told", "many", "people", "k"]) (sc := defScope s_law_bounds) (by decide +kernel)) (fun _ _ _ _ _ => (pg_name (i := 1) sc_law_bounds.nd rfl (Or.inl rfl))) (fun _ _ _ _ _ => pts_nil) (fun _ _ _ _ _ => (pe_cal C_read_policy hr (pa_cons (pe_tup (pa_cons (pe_op op_add_str (show PE _ _ (tM1 (rJoinS K) _ _) from (pe_join pe_str (pe_op op_rep (pe_lst (pa_cons pe_str pa_nil)) (pv 1)))) pe_str) pa_nil)) pa_nil))))
      (pss_cons (ps_if (pt_not (pt_val (pe_cal C_law_same hr (pa_cons (pv 0) (pa_cons (pe_lst (pa_cons (pe_tup (pa_cons pe_str (pa_cons (pe_tup (pa_cons (pe_tup (pa_cons (pe_op op_repT (pe_tup (pa_cons pe_str pa_nil)) pe_int) (pa_cons pe_int (pa_cons (pe_tup (pa_cons pe_str pa_nil)) pa_nil)))) pa_nil)) pa_nil))) (pa_cons (pe_tup (pa_cons pe_str (pa_cons pe_int (pa_cons pe_str pa_nil)))) pa_nil))) pa_nil))))) (pss_one (ps_ret pe_bl)) pss_nil)
      (pss_cons (ps_setLc (i := 2) (own := [("k", 3)]) (by rfl) sc_law_bounds.nd rfl rfl (sw_true rfl rfl rfl (by decide +kernel)) (pi_range1 rfl N.range (pa_cons pe_int pa_nil)) (blkOk_by (own := [("k", 3)]) (N := ["told", "many", "people", "k"]) (sc := defScope s_law_bounds) (by decide +kernel)) (fun _ _ _ _ _ => (pg_name (i := 3) sc_law_bounds.nd rfl (Or.inl rfl))) (fun _ _ _ _ _ => pts_nil) (fun _ _ _ _ _ => (pe_op op_add_str pe_str (pe_callTy call_str_int (by rfl) N.str PyProof.Rows.boot_str (pa_cons (pv 3) pa_nil)))))
      (pss_cons (ps_set (i := 0) sc_law_bounds.nd rfl (Or.inl rfl) (pe_cal C_read_policy hr (pa_cons (pe_tup (pa_cons (pe_op op_add_str pe_str (pe_join pe_str (pv 2))) pa_nil)) pa_nil)))
      (pss_one (ps_ret (pe_and (pe_cal C_law_same hr (pa_cons (pv 0) (pa_cons (pe_tup (pa_cons pe_str (pa_cons (pe_tup (pa_cons (pe_tup (pa_cons (pe_tup (pa_cons pe_str pa_nil)) (pa_cons pe_int (pa_cons (pe_callTy call_tuple_of (by rfl) N.tuple PyProof.Rows.boot_tuple (pa_cons (pe_callB cr_sortedSA (by rfl) N.sorted PyProof.Rows.boot_sorted (pa_cons (pv 2) pa_nil)) pa_nil)) pa_nil)))) pa_nil)) pa_nil))) pa_nil))) (pe_one (pe_cmpR op_isBA (pe_cal C_matches hr (pa_cons (pe_tup (pa_cons pe_str (pa_cons pe_str pa_nil))) (pa_cons (pe_join pe_str (pe_op op_cat (pe_op op_rep (pe_lst (pa_cons pe_str pa_nil)) pe_int) (pe_lst (pa_cons pe_str pa_nil)))) pa_nil))) pe_bl (nomark _)))))))))), ?_⟩
    have hline : ∀ {H' : Hp} {σ : L2.St} (m : Nat), σ[1]? = some (some (.int (m : Int))) → m ≤ 13 → Ev (tOp (fun x y H Q => ∃ i j, x = .str i ∧ y = .str j ∧ i.length + j.length ≤ sizeLine ∧ Q (.str (i ++ j)) H) (tM1 (rJoinS K) (tC (.str "/")) (tOp rRep (tLst (tCons (tC (.str "a")) tNil)) (tVar 1))) (tC (.str " needs 1 of bob"))) σ H' (.str (tx (lineA m))) := fun {H' σ} m hv hm => by
      have hz : ((aL m).map szF).sum ≤ 26 := by
        have h1 := sz_bound 1 (aL m) fun p hp => by
          rw [List.eq_of_mem_replicate hp]
          exact Nat.le_refl _
        unfold aL at *
        rw [List.length_replicate] at h1
        omega
      have hj := join_len 47 (aL m)
      refine ev_op (ev_joinT (ps := aL m) (ev_cs [47] (by decide +kernel)) (evp_ln (el_is (el_rep (xs := txs [[97]]) (evl_n (el_lst (ea_cons (ev_cs [97] (by decide +kernel)) ea_nil) (by decide))) (ev_v hv) (by omega) (by show 1 * m ≤ _; omega)) (rep_tx m [97]))) (by omega)) (ev_cs tailB (by decide +kernel)) (rv_addS (by show _ + 15 ≤ _; omega))
    refine r_asg (ed_lcN manyD (el_lst (ea_cons (ev_cn 12) (ea_cons (ev_cn 13) ea_nil)) (by decide)) (by decide) (fun _ => rfl) (fun x hx => ?_) (fun x H1 e1 hx => ?_) H (Ex.refl H) _ fun tv H1 e1 r1 => ?_)
    · have : x = .int ((12 : Nat) : Int) ∨ x = .int ((13 : Nat) : Int) := by simpa using hx
      rcases this with rfl | rfl
      · show NoL d12
        simp [d12, NoL, NoLL, List.replicate]
      · show NoL d13
        simp [d13, NoL, NoLL]
    · have : x = .int ((12 : Nat) : Int) ∨ x = .int ((13 : Nat) : Int) := by simpa using hx
      rcases this with rfl | rfl
      · exact ed_is (ed_read (ls := [lineA 12]) (eu_tup (ea_cons (hline 12 rfl (by decide)) ea_nil) l1) lim12) b12
      · exact ed_is (ed_read (ls := [lineA 13]) (eu_tup (ea_cons (hline 13 rfl (by decide)) ea_nil) l1) lim13) b13
    have lit : ∀ (σ : L2.St), EvD (tLst (tCons (tTup (tCons (tC (.str "policy")) (tCons (tTup (tCons (tTup (tCons (tOp (rRepT K) (tTup (tCons (tC (.str "a")) tNil)) (tC (.int 12))) (tCons (tC (.int 1)) (tCons (tTup (tCons (tC (.str "bob")) tNil)) tNil)))) tNil)) tNil))) (tCons (tTup (tCons (tC (.str "wrong")) (tCons (tC (.int 0)) (tCons (tC (.str "pattern")) tNil)))) tNil))) σ H1 (.lst ([V.int ((12 : Nat) : Int), V.int ((13 : Nat) : Int)].map manyD)) := fun σ =>
      ed_lst (ds := [d12, d13]) (er_cons (ed_tup (er_cons (evd_v (ev_cs _ (by decide +kernel)) (.str _)) (er_cons (ed_tup (er_cons (ed_tup (er_cons (ed_is (ed_txs (ps := aL 12) (by
        have := eu_repT (K := K) (σ := σ) (H := H1) (k := 12) (xs := txs [[97]]) (ta := tTup (tCons (tC (.str "a")) tNil)) (tb := tC (.int 12)) (eu_tup (ea_cons (ev_cs [97] (by decide +kernel)) ea_nil) (by decide)) (ev_cn 12) (by simp [txs]) (by decide) (by decide) (by decide)
        rw [rep_tx] at this
        exact this)) (by rfl)) (er_cons (evd_v ev_c (.int 1)) (er_cons (ed_tup (er_cons (evd_v (ev_cs bobL (by decide +kernel)) (.str _)) er_nil) (by decide)) er_nil))) (by show 3 ≤ 100000; decide)) er_nil) (by show 1 ≤ 100000; decide)) er_nil)) (by show 2 ≤ 100000; decide)) (er_cons (ed_tup (er_cons (evd_v (ev_cs _ (by decide +kernel)) (.str _)) (er_cons (evd_v ev_c (.int 0)) (er_cons (evd_v (ev_cs rP (by decide +kernel)) (.str _)) er_nil))) (by show 3 ≤ 100000; decide)) er_nil)) (by show 2 ≤ 100000; decide)
    refine q_when (b := false) (et_not (a := true) (et_B (ev_same (evd_v (ev_v rfl) r1) (lit _) ?_ ?_))) (fun z => nomatch z) fun _ H2 e2 => ?_
    · show Wid (.lst [d12, d13])
      simp [d12, d13, Wid, WidL, List.replicate]
    · show height (.lst [d12, d13]) < 6
      decide +kernel
    have e12 := e1.trans e2
    refine q_asgL (xs := txs pplL) (el_is (el_lcR1 (fun _ => true) (fun k => .str (tx (112 :: dgL k))) (n := ((99 : Nat) : Int)) (ea_cons (ev_cn 99) ea_nil) (by decide) (fun _ => rfl) (fun i H3 e3 hi => et_yes) fun i H3 e3 hi _ => ev_op (ev_cs [112] (by decide +kernel)) (fun H4 e4 Q' q' => ev_v rfl H4 e4 _ fun H5 e5 => ⟨_, rfl, Nat.lt_of_le_of_lt (Nat.log2_le_self _) (by omega), by rw [dg_txt i (by omega)]; exact q' H5 e5⟩) (rv_addS (by
        have := dgL_len i
        show 1 + (dgL i).length ≤ 100000
        omega))) ?_) fun pp H3 hpp e3 h3 => ?_
    · rw [Int.toNat_natCast, given_all]
      unfold pplL txs
      rw [List.map_map]
      rfl
    have hjP : (joinT 32 pplL).length ≤ 1000 := by decide +kernel
    have hzP : (pplL.map szF).sum ≤ 10000 := by decide +kernel
    refine r_asg (ed_read (ls := [lineP]) (eu_tup (ea_cons (ev_op (ev_cs headP (by decide +kernel)) (ev_joinT (K := K) (c := 32) (ps := pplL) (ev_cs [32] (by decide +kernel)) (evp_k (ev_v rfl) (sq_of h3)) hzP) (rv_addS (by show 15 + _ ≤ _; omega))) ea_nil) l1) limP H3 (Ex.refl H3) _ fun tv2 H4 e4 r4 => ?_)
    rw [bP] at r4
    have hl2 : (sortF pplL).length = 99 := by rw [sort_len, ppl_len]
    have hall : alongF [[42, 42], [97]] (splitT 47 (joinT 47 (List.replicate 39 [98] ++ [[97]]))) = true := by
      rw [split_join (by simp) (by decide +kernel)]
      decide +kernel
    refine s_ret (ev_andV (a := true) (b := true) (ev_same (d := dP) (evd_v (ev_v rfl) r4) (ed_tup (er_cons (evd_v (ev_cs _ (by decide +kernel)) (.str _)) (er_cons (ed_tup (er_cons (ed_tup (er_cons (ed_tup (er_cons (evd_v (ev_cs [42, 42] (by decide +kernel)) (.str _)) er_nil) (by decide)) (er_cons (evd_v ev_c (.int 99)) (er_cons (ed_txs (ps := sortF pplL) (eu_tupL (el_sortL (evp_k (ev_v rfl) (sq_of (e4 _ _ h3))) (by rw [ppl_len]; decide)))) er_nil))) (by show 3 ≤ 100000; decide)) er_nil) (by show 1 ≤ 100000; decide)) er_nil)) (by show 2 ≤ 100000; decide)) ?_ ?_) fun _ => ev_is (ev_isBA (b := true) (ev_calP (z := .bl true) (eap_u (eu_tup (vs := txs [[42, 42], [97]]) (ea_cons (ev_cs [42, 42] (by decide +kernel)) (ea_cons (ev_cs [97] (by decide +kernel)) ea_nil)) (by decide)) (eap_v (ev_joinT (K := K) (c := 47) (ps := List.replicate 39 [98] ++ [[97]]) (ev_cs [47] (by decide +kernel)) (evp_ln (el_is (el_cat (evl_n (el_rep (k := 39) (xs := txs [[98]]) (evl_n (el_lst (ea_cons (ev_cs [98] (by decide +kernel)) ea_nil) (by decide))) (ev_cn 39) (by decide) (by decide))) (evl_n (el_lst (vs := txs [[97]]) (ea_cons (ev_cs [97] (by decide +kernel)) ea_nil) (by decide))) (by rw [rep_tx]; decide +kernel)) (by rw [rep_tx, txs_app]))) (by decide +kernel)) eap_nil)) fun vs H5 e5 hv => ?_)) rfl) fun H5 e5 => q H5 (((e12.trans e3).trans e4).trans e5)
    · unfold dP
      simp only [Wid, WidL, List.length_cons, List.length_nil, List.length_map, hl2]
      refine ⟨by decide, trivial, ⟨by decide, ⟨by decide, ⟨by decide, trivial, trivial⟩, trivial, ⟨by decide, ?_⟩, trivial⟩, trivial⟩, trivial⟩
      have : ∀ ps : List L, WidL (ps.map .str) := fun ps => by
        induction ps with
        | nil => rw [List.map_nil, WidL]; trivial
        | cons p r ih => rw [List.map_cons, WidL]; exact ⟨by rw [Wid] <;> (first | trivial | (intros; contradiction)), ih⟩
      exact this _
    · unfold dP
      have : ∀ ps : List L, heightL (ps.map .str) = 0 := fun ps => by
        induction ps with
        | nil => rfl
        | cons p r ih => rw [List.map_cons, heightL, ih]; rfl
      simp only [height, heightL, this]
      decide
    · obtain ⟨a, _, rfl, h6, _, rfl, rfl⟩ := hv
      exact ⟨a, [[42, 42], [97]], _, rfl, st_of h6, by decide +kernel, by rw [hall]⟩
end
end K70

set_option Elab.async false
set_option linter.all false
set_option maxRecDepth 100000
set_option maxHeartbeats 4000000
namespace K70
open PySem PySem.Spec PyProof.Rows L2 Evl My
/-! what is read is narrow -/
def okRow (d : D) : Prop := ∃ segs n ps, d = rowD segs n ps ∧ segs.length ≤ 12 ∧ ps.length ≤ 10000
theorem okRow.row {d : D} (h : okRow d) : isRow d := by
  obtain ⟨segs, n, ps, h1, h2, _⟩ := h
  exact ⟨segs, n, ps, h1, h2⟩
theorem wid_strs : ∀ ps : List L, WidL (ps.map .str)
  | [] => by rw [List.map_nil, WidL]; trivial
  | p :: ps => by rw [List.map_cons, WidL]; exact ⟨by rw [Wid] <;> (first | trivial | (intros; contradiction)), wid_strs ps⟩
theorem height_strs : ∀ ps : List L, heightL (ps.map .str) = 0
  | [] => rfl
  | p :: ps => by rw [List.map_cons, heightL, height_strs ps]; rfl
theorem okRow.wid {d : D} (h : okRow d) : Wid d ∧ height d ≤ 2 := by
  obtain ⟨segs, n, ps, rfl, h1, h2⟩ := h
  unfold rowD
  constructor
  · simp only [Wid, WidL, List.length_cons, List.length_nil, List.length_map]
    exact ⟨by decide, ⟨by omega, wid_strs segs⟩, trivial, ⟨h2, wid_strs ps⟩, trivial⟩
  · simp only [height, heightL, height_strs]
    decide
theorem wid_rows : ∀ ds : List D, (∀ d ∈ ds, okRow d) → WidL ds ∧ heightL ds ≤ 2
  | [], _ => ⟨by rw [WidL]; trivial, Nat.zero_le _⟩
  | d :: ds, h => by
    have h1 := (h d (by simp)).wid
    have h2 := wid_rows ds fun d hd => h d (by simp [hd])
    rw [WidL, heightL]
    exact ⟨⟨h1.1, h2.1⟩, Nat.max_le.mpr ⟨h1.2, h2.2⟩⟩
theorem people_le {g : L → Option (List L)} {u ws : List L} (h : GoodG g u) : (peopleF g ws).length ≤ u.length + ws.length := by
  have := nodup_sub (people_nodup g ws) (b := u ++ ws) fun p hp => List.mem_append.mpr (people_in h hp)
  rw [List.length_append] at this
  exact this
theorem take_rows {s s' : S} {ws : List L} (h : takeF s ws = .inr s') (hG : GoodG s.g s.u) (hn : s.u.length + ws.length ≤ 10000) (hr : ∀ d ∈ s.out, okRow d) : ∀ d ∈ s'.out, okRow d := by
  unfold takeF at h
  split at h
  · unfold groupF at h
    split at h
    · cases h
    · split at h
      · cases h; exact hr
      · cases h
  · split at h
    · unfold needsF at h
      split at h
      · cases h
      · split at h
        · split at h
          · rename_i hp
            split at h
            · cases h
              intro d hd
              rw [List.mem_append, List.mem_singleton] at hd
              rcases hd with hd | rfl
              · exact hr d hd
              · refine ⟨_, _, _, rfl, ?_, ?_⟩
                · unfold patF at hp
                  rw [Bool.and_eq_true] at hp
                  exact of_decide_eq_true hp.1
                · have := people_le (ws := ws.drop 4) hG
                  rw [List.length_drop] at this
                  omega
            · cases h
          · cases h
        · cases h
    · cases h
theorem read_rows : ∀ (ls : List L) (s : S) (k : Nat) (s' : S), readF s k ls = .inr s' → GoodG s.g s.u → s.u.length + (ls.map szF).sum ≤ 10000 → (∀ d ∈ s.out, okRow d) → (∀ d ∈ s'.out, okRow d) ∧ s'.out.length ≤ s.out.length + ls.length
  | [], s, k, s', h, _, _, hr => by
    rw [readF] at h
    cases h
    exact ⟨hr, Nat.le_refl _⟩
  | l :: ls, s, k, s', h, hG, hn, hr => by
    have hsl := said_len l
    rw [List.map_cons, List.sum_cons] at hn
    have hn : s.u.length + ((l.length + 1) + (ls.map szF).sum) ≤ 10000 := hn
    rw [readF] at h
    by_cases hs : saidF l = []
    · rw [if_pos hs] at h
      have := read_rows ls s (k + 1) s' h hG (by omega) hr
      exact ⟨this.1, by rw [List.length_cons]; omega⟩
    · rw [if_neg hs] at h
      cases ht : takeF s (saidF l) with
      | inl e => rw [ht] at h; cases h
      | inr s2 =>
        rw [ht] at h
        obtain ⟨t1, t2, t3⟩ := take_inr ht
        have t4 := take_out ht
        have := read_rows ls s2 (k + 1) s' h (t2 hG) (by omega) (take_rows ht hG (by omega) hr)
        exact ⟨this.1, by rw [List.length_cons]; omega⟩
theorem pol_wid {ls : List L} (hL : Lim ls) : Wid (polD (readF s0 0 ls)) ∧ height (polD (readF s0 0 ls)) < 6 := by
  cases h : readF s0 0 ls with
  | inl x =>
    obtain ⟨k, e⟩ := x
    show Wid (.tup [.str _, .int _, .str _]) ∧ height (.tup [.str _, .int _, .str _]) < 6
    constructor
    · simp only [Wid, WidL, List.length_cons, List.length_nil]
      exact ⟨by decide, trivial, trivial, trivial, trivial⟩
    · simp only [height, heightL]
      decide
  | inr s' =>
    have hl := hL.1
    have hll := lim_len ls
    obtain ⟨h1, h2⟩ := read_rows ls s0 0 s' h (fun w ps h => nomatch h) (by show 0 + _ ≤ _; omega) (fun d hd => absurd hd (by simp [s0]))
    have h3 := wid_rows s'.out h1
    have h4 : s'.out.length ≤ 0 + ls.length := h2
    show Wid (.tup [.str _, .tup s'.out]) ∧ height (.tup [.str _, .tup s'.out]) < 6
    constructor
    · simp only [Wid, WidL, List.length_cons, List.length_nil]
      exact ⟨by decide, trivial, ⟨by omega, h3.1⟩, trivial⟩
    · simp only [height, heightL]
      have := h3.2
      omega
theorem okRow.nol {d : D} (h : okRow d) : NoL d := by
  obtain ⟨segs, n, ps, rfl, _⟩ := h
  exact nol_row segs n ps
theorem nol_rows : ∀ ds : List D, (∀ d ∈ ds, okRow d) → NoLL ds
  | [], _ => by rw [NoLL]; trivial
  | d :: ds, h => by
    rw [NoLL]
    exact ⟨(h d (by simp)).nol, nol_rows ds fun d hd => h d (by simp [hd])⟩
theorem pol_rows {ls : List L} (hL : Lim ls) {s' : S} (h : readF s0 0 ls = .inr s') : (∀ d ∈ s'.out, okRow d) ∧ s'.out.length ≤ 1000 ∨ 1000 < ls.length := by
  have hl := hL.1
  obtain ⟨h1, h2⟩ := read_rows ls s0 0 s' h (fun w ps h => nomatch h) (by show 0 + _ ≤ _; omega) (fun d hd => absurd hd (by simp [s0]))
  have h4 : s'.out.length ≤ 0 + ls.length := h2
  by_cases hc : ls.length ≤ 1000
  · exact .inl ⟨h1, by omega⟩
  · exact .inr (by omega)
theorem pol_nol {ls : List L} (hL : Lim ls) : NoL (polD (readF s0 0 ls)) := by
  cases h : readF s0 0 ls with
  | inl x =>
    obtain ⟨k, e⟩ := x
    show NoL (.tup [.str _, .int _, .str _])
    simp only [NoL, NoLL, and_self]
  | inr s' =>
    have hl := hL.1
    obtain ⟨h1, h2⟩ := read_rows ls s0 0 s' h (fun w ps h => nomatch h) (by show 0 + _ ≤ _; omega) (fun d hd => absurd hd (by simp [s0]))
    show NoL (.tup [.str _, .tup s'.out])
    simp only [NoL, NoLL, and_true, true_and]
    exact nol_rows _ h1
/-! rows of texts in the heap -/
def strV : V → L
  | .str s => s.cps.toList
  | _ => []
def rowF (H : Hp) : V → List L
  | .ref a => match H a with
    | some (.lst vs) => vs.map strV
    | _ => []
  | _ => []
theorem rowF_at {H : Hp} {a : Addr} {ws : List L} (h : H a = some (.lst (txs ws))) : rowF H (.ref a) = ws := by
  show (match H a with | some (.lst vs) => vs.map strV | _ => []) = ws
  rw [h]
  show (txs ws).map strV = ws
  unfold txs
  rw [List.map_map]
  exact (List.map_congr_left fun z _ => rfl).trans (List.map_id' ws)
def intsD (l : List Nat) : D := .tup (l.map fun n : Nat => .int (n : Int))
theorem reps_nats (H : Hp) : ∀ l : List Nat, Reps H (nats l) (l.map fun n : Nat => .int (n : Int))
  | [] => .nil
  | n :: l => .cons (.int _) (reps_nats H l)
theorem wid_ints {l : List Nat} (h : l.length ≤ 10000) : Wid (intsD l) ∧ height (intsD l) < 6 := by
  have h1 : ∀ l : List Nat, WidL (l.map fun n : Nat => D.int (n : Int)) ∧ heightL (l.map fun n : Nat => D.int (n : Int)) = 0 := fun l => by
    induction l with
    | nil => exact ⟨by rw [List.map_nil, WidL]; trivial, rfl⟩
    | cons n l ih => rw [List.map_cons, WidL, heightL, ih.2]; exact ⟨⟨by rw [Wid] <;> (first | trivial | (intros; contradiction)), ih.1⟩, rfl⟩
  unfold intsD
  rw [Wid, height, (h1 l).2]
  exact ⟨⟨by rw [List.length_map]; exact h, (h1 l).1⟩, by decide⟩
section
variable {K : PySem.W.Frag} {σ : L2.St} {H : Hp} {Q : VK} {p sc : Addr} {ns : List Int} {D : Ends} {tu tz : TS} {ta : TA} {te : TE}
/-- a loop as often as is drawn -/
theorem s_forG {j : Nat} (M : Nat) (hM : M ≤ 1000) (ht : ∀ R : List V → Hp → Prop, (∀ (m : Nat) H1, 0 ≤ m → m ≤ M → G K p sc ns H H1 → R [.int (m : Int)] H1) → ta σ H R) (Pv : Nat → L2.St → Hp → Prop) (h0 : ∀ H1, G K p sc ns H H1 → Pv 0 σ H1)
    (hs : ∀ (i : Nat) σ' H', i < M → Pv i σ' H' → tu { D with nx := Pv (i + 1), ct := Pv (i + 1), bk := D.nx } (σ'.set j (some (.int (i : Int)))) H') (hd : ∀ i σ' H', i ≤ M → Pv i σ' H' → D.nx σ' H') : tFor (iRng1 ta) (gName j) tu D σ H :=
  ht _ fun m H1 _ hm g => ⟨m, rfl, by omega, by omega, by
    rw [Int.toNat_natCast]
    exact for_range (n := m) Pv (h0 H1 g) (fun i σ' H' hi p => by
      have e0 : (0 : Int) + (i : Int) = (i : Int) := Int.zero_add _
      show tu _ (σ'.set j (some (.int ((0 : Int) + (i : Int))))) H'
      rw [e0]
      exact hs i σ' H' (by omega) p) fun σ' H' p => hd m σ' H' hm p⟩
theorem q_forG {j : Nat} (M : Nat) (hM : M ≤ 1000) (ht : ∀ R : List V → Hp → Prop, (∀ (m : Nat) H1, 0 ≤ m → m ≤ M → G K p sc ns H H1 → R [.int (m : Int)] H1) → ta σ H R) (Pv : Nat → L2.St → Hp → Prop) (h0 : ∀ H1, G K p sc ns H H1 → Pv 0 σ H1)
    (hs : ∀ (i : Nat) σ' H', i < M → Pv i σ' H' → tu { D with nx := Pv (i + 1), ct := Pv (i + 1), bk := tz D } (σ'.set j (some (.int (i : Int)))) H') (hd : ∀ i σ' H', i ≤ M → Pv i σ' H' → tz D σ' H') : tSeq (tFor (iRng1 ta) (gName j) tu) tz D σ H :=
  s_forG (D := { D with nx := tz D }) M hM ht Pv h0 hs hd
theorem r_next {i : Nat} (hv : σ[i]? = some (some (.ref p))) (hP : Pool K H p sc ns) (k : ∀ H1, G K p sc ns H H1 → tz D σ H1) : tSeq (tDrop (tCall (sp_next K) [] E0 (tCons (tVar i) tNil))) tz D σ H :=
  r_drop ((ea_cons (ev_v hv) ea_nil) H (Ex.refl H) _ fun H2 e2 => ⟨p, sc, ns, rfl, hP.ex e2, fun H3 g => k H3 (G.exL e2 g)⟩)
end
end K70

set_option Elab.async false
set_option linter.all false
set_option maxRecDepth 100000
set_option maxHeartbeats 4000000
namespace K70
open PySem PySem.Spec PyProof.Rows L2 Evl My
section
variable {P : Program} {w : World} {K : PySem.W.Frag} {mg : Str → Option Value} {base : Heap}
def sp_law (K : PySem.W.Frag) : Sp := fun vs H Q _ => ∃ (a : Addr) (ns : List Int), vs = [.ref a] ∧ SqL K H a (ns.map V.int) ∧ ∀ H', Q (.bl true) H'
abbrev s_law : Stmt := topS 36
theorem sc_law : FnScope ["script", "pool", "turn", "lines", "k", "line", "due", "segments", "pattern", "rows", "j", "told", "row"] ["script"] (defScope s_law) := ⟨rfl, rfl, rfl, by decide +kernel, rfl, by decide +kernel, by decide +kernel⟩
/- 0 script, 1 pool*, 2 turn, 3 lines, 4 k*, 5 line, 6 due*, 7 segments, 8 pattern, 9 rows*, 10 j, 11 told, 12 row -/
/-- a row of texts at b, off the pool -/
def rowP (p : Addr) (b : Addr) (v : V) (H : Hp) : Prop := ∃ a ws, v = .ref a ∧ a ≠ p ∧ a ≠ b ∧ H a = some (.lst (txs ws)) ∧ ws ≠ [] ∧ ws.length ≤ 3 ∧ (∀ p ∈ ws, p.length ≤ 5) ∧ ∀ p ∈ ws, 47 ∉ p
theorem rowP_hm {p : Addr} : ∀ b v (H1 H2 : Hp), (∀ a o, a ≠ p → a ≠ b → H1 a = some o → H2 a = some o) → rowP p b v H1 → rowP p b v H2 := fun b v H1 H2 h ⟨a, ws, h1, h2, h3, h4, h5⟩ => ⟨a, ws, h1, h2, h3, h a _ h2 h3 h4, h5⟩
theorem rowP_row {p b : Addr} {v : V} {H : Hp} (h : rowP p b v H) : ∃ a, v = .ref a ∧ a ≠ p ∧ H a = some (.lst (txs (rowF H v))) ∧ rowF H v ≠ [] ∧ (rowF H v).length ≤ 3 ∧ (∀ p ∈ rowF H v, p.length ≤ 5) ∧ ∀ p ∈ rowF H v, 47 ∉ p := by
  obtain ⟨a, ws, rfl, h2, h3, h4, h5, h6, h7, h8⟩ := h
  rw [rowF_at h4]
  exact ⟨a, rfl, h2, h4, h5, h6, h7, h8⟩
theorem map_strs (f : V → L) (xs : List V) : (xs.filter fun _ => true).map (fun v => V.str (tx (f v))) = txs (xs.map f) := by
  rw [List.filter_eq_self.mpr fun _ _ => rfl]
  unfold txs
  rw [List.map_map]
  rfl
theorem map_bls (f : V → Bool) (xs : List V) : (xs.filter fun _ => true).map (fun v => V.bl (f v)) = (xs.map f).map V.bl := by
  rw [List.filter_eq_self.mpr fun _ _ => rfl, List.map_map]
  rfl
theorem tup_at {H : Hp} {v : V} {w : L} {ds : List D} (h : Rep H v (.tup (.str w :: ds))) : ∃ (a : Addr) (us : List V), v = .ref a ∧ H a = some (.tup (.str (tx w) :: us)) := by
  cases h with
  | @tup a vs _ e r =>
    cases r with
    | @cons v1 _ vs1 _ h1 r1 =>
      cases h1
      exact ⟨a, vs1, rfl, e⟩
theorem for_join {rows : List (List L)} {wss : List (List L)} (h : ∀ ws ∈ wss, ws ≠ [] ∧ ∀ p ∈ ws, 47 ∉ p) : forF rows (wss.map (joinT 47)) = (List.range rows.length).filter fun k => wss.any fun ws => alongF (rows.getD k []) ws := by
  unfold forF
  refine List.filter_congr fun k _ => ?_
  rw [List.any_map]
  have : ∀ l : List (List L), (∀ ws ∈ l, ws ≠ [] ∧ ∀ p ∈ ws, 47 ∉ p) → (l.any ((fun p => alongF (rows.getD k []) (splitT 47 p)) ∘ joinT 47)) = l.any fun ws => alongF (rows.getD k []) ws := fun l => by
    induction l with
    | nil => exact fun _ => rfl
    | cons ws l ih =>
      intro h
      obtain ⟨h1, h2⟩ := h ws (by simp)
      rw [List.any_cons, List.any_cons, ih fun ws hw => h ws (by simp [hw])]
      show (alongF (rows.getD k []) (splitT 47 (joinT 47 ws)) || _) = _
      rw [split_join h1 h2]
  exact this wss h
theorem r_dropE {σ : L2.St} {H : Hp} {te : TE} {D : Ends} (h : te σ H fun _ H1 => D.nx σ H1) : tDrop te D σ H := h
theorem r_bm {σ : L2.St} {H : Hp} {to : TE} {t : TA} {T : String} {r : V → List V → Hp → VK → Prop} {Q : VK} (h : to σ H fun x H1 => tyV K T x H1 ∧ t σ H1 fun xs H2 => r x xs H2 Q) : tBM K T r to t σ H Q := h
theorem fn_law {f : Addr} {fd : FuncData} {k : Nat} (F : Fun K "law" "law" s_law f fd) (N : Nb mg) (C_law_pool : Cal P w K mg base k "_law_pool" ["script"] (spL (ok_pool_ K))) (C_law_bounds : Cal P w K mg base k "_law_bounds" [] sp_bounds) (C_law_draw : Cal P w K mg base k "_law_draw" ["pool", "limit"] (sp_draw K)) (C_law_pick : Cal P w K mg base k "_law_pick" ["pool", "options"] (sp_pick K)) (C_law_next : Cal P w K mg base k "_law_next" ["pool"] (sp_next K)) (C_law_line_drawn : Cal P w K mg base k "_law_line_drawn" ["pool"] (sp_line K))
    (C_law_read : Cal P w K mg base k "_law_read" ["lines"] (sp_lread K)) (C_read_policy : Cal P w K mg base k "read_policy" ["lines"] (sp_read K)) (C_law_same : Cal P w K mg base k "_law_same" ["answer", "due"] (spV (ok_same 6))) (C_matches : Cal P w K mg base k "matches" ["pattern", "path"] (spV (ok_matches K))) (C_law_along : Cal P w K mg base k "_law_along" ["pattern", "segments"] (spV (ok_along K 14))) (C_lines_for : Cal P w K mg base k "lines_for" ["policy", "paths"] (sp_lines K)) : FnOk P w K mg base CX0 (k + 1) f fd ["script"] (sp_law K) := by
  refine F.ok sc_law (fun vs H Q E h => ?_) (fun cdv A outer s H vs Q E hr h => ?_)
  · obtain ⟨_, _, rfl, _⟩ := h
    rfl
  · obtain ⟨a, ns, rfl, hS, q⟩ := h
    refine ⟨_, (pss_cons (ps_set (i := 1) sc_law.nd rfl (Or.inr rfl) (pe_cal C_law_pool hr (pa_cons (pv 0) pa_nil)))
      (pss_cons (ps_if (pt_not (pt_val (pe_cal0 C_law_bounds hr))) (pss_one (ps_ret pe_bl)) pss_nil)
      (pss_cons (ps_for PassesOwn.never rfl (pi_range1 rfl N.range (pa_cons pe_int pa_nil)) (pg_name (i := 2) sc_law.nd rfl (Or.inl rfl)) (pss_cons (ps_set (i := 3) sc_law.nd rfl (Or.inl rfl) (pe_lst pa_nil))
      (pss_cons (ps_for PassesOwn.never rfl (pi_range1 rfl N.range (pa_cons (pe_cal C_law_draw hr (pa_cons (pv 1) (pa_cons pe_int pa_nil))) pa_nil)) (pg_name (i := 4) sc_law.nd rfl (by first | exact Or.inl rfl | exact Or.inr rfl)) (pss_cons (ps_expr (pe_cal C_law_next hr (pa_cons (pv 1) pa_nil)))
      (pss_cons (ps_set (i := 5) sc_law.nd rfl (Or.inl rfl) (pe_cal C_law_line_drawn hr (pa_cons (pv 1) pa_nil)))
      (pss_one (ps_expr (pe_bm PySem.F.plainAttrs_list PySem.F.slot_list_append PySem.F.type_list_append mt_append (pv 3) (pa_cons (pe_ifTok op_eq (pe_cal C_law_draw hr (pa_cons (pv 1) (pa_cons pe_int pa_nil))) (CwR.pet_replC (pv 5)) (pv 5) rfl) pa_nil)))))))
      (pss_cons (ps_set (i := 6) sc_law.nd rfl (Or.inr rfl) (pe_cal C_law_read hr (pa_cons (pv 3) pa_nil)))
      (pss_cons (ps_if (pt_not (pt_val (pe_cal C_law_same hr (pa_cons (pe_cal C_read_policy hr (pa_cons (pe_callTy call_tuple_of (by rfl) N.tuple PyProof.Rows.boot_tuple (pa_cons (pv 3) pa_nil)) pa_nil)) (pa_cons (pv 6) pa_nil))))) (pss_one (ps_ret pe_bl)) pss_nil)
      (pss_cons (ps_for PassesOwn.never rfl (pi_range1 rfl N.range (pa_cons pe_int pa_nil)) (pg_name (i := 4) sc_law.nd rfl (by first | exact Or.inl rfl | exact Or.inr rfl)) (pss_cons (ps_expr (pe_cal C_law_next hr (pa_cons (pv 1) pa_nil)))
      (pss_cons (ps_setLc (i := 7) (own := [("k", 4)]) (by rfl) sc_law.nd rfl rfl (sw_true rfl rfl rfl (by decide +kernel)) (pi_range1 rfl N.range (pa_cons (pe_op op_add pe_int (pe_cal C_law_draw hr (pa_cons (pv 1) (pa_cons pe_int pa_nil)))) pa_nil)) (blkOk_by (own := [("k", 4)]) (N := ["script", "pool", "turn", "lines", "k", "line", "due", "segments", "pattern", "rows", "j", "told", "row"]) (sc := defScope s_law) (by decide +kernel)) (fun _ _ _ _ _ => (pg_name (i := 4) sc_law.nd rfl (by first | exact Or.inl rfl | exact Or.inr rfl))) (fun _ _ _ _ _ => pts_nil) (fun _ _ _ _ _ => (pe_cal C_law_pick hr (pa_cons (pv 1) (pa_cons (pe_lst (pa_cons pe_str (pa_cons pe_str (pa_cons pe_str (pa_cons pe_str pa_nil))))) pa_nil)))))
      (pss_cons (ps_set (i := 8) sc_law.nd rfl (Or.inl rfl) (pe_callTy call_tuple_of (by rfl) N.tuple PyProof.Rows.boot_tuple (pa_cons (pe_lc (own := [("k", 4)]) (by rfl) sc_law.nd (pi_range1 rfl N.range (pa_cons (pe_op op_add pe_int (pe_cal C_law_draw hr (pa_cons (pv 1) (pa_cons pe_int pa_nil)))) pa_nil)) (blkOk_by (own := [("k", 4)]) (N := ["script", "pool", "turn", "lines", "k", "line", "due", "segments", "pattern", "rows", "j", "told", "row"]) (sc := defScope s_law) (by decide +kernel)) (fun _ _ _ _ _ => (pg_name (i := 4) sc_law.nd rfl (by first | exact Or.inl rfl | exact Or.inr rfl))) (fun _ _ _ _ _ => pts_nil) (fun _ _ _ _ _ => (pe_cal C_law_pick hr (pa_cons (pv 1) (pa_cons (pe_lst (pa_cons pe_str (pa_cons pe_str (pa_cons pe_str (pa_cons pe_str (pa_cons pe_str pa_nil)))))) pa_nil))))) pa_nil)))
      (pss_one (ps_if (pt_not (pt_val (pe_cal C_law_same hr (pa_cons (pe_cal C_matches hr (pa_cons (pv 8) (pa_cons (pe_join pe_str (pv 7)) pa_nil))) (pa_cons (pe_cal C_law_along hr (pa_cons (pv 8) (pa_cons (pv 7) pa_nil))) pa_nil))))) (pss_one (ps_ret pe_bl)) pss_nil))))))
      (pss_one (ps_if (pt_cmpR op_eq (pe_ix ix_tup (pv 6) pe_int (fun _ _ => rfl)) pe_str (nomark _)) (pss_cons (ps_set (i := 9) sc_law.nd rfl (Or.inr rfl) (pe_lc (own := [("j", 10)]) (by rfl) sc_law.nd (pi_range1 rfl N.range (pa_cons (pe_cal C_law_draw hr (pa_cons (pv 1) (pa_cons pe_int pa_nil))) pa_nil)) (blkOk_by (own := [("j", 10)]) (N := ["script", "pool", "turn", "lines", "k", "line", "due", "segments", "pattern", "rows", "j", "told", "row"]) (sc := defScope s_law) (by decide +kernel)) (fun _ _ _ _ _ => (pg_name (i := 10) sc_law.nd rfl (Or.inl rfl))) (fun _ _ _ _ _ => pts_nil) (fun _ _ _ _ _ => (pe_lc (own := [("k", 4)]) (by rfl) sc_law.nd (pi_range1 rfl N.range (pa_cons (pe_op op_add pe_int (pe_cal C_law_draw hr (pa_cons (pv 1) (pa_cons pe_int pa_nil)))) pa_nil)) (blkOk_by (own := [("k", 4)]) (N := ["script", "pool", "turn", "lines", "k", "line", "due", "segments", "pattern", "rows", "j", "told", "row"]) (sc := relS _ (defScope s_law)) (by decide +kernel)) (fun _ _ _ _ _ => (pg_name (i := 4) sc_law.nd rfl (by first | exact Or.inl rfl | exact Or.inr rfl))) (fun _ _ _ _ _ => pts_nil) (fun _ _ _ _ _ => (pe_cal C_law_pick hr (pa_cons (pv 1) (pa_cons (pe_lst (pa_cons pe_str (pa_cons pe_str (pa_cons pe_str pa_nil)))) pa_nil))))))))
      (pss_cons (ps_set (i := 11) sc_law.nd rfl (Or.inl rfl) (pe_callTy call_tuple_of (by rfl) N.tuple PyProof.Rows.boot_tuple (pa_cons (pe_lc (own := [("k", 4)]) (by rfl) sc_law.nd (pi_range1 rfl N.range (pa_cons (pe_callB call_len_seq (by rfl) N.len PySem.boot_len (pa_cons (pe_ix ix_tup (pv 6) pe_int (fun _ _ => rfl)) pa_nil)) pa_nil)) (blkOk_by (own := [("k", 4)]) (N := ["script", "pool", "turn", "lines", "k", "line", "due", "segments", "pattern", "rows", "j", "told", "row"]) (sc := defScope s_law) (by decide +kernel)) (fun _ _ _ _ _ => (pg_name (i := 4) sc_law.nd rfl (by first | exact Or.inl rfl | exact Or.inr rfl))) (fun _ _ _ _ _ => (pts_one (pt_val (pe_callB (r := rAny K) (cr_any rfl) (by rfl) N.any PyProof.Rows.boot_any (pa_cons (pe_lc (own := [("row", 12)]) (by rfl) sc_law.nd (show PI _ _ _ (iList K _) from pi_list (pv 9)) (blkOk_by (own := [("row", 12)]) (N := ["script", "pool", "turn", "lines", "k", "line", "due", "segments", "pattern", "rows", "j", "told", "row"]) (sc := relS _ (defScope s_law)) (by decide +kernel)) (fun _ _ _ _ _ => (pg_name (i := 12) sc_law.nd rfl (Or.inl rfl))) (fun _ _ _ _ _ => pts_nil) (fun _ _ _ _ _ => (pe_cal C_law_along hr (pa_cons (pe_ix (r := rIxT K) ix_tup (pe_ix (r := rIxT K) ix_tup (pe_ix (r := rIxT K) ix_tup (pv 6) pe_int (fun _ _ => rfl)) (pv 4) (fun _ _ => rfl)) pe_int (fun _ _ => rfl)) (pa_cons (pv 12) pa_nil))))) pa_nil))))) (fun _ _ _ _ _ => (pv 4))) pa_nil)))
      (pss_one (ps_if (pt_not (pt_val (pe_cal C_law_same hr (pa_cons (pe_cal C_lines_for hr (pa_cons (pv 6) (pa_cons (pe_callTy call_tuple_of (by rfl) N.tuple PyProof.Rows.boot_tuple (pa_cons (pe_lc (own := [("row", 12)]) (by rfl) sc_law.nd (pi_list (pv 9)) (blkOk_by (own := [("row", 12)]) (N := ["script", "pool", "turn", "lines", "k", "line", "due", "segments", "pattern", "rows", "j", "told", "row"]) (sc := defScope s_law) (by decide +kernel)) (fun _ _ _ _ _ => (pg_name (i := 12) sc_law.nd rfl (Or.inl rfl))) (fun _ _ _ _ _ => pts_nil) (fun _ _ _ _ _ => (show PE _ _ (tM1 (rJoinS K) _ _) from (pe_join pe_str (pv 12))))) pa_nil)) pa_nil))) (pa_cons (pv 11) pa_nil))))) (pss_one (ps_ret pe_bl)) pss_nil)))) pss_nil))))))))
      (pss_one (ps_ret pe_bl))))), ?_⟩
    refine q_asgL (el_cal (ea_cons (ev_v rfl) ea_nil) fun H1 e1 => ⟨a, ns, rfl, ex_l e1 hS, rfl⟩) fun p H1 hp e1 h1 => ?_
    have hP1 : Pool K H1 p a ns := ⟨0, _, 0, h1, ex_l e1 hS⟩
    refine q_when (b := false) (et_not (a := true) (et_B fun H2 e2 Q' q' => ⟨rfl, fun H3 e3 => q' H3 e3⟩)) (fun z => nomatch z) fun _ H2 e2 => ?_
    refine q_forR1N (n := 4) (ea_cons (ev_cn 4) ea_nil) (by decide) (fun i σ H' => Pool K H' p a ns ∧ ∃ y2 y3 y4 y5 y6 y7 y8 y9 y10 y11 y12, σ = [some (.ref a), some (.ref p), y2, y3, y4, y5, y6, y7, y8, y9, y10, y11, y12]) (fun H3 e3 => ⟨(hP1.ex e2).ex e3, none, none, none, none, none, none, none, none, none, none, none, rfl⟩) ?_ fun σ H' _ => r_ret (r_c (q _))
    rintro i σ H3 hi ⟨hP3, y2, y3, y4, y5, y6, y7, y8, y9, y10, y11, y12, rfl⟩
    refine q_asgL (el_lst ea_nil (by decide)) fun lp H4 hlp e4 h4 => ?_
    have hP4 := hP3.ex e4
    have nlp : lp ≠ p := hP3.ne hlp
    refine q_forG 6 (by decide) (fun R h => r_zero (n := 7) hP4 rfl (by decide) (by decide) R h) (fun ii σ H' => G K p a ns H3 H' ∧ ∃ (ls : List L) (y4 y5 : Option V), H' lp = some (.lst (txs ls)) ∧ ls.length = ii ∧ (∀ l ∈ ls, l.length ≤ 182) ∧ σ = [some (.ref a), some (.ref p), some (.int (i : Nat)), some (.ref lp), y4, y5, y6, y7, y8, y9, y10, y11, y12]) (fun H5 g5 => ⟨G.exL e4 g5, [], y4, y5, g5.1 _ _ nlp h4, rfl, fun l h => absurd h (by simp), rfl⟩) ?_ ?_
    · rintro i2 σ H5 hi2 ⟨g35, ls, z4, z5, h5, hl5, hls, rfl⟩
      refine r_next rfl g35.2 fun H6 g6 => ?_
      refine r_asg ((ea_cons (ev_v rfl) ea_nil) H6 (Ex.refl H6) _ fun H7 e7 => ⟨p, a, ns, rfl, g6.2.ex e7, fun l H8 hl g8 => ?_⟩)
      have g58 : G K p a ns H5 H8 := (g6.exR e7).trans g8
      have h8 := g58.1 _ _ nlp h5
      refine r_dropE (r_bm ((ev_v (v := .ref lp) rfl) H8 (Ex.refl H8) _ fun H9 e9 => ⟨.inl ⟨rfl, _, sq_of (e9 _ _ h8)⟩, ?_⟩))
      obtain ⟨ls0, hls0⟩ : ∃ ls0 : List L, ls0 = ls := ⟨ls, rfl⟩
      have fin : ∀ (l' : L) (H10 : Hp), l'.length ≤ 182 → G K p a ns H9 H10 → (G K p a ns H3 (upd H10 lp (.lst (txs ls ++ [.str (tx l')]))) ∧ ∃ (ls : List L) (y4 y5 : Option V), (upd H10 lp (.lst (txs ls0 ++ [.str (tx l')]))) lp = some (.lst (txs ls)) ∧ ls.length = i2 + 1 ∧ (∀ l ∈ ls, l.length ≤ 182) ∧ (([some (.ref a), some (.ref p), some (.int (i : Nat)), some (.ref lp), z4, z5, y6, y7, y8, y9, y10, y11, y12].set 4 (some (V.int (i2 : Nat)))).set 5 (some (.str (tx l)))) = [some (.ref a), some (.ref p), some (.int (i : Nat)), some (.ref lp), y4, y5, y6, y7, y8, y9, y10, y11, y12]) := fun l' H10 hl' g => by
        have g310 : G K p a ns H3 H10 := ((g35.trans g58).exR e9).trans g
        refine ⟨G.new hP3 g310 hlp, ls ++ [l'], _, _, by rw [upd_same, txs_app, hls0]; rfl, by rw [List.length_append, hl5]; rfl, fun x hx => ?_, rfl⟩
        rw [List.mem_append, List.mem_singleton] at hx
        rcases hx with hx | rfl
        · exact hls x hx
        · exact hl'
      subst hls0
      have hP9 := g58.2.ex e9
      refine r_cons (r_if (r_test (r_op (r_draw hP9 (ea_cons (ev_v rfl) (ea_cons (ev_cn 6) ea_nil)) (by decide) (by decide) fun v H10 hv g10 => ?_))))
      refine r_c (rv_eq (x := .int (v : Int)) (y := .int 0) rfl H10 (Ex.refl H10) _ fun H11 e11 => ⟨_, rfl, ?_⟩)
      have g11 := g10.exR e11
      have hl11 := g11.1 _ _ nlp (e9 _ _ h8)
      by_cases hv0 : (V.int (v : Int)) = .int 0
      · rw [decide_eq_true hv0]
        refine iteT (ev_v (v := .str (tx l)) rfl H11 (Ex.refl H11) _ fun H12 e12 => ⟨tx l, rfl, ?_, ?_⟩)
        · rw [tx_len]
          show _ + _ * 2 ≤ _
          omega
        · have hrl := TK.replace_len (tx l) " " "  "
          rw [tx_len] at hrl
          have hrl' : (Txt.replace (tx l) " " "  ").length ≤ l.length + (l.length + 1) * 2 := hrl
          refine r_nil ⟨lp, txs ls0, _, rfl, rfl, e12 _ _ hl11, sz_lt (by rw [txs_len]; omega), fin (Txt.replace (tx l) " " "  ").cps.toList H12 (by show (Txt.replace (tx l) " " "  ").cps.toList.length ≤ _; rw [Array.length_toList]; show (Txt.replace (tx l) " " "  ").length ≤ _; omega) (g11.exR e12)⟩
      · rw [decide_eq_false hv0]
        refine iteF (ev_v (v := .str (tx l)) rfl H11 (Ex.refl H11) _ fun H12 e12 => ?_)
        exact r_nil ⟨lp, txs ls0, _, rfl, rfl, e12 _ _ hl11, sz_lt (by rw [txs_len]; omega), fin l H12 (by omega) (g11.exR e12)⟩
    · rintro m σ H5 hm6 ⟨g35, ls, z4, z5, h5, hl5, hls, rfl⟩
      have hL : Lim ls := by
        have := sz_bound 182 ls hls
        have h2 : ls.length * (182 + 1) ≤ 6 * (182 + 1) := Nat.mul_le_mul_right _ (by omega)
        exact ⟨by omega, fun l hl => by have := hls l hl; omega⟩
      obtain ⟨hwid, hhei⟩ := pol_wid hL
      refine r_asg ((ea_cons (ev_v rfl) ea_nil) H5 (Ex.refl H5) _ fun H6 e6 => ⟨lp, ls, rfl, sq_of (e6 _ _ h5), hL, fun dv H7 e7 hrd => ?_⟩)
      have h7 := (e6.trans e7) _ _ h5
      have g37 := g35.exR (e6.trans e7)
      refine q_when (b := false) (et_not (a := true) (et_B (ev_same (d := polD (readF s0 0 ls)) (ed_read (eu_tupV (ev_v rfl) (sq_of h7)) hL) (evd_v (ev_v rfl) hrd) hwid hhei))) (fun z => nomatch z) fun _ H8 e8 => ?_
      have hrd8 := hrd.mono e8
      have g38 := g37.exR e8
      have hnol := pol_nol hL
      have hrows := fun s' h => pol_rows hL (s' := s') h
      generalize hR : readF s0 0 ls = R at hwid hhei hrd8 hnol
      have keepD : ∀ {H' : Hp}, G K p a ns H8 H' → Rep H' dv (polD R) := fun g => Rep.keepT (fun b us hb => g.1 b _ (fun e => by
        obtain ⟨pl, r, f, hpp, _⟩ := g38.2
        rw [e, hpp] at hb
        exact nomatch Option.some.inj hb) hb) hnol hrd8
      refine q_forR1N (n := 4) (ea_cons (ev_cn 4) ea_nil) (by decide) (fun ii σ H' => G K p a ns H8 H' ∧ ∃ y4 y7 y8, σ = [some (.ref a), some (.ref p), some (.int (i : Nat)), some (.ref lp), y4, z5, some dv, y7, y8, y9, y10, y11, y12]) (fun H9 e9 => ⟨G.ex e9 g38.2, z4, y7, y8, rfl⟩) ?_ ?_
      · rintro i2 σ H9 hi2 ⟨g9, x4, x7, x8, rfl⟩
        refine r_next rfl g9.2 fun H10 g10 => ?_
        refine r_asg (r_picks 5 47 1 4 (by decide) g10.2 (fun R h => r_one (n := 4) g10.2 rfl (by decide) (by decide) R h) (fun _ => rfl) (fun _ => rfl) (fun x H1 => el_lst (ea_cons ev_c (ea_cons ev_c (ea_cons ev_c (ea_cons ev_c ea_nil)))) (by show 4 ≤ 100000; decide)) (fun z => nomatch z) (by show 4 ≤ 1000; decide) (by decide +kernel) fun sp segs H11 hs1 hs4 hsn h11 hsl hsc g11 => ?_)
        refine r_asg (r_cb (r_cons (r_picks 5 0 1 4 (by decide) g11.2 (fun R h => r_one (n := 4) g11.2 rfl (by decide) (by decide) R h) (fun _ => rfl) (fun _ => rfl) (fun x H1 => el_lst (ea_cons ev_c (ea_cons ev_c (ea_cons ev_c (ea_cons ev_c (ea_cons ev_c ea_nil))))) (by show 5 ≤ 100000; decide)) (fun z => nomatch z) (by show 5 ≤ 1000; decide) (by decide +kernel) fun Dl ps H12 hp1 hp4 hpn h12 hpl hpc g12 => r_nil ⟨Dl, txs ps, rfl, .inl ⟨sq_of h12, fun tp htp => ?_⟩⟩)))
        have e12 : Ex H12 (upd H12 tp (.tup (txs ps))) := Ex.new htp
        have s12 : (upd H12 tp (.tup (txs ps))) sp = some (.lst (txs segs)) := e12 _ _ (g12.1 _ _ (g10.2.ne hsn) h11)
        have hjl := join_len 47 segs
        have hjs := sz_bound 5 segs hsl
        have hjm : segs.length * (5 + 1) ≤ 4 * (5 + 1) := Nat.mul_le_mul_right _ hs4
        have hsne : segs ≠ [] := fun e => by rw [e] at hs1; exact absurd hs1 (by decide)
        refine s_when (b := false) (et_not (a := true) (et_B (ev_same (d := .bl (alongF ps segs)) (evd_v (ev_cal (ea_cons (ev_v rfl) (ea_cons (ev_joinT (K := K) (c := 47) (ps := segs) (ev_cs [47] (by decide +kernel)) (evp_k (ev_v rfl) (sq_of s12)) (by omega)) ea_nil)) fun H13 e13 => ⟨tp, ps, joinT 47 segs, rfl, st_of (e13 _ _ upd_same), by omega, by rw [split_join hsne hsc]⟩) (.bl _)) (evd_v (ev_cal (ea_cons (ev_v rfl) (ea_cons (ev_v rfl) ea_nil)) fun H13 e13 => ⟨tp, sp, ps, segs, rfl, st_of (e13 _ _ upd_same), sq_of (e13 _ _ s12), by omega, by omega, rfl⟩) (.bl _)) (by rw [Wid] <;> (first | trivial | (intros; contradiction))) (by show 0 < 6; decide)))) (fun z => nomatch z) fun _ H13 e13 => ⟨((((g9.trans g10).trans g11).trans g12).exR e12).exR e13, _, _, _, rfl⟩
      · rintro σ H9 ⟨g9, x4, x7, x8, rfl⟩
        have hrd9 := keepD g9
        cases R with
        | inl x =>
          obtain ⟨kk, e⟩ := x
          obtain ⟨da, us, rfl, hda⟩ := tup_at hrd9
          exact s_when (b := false) (et_test (ev_is (ev_op (ev_ixT (j := 0) (ev_v rfl) (ev_cn 0) (st_of hda) rfl) (ev_cs [112, 111, 108, 105, 99, 121] (by decide +kernel)) (rv_eq rfl)) (by rw [str_dec]; rfl))) (fun z => nomatch z) fun _ H10 e10 => ⟨(g38.trans g9).2.ex e10, _, _, _, _, _, _, _, _, _, _, _, rfl⟩
        | inr s' =>
          have hll := lim_len ls
          have hl1 := hL.1
          have hok : (∀ d ∈ s'.out, okRow d) ∧ s'.out.length ≤ 1000 := by
            rcases hrows s' hR with h | h
            · exact h
            · exact absurd hl5 (by omega)
          obtain ⟨da, d1, v0, us, rfl, hda, hd1, hus, hv0⟩ := pol_at hrd9
          cases hv0
          have hul := hus.len
          refine s_when (b := true) (et_test (ev_is (ev_op (ev_ixT (j := 0) (ev_v rfl) (ev_cn 0) (st_of hda) rfl) (ev_cs [112, 111, 108, 105, 99, 121] (by decide +kernel)) (rv_eq rfl)) (by rw [str_dec]; rfl))) (fun _ H10 e10 => ?_) fun z => nomatch z
          have g10 := g9.exR e10
          refine r_asg (r_lcG (rowP p) 0 2 (by decide) rowP_hm g10.2 (fun R h => r_zero (n := 3) g10.2 rfl (by decide) (by decide) R h) (fun _ => rfl) (fun x H1 Q' g hQ => r_picks 5 47 1 3 (by decide) g.2 (fun R h => r_one (n := 3) g.2 rfl (by decide) (by decide) R h) (fun _ => rfl) (fun _ => rfl) (fun x H1 => el_lst (ea_cons ev_c (ea_cons ev_c (ea_cons ev_c ea_nil))) (by show 3 ≤ 100000; decide)) (fun z => nomatch z) (by show 3 ≤ 1000; decide) (by decide +kernel) fun Dl ws H2 hw1 hw3 hwn h2 hwl hwc g2 => hQ (.ref Dl) H2 (fun b hb hbp => ⟨Dl, ws, rfl, g.2.ne hwn, fun e => hb (by rw [← e]; exact hwn), h2, fun e => (by rw [e] at hw1; exact absurd hw1 (by decide)), hw3, hwl, hwc⟩) g2) fun rp xs H11 _ hx2 hrn h11 hxs g11 => ?_)
          have gx := g10.trans g11
          have hrd11 := keepD gx
          obtain ⟨da2, d2, v2, us2, hde, hda2, hd2, hus2, _⟩ := pol_at hrd11
          cases hde
          have hul2 := hus2.len
          have hrow : ∀ x ∈ xs, ∃ b, x = .ref b ∧ b ≠ p ∧ H11 b = some (.lst (txs (rowF H11 x))) ∧ rowF H11 x ≠ [] ∧ (rowF H11 x).length ≤ 3 ∧ (∀ p ∈ rowF H11 x, p.length ≤ 5) ∧ ∀ p ∈ rowF H11 x, 47 ∉ p := fun x hx => rowP_row (hxs x hx)
          let parts : List (List L) := s'.out.map partsD
          let ff : Nat → Bool := fun k => (xs.map (rowF H11)).any fun ws => alongF (parts.getD k []) ws
          refine q_asgU (xs := nats ((List.range s'.out.length).filter ff)) (eu_tupL (el_is (el_lcR1 ff (fun k => .int (k : Int)) (n := ((s'.out.length : Nat) : Int)) (ea_cons (ev_is (ev_lenT (ev_ixT (j := 1) (ev_v rfl) (ev_cn 1) (st_of hda2) rfl) (st_of hd2)) (by rw [hul2])) ea_nil) (by omega) (fun _ => rfl) (fun k H12 e12 hk => et_B (ev_is (ev_any (bs := (xs.map (rowF H11)).map fun ws => alongF (parts.getD k []) ws) ?_) (by rw [List.any_map]; rfl))) fun k H12 e12 hk _ => ev_v rfl) (by rw [Int.toNat_natCast]; rfl))) fun tp H12 htp e12 h12 => ?_
          · obtain ⟨d, hdx⟩ : ∃ d, s'.out[k]? = some d := ⟨_, List.getElem?_eq_getElem (by omega)⟩
            obtain ⟨vr, hvx, hrv⟩ := hus2.get hdx
            obtain ⟨ar, br, rr, rfl, har, hbr, hpl⟩ := row_at hrv ((hok.1 d (List.mem_of_getElem? hdx)).row)
            have hgd : parts.getD k [] = partsD d := by
              show (s'.out.map partsD).getD k [] = _
              rw [List.getD_eq_getElem?_getD, List.getElem?_map, hdx]
              rfl
            have hbs : ((xs.map (rowF H11)).map fun ws => alongF (parts.getD k []) ws).map V.bl = (xs.filter fun _ => true).map (fun x => V.bl (alongF (partsD d) (rowF H11 x))) := by
              rw [hgd, map_bls (fun x => alongF (partsD d) (rowF H11 x)), List.map_map (f := rowF H11)]
              rfl
            rw [hbs]
            refine el_lcA (fun _ => true) (fun x => .bl (alongF (partsD d) (rowF H11 x))) (ev_v rfl) (sq_of (e12 _ _ h11)) (by omega) (fun _ => rfl) (fun x H13 e13 hx => et_yes) fun x H13 e13 hx _ => ?_
            obtain ⟨b, rfl, _, hb, _, hb3, _, _⟩ := hrow x hx
            have E13 := e12.trans e13
            exact ev_cal (ea_cons (ev_ixT (j := 0) (ev_ixT (j := k) (ev_ixT (j := 1) (ev_v rfl) (ev_cn 1) (st_of (E13 _ _ hda2)) rfl) (ev_v rfl) (st_of (E13 _ _ hd2)) hvx) (ev_cn 0) (st_of (E13 _ _ har)) rfl) (ea_cons (ev_v rfl) ea_nil)) fun H14 e14 => ⟨br, b, partsD d, rowF H11 (.ref b), rfl, st_of ((E13.trans e14) _ _ hbr), sq_of ((E13.trans e14) _ _ hb), by omega, by omega, rfl⟩
          have htl : ((List.range s'.out.length).filter ff).length ≤ 1000 := by
            have := List.length_filter_le ff (List.range s'.out.length)
            rw [List.length_range] at this
            omega
          obtain ⟨hw1, hw2⟩ := wid_ints (l := (List.range s'.out.length).filter ff) (by omega)
          have hforj : forF (s'.out.map partsD) ((xs.map (rowF H11)).map (joinT 47)) = (List.range s'.out.length).filter ff := by
            rw [for_join fun ws hws => ?_, List.length_map]
            obtain ⟨x, hx, rfl⟩ := List.mem_map.mp hws
            obtain ⟨b, _, _, _, h1, _, _, h2⟩ := hrow x hx
            exact ⟨h1, h2⟩
          refine s_when (b := false) (et_not (a := true) (et_B (ev_same (d := intsD ((List.range s'.out.length).filter ff)) (fun H13 e13 Q' q' => r_call (r_cons (ev_v (v := .ref da) rfl H13 (Ex.refl H13) _ fun H14 e14 => r_cons (eu_tupL (xs := txs ((xs.map (rowF H11)).map (joinT 47))) (el_is (el_lcA (xs := xs) (fun _ => true) (fun x => .str (tx (joinT 47 (rowF H11 x)))) (ev_v rfl) (sq_of (((e12.trans e13).trans e14) _ _ h11)) (by omega) (fun _ => rfl) (fun x H15 e15 hx => et_yes) fun x H15 e15 hx _ => ?_) ?_) H14 (Ex.refl H14) _ fun pp H15 hpp e15 h15 => r_nil ⟨.ref da, pp, _, s'.out, (xs.map (rowF H11)).map (joinT 47), rfl, hrd11.mono (((e12.trans e13).trans e14).trans e15), fun d hd => (hok.1 d hd).row, st_of h15, fun l hl => ?_, hok.2, by rw [List.length_map, List.length_map]; omega, fun t H16 e16 ht => q' (.ref t) H16 ((e14.trans e15).trans e16) (.tup (by rw [ht, hforj]) (reps_nats _ _))⟩)))) (evd_v (ev_v rfl) (.tup h12 (reps_nats _ _))) hw1 hw2))) (fun z => nomatch z) fun _ H13 e13 => ⟨(((g38.trans gx).exR e12).exR e13).2, _, _, _, _, _, _, _, _, _, _, _, rfl⟩
          · obtain ⟨b, rfl, _, hb, _, hb3, hb5, _⟩ := hrow x hx
            have h1 := sz_bound 5 _ hb5
            have h2 : (rowF H11 (.ref b)).length * (5 + 1) ≤ 3 * (5 + 1) := Nat.mul_le_mul_right _ hb3
            exact ev_joinT (K := K) (c := 47) (ps := rowF H11 (.ref b)) (ev_cs [47] (by decide +kernel)) (evp_k (ev_v rfl) (sq_of ((((e12.trans e13).trans e14).trans e15) _ _ hb))) (by omega)
          · rw [map_strs (fun x => joinT 47 (rowF H11 x)) xs, List.map_map]
            rfl
          · rw [List.map_map] at hl
            obtain ⟨x, hx, rfl⟩ := List.mem_map.mp hl
            obtain ⟨b, rfl, _, hb, _, hb3, hb5, _⟩ := hrow x hx
            have h1 := sz_bound 5 _ hb5
            have h2 : (rowF H11 (.ref b)).length * (5 + 1) ≤ 3 * (5 + 1) := Nat.mul_le_mul_right _ hb3
            have h3 := join_len 47 (rowF H11 (.ref b))
            show (joinT 47 (rowF H11 (.ref b))).length ≤ 500
            omega
end
end K70

set_option Elab.async false
set_option linter.all false
set_option maxRecDepth 100000
set_option maxHeartbeats 4000000
namespace K70
open PySem PySem.Spec PyProof.Rows L2 Evl My
theorem all_mk {l : PySem.W.OpenLaw} {w : World} {K : PySem.W.Frag} {h : Heap} {mg : Str → Option Value} {fa C : Addr} (X : K.In h) (G : h.Ns mainGlobals mg) (hfa : mg "law" = some (.ref fa))
    (aC : PySem.W.nsIn K mainGlobals "PolicyReader" = some (some (.ref C))) (pg : PySem.W.plainGet K C Str.empty = true) (hd : PySem.W.hasDictIn K C = true) (po : PySem.W.plainOver K C = true) (sa : PySem.W.findIn K (.ref C) "__setattr__" = some (some (.builtin "object.__setattr__"))) (mk : PySem.W.makesIn K C = true) (kc : PySem.W.keepIn K (.ref C) = true)
    (n_groups : PySem.W.findIn K (.ref C) "groups" = some none)
    (n_used : PySem.W.findIn K (.ref C) "used" = some none)
    (n_lines : PySem.W.findIn K (.ref C) "lines" = some none)
    (h_law_mixed : HasF K "_law_mixed" s_law_mixed)
    (h_law_rest : HasF K "_law_rest" s_law_rest)
    (h_law_pool : HasF K "_law_pool" s_law_pool)
    (h_words_in : HasF K "words_in" s_words_in)
    (h_made_of : HasF K "made_of" s_made_of)
    (h_is_word : HasF K "is_word" s_is_word)
    (h_PolicyReader_people_of : HasM K C "people_of" "PolicyReader.people_of" s_PolicyReader_people_of)
    (h_PolicyReader_note : HasM K C "note" "PolicyReader.note" s_PolicyReader_note)
    (h_PolicyReader_group : HasM K C "group" "PolicyReader.group" s_PolicyReader_group)
    (h_is_segment : HasF K "is_segment" s_is_segment)
    (h_is_pattern : HasF K "is_pattern" s_is_pattern)
    (h_number_in : HasF K "number_in" s_number_in)
    (h_PolicyReader_needs : HasM K C "needs" "PolicyReader.needs" s_PolicyReader_needs)
    (h_PolicyReader_take : HasM K C "take" "PolicyReader.take" s_PolicyReader_take)
    (h_PolicyReader___init__ : HasM K C "__init__" "PolicyReader.__init__" s_PolicyReader___init__)
    (h_read_policy : HasF K "read_policy" s_read_policy)
    (h_gone_along : HasF K "gone_along" s_gone_along)
    (h_matches : HasF K "matches" s_matches)
    (h_law_same : HasF K "_law_same" s_law_same)
    (h_law_bounds : HasF K "_law_bounds" s_law_bounds)
    (h_law_draw : HasF K "_law_draw" s_law_draw)
    (h_law_pick : HasF K "_law_pick" s_law_pick)
    (h_law_next : HasF K "_law_next" s_law_next)
    (h_law_line_drawn : HasF K "_law_line_drawn" s_law_line_drawn)
    (h_law_is_word : HasF K "_law_is_word" s_law_is_word)
    (h_law_is_part : HasF K "_law_is_part" s_law_is_part)
    (h_law_number : HasF K "_law_number" s_law_number)
    (h_law_different : HasF K "_law_different" s_law_different)
    (h_law_people : HasF K "_law_people" s_law_people)
    (h_law_read : HasF K "_law_read" s_law_read)
    (h_law_along : HasF K "_law_along" s_law_along)
    (h_lines_for : HasF K "lines_for" s_lines_for)
    (h_law : HasF K "law" s_law)
    (z_len : PySem.W.nsIn K mainGlobals "len" = some none)
    (z_list : PySem.W.nsIn K mainGlobals "list" = some none)
    (z_int : PySem.W.nsIn K mainGlobals "int" = some none)
    (z_isinstance : PySem.W.nsIn K mainGlobals "isinstance" = some none)
    (z_range : PySem.W.nsIn K mainGlobals "range" = some none)
    (z_zip : PySem.W.nsIn K mainGlobals "zip" = some none)
    (z_all : PySem.W.nsIn K mainGlobals "all" = some none)
    (z_any : PySem.W.nsIn K mainGlobals "any" = some none)
    (z_tuple : PySem.W.nsIn K mainGlobals "tuple" = some none)
    (z_str : PySem.W.nsIn K mainGlobals "str" = some none)
    (z_dict : PySem.W.nsIn K mainGlobals "dict" = some none)
    (z_bool : PySem.W.nsIn K mainGlobals "bool" = some none)
    (z_sorted : PySem.W.nsIn K mainGlobals "sorted" = some none)
    (z_min : PySem.W.nsIn K mainGlobals "min" = some none)
    (z_max : PySem.W.nsIn K mainGlobals "max" = some none)
    (z_set : PySem.W.nsIn K mainGlobals "set" = some none)
    (z_enumerate : PySem.W.nsIn K mainGlobals "enumerate" = some none)
    (z_sum : PySem.W.nsIn K mainGlobals "sum" = some none)
    (i_LONGEST_WORD : HasI K "LONGEST_WORD" 12)
    (i_LONGEST_SEGMENT : HasI K "LONGEST_SEGMENT" 20)
    (i_MOST_PARTS : HasI K "MOST_PARTS" 12)
    (s_LETTERS : HasS K "LETTERS" (tx letL))
    (s_DIGITS_names : HasS K "DIGITS_names" (tx digL))
    (s_DIGITS_policy : HasS K "DIGITS_policy" (tx digL)) :
    ∃ fd : FuncData, (∀ (s : Shared) (v : Value), BindsTo s fd ⟨[v], []⟩ [("script", v)]) ∧ ∀ base : Heap, K.In base → base.Ns mainGlobals mg → FnOk l.prog w K mg base CX0 15 fa fd ["script"] (sp_law K) := by
  have N : Nb mg := ⟨PySem.W.mg_none_of X G z_len, PySem.W.mg_none_of X G z_list, PySem.W.mg_none_of X G z_int, PySem.W.mg_none_of X G z_isinstance, PySem.W.mg_none_of X G z_range, PySem.W.mg_none_of X G z_zip, PySem.W.mg_none_of X G z_all, PySem.W.mg_none_of X G z_any, PySem.W.mg_none_of X G z_tuple, PySem.W.mg_none_of X G z_str, PySem.W.mg_none_of X G z_dict, PySem.W.mg_none_of X G z_bool, PySem.W.mg_none_of X G z_sorted, PySem.W.mg_none_of X G z_min, PySem.W.mg_none_of X G z_max, PySem.W.mg_none_of X G z_set, PySem.W.mg_none_of X G z_enumerate, PySem.W.mg_none_of X G z_sum⟩
  have g_LONGEST_WORD := i_LONGEST_WORD.gi X G
  have g_LONGEST_SEGMENT := i_LONGEST_SEGMENT.gi X G
  have g_MOST_PARTS := i_MOST_PARTS.gi X G
  have g_LETTERS := s_LETTERS.gs X G
  have g_DIGITS_names := s_DIGITS_names.gs X G
  have g_DIGITS_policy := s_DIGITS_policy.gs X G
  have T : RT K mg C := ⟨⟨pg, hd, po, sa⟩, n_groups, n_used, n_lines⟩
  obtain ⟨f_law_mixed, fd_law_mixed, F_law_mixed, m_law_mixed⟩ := h_law_mixed.get X G
  obtain ⟨f_law_rest, fd_law_rest, F_law_rest, m_law_rest⟩ := h_law_rest.get X G
  obtain ⟨f_law_pool, fd_law_pool, F_law_pool, m_law_pool⟩ := h_law_pool.get X G
  obtain ⟨f_words_in, fd_words_in, F_words_in, m_words_in⟩ := h_words_in.get X G
  obtain ⟨f_made_of, fd_made_of, F_made_of, m_made_of⟩ := h_made_of.get X G
  obtain ⟨f_is_word, fd_is_word, F_is_word, m_is_word⟩ := h_is_word.get X G
  obtain ⟨f_PolicyReader_people_of, fd_PolicyReader_people_of, F_PolicyReader_people_of, m_PolicyReader_people_of⟩ := h_PolicyReader_people_of.get
  obtain ⟨f_PolicyReader_note, fd_PolicyReader_note, F_PolicyReader_note, m_PolicyReader_note⟩ := h_PolicyReader_note.get
  obtain ⟨f_PolicyReader_group, fd_PolicyReader_group, F_PolicyReader_group, m_PolicyReader_group⟩ := h_PolicyReader_group.get
  obtain ⟨f_is_segment, fd_is_segment, F_is_segment, m_is_segment⟩ := h_is_segment.get X G
  obtain ⟨f_is_pattern, fd_is_pattern, F_is_pattern, m_is_pattern⟩ := h_is_pattern.get X G
  obtain ⟨f_number_in, fd_number_in, F_number_in, m_number_in⟩ := h_number_in.get X G
  obtain ⟨f_PolicyReader_needs, fd_PolicyReader_needs, F_PolicyReader_needs, m_PolicyReader_needs⟩ := h_PolicyReader_needs.get
  obtain ⟨f_PolicyReader_take, fd_PolicyReader_take, F_PolicyReader_take, m_PolicyReader_take⟩ := h_PolicyReader_take.get
  obtain ⟨f_PolicyReader___init__, fd_PolicyReader___init__, F_PolicyReader___init__, m_PolicyReader___init__⟩ := h_PolicyReader___init__.get
  obtain ⟨f_read_policy, fd_read_policy, F_read_policy, m_read_policy⟩ := h_read_policy.get X G
  obtain ⟨f_gone_along, fd_gone_along, F_gone_along, m_gone_along⟩ := h_gone_along.get X G
  obtain ⟨f_matches, fd_matches, F_matches, m_matches⟩ := h_matches.get X G
  obtain ⟨f_law_same, fd_law_same, F_law_same, m_law_same⟩ := h_law_same.get X G
  obtain ⟨f_law_bounds, fd_law_bounds, F_law_bounds, m_law_bounds⟩ := h_law_bounds.get X G
  obtain ⟨f_law_draw, fd_law_draw, F_law_draw, m_law_draw⟩ := h_law_draw.get X G
  obtain ⟨f_law_pick, fd_law_pick, F_law_pick, m_law_pick⟩ := h_law_pick.get X G
  obtain ⟨f_law_next, fd_law_next, F_law_next, m_law_next⟩ := h_law_next.get X G
  obtain ⟨f_law_line_drawn, fd_law_line_drawn, F_law_line_drawn, m_law_line_drawn⟩ := h_law_line_drawn.get X G
  obtain ⟨f_law_is_word, fd_law_is_word, F_law_is_word, m_law_is_word⟩ := h_law_is_word.get X G
  obtain ⟨f_law_is_part, fd_law_is_part, F_law_is_part, m_law_is_part⟩ := h_law_is_part.get X G
  obtain ⟨f_law_number, fd_law_number, F_law_number, m_law_number⟩ := h_law_number.get X G
  obtain ⟨f_law_different, fd_law_different, F_law_different, m_law_different⟩ := h_law_different.get X G
  obtain ⟨f_law_people, fd_law_people, F_law_people, m_law_people⟩ := h_law_people.get X G
  obtain ⟨f_law_read, fd_law_read, F_law_read, m_law_read⟩ := h_law_read.get X G
  obtain ⟨f_law_along, fd_law_along, F_law_along, m_law_along⟩ := h_law_along.get X G
  obtain ⟨f_lines_for, fd_lines_for, F_lines_for, m_lines_for⟩ := h_lines_for.get X G
  obtain ⟨f0, oc, od, kV, dc, pm, an, cd, ct, sl, a0, l0, c0, k0⟩ := h_law
  have e := hfa.symm.trans (PySem.W.mg_of X G a0)
  cases e
  have F_law := fun_mk (st := s_law) l0 c0 k0
  refine ⟨PySem.W.fnOf "law" "law" (defArgs s_law) (defBody s_law) (defScope s_law) .none kV dc pm an cd ct, fun s v => .of_eq rfl, fun base _ _ => ?_⟩
  have C_law_mixed : Cal l.prog w K mg base 1 "_law_mixed" ["number", "place"] (spV ok_mixed_) := ⟨f_law_mixed, fd_law_mixed, fn_mixed_ (k := 0) F_law_mixed N, F_law_mixed.binds (ps := ["number", "place"]) (fun _ _ _ _ _ _ us hl => match us, hl with | [_, _], _ => rfl), F_law_mixed.kp, m_law_mixed⟩
  have C_law_rest : Cal l.prog w K mg base 2 "_law_rest" ["script", "place", "fills"] (spV (ok_rest_ K)) := ⟨f_law_rest, fd_law_rest, fn_rest_ (k := 1) F_law_rest N C_law_mixed, F_law_rest.binds (ps := ["script", "place", "fills"]) (fun _ _ _ _ _ _ us hl => match us, hl with | [_, _, _], _ => rfl), F_law_rest.kp, m_law_rest⟩
  have C_law_pool : Cal l.prog w K mg base 3 "_law_pool" ["script"] (spL (ok_pool_ K)) := ⟨f_law_pool, fd_law_pool, fn_pool_ (k := 2) F_law_pool N C_law_rest, F_law_pool.binds (ps := ["script"]) (fun _ _ _ _ _ _ us hl => match us, hl with | [_], _ => rfl), F_law_pool.kp, m_law_pool⟩
  have C_words_in : Cal l.prog w K mg base 1 "words_in" ["line"] (spL ok_words_in) := ⟨f_words_in, fd_words_in, fn_words_in (k := 0) F_words_in N, F_words_in.binds (ps := ["line"]) (fun _ _ _ _ _ _ us hl => match us, hl with | [_], _ => rfl), F_words_in.kp, m_words_in⟩
  have C_made_of : Cal l.prog w K mg base 1 "made_of" ["value", "signs", "most"] (spV ok_made_of) := ⟨f_made_of, fd_made_of, fn_made_of (k := 0) F_made_of N, F_made_of.binds (ps := ["value", "signs", "most"]) (fun _ _ _ _ _ _ us hl => match us, hl with | [_, _, _], _ => rfl), F_made_of.kp, m_made_of⟩
  have C_is_word : Cal l.prog w K mg base 2 "is_word" ["value"] (spV (ok_is wordP)) := ⟨f_is_word, fd_is_word, fn_is_word (k := 1) F_is_word N g_DIGITS_names g_LETTERS g_LONGEST_WORD C_made_of, F_is_word.binds (ps := ["value"]) (fun _ _ _ _ _ _ us hl => match us, hl with | [_], _ => rfl), F_is_word.kp, m_is_word⟩
  have M_PolicyReader_people_of : MCal l.prog w K mg base 1 C "people_of" ["self", "words"] (sp_people K C) := ⟨f_PolicyReader_people_of, fd_PolicyReader_people_of, fn_people (k := 0) F_PolicyReader_people_of N T, F_PolicyReader_people_of.binds (ps := ["self", "words"]) (fun _ _ _ _ _ _ us hl => match us, hl with | [_, _], _ => rfl), m_PolicyReader_people_of⟩
  have M_PolicyReader_note : MCal l.prog w K mg base 1 C "note" ["self", "words"] (sp_note C) := ⟨f_PolicyReader_note, fd_PolicyReader_note, fn_note (k := 0) F_PolicyReader_note N T, F_PolicyReader_note.binds (ps := ["self", "words"]) (fun _ _ _ _ _ _ us hl => match us, hl with | [_, _], _ => rfl), m_PolicyReader_note⟩
  have M_PolicyReader_group : MCal l.prog w K mg base 3 C "group" ["self", "name", "words"] (sp_group C) := ⟨f_PolicyReader_group, fd_PolicyReader_group, fn_group (k := 2) F_PolicyReader_group N T C_is_word (M_PolicyReader_people_of.mono (by decide)) (M_PolicyReader_note.mono (by decide)), F_PolicyReader_group.binds (ps := ["self", "name", "words"]) (fun _ _ _ _ _ _ us hl => match us, hl with | [_, _, _], _ => rfl), m_PolicyReader_group⟩
  have C_is_segment : Cal l.prog w K mg base 2 "is_segment" ["value"] (spV (ok_is segP)) := ⟨f_is_segment, fd_is_segment, fn_is_segment (k := 1) F_is_segment N g_DIGITS_names g_LETTERS g_LONGEST_SEGMENT C_made_of, F_is_segment.binds (ps := ["value"]) (fun _ _ _ _ _ _ us hl => match us, hl with | [_], _ => rfl), F_is_segment.kp, m_is_segment⟩
  have C_is_pattern : Cal l.prog w K mg base 3 "is_pattern" ["segments"] (spV (ok_is_pattern K)) := ⟨f_is_pattern, fd_is_pattern, fn_is_pattern (k := 2) F_is_pattern N g_MOST_PARTS C_is_segment, F_is_pattern.binds (ps := ["segments"]) (fun _ _ _ _ _ _ us hl => match us, hl with | [_], _ => rfl), F_is_pattern.kp, m_is_pattern⟩
  have C_number_in : Cal l.prog w K mg base 1 "number_in" ["text"] (spV ok_number_in) := ⟨f_number_in, fd_number_in, fn_number_in (k := 0) F_number_in N g_DIGITS_policy, F_number_in.binds (ps := ["text"]) (fun _ _ _ _ _ _ us hl => match us, hl with | [_], _ => rfl), F_number_in.kp, m_number_in⟩
  have M_PolicyReader_needs : MCal l.prog w K mg base 4 C "needs" ["self", "pattern", "number", "words"] (sp_needs C) := ⟨f_PolicyReader_needs, fd_PolicyReader_needs, fn_needs (k := 3) F_PolicyReader_needs N T (C_is_word.mono (by decide)) C_is_pattern (C_number_in.mono (by decide)) (M_PolicyReader_people_of.mono (by decide)) (M_PolicyReader_note.mono (by decide)), F_PolicyReader_needs.binds (ps := ["self", "pattern", "number", "words"]) (fun _ _ _ _ _ _ us hl => match us, hl with | [_, _, _, _], _ => rfl), m_PolicyReader_needs⟩
  have M_PolicyReader_take : MCal l.prog w K mg base 5 C "take" ["self", "words"] (sp_take C) := ⟨f_PolicyReader_take, fd_PolicyReader_take, fn_take (k := 4) F_PolicyReader_take N T (M_PolicyReader_group.mono (by decide)) M_PolicyReader_needs, F_PolicyReader_take.binds (ps := ["self", "words"]) (fun _ _ _ _ _ _ us hl => match us, hl with | [_, _], _ => rfl), m_PolicyReader_take⟩
  have M_new : MkC l.prog w K mg base 1 "PolicyReader" C ["self"] (sp_init C) := ⟨f_PolicyReader___init__, fd_PolicyReader___init__, fn_init (k := 0) F_PolicyReader___init__ T, F_PolicyReader___init__.binds (ps := ["self"]) (fun _ _ _ _ _ _ us hl => match us, hl with | [_], _ => rfl), ⟨mk, m_PolicyReader___init__.at_, m_PolicyReader___init__.fn, kc⟩, PySem.W.mg_of X G aC⟩
  have C_read_policy : Cal l.prog w K mg base 6 "read_policy" ["lines"] (sp_read K) := ⟨f_read_policy, fd_read_policy, fn_read_policy (k := 5) F_read_policy N T (C_words_in.mono (by decide)) M_PolicyReader_take M_new (by decide), F_read_policy.binds (ps := ["lines"]) (fun _ _ _ _ _ _ us hl => match us, hl with | [_], _ => rfl), F_read_policy.kp, m_read_policy⟩
  have C_gone_along : Cal l.prog w K mg base 1 "gone_along" ["reached", "part", "segments"] (spL (ok_gone_along K)) := ⟨f_gone_along, fd_gone_along, fn_gone_along (k := 0) F_gone_along N, F_gone_along.binds (ps := ["reached", "part", "segments"]) (fun _ _ _ _ _ _ us hl => match us, hl with | [_, _, _], _ => rfl), F_gone_along.kp, m_gone_along⟩
  have C_matches : Cal l.prog w K mg base 2 "matches" ["pattern", "path"] (spV (ok_matches K)) := ⟨f_matches, fd_matches, fn_matches (k := 1) F_matches N C_gone_along, F_matches.binds (ps := ["pattern", "path"]) (fun _ _ _ _ _ _ us hl => match us, hl with | [_, _], _ => rfl), F_matches.kp, m_matches⟩
  have C_law_same := cal_same (P := l.prog) (w := w) (base := base) (k := 0) F_law_same (F_law_same.binds (ps := ["answer", "due"]) (fun _ _ _ _ _ _ us hl => match us, hl with | [_, _], _ => rfl)) F_law_same.kp m_law_same N 6
  have C_law_bounds : Cal l.prog w K mg base 7 "_law_bounds" [] sp_bounds := ⟨f_law_bounds, fd_law_bounds, fn_bounds (k := 6) F_law_bounds N C_read_policy (C_matches.mono (by decide)) C_law_same, F_law_bounds.binds (ps := []) (fun _ _ _ _ _ _ us hl => match us, hl with | [], _ => rfl), F_law_bounds.kp, m_law_bounds⟩
  have C_law_draw : Cal l.prog w K mg base 3 "_law_draw" ["pool", "limit"] (sp_draw K) := ⟨f_law_draw, fd_law_draw, fn_draw (k := 2) F_law_draw N C_law_rest, F_law_draw.binds (ps := ["pool", "limit"]) (fun _ _ _ _ _ _ us hl => match us, hl with | [_, _], _ => rfl), F_law_draw.kp, m_law_draw⟩
  have C_law_pick : Cal l.prog w K mg base 4 "_law_pick" ["pool", "options"] (sp_pick K) := ⟨f_law_pick, fd_law_pick, fn_pick (k := 3) F_law_pick N C_law_draw, F_law_pick.binds (ps := ["pool", "options"]) (fun _ _ _ _ _ _ us hl => match us, hl with | [_, _], _ => rfl), F_law_pick.kp, m_law_pick⟩
  have C_law_next : Cal l.prog w K mg base 3 "_law_next" ["pool"] (sp_next K) := ⟨f_law_next, fd_law_next, fn_next (k := 2) F_law_next N C_law_rest, F_law_next.binds (ps := ["pool"]) (fun _ _ _ _ _ _ us hl => match us, hl with | [_], _ => rfl), F_law_next.kp, m_law_next⟩
  have C_law_line_drawn : Cal l.prog w K mg base 5 "_law_line_drawn" ["pool"] (sp_line K) := ⟨f_law_line_drawn, fd_law_line_drawn, fn_line (k := 4) F_law_line_drawn N (C_law_draw.mono (by decide)) C_law_pick, F_law_line_drawn.binds (ps := ["pool"]) (fun _ _ _ _ _ _ us hl => match us, hl with | [_], _ => rfl), F_law_line_drawn.kp, m_law_line_drawn⟩
  have C_law_is_word : Cal l.prog w K mg base 1 "_law_is_word" ["text"] (spV (ok_test wordP)) := ⟨f_law_is_word, fd_law_is_word, fn_lword (k := 0) F_law_is_word N, F_law_is_word.binds (ps := ["text"]) (fun _ _ _ _ _ _ us hl => match us, hl with | [_], _ => rfl), F_law_is_word.kp, m_law_is_word⟩
  have C_law_is_part : Cal l.prog w K mg base 1 "_law_is_part" ["text"] (spV (ok_test partF)) := ⟨f_law_is_part, fd_law_is_part, fn_lpart (k := 0) F_law_is_part N, F_law_is_part.binds (ps := ["text"]) (fun _ _ _ _ _ _ us hl => match us, hl with | [_], _ => rfl), F_law_is_part.kp, m_law_is_part⟩
  have C_law_number : Cal l.prog w K mg base 1 "_law_number" ["text"] (spV ok_number_in) := ⟨f_law_number, fd_law_number, fn_lnumber (k := 0) F_law_number N, F_law_number.binds (ps := ["text"]) (fun _ _ _ _ _ _ us hl => match us, hl with | [_], _ => rfl), F_law_number.kp, m_law_number⟩
  have C_law_different : Cal l.prog w K mg base 1 "_law_different" ["items"] (spL (ok_different K)) := ⟨f_law_different, fd_law_different, fn_different (k := 0) F_law_different N, F_law_different.binds (ps := ["items"]) (fun _ _ _ _ _ _ us hl => match us, hl with | [_], _ => rfl), F_law_different.kp, m_law_different⟩
  have C_law_people : Cal l.prog w K mg base 2 "_law_people" ["groups", "words"] (sp_lpeople K) := ⟨f_law_people, fd_law_people, fn_lpeople (k := 1) F_law_people N C_law_different, F_law_people.binds (ps := ["groups", "words"]) (fun _ _ _ _ _ _ us hl => match us, hl with | [_, _], _ => rfl), F_law_people.kp, m_law_people⟩
  have C_law_read : Cal l.prog w K mg base 3 "_law_read" ["lines"] (sp_lread K) := ⟨f_law_read, fd_law_read, fn_lread (k := 2) F_law_read N (C_law_is_word.mono (by decide)) (C_law_is_part.mono (by decide)) (C_law_number.mono (by decide)) C_law_people, F_law_read.binds (ps := ["lines"]) (fun _ _ _ _ _ _ us hl => match us, hl with | [_], _ => rfl), F_law_read.kp, m_law_read⟩
  have C_law_along := cal_along (P := l.prog) (w := w) (base := base) (k := 0) F_law_along (F_law_along.binds (ps := ["pattern", "segments"]) (fun _ _ _ _ _ _ us hl => match us, hl with | [_, _], _ => rfl)) F_law_along.kp m_law_along N 14
  have C_lines_for : Cal l.prog w K mg base 3 "lines_for" ["policy", "paths"] (sp_lines K) := ⟨f_lines_for, fd_lines_for, fn_lines_for (k := 2) F_lines_for N C_matches, F_lines_for.binds (ps := ["policy", "paths"]) (fun _ _ _ _ _ _ us hl => match us, hl with | [_, _], _ => rfl), F_lines_for.kp, m_lines_for⟩
  exact fn_law (k := 14) F_law N (C_law_pool.mono (by decide)) (C_law_bounds.mono (by decide)) (C_law_draw.mono (by decide)) (C_law_pick.mono (by decide)) (C_law_next.mono (by decide)) (C_law_line_drawn.mono (by decide)) (C_law_read.mono (by decide)) (C_read_policy.mono (by decide)) (C_law_same.mono (by decide)) (C_matches.mono (by decide)) C_law_along (C_lines_for.mono (by decide))
end K70

set_option Elab.async false
set_option linter.all false
set_option maxRecDepth 100000
set_option maxHeartbeats 4000000
open PySem PySem.W PyProof.Rows
set_option maxHeartbeats 0 in
theorem PySem.Challenge.cw_lineage_k70_whole_policies_read_holds : PySem.Challenge.rw_lineage_k70_whole_policies_read.Holds := by
  w_on; o_law; k_head; (case hw => w_witness2)
  k_fill
  refine L2.walk_of (l := PySem.Challenge.rw_lineage_k70_whole_policies_read) (n := 63) (k := 15) (x := "script") (CX := fun _ => L2.CX0) (sp := fun w => K70.sp_law _) rfl (by decide) rfl ⟨rfl, by decide, by decide⟩ (fun w h Y => PySem.W.kIn_of Y) ?F (fun _ _ a ns hl _ hS => ⟨a, ns, rfl, hS, fun _ => rfl⟩) (fun _ _ _ _ _ h => h)
  case F =>
    intro w mg fa h KX G hmg
    refine' K70.all_mk KX G hmg ?q0 ?q1 ?q2 ?q3 ?q4 ?q5 ?q6 ?q7 ?q8 ?q9 ?q10 ?q11 ?q12 ?q13 ?q14 ?q15 ?q16 ?q17 ?q18 ?q19 ?q20 ?q21 ?q22 ?q23 ?q24 ?q25 ?q26 ?q27 ?q28 ?q29 ?q30 ?q31 ?q32 ?q33 ?q34 ?q35 ?q36 ?q37 ?q38 ?q39 ?q40 ?q41 ?q42 ?q43 ?q44 ?q45 ?q46 ?q47 ?q48 ?q49 ?q50 ?q51 ?q52 ?q53 ?q54 ?q55 ?q56 ?q57 ?q58 ?q59 ?q60 ?q61 ?q62 ?q63 ?q64 ?q65 ?q66
    case q0 => k_is
    case q1 => k_is
    case q2 => k_is
    case q3 => k_is
    case q4 => k_is
    case q5 => k_is
    case q6 => k_is
    case q7 => k_is
    case q8 => k_is
    case q9 => k_is
    case q10 => (refine' My.HasF.mk' ?a ?l ?c ?k; (case a => k_is); (case l => k_is); (case c => k_is); (case k => k_is))
    case q11 => (refine' My.HasF.mk' ?a ?l ?c ?k; (case a => k_is); (case l => k_is); (case c => k_is); (case k => k_is))
    case q12 => (refine' My.HasF.mk' ?a ?l ?c ?k; (case a => k_is); (case l => k_is); (case c => k_is); (case k => k_is))
    case q13 => (refine' My.HasF.mk' ?a ?l ?c ?k; (case a => k_is); (case l => k_is); (case c => k_is); (case k => k_is))
    case q14 => (refine' My.HasF.mk' ?a ?l ?c ?k; (case a => k_is); (case l => k_is); (case c => k_is); (case k => k_is))
    case q15 => (refine' My.HasF.mk' ?a ?l ?c ?k; (case a => k_is); (case l => k_is); (case c => k_is); (case k => k_is))
    case q16 => (refine' My.HasM.mk' ?a ?i ?l ?c ?k; (case a => k_is); (case i => k_is); (case l => k_is); (case c => k_is); (case k => k_is))
    case q17 => (refine' My.HasM.mk' ?a ?i ?l ?c ?k; (case a => k_is); (case i => k_is); (case l => k_is); (case c => k_is); (case k => k_is))
    case q18 => (refine' My.HasM.mk' ?a ?i ?l ?c ?k; (case a => k_is); (case i => k_is); (case l => k_is); (case c => k_is); (case k => k_is))
    case q19 => (refine' My.HasF.mk' ?a ?l ?c ?k; (case a => k_is); (case l => k_is); (case c => k_is); (case k => k_is))
    case q20 => (refine' My.HasF.mk' ?a ?l ?c ?k; (case a => k_is); (case l => k_is); (case c => k_is); (case k => k_is))
    case q21 => (refine' My.HasF.mk' ?a ?l ?c ?k; (case a => k_is); (case l => k_is); (case c => k_is); (case k => k_is))
    case q22 => (refine' My.HasM.mk' ?a ?i ?l ?c ?k; (case a => k_is); (case i => k_is); (case l => k_is); (case c => k_is); (case k => k_is))
    case q23 => (refine' My.HasM.mk' ?a ?i ?l ?c ?k; (case a => k_is); (case i => k_is); (case l => k_is); (case c => k_is); (case k => k_is))
    case q24 => (refine' My.HasM.mk' ?a ?i ?l ?c ?k; (case a => k_is); (case i => k_is); (case l => k_is); (case c => k_is); (case k => k_is))
    case q25 => (refine' My.HasF.mk' ?a ?l ?c ?k; (case a => k_is); (case l => k_is); (case c => k_is); (case k => k_is))
    case q26 => (refine' My.HasF.mk' ?a ?l ?c ?k; (case a => k_is); (case l => k_is); (case c => k_is); (case k => k_is))
    case q27 => (refine' My.HasF.mk' ?a ?l ?c ?k; (case a => k_is); (case l => k_is); (case c => k_is); (case k => k_is))
    case q28 => (refine' My.HasF.mk' ?a ?l ?c ?k; (case a => k_is); (case l => k_is); (case c => k_is); (case k => k_is))
    case q29 => (refine' My.HasF.mk' ?a ?l ?c ?k; (case a => k_is); (case l => k_is); (case c => k_is); (case k => k_is))
    case q30 => (refine' My.HasF.mk' ?a ?l ?c ?k; (case a => k_is); (case l => k_is); (case c => k_is); (case k => k_is))
    case q31 => (refine' My.HasF.mk' ?a ?l ?c ?k; (case a => k_is); (case l => k_is); (case c => k_is); (case k => k_is))
    case q32 => (refine' My.HasF.mk' ?a ?l ?c ?k; (case a => k_is); (case l => k_is); (case c => k_is); (case k => k_is))
    case q33 => (refine' My.HasF.mk' ?a ?l ?c ?k; (case a => k_is); (case l => k_is); (case c => k_is); (case k => k_is))
    case q34 => (refine' My.HasF.mk' ?a ?l ?c ?k; (case a => k_is); (case l => k_is); (case c => k_is); (case k => k_is))
    case q35 => (refine' My.HasF.mk' ?a ?l ?c ?k; (case a => k_is); (case l => k_is); (case c => k_is); (case k => k_is))
    case q36 => (refine' My.HasF.mk' ?a ?l ?c ?k; (case a => k_is); (case l => k_is); (case c => k_is); (case k => k_is))
    case q37 => (refine' My.HasF.mk' ?a ?l ?c ?k; (case a => k_is); (case l => k_is); (case c => k_is); (case k => k_is))
    case q38 => (refine' My.HasF.mk' ?a ?l ?c ?k; (case a => k_is); (case l => k_is); (case c => k_is); (case k => k_is))
    case q39 => (refine' My.HasF.mk' ?a ?l ?c ?k; (case a => k_is); (case l => k_is); (case c => k_is); (case k => k_is))
    case q40 => (refine' My.HasF.mk' ?a ?l ?c ?k; (case a => k_is); (case l => k_is); (case c => k_is); (case k => k_is))
    case q41 => (refine' My.HasF.mk' ?a ?l ?c ?k; (case a => k_is); (case l => k_is); (case c => k_is); (case k => k_is))
    case q42 => (refine' My.HasF.mk' ?a ?l ?c ?k; (case a => k_is); (case l => k_is); (case c => k_is); (case k => k_is))
    case q43 => k_is
    case q44 => k_is
    case q45 => k_is
    case q46 => k_is
    case q47 => k_is
    case q48 => k_is
    case q49 => k_is
    case q50 => k_is
    case q51 => k_is
    case q52 => k_is
    case q53 => k_is
    case q54 => k_is
    case q55 => k_is
    case q56 => k_is
    case q57 => k_is
    case q58 => k_is
    case q59 => k_is
    case q60 => k_is
    case q61 => (refine' My.HasI.mk' ?a; (case a => k_is))
    case q62 => (refine' My.HasI.mk' ?a; (case a => k_is))
    case q63 => (refine' My.HasI.mk' ?a; (case a => k_is))
    case q64 => (refine' My.HasS.mk' ?a; (case a => k_is))
    case q65 => (refine' My.HasS.mk' ?a; (case a => k_is))
    case q66 => (refine' My.HasS.mk' ?a; (case a => k_is))

