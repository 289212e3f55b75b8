import PyProof.Rows.All
import Wide.All
import OpenK.AllK
import Wide.FinOn
import HandS.ForMost
import HandS.Evl
import HandS.Wide
import HandS.IsInst
import HandS.NoneIn
import HandS.Style
import HandS.Replace
import KE.GoesZip
import KE.GoesMore
import KE.GoesEnumKw
import HandS.More
import PyProof.Rows.SortShellAny
import HandS.Iter
import PyProof.Rows.StrMeet
import PyProof.NeData
import PyProof.P3Eq
import KE.KDictOf
import HandS.TupAny
import HandS.ExcOwn
import HandS.Comp
import KE.GoesComp
import KE.GoesRaise
import KE.KExcSuper
import HandS.ExcSuper
import HandS.TryOnly
import HandS.WordsExc
import HandS.Zip
import HandS.SortOrd
import HandS.Conv
import KE.KSortTupAny
import HandS.DictComp
import KE.KDictDisplayH
import HandS.SetKeys
import KE.KDictLaws
import PySem.Challenge.RW_lineage_k00_whole_values_and_octets
set_option Elab.async false
set_option linter.all false
set_option maxRecDepth 100000
/-! My own layer over HandS: callable defs bundled, globals bundled, readings at Nat. -/
namespace My
open PySem PySem.Spec PyProof.Rows L2 Evl

/-- a def that the module's name x holds, with its promise, at level k -/
structure Cal (P : Program) (w : World) (K : PySem.W.Frag) (mg : Str → Option Value) (base : Heap) (k : Nat) (x : Str) (ps : List Str) (sp : Sp) : Prop where
  ex : ∃ f fd, FnOk P w K mg base CX0 k f fd ps sp ∧ Binds K fd ps [] ∧ PySem.W.keepIn K (.ref f) = true ∧ mg x = some (.ref f)
theorem Cal.mono {P : Program} {w : World} {K : PySem.W.Frag} {mg : Str → Option Value} {base : Heap} {j k : Nat} {x : Str} {ps : List Str} {sp : Sp} (C : Cal P w K mg base j x ps sp) (h : j ≤ k) : Cal P w K mg base k x ps sp := by
  obtain ⟨f, fd, F, b, kp, m⟩ := C.ex
  exact ⟨f, fd, F.mono h, b, kp, m⟩
theorem Cal.imp {P : Program} {w : World} {K : PySem.W.Frag} {mg : Str → Option Value} {base : Heap} {k : Nat} {x : Str} {ps : List Str} {sp sp' : Sp} (C : Cal P w K mg base k x ps sp)
    (h : ∀ vs H Q E, sp' vs H Q E → sp vs H Q E) : Cal P w K mg base k x ps sp' := by
  obtain ⟨f, fd, F, b, kp, m⟩ := C.ex
  exact ⟨f, fd, F.imp h, b, kp, m⟩
theorem pe_cal {X : Cx} {k j : Nat} {x : Str} {ps : List Str} {sp : Sp} {e : Expr} {es : List Expr} {t : TA} {p pos : Pos} (C : Cal X.prog X.w X.K X.mg X.base k x ps sp) (hr : Room j X.A) (ha : PA X (e :: es) t) (hle : k ≤ j := by first | exact Nat.le_refl _ | decide | omega) (hg : Gl X x := by rfl)
    (hdb : (x == ("__debug__" : Str)) = false := by decide) (hs : starEach (e :: es) X.env = (false, eval e X.env) :: starEach es X.env := by rfl) (hplain : (backTo pos (starEach es X.env)).any (·.1) = false := by rfl) :
    PE X (.Call (.Name x p) (e :: es) [] pos) (tCall sp [] E0 t) := by
  obtain ⟨f, fd, F, b, kp, m⟩ := C.ex
  exact pe_call F (hr.mono hle) hg m kp b .nil pass0 ha hdb hs hplain
theorem pe_cal0 {X : Cx} {k j : Nat} {x : Str} {ps : List Str} {sp : Sp} {p pos : Pos} (C : Cal X.prog X.w X.K X.mg X.base k x ps sp) (hr : Room j X.A) (hle : k ≤ j := by first | exact Nat.le_refl _ | decide | omega) (hg : Gl X x := by rfl) (hdb : (x == ("__debug__" : Str)) = false := by decide) :
    PE X (.Call (.Name x p) [] [] pos) (tCall sp [] E0 tNil) := by
  obtain ⟨f, fd, F, b, kp, m⟩ := C.ex
  exact pe_call0 F (hr.mono hle) hg m kp b .nil pass0 hdb

/-- globals -/
def GI (mg : Str → Option Value) (x : Str) (n : Int) : Prop := ∃ t, mg x = some (.int n t)
def GS (mg : Str → Option Value) (x : Str) (z : Str) : Prop := ∃ t, mg x = some (.str z t)
/-- a tuple of the module's top -/
def GT (K : PySem.W.Frag) (mg : Str → Option Value) (x : Str) (xs : List V) : Prop := ∃ a, mg x = some (.ref a) ∧ ∀ H, SqT K H a xs
theorem pe_gi {X : Cx} {x : Str} {n : Int} {pos : Pos} (g : GI X.mg x n) (hg : Gl X x := by rfl) (hd : (x == ("__debug__" : Str)) = false := by decide) : PE X (.Name x pos) (tC (.int n)) := by
  obtain ⟨t, m⟩ := g
  exact pe_glob hg m ⟨t, rfl⟩ hd
theorem pe_gs {X : Cx} {x : Str} {z : Str} {pos : Pos} (g : GS X.mg x z) (hg : Gl X x := by rfl) (hd : (x == ("__debug__" : Str)) = false := by decide) : PE X (.Name x pos) (tC (.str z)) := by
  obtain ⟨t, m⟩ := g
  exact pe_glob hg m ⟨t, rfl⟩ hd
def tGT (K : PySem.W.Frag) (xs : List V) : TE := fun _ H Q => ∀ a, (∀ H', SqT K H' a xs) → Q (.ref a) H
theorem pe_gt {X : Cx} {x : Str} {xs : List V} {pos : Pos} (g : GT X.K X.mg x xs) (hg : Gl X x := by rfl) (hd : (x == ("__debug__" : Str)) = false := by decide) : PE X (.Name x pos) (tGT X.K xs) := by
  obtain ⟨a, m, h⟩ := g
  exact ⟨fun pins s σ H Q I q => (pe_glob (v := .ref a) hg m rfl hd).run pins s σ H Q I (q a h)⟩

/-- the built-in names that the program leaves as they are -/
structure Nb (mg : Str → Option Value) : Prop where
  len : mg "len" = none
  list : mg "list" = none
  int : mg "int" = none
  isinstance : mg "isinstance" = none
  range : mg "range" = none
  zip : mg "zip" = none
  all : mg "all" = none
  any : mg "any" = none
  tuple : mg "tuple" = none
  str : mg "str" = none
  dict : mg "dict" = none
  bool : mg "bool" = none
  sorted : mg "sorted" = none
  min : mg "min" = none
  max : mg "max" = none
  set : mg "set" = none
  enumerate : mg "enumerate" = none
  sum : mg "sum" = none

/-! ### promises in two shapes -/
/-- hands back z, all that stood stands -/
def spV (ok : List V → Hp → V → Prop) : Sp := fun vs H Q _ => ∃ z, ok vs H z ∧ ∀ H', Ex H H' → Q z H'
/-- hands back a new list -/
def spL (ok : List V → Hp → List V → Prop) : Sp := fun vs H Q _ => ∃ xs, ok vs H xs ∧ RetL xs H Q
section
variable {σ : L2.St} {H : Hp} {ta : TA} {te : TE} {vs xs : List V} {z v : V}
theorem ev_cal {ok : List V → Hp → V → Prop} (h : EvA ta σ H vs) (hk : ∀ H1, Ex H H1 → ok vs H1 z) : Ev (tCall (spV ok) [] E0 ta) σ H z :=
  ev_call h fun H1 e Q q E => ⟨z, by rw [List.append_nil]; exact hk H1 e, fun H2 e2 => q H2 e2⟩
theorem el_cal {ok : List V → Hp → List V → Prop} (h : EvA ta σ H vs) (hk : ∀ H1, Ex H H1 → ok vs H1 xs) : EvL (tCall (spL ok) [] E0 ta) σ H xs :=
  el_call h fun H1 e Q q E => ⟨xs, by rw [List.append_nil]; exact hk H1 e, fun p H2 hp e2 h2 => q p H2 hp e2 h2⟩
/-- a global tuple -/
theorem ev_gt {K : PySem.W.Frag} {ys : List V} {Q : VK} {H : Hp} (q : ∀ a, (∀ H', SqT K H' a ys) → Q (.ref a) H) : tGT K ys σ H Q := q
/-- natural numbers -/
theorem ev_cn (n : Nat) : Ev (tC (.int (n : Int))) σ H (.int (n : Int)) := ev_c
theorem ev_v {i : Nat} (h : σ[i]? = some (some v)) : Ev (tVar i) σ H v := ev_var h
theorem rv_is {r : R2} {x y z z' : V} {H : Hp} (h : RV r x y H z) (e : z = z') : RV r x y H z' := by
  rw [← e]
  exact h
theorem rv_addN {a b : Nat} : RV (rI0 fun i j => .int (i + j)) (.int (a : Int)) (.int (b : Int)) H (.int ((a + b : Nat) : Int)) := rv_is rv_I0 (congrArg V.int (Int.natCast_add a b).symm)
theorem rv_subN {a b : Nat} (h : b ≤ a) : RV (rI0 fun i j => .int (i - j)) (.int (a : Int)) (.int (b : Int)) H (.int ((a - b : Nat) : Int)) := rv_is rv_I0 (congrArg V.int (Int.ofNat_sub h).symm)
theorem toNatOr (a b : Nat) : Builtin.bitOr (a : Int) (b : Int) = ((a ||| b : Nat) : Int) := Bits.bitOr_pp (Int.natCast_nonneg _) (Int.natCast_nonneg _)
theorem bitAndN (a b : Nat) : Builtin.bitAnd (a : Int) (b : Int) = ((a &&& b : Nat) : Int) := by
  rw [bitAnd_pp (Int.natCast_nonneg _) (Int.natCast_nonneg _), Int.toNat_natCast, Int.toNat_natCast]
theorem bitOrN (a b : Nat) : Builtin.bitOr (a : Int) (b : Int) = ((a ||| b : Nat) : Int) := toNatOr a b
theorem bitXorN (a b : Nat) : Builtin.bitXor (a : Int) (b : Int) = ((a ^^^ b : Nat) : Int) := Bits.bitXor_pp (Int.natCast_nonneg _) (Int.natCast_nonneg _)
theorem rv_andN {a b : Nat} : RV (rI0 fun i j => .int (Builtin.bitAnd i j)) (.int (a : Int)) (.int (b : Int)) H (.int ((a &&& b : Nat) : Int)) := rv_is rv_I0 (congrArg V.int (bitAndN a b))
theorem rv_orN {a b : Nat} : RV (rI0 fun i j => .int (Builtin.bitOr i j)) (.int (a : Int)) (.int (b : Int)) H (.int ((a ||| b : Nat) : Int)) := rv_is rv_I0 (congrArg V.int (bitOrN a b))
theorem rv_xorN {a b : Nat} : RV (rI0 fun i j => .int (Builtin.bitXor i j)) (.int (a : Int)) (.int (b : Int)) H (.int ((a ^^^ b : Nat) : Int)) := rv_is rv_I0 (congrArg V.int (bitXorN a b))
theorem shlN (a b : Nat) : (a : Int) * 2 ^ (b : Int).toNat = ((a <<< b : Nat) : Int) := by
  rw [Int.toNat_natCast, Nat.shiftLeft_eq, Int.natCast_mul, Int.natCast_pow]; rfl
theorem shrN (a b : Nat) : (a : Int) / 2 ^ (b : Int).toNat = ((a >>> b : Nat) : Int) := by
  rw [Int.toNat_natCast, Nat.shiftRight_eq_div_pow, Int.natCast_ediv, Int.natCast_pow]; rfl
theorem rv_shlN {a b : Nat} (ha : a < 2 ^ 64) (hb : b ≤ 1000000) : RV (rI CPow fun i j => .int (i * 2 ^ j.toNat)) (.int (a : Int)) (.int (b : Int)) H (.int ((a <<< b : Nat) : Int)) :=
  rv_is (rv_I ⟨Int.natCast_nonneg _, by omega, by rw [Int.natAbs_natCast]; exact ha⟩) (congrArg V.int (shlN a b))
theorem rv_shrN {a b : Nat} : RV (rI (fun _ j => 0 ≤ j) fun i j => .int (i / 2 ^ j.toNat)) (.int (a : Int)) (.int (b : Int)) H (.int ((a >>> b : Nat) : Int)) :=
  rv_is (rv_I (Int.natCast_nonneg _)) (congrArg V.int (shrN a b))
theorem cmulN {a b : Nat} (h : a < 2 ^ 64 ∨ b < 2 ^ 64) : CMul (a : Int) (b : Int) := by
  unfold CMul
  have t : ((2 : Int) ^ 64) = ((2 ^ 64 : Nat) : Int) := by rfl
  rcases h with h | h
  · left; rw [t]; constructor <;> omega
  · right; rw [t]; constructor <;> omega
theorem rv_mulN {a b : Nat} (h : a < 2 ^ 64 ∨ b < 2 ^ 64) : RV (rI CMul fun i j => .int (i * j)) (.int (a : Int)) (.int (b : Int)) H (.int ((a * b : Nat) : Int)) := rv_is (rv_I (cmulN h)) (congrArg V.int (Int.natCast_mul a b).symm)
theorem rv_modN {a b : Nat} (h : 0 < b) : RV (rI (fun _ j => 0 < j) fun i j => .int (i % j)) (.int (a : Int)) (.int (b : Int)) H (.int ((a % b : Nat) : Int)) := rv_is (rv_I (show (0:Int) < (b:Int) by omega)) (congrArg V.int (Int.natCast_emod a b).symm)
theorem rv_divN {a b : Nat} (h : 0 < b) (hb : b < 1073741824) : RV (rI CDiv fun i j => .int (i / j)) (.int (a : Int)) (.int (b : Int)) H (.int ((a / b : Nat) : Int)) := rv_is (rv_I ⟨by omega, by omega⟩) (congrArg V.int (Int.natCast_ediv a b).symm)
theorem rv_divWN {a b n : Nat} (h : 0 < b) (hb : b < 2 ^ n) (h0 : 0 < n) (h9 : n ≤ 9000) : RV (rI CDivW fun i j => .int (i / j)) (.int (a : Int)) (.int (b : Int)) H (.int ((a / b : Nat) : Int)) :=
  rv_is (rv_I (wide_div (by omega) (by rw [Int.natAbs_natCast]; exact hb) h0 h9)) (congrArg V.int (Int.natCast_ediv a b).symm)
theorem rv_mulWN {a b n m : Nat} (ha : a < 2 ^ n) (hb : b < 2 ^ m) (h0 : 0 < n) (h1 : 0 < m) (h : n + m ≤ 1000000) : RV (rI CMulW fun i j => .int (i * j)) (.int (a : Int)) (.int (b : Int)) H (.int ((a * b : Nat) : Int)) :=
  rv_is (rv_I (wide_mul (by rw [Int.natAbs_natCast]; exact ha) (by rw [Int.natAbs_natCast]; exact hb) h0 h1 h)) (congrArg V.int (Int.natCast_mul a b).symm)
/-- an item of a list that is known -/
theorem rv_ixLn {K : PySem.W.Frag} {p : Addr} {xs : List V} {i : Nat} (h : SqL K H p xs) (ha : xs[i]? = some v) : RV (rIxL K) (.ref p) (.int (i : Int)) H v := rv_ixL h (atI_nat ha)
theorem rv_ixTn {K : PySem.W.Frag} {p : Addr} {xs : List V} {i : Nat} (h : SqT K H p xs) (ha : xs[i]? = some v) : RV (rIxT K) (.ref p) (.int (i : Int)) H v := rv_ixT h (atI_nat ha)
end
/-- int(x) of an int -/
theorem ev_int {σ : L2.St} {H : Hp} {te : TE} {i : Int} (h : Ev te σ H (.int i)) : Ev (tCB (fun xs H Q => (∃ i, xs = [.int i] ∧ Q (.int i) H) ∨ ∃ k, xs = [.bl k] ∧ Q (.int (if k then 1 else 0)) H) (tCons te tNil)) σ H (.int i) := fun H1 e Q q =>
  h H1 e _ fun H2 e2 => .inl ⟨i, rfl, q H2 e2⟩

/-! ### evaluating to something of which P is known (P stays as the heap grows) -/
def EvP (te : TE) (σ : L2.St) (H : Hp) (P : V → Hp → Prop) : Prop := ∀ H1, Ex H H1 → ∀ Q : VK, (∀ v H2, Ex H1 H2 → P v H2 → Q v H2) → te σ H1 Q
def EvAP (ta : TA) (σ : L2.St) (H : Hp) (P : List V → Hp → Prop) : Prop := ∀ H1, Ex H H1 → ∀ Q : List V → Hp → Prop, (∀ vs H2, Ex H1 H2 → P vs H2 → Q vs H2) → ta σ H1 Q
section
variable {σ : L2.St} {H H' : Hp} {ta tr : TA} {te : TE} {xs : List V} {x z v : V} {P : List V → Hp → Prop}
theorem EvP.mono {P : V → Hp → Prop} (e : Ex H H') (h : EvP te σ H P) : EvP te σ H' P := fun H1 a Q q => h H1 (e.trans a) Q q
theorem EvAP.mono (e : Ex H H') (h : EvAP ta σ H P) : EvAP ta σ H' P := fun H1 a Q q => h H1 (e.trans a) Q q
theorem evp_v (h : Ev te σ H v) : EvP te σ H (fun u _ => u = v) := fun H1 e Q q => h H1 e Q fun H2 e2 => q v H2 e2 rfl
theorem evp_l (h : EvL te σ H xs) : EvP te σ H (fun u H' => ∃ p, u = .ref p ∧ H' p = some (.lst xs)) := fun H1 e Q q => h H1 e Q fun p H2 _ e2 hp => q _ H2 e2 ⟨p, rfl, hp⟩
theorem evp_u (h : EvU te σ H xs) : EvP te σ H (fun u H' => ∃ p, u = .ref p ∧ H' p = some (.tup xs)) := fun H1 e Q q => h H1 e Q fun p H2 _ e2 hp => q _ H2 e2 ⟨p, rfl, hp⟩
theorem evp_gt {K : PySem.W.Frag} : EvP (tGT K xs) σ H (fun u _ => ∃ a, u = .ref a ∧ ∀ H', SqT K H' a xs) := fun H1 e Q q => fun a h => q _ H1 (Ex.refl H1) ⟨a, rfl, h⟩
theorem eap_nil : EvAP tNil σ H (fun vs _ => vs = []) := fun H1 _ Q q => q [] H1 (Ex.refl H1) rfl
theorem eap_v (h : Ev te σ H x) (hr : EvAP tr σ H P) : EvAP (tCons te tr) σ H (fun vs H' => ∃ r, vs = x :: r ∧ P r H') := fun H1 e Q q =>
  h H1 e _ fun H2 e2 => hr H2 (e.trans e2) _ fun r H3 e3 p => q _ H3 (e2.trans e3) ⟨r, rfl, p⟩
theorem eap_l (h : EvL te σ H xs) (hr : EvAP tr σ H P) : EvAP (tCons te tr) σ H (fun vs H' => ∃ a r, vs = .ref a :: r ∧ H' a = some (.lst xs) ∧ P r H') := fun H1 e Q q =>
  h H1 e _ fun a H2 _ e2 ha => hr H2 (e.trans e2) _ fun r H3 e3 p => q _ H3 (e2.trans e3) ⟨a, r, rfl, e3 a _ ha, p⟩
theorem eap_u (h : EvU te σ H xs) (hr : EvAP tr σ H P) : EvAP (tCons te tr) σ H (fun vs H' => ∃ a r, vs = .ref a :: r ∧ H' a = some (.tup xs) ∧ P r H') := fun H1 e Q q =>
  h H1 e _ fun a H2 _ e2 ha => hr H2 (e.trans e2) _ fun r H3 e3 p => q _ H3 (e2.trans e3) ⟨a, r, rfl, e3 a _ ha, p⟩
theorem ev_calP {ok : List V → Hp → V → Prop} (h : EvAP ta σ H P) (hk : ∀ vs H1, Ex H H1 → P vs H1 → ok vs H1 z) : Ev (tCall (spV ok) [] E0 ta) σ H z := fun H1 e Q q =>
  h H1 e _ fun vs H2 e2 p => ⟨z, by rw [List.append_nil]; exact hk vs H2 (e.trans e2) p, fun H3 e3 => q H3 (e2.trans e3)⟩
theorem el_calP {ok : List V → Hp → List V → Prop} (h : EvAP ta σ H P) (hk : ∀ vs H1, Ex H H1 → P vs H1 → ok vs H1 xs) : EvL (tCall (spL ok) [] E0 ta) σ H xs := fun H1 e Q q =>
  h H1 e _ fun vs H2 e2 p => ⟨xs, by rw [List.append_nil]; exact hk vs H2 (e.trans e2) p, fun a H3 ha e3 h3 => q a H3 (fresh_back e2 ha) (e2.trans e3) h3⟩
end

/-! ### lists of natural numbers; ranges in natural numbers; lists joined -/
def nats (xs : List Nat) : List V := xs.map fun n : Nat => V.int (n : Int)
theorem nats_len (xs : List Nat) : (nats xs).length = xs.length := List.length_map _
theorem nats_get {xs : List Nat} {i : Nat} (h : i < xs.length) : (nats xs)[i]? = some (.int ((xs.getD i 0 : Nat) : Int)) := by
  unfold nats
  rw [List.getElem?_map, List.getElem?_eq_getElem h, List.getD_eq_getElem?_getD, List.getElem?_eq_getElem h]
  rfl
theorem nats_app (xs ys : List Nat) : nats (xs ++ ys) = nats xs ++ nats ys := List.map_append
section
variable {K : PySem.W.Frag} {σ : L2.St} {H H' : Hp} {ta tb te : TE} {xs ys : List V} {x z v : V} {p : Addr} {D : Ends} {tu tz : TS}
theorem ev_ixL {j : Nat} (ha : Ev ta σ H (.ref p)) (hb : Ev tb σ H (.int (j : Int))) (hS : SqL K H p xs) (hx : xs[j]? = some v) : Ev (tOp (rIxL K) ta tb) σ H v := ev_op ha hb (rv_ixLn hS hx)
theorem ev_ixT {j : Nat} (ha : Ev ta σ H (.ref p)) (hb : Ev tb σ H (.int (j : Int))) (hS : SqT K H p xs) (hx : xs[j]? = some v) : Ev (tOp (rIxT K) ta tb) σ H v := ev_op ha hb (rv_ixTn hS hx)
theorem s_forR1N {ta : TA} {j n : Nat} (h : EvA ta σ H [.int (n : Int)]) (hn : n ≤ 100000) (Pv : Nat → L2.St → Hp → Prop) (h0 : ∀ H1, Ex H H1 → Pv 0 σ H1)
    (hs : ∀ (i : Nat) σ' H', i < n → Pv i σ' H' → tu { D with nx := Pv (i + 1), ct := Pv (i + 1), bk := D.nx } (σ'.set j (some (.int (i : Int)))) H') (hd : ∀ σ' H', Pv n σ' H' → D.nx σ' H') : tFor (iRng1 ta) (gName j) tu D σ H :=
  s_forR1 h (by omega) Pv h0 (fun i σ' H' hi => hs i σ' H' (by omega)) (by rw [Int.toNat_natCast]; exact hd)
theorem q_forR1N {ta : TA} {j n : Nat} (h : EvA ta σ H [.int (n : Int)]) (hn : n ≤ 100000) (Pv : Nat → L2.St → Hp → Prop) (h0 : ∀ H1, Ex H H1 → Pv 0 σ H1)
    (hs : ∀ (i : Nat) σ' H', i < n → Pv i σ' H' → tu { D with nx := Pv (i + 1), ct := Pv (i + 1), bk := tz D } (σ'.set j (some (.int (i : Int)))) H') (hd : ∀ σ' H', Pv n σ' H' → tz D σ' H') : tSeq (tFor (iRng1 ta) (gName j) tu) tz D σ H :=
  s_forR1N (D := { D with nx := tz D }) h hn Pv h0 hs hd
theorem s_forR2N {ta : TA} {j lo n : Nat} (h : EvA ta σ H [.int (lo : Int), .int (n : Int)]) (hn : lo ≤ 100000 ∧ n ≤ 100000) (Pv : Nat → L2.St → Hp → Prop) (h0 : ∀ H1, Ex H H1 → Pv 0 σ H1)
    (hs : ∀ (i : Nat) σ' H', lo + i < n → Pv i σ' H' → tu { D with nx := Pv (i + 1), ct := Pv (i + 1), bk := D.nx } (σ'.set j (some (.int ((lo + i : Nat) : Int)))) H') (hd : ∀ σ' H', Pv (n - lo) σ' H' → D.nx σ' H') : tFor (iRng2 ta) (gName j) tu D σ H :=
  s_forR2 h (by omega) Pv h0 (fun i σ' H' hi p => by
    have e := hs i σ' H' (by omega) p
    rw [Int.natCast_add] at e
    exact e) (by rw [show ((n : Int) - (lo : Int)).toNat = n - lo by omega]; exact hd)
theorem q_forR2N {ta : TA} {j lo n : Nat} (h : EvA ta σ H [.int (lo : Int), .int (n : Int)]) (hn : lo ≤ 100000 ∧ n ≤ 100000) (Pv : Nat → L2.St → Hp → Prop) (h0 : ∀ H1, Ex H H1 → Pv 0 σ H1)
    (hs : ∀ (i : Nat) σ' H', lo + i < n → Pv i σ' H' → tu { D with nx := Pv (i + 1), ct := Pv (i + 1), bk := tz D } (σ'.set j (some (.int ((lo + i : Nat) : Int)))) H') (hd : ∀ σ' H', Pv (n - lo) σ' H' → tz D σ' H') : tSeq (tFor (iRng2 ta) (gName j) tu) tz D σ H :=
  s_forR2N (D := { D with nx := tz D }) h hn Pv h0 hs hd
/-- a list that stands, or a new one -/
def IsL (xs : List V) : V → Hp → Prop := fun u H' => ∃ p, u = .ref p ∧ H' p = some (.lst xs)
theorem evl_n (h : EvL te σ H xs) : EvP te σ H (IsL xs) := evp_l h
theorem evl_k (h : Ev te σ H (.ref p)) (hp : H p = some (.lst xs)) : EvP te σ H (IsL xs) := fun H1 e Q q => h H1 e Q fun H2 e2 => q _ H2 e2 ⟨p, rfl, e2 p _ (e p _ hp)⟩
theorem el_cat (ha : EvP ta σ H (IsL xs)) (hb : EvP tb σ H (IsL ys)) (hz : xs.length + ys.length ≤ 100000) : EvL (tOp rCat ta tb) σ H (xs ++ ys) := fun H1 e Q q =>
  ha H1 e _ fun u H2 e2 ⟨p, hu, hp⟩ => hb H2 (e.trans e2) _ fun u2 H3 e3 ⟨p2, hu2, hp2⟩ => ⟨p, p2, xs, ys, hu, hu2, e3 p _ hp, hp2, sz_of hz, fun l hl =>
    q l _ (fresh_back (e2.trans e3) hl) ((e2.trans e3).trans (Ex.new hl)) upd_same⟩
theorem el_rep {k : Nat} (ha : EvP ta σ H (IsL xs)) (hb : Ev tb σ H (.int (k : Int))) (hk : k ≤ 100000) (hz : xs.length * k ≤ 100000) : EvL (tOp rRep ta tb) σ H (List.replicate k xs).flatten := fun H1 e Q q =>
  ha H1 e _ fun u H2 e2 ⟨p, hu, hp⟩ => hb H2 (e.trans e2) _ fun H3 e3 => ⟨p, k, xs, hu, rfl, e3 p _ hp, by omega, by omega, by rw [Int.toNat_natCast]; exact sz_of hz, fun l hl => by
    rw [Int.toNat_natCast]
    exact q l _ (fresh_back (e2.trans e3) hl) ((e2.trans e3).trans (Ex.new hl)) upd_same⟩
theorem el_listP (ha : EvP ta σ H (IsL xs)) : EvL (tCB (rListS K) (tCons ta tNil)) σ H xs := fun H1 e Q q =>
  ha H1 e _ fun u H2 e2 ⟨p, hu, hp⟩ => ⟨p, xs, by rw [hu], Or.inl (sq_of hp), fun l hl => q l _ (fresh_back e2 hl) (e2.trans (Ex.new hl)) upd_same⟩
end

/-! ### slices -/
theorem cutV_take (xs : List V) (n : Nat) : cutV xs none (some (n : Int)) = xs.take n := by
  unfold cutV
  rw [HT.sIx_nat, HT.sIx_none, List.drop_zero, Nat.sub_zero]
  by_cases h : n ≤ xs.length
  · rw [Nat.min_eq_left h]
  · rw [Nat.min_eq_right (by omega), List.take_of_length_le (Nat.le_refl _), List.take_of_length_le (by omega)]
theorem cutV_drop (xs : List V) (n : Nat) : cutV xs (some (n : Int)) none = xs.drop n := by
  unfold cutV
  rw [HT.sIx_nat, HT.sIx_none]
  by_cases h : n ≤ xs.length
  · rw [Nat.min_eq_left h, List.take_of_length_le (by rw [List.length_drop]; omega)]
  · rw [Nat.min_eq_right (by omega), List.drop_of_length_le (Nat.le_refl _), List.drop_of_length_le (show xs.length ≤ n by omega), List.take_nil]
theorem cutV_mid (xs : List V) (n m : Nat) (h : n ≤ xs.length) : cutV xs (some (n : Int)) (some (m : Int)) = (xs.drop n).take (m - n) := by
  unfold cutV
  rw [HT.sIx_nat, HT.sIx_nat, Nat.min_eq_left h]
  by_cases h2 : m ≤ xs.length
  · rw [Nat.min_eq_left h2]
  · rw [Nat.min_eq_right (by omega), List.take_of_length_le (by rw [List.length_drop]; omega), List.take_of_length_le (by rw [List.length_drop]; omega)]
theorem nats_take (xs : List Nat) (n : Nat) : nats (xs.take n) = (nats xs).take n := by unfold nats; rw [List.map_take]
theorem nats_drop (xs : List Nat) (n : Nat) : nats (xs.drop n) = (nats xs).drop n := by unfold nats; rw [List.map_drop]

/-! ### texts by their codes -/
def tx (l : List Nat) : Str := ⟨l.toArray⟩
theorem tx_app (a b : List Nat) : tx a ++ tx b = tx (a ++ b) := by
  show (⟨a.toArray ++ b.toArray⟩ : Str) = _
  unfold tx
  rw [List.append_toArray]
theorem tx_len (a : List Nat) : (tx a).length = a.length := List.size_toArray
theorem tx_list (a : List Nat) : (tx a).cps.toList = a := rfl
theorem tx_of (z : Str) : z = tx z.cps.toList := rfl
theorem tx_inj {a b : List Nat} (h : tx a = tx b) : a = b := by
  have := congrArg (fun z : Str => z.cps.toList) h
  exact this
section
variable {σ : L2.St} {H H' : Hp} {ta tb te : TE} {xs ys : List V} {x z v : V} {p : Addr} {D : Ends} {tu tz : TS}
theorem ev_cs {s : Str} (l : List Nat) (h : s = tx l) : Ev (tC (.str s)) σ H (.str (tx l)) := ev_is ev_c (by rw [h])
theorem rv_addS {a b : List Nat} (h : a.length + b.length ≤ 100000) : RV (fun x y H Q => ∃ i j, x = .str i ∧ y = .str j ∧ i.length + j.length ≤ sizeLine ∧ Q (.str (i ++ j)) H) (.str (tx a)) (.str (tx b)) H (.str (tx (a ++ b))) := fun H1 _ _ q =>
  ⟨tx a, tx b, rfl, rfl, by rw [tx_len, tx_len]; exact sz_of h, by rw [tx_app]; exact q H1 (Ex.refl H1)⟩
theorem rv_ixSn {l : List Nat} {i c : Nat} (h : l.length ≤ 100000) (hi : l[i]? = some c) : RV rIxS (.str (tx l)) (.int (i : Int)) H (.str (tx [c])) := rv_ixS (by rw [tx_len]; exact h) (atI_nat (by rw [tx_list]; exact hi))
theorem range_map {α β : Type} (xs : List α) (d : α) (g : α → β) : (List.range xs.length).map (fun i => g (xs.getD i d)) = xs.map g := by
  refine List.ext_getElem? fun i => ?_
  rw [List.getElem?_map, List.getElem?_map]
  by_cases h : i < xs.length
  · rw [List.getElem?_range h, List.getElem?_eq_getElem h]
    simp [List.getD_eq_getElem?_getD, List.getElem?_eq_getElem h]
  · rw [List.getElem?_eq_none (by rw [List.length_range]; omega), List.getElem?_eq_none (by omega)]
    rfl
theorem given_all (n : Nat) (v : Nat → V) : given n (fun _ => true) v = (List.range n).map v := by
  unfold given
  rw [List.filter_eq_self.mpr fun _ _ => rfl]
theorem given_nats (xs : List Nat) (g : Nat → Nat) : given xs.length (fun _ => true) (fun i => .int (g (xs.getD i 0) : Nat)) = nats (xs.map g) := by
  rw [given_all]
  unfold nats
  rw [List.map_map]
  exact range_map xs 0 fun n => V.int (g n : Nat)
theorem et_yes : EvT tYes σ H true := fun H1 _ Q q => q H1 (Ex.refl H1)
theorem rep_one (k n : Nat) : (List.replicate k (nats [n])).flatten = nats (List.replicate k n) := by
  induction k with
  | zero => rfl
  | succ k ih =>
    rw [List.replicate_succ, List.flatten_cons, ih, List.replicate_succ]
    rfl
theorem getD_of {xs : List Nat} {i : Nat} {x : V} (h : (nats xs)[i]? = some x) : x = .int ((xs.getD i 0 : Nat) : Int) ∧ i < xs.length := by
  have hi : i < xs.length := by
    have := (List.getElem?_eq_some_iff.mp h).1
    rw [nats_len] at this
    exact this
  rw [nats_get hi] at h
  exact ⟨(Option.some.inj h).symm, hi⟩
theorem getD_mem {xs : List Nat} {i : Nat} (h : i < xs.length) : xs.getD i 0 ∈ xs := by
  rw [List.getD_eq_getElem?_getD, List.getElem?_eq_getElem h]
  exact List.getElem_mem h
/-- an argument that is a list that stands or a new one -/
theorem eap_p {te : TE} {tr : TA} {P1 : V → Hp → Prop} {P : List V → Hp → Prop} (h : EvP te σ H P1) (hm : ∀ v H1 H2, Ex H1 H2 → P1 v H1 → P1 v H2) (hr : EvAP tr σ H P) : EvAP (tCons te tr) σ H (fun vs H' => ∃ v r, vs = v :: r ∧ P1 v H' ∧ P r H') := fun H1 e Q q =>
  h H1 e _ fun v H2 e2 p1 => hr H2 (e.trans e2) _ fun r H3 e3 p => q _ H3 (e2.trans e3) ⟨v, r, rfl, hm _ _ _ e3 p1, p⟩
theorem IsL.mono {v : V} {H1 H2 : Hp} (e : Ex H1 H2) (h : IsL xs v H1) : IsL xs v H2 := by
  obtain ⟨p, rfl, hp⟩ := h
  exact ⟨p, rfl, e p _ hp⟩
end
end My

set_option Elab.async false
set_option linter.all false
set_option maxRecDepth 100000
set_option maxHeartbeats 1000000
/-! zip(v1, v2, strict=True) over two of one length: made, drawn, ended. -/
namespace My
open PySem PySem.Spec PyProof.Rows L2 Evl Builtin.SmallTypes
section
variable {prog : Program} {w : World} {A : Around} {E : Value → Shared → Prop} {s : Shared} {it : Addr} {fp : List Addr} {n i : Nat} {P : Nat → Value → Prop} {St : Nat → Heap → Prop}
theorem orEnd_item {Q : Option Value → Shared → Prop} (D : Draws prog w A it fp n P St) (hi : i < n) (st : St i s.heap)
    (h : ∀ x h' tk, P i x → St (i + 1) h' → Heap.SameBut it s.heap h' → Q (some x) { s with heap := h', toks := tk }) : wpAny (model prog w) A (nextOrEnd (.ref it)) Q E s := by
  unfold nextOrEnd
  exact wpAny_bind (wpAny_attempt (D.item i s _ _ hi st fun x h' tk p q b => wpAny_pure (h x h' tk p q b)))
theorem orEnd_done {Q : Option Value → Shared → Prop} (D : Draws prog w A it fp n P St) (st : St n s.heap)
    (h : ∀ h', Heap.ExtBut it s.heap h' → Q none { s with heap := h' }) : wpAny (model prog w) A (nextOrEnd (.ref it)) Q E s := by
  unfold nextOrEnd
  refine wpAny_bind (wpAny_attempt (D.done s _ _ st fun h' e x y => ?_))
  obtain ⟨o, ho, hc⟩ := y
  exact wpAny_bind (wpAny_isInstance (T := "StopIteration") (b := true) ⟨o, ho, hc⟩ isSubtype_stop (wpAny_pure (h h' x)))
end
/-- a strict zip object -/
abbrev IsZipS (h : Heap) (z TI TO : Addr) (f0 : Value) : Prop :=
  h.get? z = some { cls := .type "zip", dict := none, data := .fields #[f0, .bool false, .bool true, .ref TI, .ref TO], slots := #[] }

section
variable {prog : Program} {w : World} {A : Around} {E : Value → Shared → Prop} {s : Shared} {z TI TO i1 i2 : Addr} {fp1 fp2 : List Addr} {n i : Nat} {P1 P2 : Nat → Value → Prop} {St1 St2 : Nat → Heap → Prop} {a1 a2 : Value}
/-- one draw from both -/
theorem zs_item {Q : Value → Shared → Prop} (S : ZipSep2 z TI TO i1 i2 fp1 fp2) (D1 : Draws prog w A i1 fp1 n P1 St1) (D2 : Draws prog w A i2 fp2 n P2 St2)
    (hz : IsZipS s.heap z TI TO .none) (hTI : IsTupOf2 s.heap TI (.ref i1) (.ref i2)) (hTO : IsTupOf2 s.heap TO a1 a2) (st1 : St1 i s.heap) (st2 : St2 i s.heap) (hlt : i < n)
    (hQ : ∀ x1 x2 h' tk, P1 i x1 → P2 i x2 → IsZipS h' z TI TO (rawInt s.heap.objs.size) → IsTupOf2 h' TO x1 x2 → St1 (i + 1) h' → St2 (i + 1) h' → IsTupOf2 h' s.heap.objs.size x1 x2 → h'.objs.size = s.heap.objs.size + 1 →
      (∀ c o, c ≠ z → c ≠ TO → c ≠ i1 → c ≠ i2 → s.heap.get? c = some o → h'.get? c = some o) → Q (.ref s.heap.objs.size) { s with heap := h', toks := tk }) :
    wpAny (model prog w) A (Builtin.«zip.__next__» ⟨[.ref z], []⟩) (fun fin s' => ∃ v, fin = .done (.ret v) ∧ Q v s') E s := by
  obtain ⟨hp, gs, dr, tk0, os⟩ := s
  show wpAny _ _ (field (.ref z) 2 >>= _) _ _ _
  refine wpAny_bind (wpAny_field hz rfl (x := .bool true) rfl ?_)
  show wpAny _ _ (field (.ref z) 3 >>= _) _ _ _
  refine wpAny_bind (wpAny_field hz rfl (x := .ref TI) rfl (wpAny_bind (wpAny_seqItems hTI rfl ?_)))
  show wpAny _ _ (ownedTupleIsFree (.ref z) >>= _) _ _ _
  refine wpAny_bind ?_
  unfold ownedTupleIsFree
  refine wpAny_bind (wpAny_field hz rfl (x := .none) rfl (wpAny_pure ?_))
  simp only [if_true]
  refine wpAny_bind (wpAny_rule (wpAny_bind (wpAny_field hz rfl (x := .ref TO) rfl (wpAny_bind (wpAny_setField_rec hz (by simp) fun g0 hz0 hs0 => ?_)))))
  replace hz0 : IsZipS g0 z TI TO .ellipsis := hz0
  replace hs0 : Heap.SameBut z hp g0 := hs0
  refine wpAny_bind ?_
  simp only [List.zipIdx_cons, List.zipIdx_nil, List.forIn_cons, List.forIn_nil]
  refine wpAny_bind (wpAny_bind (wpAny_onRaise ?_))
  show wpAny _ _ (nextOrEnd (.ref i1)) _ _ ⟨g0, gs, dr, tk0, os⟩
  refine orEnd_item D1 hlt (D1.over st1 hs0 S.zf1) fun x1 p1 tk1 hx1 sn1 hp1 => ?_
  replace hp1 : Heap.SameBut i1 g0 p1 := hp1
  have u1 : IsTupOf2 p1 TO a1 a2 := hp1.extBut _ _ S.Ti1 (hs0.extBut _ _ S.TOz hTO)
  refine wpAny_bind (wpAny_seqItems (s := ⟨p1, gs, dr, tk1, os⟩) u1 rfl (wpAny_bind (updateSeq_IsTupOf2 (s := ⟨p1, gs, dr, tk1, os⟩) u1 fun g1 t1 hs1 => ?_)))
  replace t1 : IsTupOf2 g1 TO x1 a2 := t1
  replace hs1 : Heap.SameBut TO p1 g1 := hs1
  refine wpAny_bind (wpAny_letGo (wpAny_pure (wpAny_bind (wpAny_bind (wpAny_onRaise ?_)))))
  show wpAny _ _ (nextOrEnd (.ref i2)) _ _ ⟨g1, gs, dr, tk1, os⟩
  refine orEnd_item D2 hlt (D2.over (D2.over (D2.over st2 hs0 S.zf2) hp1 S.sep1_2) hs1 S.Tf2) fun x2 p2 tk2 hx2 sn2 hp2 => ?_
  replace hp2 : Heap.SameBut i2 g1 p2 := hp2
  have u2 : IsTupOf2 p2 TO x1 a2 := hp2.extBut _ _ S.Ti2 t1
  refine wpAny_bind (wpAny_seqItems (s := ⟨p2, gs, dr, tk2, os⟩) u2 rfl (wpAny_bind (updateSeq_IsTupOf2 (s := ⟨p2, gs, dr, tk2, os⟩) u2 fun g2 t2 hs2 => ?_)))
  replace t2 : IsTupOf2 g2 TO x1 x2 := t2
  replace hs2 : Heap.SameBut TO p2 g2 := hs2
  refine wpAny_bind (wpAny_letGo (wpAny_pure (wpAny_pure (wpAny_bind (wpAny_seqItems (s := ⟨g2, gs, dr, tk2, os⟩) t2 rfl (wpAny_bind (wpAny_newTuple ?_)))))))
  have sz : g2.objs.size = hp.objs.size := by rw [hs2.1, hp2.1, hs1.1, hp1.1, hs0.1]
  have hzz : IsZipS g2 z TI TO .ellipsis := hs2.extBut _ _ S.TOz.symm (hp2.extBut _ _ S.zi2 (hs1.extBut _ _ S.TOz.symm (hp1.extBut _ _ S.zi1 hz0)))
  have kk : ∀ c o, c ≠ z → c ≠ TO → c ≠ i1 → c ≠ i2 → hp.get? c = some o → g2.get? c = some o := fun c o cz cT c1 c2 e => hs2.extBut _ _ cT (hp2.extBut _ _ c2 (hs1.extBut _ _ cT (hp1.extBut _ _ c1 (hs0.extBut _ _ cz e))))
  have j1 : St1 (i + 1) g2 := D1.over (D1.over (D1.over sn1 hs1 S.Tf1) hp2 S.sep2_1) hs2 S.Tf1
  have j2 : St2 (i + 1) g2 := D2.over sn2 hs2 S.Tf2
  have zlt : z < g2.objs.size := Heap.lt_size hzz
  show wpAny _ _ (ownedTupleHandOut (.ref z) (.ref g2.objs.size) >>= _) _ _ ⟨g2.push { cls := .type "tuple", data := .seq #[x1, x2] }, gs, dr, tk2, os⟩
  generalize ht : ({ cls := .type "tuple", data := .seq #[x1, x2] } : Obj) = ob
  refine wpAny_bind ?_
  unfold ownedTupleHandOut
  refine wpAny_bind (wpAny_setField_rec (Heap.get?_push_of_some ob hzz) (by simp) fun h7 hz7 hs7 => ?_)
  replace hz7 : IsZipS h7 z TI TO (rawInt g2.objs.size) := hz7
  replace hs7 : Heap.SameBut z (g2.push ob) h7 := hs7
  refine wpAny_setField_rec hz7 (by simp) fun h8 hz8 hs8 => ?_
  replace hz8 : IsZipS h8 z TI TO (rawInt g2.objs.size) := hz8
  replace hs8 : Heap.SameBut z h7 h8 := hs8
  have up : ∀ c o, c ≠ z → g2.get? c = some o → h8.get? c = some o := fun c o c1 e => hs8.extBut _ _ c1 (hs7.extBut _ _ c1 (Heap.get?_push_of_some _ e))
  have t8 : h8.get? g2.objs.size = some ob := hs8.extBut _ _ (Nat.ne_of_gt zlt) (hs7.extBut _ _ (Nat.ne_of_gt zlt) (Heap.get?_push_size _ (by rw [← ht]; rfl)))
  have s8 : h8.objs.size = g2.objs.size + 1 := by rw [hs8.1, hs7.1, Heap.size_push]
  rw [sz] at hz8 t8 s8
  rw [← ht] at t8
  refine wpAny_pure ⟨_, rfl, ?_⟩
  show Q (.ref g2.objs.size) ⟨h8, gs, dr, tk2, os⟩
  rw [sz]
  exact hQ x1 x2 h8 tk2 hx1 hx2 hz8 (up _ _ S.TOz t2) (D1.frame _ _ _ j1 fun b hb o e => up b o (fun q => S.zf1 (q ▸ hb)) e) (D2.frame _ _ _ j2 fun b hb o e => up b o (fun q => S.zf2 (q ▸ hb)) e) t8 s8 fun c o cz cT c1 c2 e => up c o cz (kk c o cz cT c1 c2 e)
/-- both are at their ends -/
theorem zs_end {Q : Fin → Shared → Prop} (hh : A.handled = none) (S : ZipSep2 z TI TO i1 i2 fp1 fp2) (D1 : Draws prog w A i1 fp1 n P1 St1) (D2 : Draws prog w A i2 fp2 n P2 St2)
    (hz : IsZipS s.heap z TI TO .none) (hTI : IsTupOf2 s.heap TI (.ref i1) (.ref i2)) (hTO : IsTupOf2 s.heap TO a1 a2) (st1 : St1 n s.heap) (st2 : St2 n s.heap)
    (hE : ∀ h' e, (∀ c o, c ≠ z → c ≠ TO → c ≠ i1 → c ≠ i2 → s.heap.get? c = some o → h'.get? c = some o) → (∃ o, h'.get? e = some o ∧ o.cls = .type "StopIteration") → E (.ref e) { s with heap := h' }) :
    wpAny (model prog w) A (Builtin.«zip.__next__» ⟨[.ref z], []⟩) Q E s := by
  obtain ⟨hp, gs, dr, tk0, os⟩ := s
  show wpAny _ _ (field (.ref z) 2 >>= _) _ _ _
  refine wpAny_bind (wpAny_field hz rfl (x := .bool true) rfl ?_)
  show wpAny _ _ (field (.ref z) 3 >>= _) _ _ _
  refine wpAny_bind (wpAny_field hz rfl (x := .ref TI) rfl (wpAny_bind (wpAny_seqItems hTI rfl ?_)))
  show wpAny _ _ (ownedTupleIsFree (.ref z) >>= _) _ _ _
  refine wpAny_bind ?_
  unfold ownedTupleIsFree
  refine wpAny_bind (wpAny_field hz rfl (x := .none) rfl (wpAny_pure ?_))
  simp only [if_true]
  refine wpAny_bind (wpAny_rule (wpAny_bind (wpAny_field hz rfl (x := .ref TO) rfl (wpAny_bind (wpAny_setField_rec hz (by simp) fun g0 hz0 hs0 => ?_)))))
  replace hz0 : IsZipS g0 z TI TO .ellipsis := hz0
  replace hs0 : Heap.SameBut z hp g0 := hs0
  refine wpAny_bind ?_
  simp only [List.zipIdx_cons, List.zipIdx_nil, List.forIn_cons, List.forIn_nil]
  refine wpAny_bind (wpAny_bind (wpAny_onRaise ?_))
  show wpAny _ _ (nextOrEnd (.ref i1)) _ _ ⟨g0, gs, dr, tk0, os⟩
  refine orEnd_done D1 (D1.over st1 hs0 S.zf1) fun p1 hp1 => ?_
  replace hp1 : Heap.ExtBut i1 g0 p1 := hp1
  have hz1 : IsZipS p1 z TI TO .ellipsis := hp1 _ _ S.zi1 hz0
  refine wpAny_bind (wpAny_setField_rec hz1 (by simp) fun g1 hz2 hs1 => ?_)
  replace hs1 : Heap.SameBut z p1 g1 := hs1
  refine wpAny_bind (wpAny_bind (wpAny_bind ?_))
  show wpAny _ _ (nextOrEnd (.ref i2) >>= _) _ _ ⟨g1, gs, dr, tk0, os⟩
  refine wpAny_bind (orEnd_done D2 (D2.over (D2.frame _ _ _ (D2.over st2 hs0 S.zf2) fun b hb o e => hp1 b o (fun q => S.sep1_2 (q ▸ hb)) e) hs1 S.zf2) fun p2 hp2 => ?_)
  replace hp2 : Heap.ExtBut i2 g1 p2 := hp2
  simp only [Option.isSome_none, Bool.false_eq_true, if_false]
  refine wpAny_pure (wpAny_pure (wpAny_bind (wpAny_rule ?_)))
  show wpAny _ _ (newExc (.type "StopIteration") [] >>= _) _ _ _
  refine wpAny_bind ?_
  simp only [newExc, newTuple]
  refine wpAny_bind (wpAny_newObj_type ?_ (by size_fits))
  refine wpAny_bind (m := firstArgMember _ _) (wpAny_of_eq (a := Value.none) (by first | rfl | (simp only [firstArgMember]; rfl)) ?_)
  refine wpAny_newObj_type ?_ (by size_fits)
  simp only [raiseNew]
  refine wpAny_bind (wpAny_handled ?_)
  rw [hh]
  refine wpAny_bind (wpAny_pure (wpAny_throw ?_))
  exact hE _ _ (fun c o cz cT c1 c2 e => Heap.get?_push_of_some _ (Heap.get?_push_of_some _ (hp2 _ _ c2 (hs1.extBut _ _ cz (hp1 _ _ c1 (hs0.extBut _ _ cz e)))))) ⟨_, Heap.get?_push_size _ rfl, rfl⟩
end

/-! ### sources: a list or a tuple -/
def SqB (K : PySem.W.Frag) (t : Bool) (H : Hp) (a : Addr) (xs : List V) : Prop := match t with | true => SqT K H a xs | false => SqL K H a xs
def ItB (t : Bool) (h : Heap) (it a : Addr) (i : Nat) : Prop := match t with | true => h.IsTupleIter it a i | false => h.IsListIter it a i
def SeB (t : Bool) (h : Heap) (a : Addr) (its : Array Value) : Prop := match t with | true => h.IsTuple a its | false => h.IsList a its
def oB (t : Bool) (a : Addr) : Obj := match t with | true => { cls := .type "tuple_iterator", data := .fields #[.ref a, .int 0 0] } | false => { cls := .type "list_iterator", data := .fields #[.ref a, .int 0 0] }
theorem beginsB (t : Bool) (a : Addr) (its : Array Value) : Begins (.ref a) (oB t a) fun h => SeB t h a its := by
  cases t
  · exact begins_list a its
  · exact begins_tuple a its
theorem oB_it (t : Bool) {h : Heap} {it a : Addr} (e : h.get? it = some (oB t a)) : ItB t h it a 0 := by
  cases t
  · exact ⟨_, e, rfl, rfl⟩
  · exact ⟨_, e, rfl, rfl⟩
theorem ItB.at {t : Bool} {h h' : Heap} {it a : Addr} {i : Nat} (x : ItB t h it a i) (k : ∀ o, h.get? it = some o → h'.get? it = some o) : ItB t h' it a i := by
  cases t
  · exact Heap.IsListIter.at x k
  · exact Heap.IsTupleIter.at x k
theorem ItB.obj {t : Bool} {h : Heap} {it a : Addr} {i : Nat} (x : ItB t h it a i) : ∃ o, h.get? it = some o ∧ ∀ v, o.data ≠ .cell v := by
  cases t
  · obtain ⟨o, e, _, d⟩ := x
    exact ⟨o, e, fun v q => by rw [d] at q; cases q⟩
  · obtain ⟨o, e, _, d⟩ := x
    exact ⟨o, e, fun v q => by rw [d] at q; cases q⟩
section
variable {prog : Program} {w : World} {A : Around}
theorem drawsB (hh : A.handled = none) (t : Bool) (it a : Addr) (ne : a ≠ it) (its : Array Value) : Draws prog w A it [it, a] its.size (fun i v => its[i]? = some v) (fun i h => ItB t h it a i ∧ SeB t h a its) := by
  cases t
  · exact Draws.list hh it a ne its
  · exact Draws.tuple hh it a ne its
end
section
variable {X : Cx} {pins : List (Addr × Obj)} {σ : L2.St} {H : Hp} {s : Shared} {a : Addr} {xs ys : List V} {t : Bool}
theorem sqB_inv (I : Inv X pins σ H s) (h : SqB X.K t H a xs) : ∃ its : List Value, Vals xs its ∧ SeB t s.heap a its.toArray ∧ a < s.heap.objs.size := by
  cases t
  · obtain ⟨its, r, p, _⟩ := I.list h
    exact ⟨its, r, p.isList, p.lt⟩
  · obtain ⟨its, r, p, _⟩ := I.tuple h
    exact ⟨its, r, p, p.lt⟩
theorem sqB_inj (I : Inv X pins σ H s) (h : SqB X.K t H a xs) (h' : SqB X.K t H a ys) : xs = ys := by
  cases t
  · exact I.list_inj h h'
  · exact I.tuple_inj h h'
end
/-- both sources as they stand at each turn, of one length -/
def Itzs (K : PySem.W.Frag) (t1 t2 : Bool) (a b : Addr) : It :=
  ⟨fun i H => ∃ (xs ys : List V) (x y : V), SqB K t1 H a xs ∧ SqB K t2 H b ys ∧ xs.length = ys.length ∧ xs[i]? = some x ∧ ys[i]? = some y,
    fun i H v H' => ∃ T x y, v = .ref T ∧ H T = none ∧ H' = upd H T (.tup [x, y]) ∧ (∀ xs, SqB K t1 H a xs → xs[i]? = some x) ∧ ∀ ys, SqB K t2 H b ys → ys[i]? = some y,
    fun i H => ∃ xs ys : List V, SqB K t1 H a xs ∧ SqB K t2 H b ys ∧ xs.length = i ∧ ys.length = i⟩
section
variable {prog : Program} {w : World} {A : Around} {E : Value → Shared → Prop} {s : Shared}
theorem zs_iter {z TI TO : Addr} {f0 : Value} {Q : Value → Shared → Prop} (hz : IsZipS s.heap z TI TO f0) (h : Q (.ref z) s) : wpAny (model prog w) A (pyIter (.ref z)) Q E s := by
  have hT : s.TypeIs (.ref z) "zip" := ⟨_, hz, rfl⟩
  refine wpAny_pyIter_slot hT F.slot_zip_iter (wpAny_call_entry F.slot_zip_iter hT F.entry_zip_iter ?_ (F.args_zip_iter_1 _))
  show wpAny _ _ (ret (.ref z)) _ _ s
  exact wpAny_pure ⟨_, rfl, "zip", _, hT, F.slot_zip_next.lookup, h⟩
theorem zs_go {elts : List Expr} {x1} {pos : Pos} {z TI TO T : Addr} {Q : Unit → Shared → Prop} (hz : IsZipS s.heap z TI TO (rawInt T)) (hQ : ∀ h', IsZipS h' z TI TO .none → Heap.SameBut z s.heap h' → Q () { s with heap := h' }) :
    wpAny (model prog w) A (letOwnedTupleGo (.Tuple elts x1 pos) (.ref z) (.ref T)) Q E s := by
  unfold letOwnedTupleGo
  refine wpAny_bind (wpAny_load hz ?_)
  show wpAny _ _ (if (["enumerate", "zip", "dict_itemiterator", "dict_reverseitemiterator", "odict_iterator", "itertools.zip_longest", "itertools.pairwise"].contains "zip" &&
      (#[rawInt T, .bool false, .bool true, .ref TI, .ref TO] : Array Value)[0]? == some (rawInt T)) = true then _ else _) Q E s
  rw [if_pos (by simp)]
  refine wpAny_bind (wpAny_rule ?_)
  show wpAny _ _ (setField (.ref z) 0 .none) Q E s
  exact wpAny_setField_rec hz (by simp) fun h' hz' hs' => hQ h' hz' hs'
end
theorem turn_zs {P : Program} {w : World} {K : PySem.W.Frag} {elts : List Expr} {kk : Nat} {tpos : Pos} {a b z TI TO i1 i2 : Addr} (t1 t2 : Bool) (S : ZipSep2 z TI TO i1 i2 [i1, a] [i2, b]) (ne1 : a ≠ i1) (ne2 : b ≠ i2) :
    Turn P w K (.Tuple elts kk tpos) (Itzs K t1 t2 a b) [z, TI, TO, i1, i2] z (fun i h => IsZipS h z TI TO .none ∧ IsTupOf2 h TI (.ref i1) (.ref i2) ∧ (∃ x y, IsTupOf2 h TO x y) ∧ ItB t1 h i1 a i ∧ ItB t2 h i2 b i) := by
  have five : ∀ {c}, c ∈ [z, TI, TO, i1, i2] → c = z ∨ c = TI ∨ c = TO ∨ c = i1 ∨ c = i2 := fun h => by simpa using h
  have nofive : ∀ {c}, c ∉ [z, TI, TO, i1, i2] → c ≠ z ∧ c ≠ TI ∧ c ≠ TO ∧ c ≠ i1 ∧ c ≠ i2 := fun h => by simpa using h
  refine
  { mem := by simp
    obj := fun i h st c hc => ?_
    keep := fun i h h' st k => ?_
    item := ?_
    done := ?_
    self := fun A i s Q E st h => zs_iter st.1 h }
  · obtain ⟨hz, hTI, ⟨x, y, hTO⟩, h1, h2⟩ := st
    rcases five hc with rfl | rfl | rfl | rfl | rfl
    · exact ⟨_, hz, fun v q => by cases q⟩
    · exact ⟨_, hTI, fun v q => by cases q⟩
    · exact ⟨_, hTO, fun v q => by cases q⟩
    · exact h1.obj
    · exact h2.obj
  · obtain ⟨hz, hTI, ⟨x, y, hTO⟩, h1, h2⟩ := st
    exact ⟨k z (by simp) _ hz, k TI (by simp) _ hTI, ⟨x, y, k TO (by simp) _ hTO⟩, h1.at fun o q => k i1 (by simp) o q, h2.at fun o q => k i2 (by simp) o q⟩
  · intro X hP hw hK hc i pins s σ H E I hf st hg
    subst hP hw hK
    obtain ⟨hz, hTI, ⟨x0, y0, hTO⟩, h1, h2⟩ := st
    obtain ⟨xs, ys, x, y, hqx, hqy, hl, hx, hy⟩ := hg
    obtain ⟨its, rv, p1, _⟩ := sqB_inv I hqx
    obtain ⟨its2, rv2, p2, _⟩ := sqB_inv I hqy
    obtain ⟨u, hu, ru⟩ := rv.get hx
    obtain ⟨u2, hu2, ru2⟩ := rv2.get hy
    have hh := I.ok.hd hc
    have hzl : z < s.heap.objs.size := Heap.lt_size hz
    have il : i < its.toArray.size := by
      have := (List.getElem?_eq_some_iff.mp hu).1
      simpa using this
    have D1 := drawsB (prog := X.prog) (w := X.w) (A := X.A.in1) hh t1 i1 a ne1 its.toArray
    have D2 := drawsB (prog := X.prog) (w := X.w) (A := X.A.in1) hh t2 i2 b ne2 its2.toArray
    have le : its2.toArray.size = its.toArray.size := by
      have l1 := rv.length
      have l2 := rv2.length
      simp only [List.size_toArray]
      omega
    rw [le] at D2
    have hT : s.TypeIs (.ref z) "zip" := ⟨_, hz, rfl⟩
    unfold pyNext
    refine wpAny_bind (wpAny_attempt (wpAny_callSpecial?_slot (name := Str.ofString "__next__") hT F.slot_zip_next (wpAny_call_entry F.slot_zip_next hT F.entry_zip_next
      (zs_item S D1 D2 hz hTI hTO ⟨h1, p1⟩ ⟨h2, p2⟩ il fun v1 v2 h' tk hv1 hv2 z' TO' n1 n2 hT' hsz hk => ?_) (F.args_zip_next_1 _))))
    have e1 : v1 = u := by
      have hv1 : its[i]? = some v1 := by simpa using hv1
      rw [hu] at hv1
      exact (Option.some.inj hv1).symm
    have e2 : v2 = u2 := by
      have hv2 : its2[i]? = some v2 := by simpa using hv2
      rw [hu2] at hv2
      exact (Option.some.inj hv2).symm
    subst e1 e2
    refine wpAny_pure ⟨_, rfl, zs_go (s := { s with heap := h', toks := tk }) z' fun h'' z'' sb => ?_⟩
    replace sb : Heap.SameBut z h' h'' := sb
    have hT2 : h''.get? s.heap.objs.size = some { cls := .type "tuple", data := .seq #[v1, v2] } := (sb.2 _ (Nat.ne_of_gt hzl)).trans hT'
    have new : ObjOk X.prog X.w (upd H s.heap.objs.size (.tup [x, y])) h'' s.heap.objs.size (.tup [x, y]) := ⟨by show 2 ≤ sizeLine; decide, [v1, v2], .cons ru (.cons ru2 .nil), ⟨_, hT2, rfl, _, rfl⟩⟩
    have I1 : Inv X pins σ (upd H s.heap.objs.size (.tup [x, y])) { s with heap := h'', toks := tk } :=
      I.turnedNew (t' := tk) (ch := [z, TI, TO, i1, i2]) (fun c o hb q => by
        obtain ⟨c1, c2, c3, c4, c5⟩ := nofive hb
        exact (sb.2 c c1).trans (hk c o c1 c3 c4 c5 q)) hf (Nat.le_refl _) new
    refine ⟨.ref s.heap.objs.size, _, I1, rfl, ⟨_, x, y, rfl, I.hok.fresh (Nat.le_refl _), rfl, fun l hl => by rw [sqB_inj I hl hqx]; exact hx, fun l hl => by rw [sqB_inj I hl hqy]; exact hy⟩, ⟨z'', ?_, ⟨v1, v2, ?_⟩, ?_, ?_⟩, fun c hcm => ?_⟩
    · exact (sb.2 _ S.TIz).trans (hk _ _ S.TIz S.TITO S.TIi1 S.TIi2 hTI)
    · exact (sb.2 _ S.TOz).trans TO'
    · exact n1.1.at fun o q => (sb.2 _ S.zi1.symm).trans q
    · exact n2.1.at fun o q => (sb.2 _ S.zi2.symm).trans q
    · have hlt : c < s.heap.objs.size := by
        rcases five hcm with q | q | q | q | q
        · rw [q]; exact hzl
        · rw [q]; exact Heap.lt_size hTI
        · rw [q]; exact Heap.lt_size hTO
        · rw [q]; obtain ⟨_, e1, _⟩ := h1.obj; exact Heap.lt_size e1
        · rw [q]; obtain ⟨_, e2, _⟩ := h2.obj; exact Heap.lt_size e2
      rw [upd_ne (Nat.ne_of_lt hlt)]
      exact (hf c hcm).1
  · intro X hP hw hK hc i pins s σ H E I hf st hg
    subst hP hw hK
    obtain ⟨hz, hTI, ⟨x0, y0, hTO⟩, h1, h2⟩ := st
    obtain ⟨xs, ys, hqx, hqy, l1, l2⟩ := hg
    obtain ⟨its, rv, p1, _⟩ := sqB_inv I hqx
    obtain ⟨its2, rv2, p2, _⟩ := sqB_inv I hqy
    have hh := I.ok.hd hc
    have z1 : its.toArray.size = i := by rw [List.size_toArray, ← rv.length, l1]
    have z2 : its2.toArray.size = i := by rw [List.size_toArray, ← rv2.length, l2]
    have D1 := drawsB (prog := X.prog) (w := X.w) (A := X.A.in1) hh t1 i1 a ne1 its.toArray
    have D2 := drawsB (prog := X.prog) (w := X.w) (A := X.A.in1) hh t2 i2 b ne2 its2.toArray
    rw [z1] at D1
    rw [z2] at D2
    have hT : s.TypeIs (.ref z) "zip" := ⟨_, hz, rfl⟩
    unfold pyNext
    refine wpAny_bind (wpAny_attempt (wpAny_callSpecial?_slot (name := Str.ofString "__next__") hT F.slot_zip_next (wpAny_call_entry F.slot_zip_next hT F.entry_zip_next
      (zs_end (by exact hh) S D1 D2 hz hTI hTO ⟨h1, p1⟩ ⟨h2, p2⟩ fun h' e hk he => ?_) (F.args_zip_next_1 _))))
    obtain ⟨o, ho, hc'⟩ := he
    refine wpAny_bind (wpAny_isInstance (T := "StopIteration") (b := true) ⟨o, ho, hc'⟩ isSubtype_stop (wpAny_pure ⟨rfl, ?_⟩))
    exact I.turnedL (t' := s.toks) (ch := [z, TI, TO, i1, i2]) (fun c o hb q => by
      obtain ⟨c1, c2, c3, c4, c5⟩ := nofive hb
      exact hk c o c1 c3 c4 c5 q) hf
/-! ### the call -/
theorem typeCall_zs (a b : Value) : checkTypeCall "zip" ⟨[a, b], [(Str.ofString "strict", .bool true)]⟩ = pure () := by kernel_rfl
theorem newCall_zs (a b : Value) : checkBuiltinCall "zip.__new__" ⟨[.type "zip", a, b], [(Str.ofString "strict", .bool true)]⟩ = pure () := by kernel_rfl
theorem init_zs (obj a b : Value) : argsOk "object.__init__" ⟨[obj, a, b], [(Str.ofString "strict", .bool true)]⟩ := by unfold argsOk; kernel_rfl
abbrev zsZ (h : Heap) (o1 o2 : Obj) : Heap := (gzO2 h o1 o2).push { cls := .type "zip", data := .fields #[.none, .bool false, .bool true, .ref ((h.push o1).push o2).objs.size, .ref (gzT2 h o1 o2).objs.size] }
theorem meets_zs {v1 v2 : Value} {o1 o2 : Obj} {H1 H2 : Heap → Prop} (B1 : Begins v1 o1 H1) (B2 : Begins v2 o2 H2) :
    Meets (Builtin.«zip.__new__» ⟨[.type "zip", v1, v2], [(Str.ofString "strict", .bool true)]⟩) (fun _ R s => (H1 s.heap ∧ H2 s.heap) ∧ R (.ok (.ret (.ref (gzO2 s.heap o1 o2).objs.size))) { s with heap := zsZ s.heap o1 o2 }) :=
  .of_wp fun prog w A R s h => by
    obtain ⟨hp, g, d, tk, os⟩ := s; obtain ⟨⟨h1, h2⟩, h⟩ := h
    have hsub := sub_zip
    have q1 : ∀ {A' : Around} {E : Value → Shared → Prop} {Q : Value → Shared → Prop}, Q (.ref hp.objs.size) ⟨(hp.push o1), g, d, tk, os⟩ → wpAny (model prog w) A' (pyIter v1) Q E ⟨hp, g, d, tk, os⟩ :=
      fun q => B1.iter prog w _ _ ⟨hp, g, d, tk, os⟩ _ (B1.keeps _ _ h1 fun b o' e => e) q
    have q2 : ∀ {A' : Around} {E : Value → Shared → Prop} {Q : Value → Shared → Prop}, Q (.ref (hp.push o1).objs.size) ⟨((hp.push o1).push o2), g, d, tk, os⟩ → wpAny (model prog w) A' (pyIter v2) Q E ⟨(hp.push o1), g, d, tk, os⟩ :=
      fun q => B2.iter prog w _ _ ⟨(hp.push o1), g, d, tk, os⟩ _ (B2.keeps _ _ h2 fun b o' e => (Heap.get?_push_of_some _ e)) q
    have e1 : (Str.ofString "strict" != ("strict" : Str)) = false := by decide +kernel
    wp_walk using q1, q2
    exact ⟨_, rfl, h⟩
end My

set_option Elab.async false
set_option linter.all false
set_option maxRecDepth 100000
set_option maxHeartbeats 1000000
namespace My
open PySem PySem.Spec PyProof.Rows L2 Evl Builtin.SmallTypes
/-- a built-in class called with keywords -/
theorem callTy_kw {M : Model} {A : Around} {E : Value → Shared → Prop} {s : Shared} {env : Env} {pos : Pos} {T : String} {e : Expr} {rest : List Expr} {kws : List Keyword} {Q : Value → Shared → Prop}
    (h : wpAny M A (spliced (backTo pos (starEach (e :: rest) env))) (fun vs s1 => wpAny M A (evalAll ((backToKw pos (keywordEach kws env)).map (·.2)))
      (fun ks s2 => wpAny M A (call (.type T) vs (((backToKw pos (keywordEach kws env)).filterMap (·.1)).zip ks)) Q E s2) E s1) E s)
    (he : backTo pos (starEach (e :: rest) env) = (false, eval e env) :: backTo pos (starEach rest env)) (h1 : (backTo pos (starEach (e :: rest) env)).any (·.1) = false)
    (h2 : (backToKw pos (keywordEach kws env)).all (·.1.isSome) = true) (h3 : (backToKw pos (keywordEach kws env)).any (·.1.isNone) = false) :
    wpAny M A (callWith pos (.type T) [] (backTo pos (starEach (e :: rest) env)) (backToKw pos (keywordEach kws env))) Q E s := by
  have a : wpAny M A (evalArgs (.type T) true (backTo pos (starEach (e :: rest) env)) (backToKw pos (keywordEach kws env))) (fun a s1 => wpAny M A (call (.type T) ([] ++ a.pos) a.kw) Q E s1) E s := by
    rw [he] at h ⊢
    exact PyProof.Rows.evalArgs_kwB h2 h
  unfold callWith
  refine wpAny_bind (wpAny_holding (wpAny_mono a (fun a s1 q => wpAny_bind (wpAny_standAt ?_)) fun _ _ x => x))
  simp only [h1, h3, Bool.or_false]
  refine wpAny_bind (wpAny_pure (wpAny_bind (wpAny_mono q (fun r s2 hr => ?_) fun _ _ x => x)))
  exact wpAny_bind (wpAny_holding (wpAny_point (wpAny_pure hr)))
theorem sep_zs {n a b : Nat} (ha : a < n) (hb : b < n) : ZipSep2 (n + 4) (n + 2) (n + 3) n (n + 1) [n, a] [n + 1, b] := by
  refine ⟨?_, ?_, ?_, ?_, ?_, ?_, ?_, ?_, ?_, ?_, ?_, ?_, ?_⟩ <;> (try simp only [List.mem_cons, List.not_mem_nil, or_false, not_or, ne_eq]) <;> (try unfold Addr at *) <;> (first | omega | exact .inl rfl | exact .inl trivial)
def iZs (K : PySem.W.Frag) (t1 t2 : Bool) (ta : TA) : TI := fun σ H R => ta σ H fun vs H1 => ∃ a b xs ys, vs = [.ref a, .ref b] ∧ SqB K t1 H1 a xs ∧ SqB K t2 H1 b ys ∧ R (Itzs K t1 t2 a b) H1
theorem pi_zs {X : Cx} {e : Expr} {es : List Expr} {ta : TA} {p pos tpos : Pos} {kws : List Keyword} {elts : List Expr} {kk : Nat} (t1 t2 : Bool) (hg : Gl X "zip") (hm : X.mg "zip" = none) (ha : PA X (e :: es) ta) (hk : PK X kws (tCons (tC (.bl true)) tNil))
    (he : backTo pos (starEach (e :: es) X.env) = (false, eval e X.env) :: backTo pos (starEach es X.env) := by rfl) (hpl : (backTo pos (starEach (e :: es) X.env)).any (·.1) = false := by rfl)
    (hks : (backToKw pos (keywordEach kws X.env)).filterMap (·.1) = [Str.ofString "strict"] := by rfl)
    (hall : (backToKw pos (keywordEach kws X.env)).all (·.1.isSome) = true := by rfl) (hnone : (backToKw pos (keywordEach kws X.env)).any (·.1.isNone) = false := by rfl) :
    PI X (.Tuple elts kk tpos) (.Call (.Name "zip" p) (e :: es) kws pos) (iZs X.K t1 t2 ta) := by
  refine ⟨fun pins s σ H R I h => ?_⟩
  refine wpAny_Call_Name_kw (ld_blt I hg hm PyProof.Rows.boot_zip ?_)
  refine callTy_kw (thn (ha.run pos pins s σ H _ I h) fun us s1 h1 => ?_) he hpl hall hnone
  obtain ⟨vs, H1, I1, r1, q1⟩ := h1
  refine thn (hk.run pos pins s1 σ H1 (fun zs H2 => zs = [.bl true] ∧ H2 = H1) I1 ⟨rfl, rfl⟩) fun ws s2 h2 => ?_
  obtain ⟨zs, H2, I2, r2, ez, eh⟩ := h2
  subst ez
  subst eh
  obtain ⟨a, b, xs, ys, rfl, hqx, hqy, q⟩ := q1
  have ew : ws = [.bool true] := by
    cases r2 with
    | cons r rr =>
      cases rr
      rw [show _ = Value.bool true from r]
  obtain ⟨u1, u2, rfl, ra, rb⟩ := vals2 r1
  cases (show u1 = Value.ref a from ra)
  cases (show u2 = Value.ref b from rb)
  rw [hks, ew]
  obtain ⟨its, rv, p1, la⟩ := sqB_inv I2 hqx
  obtain ⟨its2, rv2, p2, lb⟩ := sqB_inv I2 hqy
  refine callType_newKw F.called_zip (by decide) (typeCall_zs _ _) (newCall_zs _ _) (fun obj => init_zs obj _ _) F.entry_zip_new (meets_zs (beginsB t1 a its.toArray) (beginsB t2 b its2.toArray)) ⟨⟨p1, p2⟩, ?_⟩
  have z1 : (s2.heap.push (oB t1 a)).objs.size = s2.heap.objs.size + 1 := by rw [Heap.size_push]
  have z2 : ((s2.heap.push (oB t1 a)).push (oB t2 b)).objs.size = s2.heap.objs.size + 2 := by rw [Heap.size_push, z1]
  have zT : (gzT2 s2.heap (oB t1 a) (oB t2 b)).objs.size = s2.heap.objs.size + 3 := by rw [Heap.size_push, z2]
  have zO : (gzO2 s2.heap (oB t1 a) (oB t2 b)).objs.size = s2.heap.objs.size + 4 := by rw [Heap.size_push, zT]
  have f1 := (beginsB t1 a its.toArray).free
  have f2 := (beginsB t2 b its2.toArray).free
  have gZ : (zsZ s2.heap (oB t1 a) (oB t2 b)).get? (gzO2 s2.heap (oB t1 a) (oB t2 b)).objs.size = some _ := Heap.get?_push_size _ rfl
  have gO : (zsZ s2.heap (oB t1 a) (oB t2 b)).get? (gzT2 s2.heap (oB t1 a) (oB t2 b)).objs.size = some _ := Heap.get?_push_of_some _ (Heap.get?_push_size _ rfl)
  have gT : (zsZ s2.heap (oB t1 a) (oB t2 b)).get? ((s2.heap.push (oB t1 a)).push (oB t2 b)).objs.size = some _ := Heap.get?_push_of_some _ (Heap.get?_push_of_some _ (Heap.get?_push_size _ rfl))
  have g1 : (zsZ s2.heap (oB t1 a) (oB t2 b)).get? s2.heap.objs.size = some (oB t1 a) := Heap.get?_push_of_some _ (Heap.get?_push_of_some _ (Heap.get?_push_of_some _ (Heap.get?_push_of_some _ (Heap.get?_push_size _ f1))))
  have g2 : (zsZ s2.heap (oB t1 a) (oB t2 b)).get? (s2.heap.push (oB t1 a)).objs.size = some (oB t2 b) := Heap.get?_push_of_some _ (Heap.get?_push_of_some _ (Heap.get?_push_of_some _ (Heap.get?_push_size _ f2)))
  have keep : ∀ c o, s2.heap.get? c = some o → (zsZ s2.heap (oB t1 a) (oB t2 b)).get? c = some o := fun c o e => Heap.get?_push_of_some _ (Heap.get?_push_of_some _ (Heap.get?_push_of_some _ (Heap.get?_push_of_some _ (Heap.get?_push_of_some _ e))))
  rw [zO, zT, z2] at gZ
  rw [zT] at gO
  rw [z2, z1] at gT
  rw [z1] at g2
  generalize zsZ s2.heap (oB t1 a) (oB t2 b) = h' at gZ gO gT g1 g2 keep
  show _ ∧ _
  rw [zO]
  refine ⟨⟨_, gZ, rfl⟩, zs_iter gZ ?_⟩
  have I3 : Inv X pins σ H2 { s2 with heap := h' } := I2.kept (t' := s2.toks) keep
  refine ⟨s2.heap.objs.size + 4, [s2.heap.objs.size + 4, s2.heap.objs.size + 2, s2.heap.objs.size + 3, s2.heap.objs.size, s2.heap.objs.size + 1], _, _, H2, rfl, I3, turn_zs t1 t2 (sep_zs la lb) (Nat.ne_of_lt la) (Nat.ne_of_lt (Nat.lt_succ_of_lt lb)), ⟨gZ, gT, ⟨_, _, gO⟩, oB_it t1 g1, oB_it t2 g2⟩, fun c hcm => ?_, q⟩
  have e' : c = s2.heap.objs.size + 4 ∨ c = s2.heap.objs.size + 2 ∨ c = s2.heap.objs.size + 3 ∨ c = s2.heap.objs.size ∨ c = s2.heap.objs.size + 1 := by simpa using hcm
  have hle : s2.heap.objs.size ≤ c := by
    rcases e' with z | z | z | z | z
    · rw [z]; exact Nat.le_add_right _ _
    · rw [z]; exact Nat.le_add_right _ _
    · rw [z]; exact Nat.le_add_right _ _
    · rw [z]; exact Nat.le_refl _
    · rw [z]; exact Nat.le_add_right _ _
  exact I2.fpOk hle (I2.hok.fresh hle)
end My

set_option Elab.async false
set_option linter.all false
set_option maxRecDepth 100000
set_option maxHeartbeats 1000000
/-! loops and comprehensions over ranges with a step; two clauses. -/
namespace My
open PySem PySem.Spec PyProof.Rows L2 Evl
theorem rgC_up {n c : Nat} (hn : n < 2 ^ 60) (hc : 0 < c) (hc2 : c < 1073741824) : RgC 0 (n : Int) (c : Int) ((n + c - 1) / c) := by
  have e : Builtin.Range.rangeSize 0 (n : Int) (c : Int) = (((n + c - 1) / c : Nat) : Int) := by
    unfold Builtin.Range.rangeSize
    rw [if_pos (by omega)]
    by_cases h : 0 < n
    · rw [if_pos (by omega), show (n : Int) - 0 - 1 = ((n - 1 : Nat) : Int) by omega, ← Int.natCast_ediv, show n + c - 1 = (n - 1) + c by omega, Nat.add_div_right _ hc]
      rfl
    · rw [if_neg (by omega), show n = 0 by omega, Nat.zero_add, Nat.div_eq_of_lt (by omega)]
      rfl
  refine ⟨by omega, by omega, ?_, e⟩
  unfold Builtin.Range.small
  rw [e]
  have b : (n + c - 1) / c ≤ n := by
    by_cases h : 0 < n
    · rw [show n + c - 1 = (n - 1) + c by omega, Nat.add_div_right _ hc]
      have := Nat.div_le_self (n - 1) c
      omega
    · rw [show n = 0 by omega, Nat.zero_add, Nat.div_eq_of_lt (by omega)]
      exact Nat.le_refl _
  have m : (n + c - 1) / c * c ≤ n + c - 1 := Nat.div_mul_le_self _ _
  generalize (n + c - 1) / c = d at b m
  have m2 : (d : Int) * (c : Int) ≤ (n : Int) + (c : Int) - 1 := by
    rw [← Int.natCast_mul]
    omega
  simp only [Builtin.Range.rangeFitsLong, Bool.and_eq_true, Bool.or_eq_true, decide_eq_true_eq, beq_iff_eq]
  refine ⟨⟨⟨⟨⟨by omega, by omega⟩, by omega, by omega⟩, by omega, by omega⟩, by omega, by omega⟩, .inr ?_⟩
  rw [if_pos (by omega), Bool.and_eq_true, decide_eq_true_eq, decide_eq_true_eq]
  exact ⟨by omega, by omega⟩
section
variable {K : PySem.W.Frag} {σ : L2.St} {H H' : Hp} {ta : TA} {tb te tl : TE} {xs ys : List V} {x z v : V} {p : Addr} {D : Ends} {tu tz : TS} {g : TG}
theorem s_forR3 {j n : Nat} {lo hi c : Int} (h : EvA ta σ H [.int lo, .int hi, .int c]) (hn : RgC lo hi c n) (Pv : Nat → L2.St → Hp → Prop) (h0 : ∀ H1, Ex H H1 → Pv 0 σ H1)
    (hs : ∀ (i : Nat) σ' H', i < n → Pv i σ' H' → tu { D with nx := Pv (i + 1), ct := Pv (i + 1), bk := D.nx } (σ'.set j (some (.int (lo + (i : Nat) * c)))) H') (hd : ∀ σ' H', Pv n σ' H' → D.nx σ' H') : tFor (iRng3 ta) (gName j) tu D σ H :=
  h H (Ex.refl H) _ fun H1 e => ⟨lo, hi, c, n, rfl, hn, for_rangeC Pv (h0 H1 e) (fun i σ' H' hi p => hs i σ' H' hi p) hd⟩
theorem q_forR3 {j n : Nat} {lo hi c : Int} (h : EvA ta σ H [.int lo, .int hi, .int c]) (hn : RgC lo hi c n) (Pv : Nat → L2.St → Hp → Prop) (h0 : ∀ H1, Ex H H1 → Pv 0 σ H1)
    (hs : ∀ (i : Nat) σ' H', i < n → Pv i σ' H' → tu { D with nx := Pv (i + 1), ct := Pv (i + 1), bk := tz D } (σ'.set j (some (.int (lo + (i : Nat) * c)))) H') (hd : ∀ σ' H', Pv n σ' H' → tz D σ' H') : tSeq (tFor (iRng3 ta) (gName j) tu) tz D σ H :=
  s_forR3 (D := { D with nx := tz D }) h hn Pv h0 hs hd
theorem tyes_ {F : Bool → Hp → Prop} (h : F true H) : tYes σ H F := h
/-- a comprehension over a range with a step, no test -/
theorem el_lcR3 {j n : Nat} {vs : List Nat} {lo hi c : Int} (v : Nat → V) (h : EvA ta σ H [.int lo, .int hi, .int c]) (hn : RgC lo hi c n) (hz : n ≤ 40000) (hw : ∀ x, wipe ((wipe σ vs).set j (some x)) vs = wipe σ vs)
    (he : ∀ (i : Nat) H1, Ex H H1 → i < n → Ev te ((wipe σ vs).set j (some (.int (lo + (i : Nat) * c)))) H1 (v i)) : EvL (tLc (iRng3 ta) (gName j) tYes te vs) σ H ((List.range n).map v) := by
  intro H0 e Q q
  refine h H0 e _ fun H1 e1 => ⟨lo, hi, c, n, rfl, hn, fun Dl hD => ?_⟩
  refine ⟨fun i m H' => m = n - i ∧ i ≤ n ∧ Ex H1 H' ∧ H' Dl = some (.lst ((List.range i).map v)), ⟨n, rfl, Nat.zero_le _, Ex.new hD, upd_same⟩, ?_⟩
  rintro i m H' ⟨rfl, hi, ex, hl⟩
  by_cases hlt : i < n
  · refine .inr ⟨hlt, fun H' => Ex H1 H' ∧ H' Dl = some (.lst ((List.range (i + 1)).map v)), fun H2 p => ⟨n - (i + 1), by omega, rfl, hlt, p⟩, fun x H2 y => ?_⟩
    obtain ⟨rfl, rfl⟩ := y
    refine ⟨hw _, ?_⟩
    refine tyes_ ?_
    refine iteT (he i H1 (e.trans e1) hlt H2 ex _ fun H3 e3 => ⟨_, e3 Dl _ hl, sz_lt (by rw [List.length_map, List.length_range]; omega), (ex.trans e3).mut hD, ?_⟩)
    rw [upd_same, List.range_succ, List.map_append]
    rfl
  · have e0 : i = n := by omega
    subst e0
    exact .inl ⟨Nat.le_refl _, q Dl H' (fresh_back e1 hD) (e1.trans ex) hl⟩
/-- the items of two clauses: a list that stands, then a range with a step -/
def flat2 (n : Nat) (v : Nat → Nat → V) : Nat → List V
  | 0 => []
  | i + 1 => flat2 n v i ++ (List.range n).map (v i)
theorem flat2_len (n : Nat) (v : Nat → Nat → V) : ∀ i, (flat2 n v i).length = i * n
  | 0 => by simp [flat2]
  | i + 1 => by rw [flat2, List.length_append, flat2_len n v i, List.length_map, List.length_range, Nat.succ_mul]
theorem el_lc2 {a : Addr} {j1 j2 n : Nat} {vs vs1 : List Nat} {lo hi c : Int} (v : Nat → Nat → V) (h : Ev tl σ H (.ref a)) (hx : SqL K H a xs) (hn : RgC lo hi c n) (hz : xs.length * n ≤ 40000)
    (hw : ∀ x, wipe ((wipe σ vs).set j1 (some x)) vs = wipe σ vs) (hw1 : ∀ x y, wipe ((wipe ((wipe σ vs).set j1 (some x)) vs1).set j2 (some y)) vs1 = wipe ((wipe σ vs).set j1 (some x)) vs1)
    (ha : ∀ (i : Nat) (x : V) H1, Ex H H1 → xs[i]? = some x → EvA ta ((wipe σ vs).set j1 (some x)) H1 [.int lo, .int hi, .int c])
    (he : ∀ (i k : Nat) (x : V) H1, Ex H H1 → xs[i]? = some x → k < n → Ev te ((wipe ((wipe σ vs).set j1 (some x)) vs1).set j2 (some (.int (lo + (k : Nat) * c)))) H1 (v i k)) :
    EvL (tLc2 (iList K tl) (gName j1) tYes (iRng3 ta) (gName j2) tYes te vs vs1) σ H (flat2 n v xs.length) := by
  intro H0 e Q q
  refine h H0 e _ fun H1 e1 => ⟨a, rfl, ⟨xs, ex_l (e.trans e1) hx⟩, fun Dl hD => ?_⟩
  have E1 := e.trans e1
  refine ⟨fun i m H' => m = xs.length - i ∧ i ≤ xs.length ∧ Ex H1 H' ∧ H' Dl = some (.lst (flat2 n v i)), ⟨xs.length, rfl, Nat.zero_le _, Ex.new hD, upd_same⟩, ?_⟩
  rintro i m H' ⟨rfl, hi, ex, hl⟩
  by_cases hlt : i < xs.length
  · have gx : xs[i]? = some xs[i] := List.getElem?_eq_getElem hlt
    refine .inr ⟨⟨xs, xs[i], ex_l (E1.trans ex) hx, gx⟩, fun H' => Ex H1 H' ∧ H' Dl = some (.lst (flat2 n v (i + 1))), fun H2 p => ⟨xs.length - (i + 1), by omega, rfl, hlt, p⟩, fun x H2 y => ?_⟩
    obtain ⟨rfl, y⟩ := y
    have ex' : x = xs[i] := Option.some.inj ((y xs (ex_l (E1.trans ex) hx)).symm.trans gx)
    subst ex'
    refine ⟨hw _, ?_⟩
    refine tyes_ ?_
    refine iteT (ha i _ H1 E1 gx H2 ex _ fun H3 e3 => ⟨lo, _, c, n, rfl, hn, ?_⟩)
    refine ⟨fun k m H' => m = n - k ∧ k ≤ n ∧ Ex H1 H' ∧ H' Dl = some (.lst (flat2 n v i ++ (List.range k).map (v i))), ⟨n, rfl, Nat.zero_le _, ex.trans e3, by rw [List.range_zero, List.map_nil, List.append_nil]; exact e3 Dl _ hl⟩, ?_⟩
    rintro k m H4 ⟨rfl, hk, ex4, hl4⟩
    by_cases hkn : k < n
    · refine .inr ⟨hkn, fun H' => Ex H1 H' ∧ H' Dl = some (.lst (flat2 n v i ++ (List.range (k + 1)).map (v i))), fun H5 p => ⟨n - (k + 1), by omega, rfl, hkn, p⟩, fun x H5 y => ?_⟩
      obtain ⟨rfl, rfl⟩ := y
      refine ⟨hw1 _ _, ?_⟩
      refine tyes_ ?_
      refine iteT (he i k _ H1 E1 gx hkn H5 ex4 _ fun H6 e6 => ⟨_, e6 Dl _ hl4, sz_lt ?_, (ex4.trans e6).mut hD, ?_⟩)
      · rw [List.length_append, flat2_len, List.length_map, List.length_range]
        have : (i + 1) * n ≤ xs.length * n := Nat.mul_le_mul_right _ hlt
        rw [Nat.succ_mul] at this
        omega
      · rw [upd_same, List.range_succ, List.map_append, List.append_assoc]
        rfl
    · have e0 : k = n := by omega
      subst e0
      exact .inl ⟨Nat.le_refl _, ex4, hl4⟩
  · have e0 : i = xs.length := by omega
    subst e0
    exact .inl ⟨⟨xs, ex_l (E1.trans ex) hx, Nat.le_refl _⟩, q Dl H' (fresh_back e1 hD) (e1.trans ex) hl⟩
/-- ''.join of one-sign texts -/
theorem join_ones (l : List Nat) : Txt.join (tx []) (l.map fun c => tx [c]) = tx l := by
  show Builtin.Str.glued _ _ = _
  rw [StrLaws.glued_eq_join]
  have h : ∀ l : List Nat, Str.join (tx []) (l.map fun c => tx [c]) = tx l := by
    intro l
    induction l with
    | nil => rfl
    | cons c r ih =>
      cases r with
      | nil => rfl
      | cons d r =>
        show tx [c] ++ tx [] ++ Str.join (tx []) ((d :: r).map fun c => tx [c]) = _
        rw [ih, tx_app, tx_app]
        rfl
  exact h l
end

/-! ### zip of two, strict -/
def EvZ (K : PySem.W.Frag) (ta : TA) (σ : L2.St) (H : Hp) (t1 t2 : Bool) (xs ys : List V) : Prop := ∀ H1, Ex H H1 → ∀ Q : List V → Hp → Prop, (∀ a b H2, Ex H1 H2 → SqB K t1 H2 a xs → SqB K t2 H2 b ys → Q [.ref a, .ref b] H2) → ta σ H1 Q
section
variable {K : PySem.W.Frag} {σ : L2.St} {H H' : Hp} {ta : TA} {ta1 tb1 te tl : TE} {xs ys : List V} {x z v : V} {p : Addr} {D : Ends} {tu tz : TS} {g : TG} {t1 t2 : Bool}
theorem ex_b {a : Addr} (e : Ex H H') (h : SqB K t1 H a xs) : SqB K t1 H' a xs := by
  cases t1
  · exact ex_l e h
  · exact ex_t e h
theorem ez_gt (h2 : Ev tb1 σ H (.ref p)) (hp : SqL K H p ys) : EvZ K (tCons (tGT K xs) (tCons tb1 tNil)) σ H true false xs ys := fun H1 e Q q =>
  fun a ha => h2 H1 e _ fun H2 e2 => q a p H2 e2 (ha H2) (ex_l (e.trans e2) hp)
theorem ez_vn (h1 : Ev ta1 σ H (.ref p)) (hp : SqL K H p xs) (h2 : EvL tb1 σ H ys) : EvZ K (tCons ta1 (tCons tb1 tNil)) σ H false false xs ys := fun H1 e Q q =>
  h1 H1 e _ fun H2 e2 => h2 H2 (e.trans e2) _ fun b H3 _ e3 hb => q p b H3 (e2.trans e3) (ex_l ((e.trans e2).trans e3) hp) (sq_of hb)
theorem s_forZ {j1 j2 : Nat} (h : EvZ K ta σ H t1 t2 xs ys) (hl : xs.length = ys.length) (Pv : Hp → Nat → L2.St → Hp → Prop) (h0 : ∀ H1, Ex H H1 → Pv H1 0 σ H1) (hk : ∀ H1 i σ' H', Pv H1 i σ' H' → Ex H1 H')
    (hs : ∀ H1 i x y σ' H', Ex H H1 → xs[i]? = some x → ys[i]? = some y → Pv H1 i σ' H' → ∀ H2, Ex H' H2 → tu { D with nx := Pv H1 (i + 1), ct := Pv H1 (i + 1), bk := D.nx } ((σ'.set j1 (some x)).set j2 (some y)) H2)
    (hd : ∀ H1 σ' H', Ex H H1 → Pv H1 xs.length σ' H' → D.nx σ' H') : tFor (iZs K t1 t2 ta) (gTup K 2 (gCons (gName j1) (gCons (gName j2) gNil))) tu D σ H := by
  refine h H (Ex.refl H) _ fun a b H1 e ha hb => ⟨a, b, xs, ys, rfl, ha, hb, ?_⟩
  refine ⟨fun i m σ' H' => m = xs.length - i ∧ i ≤ xs.length ∧ Pv H1 i σ' H', ⟨xs.length, rfl, Nat.zero_le _, h0 H1 e⟩, ?_⟩
  rintro i m σ' H' ⟨rfl, hi, p⟩
  have ex := hk H1 i σ' H' p
  by_cases hlt : i < xs.length
  · have gx : xs[i]? = some xs[i] := List.getElem?_eq_getElem hlt
    have hlt2 : i < ys.length := by omega
    have gy : ys[i]? = some ys[i] := List.getElem?_eq_getElem hlt2
    refine .inr ⟨⟨xs, ys, _, _, ex_b ex ha, ex_b ex hb, hl, gx, gy⟩, Pv H1 (i + 1), fun σ2 H2 p2 => ⟨xs.length - (i + 1), by omega, rfl, hlt, p2⟩, fun v H2 y => ?_⟩
    obtain ⟨T, x', y', rfl, hT, rfl, f1, f2⟩ := y
    exact ⟨T, [x', y'], rfl, st_of upd_same, rfl, x', [y'], rfl, y', [], rfl, rfl, hs H1 i x' y' σ' H' e (f1 xs (ex_b ex ha)) (f2 ys (ex_b ex hb)) p _ (Ex.new hT)⟩
  · have e0 : i = xs.length := by omega
    subst e0
    exact .inl ⟨⟨xs, ys, ex_b ex ha, ex_b ex hb, rfl, hl.symm⟩, hd H1 σ' H' e p⟩
theorem q_forZ {j1 j2 : Nat} (h : EvZ K ta σ H t1 t2 xs ys) (hl : xs.length = ys.length) (Pv : Hp → Nat → L2.St → Hp → Prop) (h0 : ∀ H1, Ex H H1 → Pv H1 0 σ H1) (hk : ∀ H1 i σ' H', Pv H1 i σ' H' → Ex H1 H')
    (hs : ∀ H1 i x y σ' H', Ex H H1 → xs[i]? = some x → ys[i]? = some y → Pv H1 i σ' H' → ∀ H2, Ex H' H2 → tu { D with nx := Pv H1 (i + 1), ct := Pv H1 (i + 1), bk := tz D } ((σ'.set j1 (some x)).set j2 (some y)) H2)
    (hd : ∀ H1 σ' H', Ex H H1 → Pv H1 xs.length σ' H' → tz D σ' H') : tSeq (tFor (iZs K t1 t2 ta) (gTup K 2 (gCons (gName j1) (gCons (gName j2) gNil))) tu) tz D σ H :=
  s_forZ (D := { D with nx := tz D }) h hl Pv h0 hk hs hd
theorem el_lcZ {j1 j2 : Nat} {vs : List Nat} (v : Nat → V) (h : EvZ K ta σ H t1 t2 xs ys) (hl : xs.length = ys.length) (hz : xs.length ≤ 40000) (hw : ∀ x y, wipe (((wipe σ vs).set j1 (some x)).set j2 (some y)) vs = wipe σ vs)
    (he : ∀ (i : Nat) (x y : V) H1, Ex H H1 → xs[i]? = some x → ys[i]? = some y → Ev te (((wipe σ vs).set j1 (some x)).set j2 (some y)) H1 (v i)) :
    EvL (tLc (iZs K t1 t2 ta) (gTup K 2 (gCons (gName j1) (gCons (gName j2) gNil))) tYes te vs) σ H ((List.range xs.length).map v) := by
  intro H0 e Q q
  refine h H0 e _ fun a b H1 e1 ha hb => ⟨a, b, xs, ys, rfl, ha, hb, fun Dl hD => ?_⟩
  refine ⟨fun i m H' => m = xs.length - i ∧ i ≤ xs.length ∧ Ex H1 H' ∧ H' Dl = some (.lst ((List.range i).map v)), ⟨xs.length, rfl, Nat.zero_le _, Ex.new hD, upd_same⟩, ?_⟩
  rintro i m H' ⟨rfl, hi, ex, hll⟩
  by_cases hlt : i < xs.length
  · have gx : xs[i]? = some xs[i] := List.getElem?_eq_getElem hlt
    have hlt2 : i < ys.length := by omega
    have gy : ys[i]? = some ys[i] := List.getElem?_eq_getElem hlt2
    refine .inr ⟨⟨xs, ys, _, _, ex_b ex ha, ex_b ex hb, hl, gx, gy⟩, fun H' => Ex H1 H' ∧ H' Dl = some (.lst ((List.range (i + 1)).map v)), fun H2 p2 => ⟨xs.length - (i + 1), by omega, rfl, hlt, p2⟩, fun v' H2 y => ?_⟩
    obtain ⟨T, x', y', rfl, hT, rfl, f1, f2⟩ := y
    refine ⟨T, [x', y'], rfl, st_of upd_same, rfl, x', [y'], rfl, y', [], rfl, rfl, hw _ _, ?_⟩
    refine tyes_ ?_
    have eT : Ex H1 (upd H' T (.tup [x', y'])) := ex.trans (Ex.new hT)
    refine iteT (he i x' y' H1 (e.trans e1) (f1 xs (ex_b ex ha)) (f2 ys (ex_b ex hb)) _ eT _ fun H3 e3 => ⟨_, e3 Dl _ ((Ex.new hT) Dl _ hll), sz_lt (by rw [List.length_map, List.length_range]; omega), (eT.trans e3).mut hD, ?_⟩)
    rw [upd_same, List.range_succ, List.map_append]
    rfl
  · have e0 : i = xs.length := by omega
    subst e0
    exact .inl ⟨⟨xs, ys, ex_b ex ha, ex_b ex hb, rfl, hl.symm⟩, q Dl H' (fresh_back e1 hD) (e1.trans ex) hll⟩
end
section
variable {K : PySem.W.Frag} {σ : L2.St} {H H' : Hp} {ta : TA} {te : TE} {x y : V} {D : Ends} {tz : TS}
theorem s_par {i j : Nat} (h : EvA ta σ H [x, y]) (k : ∀ H1, Ex H H1 → D.nx ((σ.set i (some x)).set j (some y)) H1) : tPar i j ta D σ H := h H (Ex.refl H) _ fun H1 e => ⟨x, y, rfl, k H1 e⟩
theorem q_par {i j : Nat} (h : EvA ta σ H [x, y]) (k : ∀ H1, Ex H H1 → tz D ((σ.set i (some x)).set j (some y)) H1) : tSeq (tPar i j ta) tz D σ H := s_par (D := { D with nx := tz D }) h k
end
/-! ### several names at once -/
def gNs : List Nat → TGs
  | [] => gNil
  | i :: r => gCons (gName i) (gNs r)
def setN : L2.St → List Nat → List V → L2.St
  | σ, i :: is, v :: vs => setN (σ.set i (some v)) is vs
  | σ, _, _ => σ
theorem gNs_run : ∀ {is : List Nat} {vs : List V} {σ : L2.St} {H : Hp} {Q : L2.St → Hp → Prop}, vs.length = is.length → Q (setN σ is vs) H → gNs is vs σ H Q
  | [], [], _, _, _, _, q => ⟨rfl, q⟩
  | i :: is, v :: vs, σ, H, Q, h, q => ⟨v, vs, rfl, gNs_run (Nat.succ.inj h) q⟩
  | [], _ :: _, _, _, _, h, _ => nomatch h
  | _ :: _, [], _, _, _, h, _ => nomatch h
section
variable {K : PySem.W.Frag} {σ : L2.St} {H H' : Hp} {ta : TA} {te : TE} {vs : List V} {p : Addr} {D : Ends} {tz : TS} {n : Nat}
theorem s_unl (is : List Nat) (h : Ev te σ H (.ref p)) (hS : SqL K H p vs) (hn : vs.length = n) (hl : vs.length = is.length) (k : ∀ H1, Ex H H1 → D.nx (setN σ is vs) H1) : tAsg te (gUnl K n (gNs is)) D σ H :=
  h H (Ex.refl H) _ fun H1 e => ⟨p, vs, rfl, ex_l e hS, hn, gNs_run hl (k H1 e)⟩
theorem q_unl (is : List Nat) (h : Ev te σ H (.ref p)) (hS : SqL K H p vs) (hn : vs.length = n) (hl : vs.length = is.length) (k : ∀ H1, Ex H H1 → tz D (setN σ is vs) H1) : tSeq (tAsg te (gUnl K n (gNs is))) tz D σ H := s_unl (D := { D with nx := tz D }) is h hS hn hl k
theorem s_unt (is : List Nat) (h : Ev te σ H (.ref p)) (hS : SqT K H p vs) (hn : vs.length = n) (hl : vs.length = is.length) (k : ∀ H1, Ex H H1 → D.nx (setN σ is vs) H1) : tAsg te (gTup K n (gNs is)) D σ H :=
  h H (Ex.refl H) _ fun H1 e => ⟨p, vs, rfl, ex_t e hS, hn, gNs_run hl (k H1 e)⟩
theorem s_tupN (is : List Nat) (h : EvU te σ H vs) (hn : vs.length = n) (hl : vs.length = is.length) (k : ∀ H1, Ex H H1 → D.nx (setN σ is vs) H1) : tAsg te (gTup K n (gNs is)) D σ H :=
  h H (Ex.refl H) _ fun p H1 hp e h1 => ⟨p, vs, rfl, st_of h1, hn, gNs_run hl (k H1 e)⟩
theorem q_tupN (is : List Nat) (h : EvU te σ H vs) (hn : vs.length = n) (hl : vs.length = is.length) (k : ∀ H1, Ex H H1 → tz D (setN σ is vs) H1) : tSeq (tAsg te (gTup K n (gNs is))) tz D σ H := s_tupN (D := { D with nx := tz D }) is h hn hl k
theorem ru_inv {i : Int} : RU (rU fun i => .int (Builtin.bitNot i)) (.int i) H (.int (Builtin.bitNot i)) := fun H1 _ _ q => ⟨i, rfl, q H1 (Ex.refl H1)⟩
end
end My

set_option Elab.async false
set_option linter.all false
set_option maxRecDepth 100000
set_option maxHeartbeats 1000000
/-! data, and what a value stands for in a heap. -/
namespace My
open PySem PySem.Spec PyProof.Rows L2 Evl
inductive D where
  | non | bl (b : Bool) | int (i : Int) | str (l : List Nat) | tup (ds : List D) | lst (ds : List D)
mutual
inductive Rep (H : Hp) : V → D → Prop
  | non : Rep H .non .non
  | bl (b : Bool) : Rep H (.bl b) (.bl b)
  | int (i : Int) : Rep H (.int i) (.int i)
  | str (l : List Nat) : Rep H (.str (tx l)) (.str l)
  | tup {a : Addr} {vs : List V} {ds : List D} (e : H a = some (.tup vs)) (r : Reps H vs ds) : Rep H (.ref a) (.tup ds)
  | lst {a : Addr} {vs : List V} {ds : List D} (e : H a = some (.lst vs)) (r : Reps H vs ds) : Rep H (.ref a) (.lst ds)
inductive Reps (H : Hp) : List V → List D → Prop
  | nil : Reps H [] []
  | cons {v : V} {d : D} {vs : List V} {ds : List D} (h : Rep H v d) (r : Reps H vs ds) : Reps H (v :: vs) (d :: ds)
end
mutual
theorem Rep.mono {H H' : Hp} (e : Ex H H') : ∀ {v : V} {d : D}, Rep H v d → Rep H' v d
  | _, _, .non => .non
  | _, _, .bl b => .bl b
  | _, _, .int i => .int i
  | _, _, .str l => .str l
  | _, _, .tup q r => .tup (e _ _ q) (Reps.mono e r)
  | _, _, .lst q r => .lst (e _ _ q) (Reps.mono e r)
theorem Reps.mono {H H' : Hp} (e : Ex H H') : ∀ {vs : List V} {ds : List D}, Reps H vs ds → Reps H' vs ds
  | _, _, .nil => .nil
  | _, _, .cons h r => .cons (Rep.mono e h) (Reps.mono e r)
end
theorem Reps.len {H : Hp} : ∀ {vs : List V} {ds : List D}, Reps H vs ds → vs.length = ds.length
  | _, _, .nil => rfl
  | _, _, .cons _ r => congrArg Nat.succ (Reps.len r)
theorem Reps.get {H : Hp} : ∀ {vs : List V} {ds : List D} {i : Nat} {d : D}, Reps H vs ds → ds[i]? = some d → ∃ v, vs[i]? = some v ∧ Rep H v d
  | _, _, _, _, .nil, h => nomatch h
  | v :: _, _, 0, _, .cons h r, e => ⟨v, rfl, by cases e; exact h⟩
  | _ :: _, _, i + 1, _, .cons h r, e => Reps.get (i := i) r e
theorem Reps.get' {H : Hp} : ∀ {vs : List V} {ds : List D} {i : Nat} {v : V}, Reps H vs ds → vs[i]? = some v → ∃ d, ds[i]? = some d ∧ Rep H v d
  | _, _, _, _, .nil, h => nomatch h
  | v :: _, _, 0, _, .cons (d := d) h r, e => ⟨d, rfl, by cases e; exact h⟩
  | _ :: _, _, i + 1, _, .cons h r, e => Reps.get' (i := i) r e
theorem Reps.append {H : Hp} : ∀ {vs ws : List V} {ds es : List D}, Reps H vs ds → Reps H ws es → Reps H (vs ++ ws) (ds ++ es)
  | _, _, _, _, .nil, r => r
  | _, _, _, _, .cons h t, r => .cons h (Reps.append t r)
def tyD : D → String
  | .non => "NoneType" | .bl _ => "bool" | .int _ => "int" | .str _ => "str" | .tup _ => "tuple" | .lst _ => "list"
theorem Rep.ty {K : PySem.W.Frag} {H : Hp} {v : V} {d : D} (h : Rep H v d) : TyX K H v (.type (tyD d)) := by
  cases h with
  | non => exact .base .non
  | bl b => exact .base (.bl b)
  | int i => exact .base (.int i)
  | str l => exact .base (.str _)
  | tup e _ => exact .base (.tup e)
  | lst e _ => exact .base (.lst e)
def EvD (te : TE) (σ : L2.St) (H : Hp) (d : D) : Prop := EvP te σ H fun v H' => Rep H' v d
section
variable {K : PySem.W.Frag} {σ : L2.St} {H H' : Hp} {ta : TA} {te : TE} {xs ys : List V} {x z v : V} {p : Addr} {E : Ends} {tu tz : TS} {d : D}
theorem evd_v (h : Ev te σ H v) (r : Rep H v d) : EvD te σ H d := fun H1 e Q q => h H1 e Q fun H2 e2 => q v H2 e2 (r.mono (e.trans e2))
theorem ev_isi {T : String} {b : Bool} (h : Ev te σ H v) (r : Rep H v d) (hk : kitB (tyD d) T = some b) : Ev (tCB (rIsi K) (tCons te (tCons (tC (.ty T)) tNil))) σ H (.bl b) := fun H1 e Q q =>
  h H1 e _ fun H2 e2 => ⟨v, .ty T, .type (tyD d), .type T, b, rfl, .ty T, (r.mono (e.trans e2)).ty, kit_ty hk, q H2 e2⟩
theorem et_isN {te : TE} (h : Ev te σ H v) : EvT (tTest (tOp (fun x y H Q => y = .non ∧ Q (.bl (decide (x = .non))) H) te (tC .non))) σ H (decide (v = .non)) := fun H1 e Q q =>
  h H1 e _ fun H2 e2 => ⟨rfl, _, rfl, q H2 e2⟩
/-- xs.extend(a new list) -/
theorem s_extL {l : Addr} (hl : H l = some (.lst xs)) (ha : ∀ H1, Ex H H1 → Ev te σ H1 (.ref l)) {tb : TE} (h : EvL tb σ H ys) (hz : xs.length + ys.length ≤ 100000) (k : ∀ H1, Ex H H1 → E.nx σ (upd H1 l (.lst (xs ++ ys)))) :
    tDrop (tBM K "list" rExtend te (tCons tb tNil)) E σ H := ha H (Ex.refl H) H (Ex.refl H) _ fun H1 e1 =>
  ⟨Or.inl ⟨rfl, xs, sq_of (e1 l _ hl)⟩, h H1 e1 _ fun p H2 hp e2 h2 => ⟨l, p, xs, ys, rfl, rfl, e2 l _ (e1 l _ hl), h2, sz_of hz, k H2 (e1.trans e2)⟩⟩
/-- a loop over a text's signs -/
theorem for_str {x : Str} {g : TG} {tb : TS} {D : Ends} {σ : L2.St} {H : Hp} (Pv : Nat → L2.St → Hp → Prop) (h0 : Pv 0 σ H)
    (hs : ∀ i c σ H, x.cps[i]? = some c → Pv i σ H → g (.str (tx [c])) σ H fun σ2 H2 => tb { D with nx := Pv (i + 1), ct := Pv (i + 1), bk := D.nx } σ2 H2) (hd : ∀ σ H, Pv x.cps.size σ H → D.nx σ H) :
    ∃ W : Nat → Nat → L2.St → Hp → Prop, (∃ m, W 0 m σ H) ∧ ∀ i m σ H, W i m σ H →
      ((Its x).stop i H ∧ D.nx σ H) ∨ ((Its x).go i H ∧ ∃ N : L2.St → Hp → Prop, (∀ σ' H', N σ' H' → ∃ m', m' < m ∧ W (i + 1) m' σ' H') ∧ ∀ v H', (Its x).yld i H v H' → g v σ H' fun σ2 H2 => tb { D with nx := N, ct := N, bk := D.nx } σ2 H2) := by
  refine ⟨fun i m σ H => m = x.cps.size - i ∧ i ≤ x.cps.size ∧ Pv i σ H, ⟨x.cps.size, rfl, Nat.zero_le _, h0⟩, ?_⟩
  rintro i m σ H ⟨rfl, hi, p⟩
  by_cases hlt : i < x.cps.size
  · refine .inr ⟨hlt, Pv (i + 1), fun σ' H' p' => ⟨x.cps.size - (i + 1), by omega, rfl, hlt, p'⟩, fun v H' y => ?_⟩
    obtain ⟨rfl, c, hc, rfl⟩ := y
    exact hs i c σ _ hc p
  · have e : i = x.cps.size := by omega
    subst e
    exact .inl ⟨Nat.le_refl _, hd σ H p⟩
theorem s_forS {l : List Nat} {j : Nat} (h : Ev te σ H (.str (tx l))) (Pv : Nat → L2.St → Hp → Prop) (h0 : ∀ H1, Ex H H1 → Pv 0 σ H1)
    (hs : ∀ i c σ' H', l[i]? = some c → Pv i σ' H' → tu { E with nx := Pv (i + 1), ct := Pv (i + 1), bk := E.nx } (σ'.set j (some (.str (tx [c])))) H') (hd : ∀ σ' H', Pv l.length σ' H' → E.nx σ' H') : tFor (iStr te) (gName j) tu E σ H :=
  h H (Ex.refl H) _ fun H1 e => ⟨tx l, rfl, for_str Pv (h0 H1 e) (fun i c σ' H' hc p => hs i c σ' H' (by simpa [tx] using hc) p) (fun σ' H' p => hd σ' H' (by simpa [tx] using p))⟩
theorem q_forS {l : List Nat} {j : Nat} (h : Ev te σ H (.str (tx l))) (Pv : Nat → L2.St → Hp → Prop) (h0 : ∀ H1, Ex H H1 → Pv 0 σ H1)
    (hs : ∀ i c σ' H', l[i]? = some c → Pv i σ' H' → tu { E with nx := Pv (i + 1), ct := Pv (i + 1), bk := tz E } (σ'.set j (some (.str (tx [c])))) H') (hd : ∀ σ' H', Pv l.length σ' H' → tz E σ' H') : tSeq (tFor (iStr te) (gName j) tu) tz E σ H :=
  s_forS (E := { E with nx := tz E }) h Pv h0 hs hd
end
/-! ### octets of data -/
def sev (n : Nat) : List Nat := if h : n < 128 then [n] else (128 + n % 128) :: sev (n / 128)
termination_by n
decreasing_by omega
theorem sev_lt {n : Nat} (h : n < 128) : sev n = [n] := by rw [sev, dif_pos h]
theorem sev_ge {n : Nat} (h : ¬ n < 128) : sev n = (128 + n % 128) :: sev (n / 128) := by rw [sev, dif_neg h]
theorem sev_len (k : Nat) : ∀ n, n < 128 ^ (k + 1) → (sev n).length ≤ k + 1 := by
  induction k with
  | zero => intro n h; rw [sev_lt (by simpa using h)]; exact Nat.le_refl _
  | succ k ih =>
    intro n h
    by_cases h1 : n < 128
    · rw [sev_lt h1]; simp
    · rw [sev_ge h1, List.length_cons]
      have := ih (n / 128) (by rw [Nat.div_lt_iff_lt_mul (by decide), ← Nat.pow_succ]; exact h)
      omega
theorem sev_oct : ∀ n, ∀ x ∈ sev n, x < 256 := by
  intro n
  induction n using Nat.strongRecOn with
  | _ n ih =>
    intro x hx
    by_cases h1 : n < 128
    · rw [sev_lt h1, List.mem_singleton] at hx
      omega
    · rw [sev_ge h1, List.mem_cons] at hx
      rcases hx with rfl | hx
      · omega
      · exact ih (n / 128) (by omega) x hx
/-- the place of a sign in the row of signs -/
def sgns : List Nat := (List.range 95).map (· + 32) |>.filter (fun c => c != 37) |>.append [10]
def sgn (c : Nat) : Nat := if c = 10 then 94 else if c < 37 then c - 32 else c - 33
mutual
def octs : D → List Nat
  | .non => [0]
  | .bl b => [if b then 2 else 1]
  | .int i => if 0 ≤ i then 3 :: sev i.toNat else 4 :: sev (-i - 1).toNat
  | .str l => 5 :: (sev l.length ++ l.map sgn)
  | .tup ds => 6 :: (sev ds.length ++ octsL ds)
  | .lst _ => []
def octsL : List D → List Nat
  | [] => []
  | d :: ds => octs d ++ octsL ds
end
mutual
def height : D → Nat
  | .tup ds => heightL ds + 1
  | .lst ds => heightL ds + 1
  | _ => 0
def heightL : List D → Nat
  | [] => 0
  | d :: ds => max (height d) (heightL ds)
end
mutual
/-- a plain value, of a size -/
def Pln : D → Prop
  | .non => True
  | .bl _ => True
  | .int i => i.natAbs < 2 ^ 64
  | .str l => l.length ≤ 1000 ∧ ∀ c ∈ l, c ∈ sgns
  | .tup ds => ds.length ≤ 1000 ∧ PlnL ds
  | .lst _ => False
def PlnL : List D → Prop
  | [] => True
  | d :: ds => Pln d ∧ PlnL ds
end
theorem octsL_app : ∀ a b : List D, octsL (a ++ b) = octsL a ++ octsL b
  | [], _ => by simp [octsL]
  | d :: a, b => by rw [List.cons_append, octsL, octsL, octsL_app a b, List.append_assoc]
theorem octsL_take {ds : List D} {i : Nat} {d : D} (h : ds[i]? = some d) : octsL (ds.take (i + 1)) = octsL (ds.take i) ++ octs d := by
  rw [List.take_add_one, h, octsL_app]
  simp [octsL]
theorem heightL_get : ∀ {ds : List D} {i : Nat} {d : D}, ds[i]? = some d → height d ≤ heightL ds
  | [], _, _, h => nomatch h
  | d :: ds, 0, _, h => by cases h; rw [heightL]; exact Nat.le_max_left _ _
  | d :: ds, i + 1, _, h => by rw [heightL]; exact Nat.le_trans (heightL_get (ds := ds) (i := i) h) (Nat.le_max_right _ _)
theorem PlnL_get : ∀ {ds : List D} {i : Nat} {d : D}, PlnL ds → ds[i]? = some d → Pln d
  | [], _, _, _, h => nomatch h
  | d :: ds, 0, _, p, h => by cases h; rw [PlnL] at p; exact p.1
  | d :: ds, i + 1, _, p, h => by rw [PlnL] at p; exact PlnL_get (ds := ds) (i := i) p.2 h
theorem octsL_part : ∀ {ds : List D} {i : Nat} {d : D}, ds[i]? = some d → (octsL (ds.take i)).length + (octs d).length ≤ (octsL ds).length
  | [], _, _, h => nomatch h
  | d :: ds, 0, _, h => by cases h; rw [List.take_zero, octsL, octsL, List.length_append, List.length_nil]; omega
  | d :: ds, i + 1, _, h => by
    rw [List.take_succ_cons, octsL, octsL, List.length_append, List.length_append]
    have := octsL_part (ds := ds) (i := i) h
    omega
theorem sgn_lt {c : Nat} (h : c ∈ sgns) : sgn c < 95 := by
  have : ∀ c ∈ sgns, sgn c < 95 := by decide +kernel
  exact this c h
mutual
theorem octs_oct : ∀ d, Pln d → ∀ x ∈ octs d, x < 256
  | .non, _, x, h => by rw [octs, List.mem_singleton] at h; omega
  | .bl b, _, x, h => by rw [octs, List.mem_singleton] at h; subst h; cases b <;> decide
  | .int i, _, x, h => by
    rw [octs] at h
    split at h <;> rw [List.mem_cons] at h <;> rcases h with rfl | h
    · decide
    · exact sev_oct _ x h
    · decide
    · exact sev_oct _ x h
  | .str l, p, x, h => by
    rw [octs, List.mem_cons, List.mem_append, List.mem_map] at h
    rw [Pln] at p
    rcases h with rfl | h | ⟨c, hc, rfl⟩
    · decide
    · exact sev_oct _ x h
    · have := sgn_lt (p.2 c hc); omega
  | .tup ds, p, x, h => by
    rw [octs, List.mem_cons, List.mem_append] at h
    rw [Pln] at p
    rcases h with rfl | h | h
    · decide
    · exact sev_oct _ x h
    · exact octsL_oct ds p.2 x h
  | .lst _, _, x, h => by rw [octs] at h; simp at h
theorem octsL_oct : ∀ ds, PlnL ds → ∀ x ∈ octsL ds, x < 256
  | [], _, x, h => by rw [octsL] at h; simp at h
  | d :: ds, p, x, h => by
    rw [octsL, List.mem_append] at h
    rw [PlnL] at p
    rcases h with h | h
    · exact octs_oct d p.1 x h
    · exact octsL_oct ds p.2 x h
end
end My

set_option Elab.async false
set_option linter.all false
set_option maxRecDepth 100000
set_option maxHeartbeats 1000000
/-! texts: signs, lengths, slices, comprehensions; chains; all. -/
namespace My
open PySem PySem.Spec PyProof.Rows L2 Evl
section
variable {K : PySem.W.Frag}
theorem ev_sidx {σ : L2.St} {H : Hp} {te tb : TE} {a b : Str} {i : Nat} {r : List Nat} (h : Ev te σ H (.str a)) (hb : Ev tb σ H (.str b)) (ho : Builtin.Str.occurrences a b 0 a.length 1 = i :: r) :
    Ev (tBM K "str" (fun x xs H Q => ∃ a b i rest, x = .str a ∧ xs = [.str b] ∧ Builtin.Str.occurrences a b 0 a.length 1 = i :: rest ∧ Q (.int (i : Nat)) H) te (tCons tb tNil)) σ H (.int (i : Int)) := fun H1 e Q q =>
  h H1 e _ fun H2 e2 => ⟨rfl, hb H2 (e.trans e2) _ fun H3 e3 => ⟨a, b, i, r, rfl, rfl, ho, q H3 (e2.trans e3)⟩⟩
theorem ev_lenT {σ : L2.St} {H : Hp} {ta : TE} {p : Addr} {xs : List V} (ha : Ev ta σ H (.ref p)) (h : SqT K H p xs) : Ev (tCB (rLenS K) (tCons ta tNil)) σ H (.int (xs.length : Int)) := fun H1 e Q q =>
  ha H1 e _ fun H2 e2 => ⟨p, xs, rfl, .inr (ex_t (e.trans e2) h), q H2 e2⟩
theorem ev_lenS {σ : L2.St} {H : Hp} {ta : TE} {l : List Nat} (ha : Ev ta σ H (.str (tx l))) (hz : l.length ≤ 100000) : Ev (tCB (fun xs H Q => ∃ z, xs = [.str z] ∧ z.length ≤ sizeLine ∧ Q (.int z.length) H) (tCons ta tNil)) σ H (.int (l.length : Int)) := fun H1 e Q q =>
  ha H1 e _ fun H2 e2 => ⟨tx l, rfl, by rw [tx_len]; exact sz_of hz, by rw [tx_len]; exact q H2 e2⟩
theorem el_if {σ : L2.St} {H : Hp} {t : TT} {ta tb : TE} {xs : List V} {b : Bool} (h : EvT t σ H b) (h1 : b = true → EvL ta σ H xs) (h2 : b = false → EvL tb σ H xs) : EvL (tIf t ta tb) σ H xs := fun H1 e Q q => h H1 e _ fun H2 e2 => by
  cases b with
  | true => exact h1 rfl H2 (e.trans e2) Q fun p H3 hp e3 h3 => q p H3 (fresh_back e2 hp) (e2.trans e3) h3
  | false => exact h2 rfl H2 (e.trans e2) Q fun p H3 hp e3 h3 => q p H3 (fresh_back e2 hp) (e2.trans e3) h3

variable {σ : L2.St} {H H' : Hp} {ta : TA} {te tb tc tl : TE} {xs ys : List V} {x y z v : V} {p : Addr} {D : Ends} {tu tz : TS}
theorem rv_inSn {c : Nat} {l : List Nat} : RV (fun x y H Q => ∃ (c : Nat) (z : Str), x = .str ⟨#[c]⟩ ∧ y = .str z ∧ Q (.bl (decide (c ∈ z.cps.toList))) H) (.str (tx [c])) (.str (tx l)) H (.bl (decide (c ∈ l))) := rv_val fun H1 _ Q q => ⟨c, tx l, rfl, rfl, q⟩
theorem rv_niSn {c : Nat} {l : List Nat} : RV (fun x y H Q => ∃ (c : Nat) (z : Str), x = .str ⟨#[c]⟩ ∧ y = .str z ∧ Q (.bl (!decide (c ∈ z.cps.toList))) H) (.str (tx [c])) (.str (tx l)) H (.bl (!decide (c ∈ l))) := rv_val fun H1 _ Q q => ⟨c, tx l, rfl, rfl, q⟩
theorem ev_chain {r r' : R2} {w' : V} {k m : Bool} (ha : Ev te σ H x) (hb : Ev tb σ H y) (hr : RV r x y H (.bl k)) (hc : k = true → Ev tc σ H w') (hr' : k = true → RV r' y w' H (.bl m)) : Ev (tChain r r' te tb tc) σ H (.bl (k && m)) := fun H1 e Q q =>
  ha H1 e _ fun H2 e2 => hb H2 (e.trans e2) _ fun H3 e3 => hr H3 ((e.trans e2).trans e3) _ fun H4 e4 => ⟨k, rfl, by
    have E := ((e.trans e2).trans e3).trans e4
    cases k with
    | false => exact q H4 ((e2.trans e3).trans e4)
    | true => exact hc rfl H4 E _ fun H5 e5 => hr' rfl H5 (E.trans e5) _ fun H6 e6 => q H6 ((((e2.trans e3).trans e4).trans e5).trans e6)⟩
theorem ev_all {bs : List Bool} (h : EvL te σ H (bs.map V.bl)) : Ev (tCB (rAll K) (tCons te tNil)) σ H (.bl (bs.all id)) := fun H1 e Q q =>
  h H1 e _ fun p H2 _ e2 hp => ⟨p, bs, rfl, sq_of hp, q H2 e2⟩
theorem el_split {a b : Str} (ha : Ev te σ H (.str a)) (hb : Ev tb σ H (.str b)) (h0 : (b.length == 0) = false) (hz : a.length + 2 ≤ 100000) :
    EvL (tM1 (fun x xs H Q => ∃ a b, x = .str a ∧ xs = [.str b] ∧ (b.length == 0) = false ∧ a.length + 2 ≤ sizeLine ∧ rNewStrs (Txt.split a b) H Q) te tb) σ H ((Txt.split a b).map V.str) := fun H1 e Q q =>
  ha H1 e _ fun H2 e2 => ⟨⟨a, rfl⟩, hb H2 (e.trans e2) _ fun H3 e3 => ⟨a, b, rfl, rfl, h0, sz_of hz, fun l hl => q l _ (fresh_back (e2.trans e3) hl) ((e2.trans e3).trans (Ex.new hl)) upd_same⟩⟩
theorem ev_slS {l : List Nat} {tlo thi : TO} {lo hi : Option Int} (h : Ev te σ H (.str (tx l))) (h1 : EvO tlo σ H lo) (h2 : EvO thi σ H hi) (hz : l.length ≤ 100000) : Ev (tSl rSlS te tlo thi) σ H (.str (cutS (tx l) lo hi)) := fun H1 e Q q =>
  h H1 e _ fun H2 e2 => h1 H2 (e.trans e2) _ fun H3 e3 => h2 H3 ((e.trans e2).trans e3) _ fun H4 e4 => ⟨tx l, rfl, by rw [tx_len]; exact sz_of hz, q H4 ((e2.trans e3).trans e4)⟩
theorem cutS_take (l : List Nat) (n : Nat) : cutS (tx l) none (some (n : Int)) = tx (l.take n) := by
  unfold cutS
  rw [HT.sIx_nat, HT.sIx_none, tx_list, List.drop_zero, Nat.sub_zero, tx_len]
  by_cases h : n ≤ l.length
  · rw [Nat.min_eq_left h]; rfl
  · rw [Nat.min_eq_right (by omega), List.take_of_length_le (Nat.le_refl _), List.take_of_length_le (show l.length ≤ n by omega)]; rfl
/-- a comprehension over a text, no test -/
theorem el_lcS {j : Nat} {vs : List Nat} {l : List Nat} (v : Nat → V) (h : Ev tl σ H (.str (tx l))) (hz : l.length ≤ 40000) (hw : ∀ x, wipe ((wipe σ vs).set j (some x)) vs = wipe σ vs)
    (he : ∀ c H1, Ex H H1 → c ∈ l → Ev te ((wipe σ vs).set j (some (.str (tx [c])))) H1 (v c)) : EvL (tLc (iStr tl) (gName j) tYes te vs) σ H (l.map v) := by
  intro H0 e Q q
  refine h H0 e _ fun H1 e1 => ⟨tx l, rfl, fun Dl hD => ?_⟩
  have hsz : (tx l).cps.size = l.length := List.size_toArray
  refine ⟨fun i m H' => m = l.length - i ∧ i ≤ l.length ∧ Ex H1 H' ∧ H' Dl = some (.lst ((l.take i).map v)), ⟨l.length, rfl, Nat.zero_le _, Ex.new hD, upd_same⟩, ?_⟩
  rintro i m H' ⟨rfl, hi, ex, hl⟩
  by_cases hlt : i < l.length
  · refine .inr ⟨show i < _ by rw [hsz]; exact hlt, fun H' => Ex H1 H' ∧ H' Dl = some (.lst ((l.take (i + 1)).map v)), fun H2 p => ⟨l.length - (i + 1), by omega, rfl, hlt, p⟩, fun x H2 y => ?_⟩
    obtain ⟨rfl, c, hc, rfl⟩ := y
    have hc' : l[i]? = some c := by simpa [tx] using hc
    refine ⟨hw _, ?_⟩
    refine tyes_ ?_
    refine iteT (he c H1 (e.trans e1) (List.mem_of_getElem? hc') H2 ex _ fun H3 e3 => ⟨_, e3 Dl _ hl, sz_lt (by rw [List.length_map, List.length_take]; omega), (ex.trans e3).mut hD, ?_⟩)
    rw [upd_same, List.take_add_one, hc', List.map_append]
    rfl
  · have e0 : i = l.length := by omega
    subst e0
    rw [List.take_of_length_le (Nat.le_refl _)] at hl
    exact .inl ⟨show _ ≤ _ by rw [hsz]; exact Nat.le_refl _, q Dl H' (fresh_back e1 hD) (e1.trans ex) hl⟩
/-- a comprehension over a new list, no test -/
theorem el_lcN {j : Nat} {vs : List Nat} (g : V → V) (h : EvL tl σ H xs) (hz : xs.length ≤ 40000) (hw : ∀ x, wipe ((wipe σ vs).set j (some x)) vs = wipe σ vs)
    (he : ∀ x H1, Ex H H1 → x ∈ xs → Ev te ((wipe σ vs).set j (some x)) H1 (g x)) : EvL (tLc (iList K tl) (gName j) tYes te vs) σ H (xs.map g) := by
  intro H0 e Q q
  refine h H0 e _ fun a H1 ha e1 h1 => ⟨a, rfl, ⟨xs, sq_of h1⟩, fun Dl hD => ?_⟩
  refine ⟨fun i m H' => m = xs.length - i ∧ i ≤ xs.length ∧ Ex H1 H' ∧ H' Dl = some (.lst ((xs.take i).map g)), ⟨xs.length, rfl, Nat.zero_le _, Ex.new hD, upd_same⟩, ?_⟩
  rintro i m H' ⟨rfl, hi, ex, hl⟩
  by_cases hlt : i < xs.length
  · have gx : xs[i]? = some xs[i] := List.getElem?_eq_getElem hlt
    refine .inr ⟨⟨xs, xs[i], sq_of (ex a _ h1), gx⟩, fun H' => Ex H1 H' ∧ H' Dl = some (.lst ((xs.take (i + 1)).map g)), fun H2 p => ⟨xs.length - (i + 1), by omega, rfl, hlt, p⟩, fun x H2 y => ?_⟩
    obtain ⟨rfl, y⟩ := y
    have ex' : x = xs[i] := Option.some.inj ((y xs (sq_of (ex a _ h1))).symm.trans gx)
    subst ex'
    refine ⟨hw _, ?_⟩
    refine tyes_ ?_
    refine iteT (he _ H1 (e.trans e1) (List.mem_of_getElem? gx) H2 ex _ fun H3 e3 => ⟨_, e3 Dl _ hl, sz_lt (by rw [List.length_map, List.length_take]; omega), (ex.trans e3).mut hD, ?_⟩)
    rw [upd_same, List.take_add_one, gx, List.map_append]
    rfl
  · have e0 : i = xs.length := by omega
    subst e0
    rw [List.take_of_length_le (Nat.le_refl _)] at hl
    exact .inl ⟨⟨xs, sq_of (ex a _ h1), Nat.le_refl _⟩, q Dl H' (fresh_back e1 hD) (e1.trans ex) hl⟩
end
end My

set_option Elab.async false
set_option linter.all false
set_option maxRecDepth 100000
set_option maxHeartbeats 1000000
/-! text * int; is True; the laws' pool of draws; sameness of data. -/
namespace My
open PySem PySem.Spec PyProof.Rows L2 Evl
section
variable {X : Cx}
def rMulS : R2 := fun x y H Q => ∃ a n, x = .str a ∧ y = .int n ∧ MulOk a n ∧ Q (.str (Txt.mul a n)) H
theorem op_mulS : OpR X (binaryOp .Mult) rMulS := by
  intro pins s σ H x y v u Q I rx ry h
  obtain ⟨i, j, rfl, rfl, hz, q⟩ := h
  obtain ⟨t, rfl⟩ := rx
  obtain ⟨t', rfl⟩ := ry
  exact SB.mul hz fun t' tk => ⟨.str _, H, I.tok _, ⟨_, rfl⟩, q⟩
def rIsBA : R2 := fun x y H Q => ∃ b, y = .bl b ∧ Q (.bl (decide (x = .bl b))) H
theorem op_isBA : OpR X (compareOp .Is) rIsBA := by
  intro pins s σ H x y v u Q I rx ry h
  obtain ⟨b, rfl, q⟩ := h
  cases (show u = Value.bool b from ry)
  cases x with
  | bl a =>
    cases (show v = Value.bool a from rx)
    by_cases e : a = b
    · subst e
      exact wpAny_is_self rfl ⟨.bl true, H, I, rfl, by simpa using q⟩
    · exact wpAny_is_other rfl (fun z => e (Value.bool.inj z)) ⟨.bl false, H, I, rfl, by simpa [e] using q⟩
  | _ => first
    | (cases rx; exact wpAny_is_other rfl (fun z => nomatch z) ⟨.bl false, H, I, rfl, q⟩)
    | (obtain ⟨t, rfl⟩ := rx; exact wpAny_is_other rfl (fun z => nomatch z) ⟨.bl false, H, I, rfl, q⟩)
end
/-! ### heaps in which the pool alone is written -/
def Keep (p : Addr) (H H' : Hp) : Prop := ∀ a o, a ≠ p → H a = some o → H' a = some o
def Pool (K : PySem.W.Frag) (H : Hp) (p sc : Addr) (ns : List Int) : Prop := ∃ pl r f : Nat, H p = some (.lst [.ref sc, .int (pl : Int), .int (r : Int), .int (f : Int)]) ∧ SqL K H sc (ns.map V.int)
def G (K : PySem.W.Frag) (p sc : Addr) (ns : List Int) (H H' : Hp) : Prop := Keep p H H' ∧ Pool K H' p sc ns
section
variable {K : PySem.W.Frag} {p q a sc : Addr} {ns : List Int} {H H1 H2 H3 : Hp} {xs : List V} {v : V} {d : D} {o : HO}
theorem Keep.of (e : Ex H H1) : Keep p H H1 := fun x o _ h => e x o h
theorem Keep.trans (a : Keep p H H1) (b : Keep p H1 H2) : Keep p H H2 := fun x o n h => b x o n (a x o n h)
theorem Keep.upd : Keep p H (upd H p o) := fun x u n h => by rw [upd_ne n]; exact h
theorem Keep.new (k : Keep p H1 H2) (h : H1 q = none) : Keep p H1 (L2.upd H2 q o) := fun x u n e => by
  have nq : x ≠ q := fun z => by rw [z, h] at e; exact nomatch e
  rw [upd_ne nq]
  exact k x u n e
theorem keep_l (k : Keep p H H1) (n : a ≠ p) (h : SqL K H a xs) : SqL K H1 a xs := by
  rcases h with (h | ⟨o, h⟩) | h
  · exact .inl (.inl (k _ _ n h))
  · exact .inl (.inr ⟨o, k _ _ n h⟩)
  · exact .inr h
theorem keep_t (k : Keep p H H1) (n : a ≠ p) (h : SqT K H a xs) : SqT K H1 a xs := by
  rcases h with (h | ⟨o, h⟩) | h
  · exact .inl (.inl (k _ _ n h))
  · exact .inl (.inr ⟨o, k _ _ n h⟩)
  · exact .inr h
theorem sc_keep (hp : H p = some (.lst (.ref q :: xs))) (k : Keep p H H1) (h : SqL K H sc (ns.map V.int)) : SqL K H1 sc (ns.map V.int) := by
  rcases h with (h | ⟨o, h⟩) | h
  · have n : sc ≠ p := fun e => by
      rw [e, hp] at h
      have := HO.lst.inj (Option.some.inj h)
      cases ns with
      | nil => exact nomatch this
      | cons x r => exact nomatch (List.cons.inj this).1
    exact .inl (.inl (k _ _ n h))
  · have n : sc ≠ p := fun e => by
      rw [e, hp] at h
      exact nomatch Option.some.inj h
    exact .inl (.inr ⟨o, k _ _ n h⟩)
  · exact .inr h
theorem Pool.mk' {pl r f : Nat} (h : Pool K H p sc ns) (k : Keep p H H1) (h1 : H1 p = some (.lst [.ref sc, .int (pl : Int), .int (r : Int), .int (f : Int)])) : Pool K H1 p sc ns := by
  obtain ⟨_, _, _, hp, hs⟩ := h
  exact ⟨pl, r, f, h1, sc_keep hp k hs⟩
theorem Pool.ex (e : Ex H H1) (h : Pool K H p sc ns) : Pool K H1 p sc ns := by
  obtain ⟨pl, r, f, h1, h2⟩ := h
  exact ⟨pl, r, f, e p _ h1, ex_l e h2⟩
theorem G.trans (a : G K p sc ns H H1) (b : G K p sc ns H1 H2) : G K p sc ns H H2 := ⟨a.1.trans b.1, b.2⟩
theorem G.ex (e : Ex H H1) (h : Pool K H p sc ns) : G K p sc ns H H1 := ⟨.of e, h.ex e⟩
theorem G.refl (h : Pool K H p sc ns) : G K p sc ns H H := G.ex (Ex.refl H) h
theorem G.exR (g : G K p sc ns H H1) (e : Ex H1 H2) : G K p sc ns H H2 := g.trans (G.ex e g.2)
theorem G.exL (e : Ex H H1) (g : G K p sc ns H1 H2) : G K p sc ns H H2 := ⟨(Keep.of e).trans g.1, g.2⟩
/-- a new object beside the pool -/
theorem Pool.ne (h : Pool K H p sc ns) (ha : H a = none) : a ≠ p := fun e => by
  obtain ⟨_, r, f, h1, _⟩ := h
  rw [e, h1] at ha
  exact nomatch ha
theorem G.new (h : Pool K H1 p sc ns) (g : G K p sc ns H1 H2) (hq : H1 q = none) : G K p sc ns H1 (upd H2 q o) := by
  refine ⟨g.1.new hq, ?_⟩
  obtain ⟨_, r, f, h1, _⟩ := g.2
  exact h.mk' (g.1.new hq) (by rw [upd_ne (h.ne hq).symm]; exact h1)
mutual
theorem Rep.off (k : Keep p H H1) (hp : ∀ us, H p ≠ some (.tup us)) : ∀ {v : V} {d : D}, Pln d → Rep H v d → Rep H1 v d
  | _, _, _, .non => .non
  | _, _, _, .bl b => .bl b
  | _, _, _, .int i => .int i
  | _, _, _, .str l => .str l
  | _, .tup ds, h, .tup q r => .tup (k _ _ (fun e => hp _ (e ▸ q)) q) (Reps.off k hp (by rw [Pln] at h; exact h.2) r)
  | _, .lst ds, h, .lst q r => (by rw [Pln] at h; exact h.elim)
theorem Reps.off (k : Keep p H H1) (hp : ∀ us, H p ≠ some (.tup us)) : ∀ {vs : List V} {ds : List D}, PlnL ds → Reps H vs ds → Reps H1 vs ds
  | _, _, _, .nil => .nil
  | _, _ :: _, h, .cons r rs => .cons (Rep.off k hp (by rw [PlnL] at h; exact h.1) r) (Reps.off k hp (by rw [PlnL] at h; exact h.2) rs)
end
theorem Pool.noT (h : Pool K H p sc ns) (us : List V) : H p ≠ some (.tup us) := fun e => by
  obtain ⟨_, r, f, h1, _⟩ := h
  rw [h1] at e
  exact nomatch Option.some.inj e
theorem Rep.g (g : G K p sc ns H H1) (hp : Pool K H p sc ns) (h : Pln d) (r : Rep H v d) : Rep H1 v d := Rep.off g.1 hp.noT h r
theorem Reps.g {vs : List V} {ds : List D} (g : G K p sc ns H H1) (hp : Pool K H p sc ns) (h : PlnL ds) (r : Reps H vs ds) : Reps H1 vs ds := Reps.off g.1 hp.noT h r
end
/-! ### promises of the draws -/
def sp_draw (K : PySem.W.Frag) : Sp := fun vs H Q _ => ∃ (p sc : Addr) (ns : List Int) (limit : Nat), vs = [.ref p, .int (limit : Int)] ∧ Pool K H p sc ns ∧ 0 < limit ∧ limit < 2 ^ 63 ∧ ∀ (v : Nat) H', v < limit → G K p sc ns H H' → Q (.int (v : Int)) H'
def sp_pick (K : PySem.W.Frag) : Sp := fun vs H Q _ => ∃ (p sc : Addr) (ns : List Int) (a : Addr) (xs : List V), vs = [.ref p, .ref a] ∧ Pool K H p sc ns ∧ SqL K H a xs ∧ a ≠ p ∧ xs ≠ [] ∧ xs.length ≤ 1000 ∧ ∀ v H', v ∈ xs → G K p sc ns H H' → Q v H'
/-! ### steps by hand -/
section
variable {σ : L2.St} {H : Hp} {Q : VK} {R : List V → Hp → Prop} {ta tr : TA} {te tb : TE} {r : R2} {D : Ends} {sp : Sp} {dvs : List V} {E : XK} {v : V} {i : Nat} {tz : TS}
theorem r_ret (h : te σ H D.rt) : tRet te D σ H := h
theorem r_op (h : te σ H fun x H1 => tb σ H1 fun y H2 => r x y H2 Q) : tOp r te tb σ H Q := h
theorem r_var (h : σ[i]? = some (some v)) (q : Q v H) : tVar i σ H Q := ⟨v, h, q⟩
theorem r_c (q : Q v H) : tC v σ H Q := q
theorem r_call (h : ta σ H fun vs H1 => sp (vs ++ dvs) H1 Q E) : tCall sp dvs E ta σ H Q := h
theorem r_cons (h : te σ H fun x H1 => tr σ H1 fun xs H2 => R (x :: xs) H2) : tCons te tr σ H R := h
theorem r_nil (h : R [] H) : tNil σ H R := h
theorem r_ev {H0 : Hp} (h : Ev te σ H0 v) (e : Ex H0 H) (q : ∀ H2, Ex H H2 → Q v H2) : te σ H Q := h H e Q q
theorem r_el {H0 : Hp} {xs : List V} (h : EvL te σ H0 xs) (e : Ex H0 H) (q : ∀ a H2, H a = none → Ex H H2 → H2 a = some (.lst xs) → Q (.ref a) H2) : te σ H Q := h H e Q q
theorem r_asg (h : te σ H fun v H1 => tz D (σ.set i (some v)) H1) : tSeq (tAsg te (gName i)) tz D σ H := h
theorem r_if {t : TT} (h : t σ H fun b H1 => if b = true then te σ H1 Q else tb σ H1 Q) : tIf t te tb σ H Q := h
theorem r_test {B : Bool → Hp → Prop} (h : te σ H fun x H' => ∃ k, x = .bl k ∧ B k H') : tTest te σ H B := h
theorem r_draw {K : PySem.W.Frag} {p sc : Addr} {ns : List Int} {n : Nat} (hP : Pool K H p sc ns) (ha : EvA ta σ H [.ref p, .int (n : Int)]) (h0 : 0 < n) (hn : n < 2 ^ 63) (q : ∀ (v : Nat) H', v < n → G K p sc ns H H' → Q (.int (v : Int)) H') : tCall (sp_draw K) [] E ta σ H Q :=
  ha H (Ex.refl H) _ fun H1 e1 => ⟨p, sc, ns, n, rfl, hP.ex e1, h0, hn, fun v H' hv g => q v H' hv (G.exL e1 g)⟩
theorem r_pick {K : PySem.W.Frag} {p sc : Addr} {ns : List Int} {xs : List V} (hP : Pool K H p sc ns) (ha : Ev te σ H (.ref p)) (hb : EvL tb σ H xs) (h0 : xs ≠ []) (hn : xs.length ≤ 1000) (q : ∀ v H', v ∈ xs → G K p sc ns H H' → Q v H') : tCall (sp_pick K) [] E (tCons te (tCons tb tNil)) σ H Q :=
  ha H (Ex.refl H) _ fun H1 e1 => hb H1 e1 _ fun a H2 hn2 e2 h2 => ⟨p, sc, ns, a, xs, rfl, hP.ex (e1.trans e2), sq_of h2, (hP.ex e1).ne hn2, h0, hn, fun v H' hv g => q v H' hv (G.exL (e1.trans e2) g)⟩
theorem r_lcR1 {g : TG} {tt : TT} {vs : List Nat} (h : ta σ H fun ws H1 => ∃ j : Int, ws = [.int j] ∧ -(2 ^ 62) ≤ j ∧ j < 2 ^ 62 ∧ ∀ D, H1 D = none → ∃ W : Nat → Nat → Hp → Prop, (∃ m, W 0 m (upd H1 D (.lst []))) ∧ ∀ i m H, W i m H →
    ((Itr 0 j.toNat).stop i H ∧ Q (.ref D) H) ∨ ((Itr 0 j.toNat).go i H ∧ ∃ Nx : Hp → Prop, (∀ H', Nx H' → ∃ m', m' < m ∧ W (i + 1) m' H') ∧ ∀ x H', (Itr 0 j.toNat).yld i H x H' → g x (wipe σ vs) H' fun σ2 H2 => wipe σ2 vs = wipe σ vs ∧ tt σ2 H2 fun b H3 =>
      if b = true then te σ2 H3 fun y H4 => ∃ acc, H4 D = some (.lst acc) ∧ acc.length < sizeLine ∧ Nx (upd H4 D (.lst (acc ++ [y]))) else Nx H3)) : tLc (iRng1 ta) g tt te vs σ H Q := h
theorem r_cb {g : List V → Hp → VK → Prop} (h : ta σ H fun xs H1 => g xs H1 Q) : tCB g ta σ H Q := h
end
/-! ### the numbers -/
def m89 : Nat := 618970019642690137449562111
def m107 : Nat := 162259276829213363391578010288127
def mixF (n p : Nat) : Nat :=
  let f := (n * 48271 + p * 69621 + 11) % m89
  let s := (f * f + 7 * f + p) % m107
  s * m89 + (s * s + f) % m89
def absF (i : Int) : Nat := if i < 0 then (1 - 2 * i).toNat else i.toNat
def restF (xs : List Int) (p f : Nat) : Nat :=
  let n := if 0 < xs.length then absF (xs.getD (p % xs.length) 0) else 0
  if f = 0 ∧ p < xs.length ∧ 10 ^ 18 ≤ n then n - 10 ^ 18 else mixF (n + f * 1000003) p
/-! ### sameness -/
mutual
def sameD : D → D → Bool
  | .non, .non => true
  | .bl a, .bl b => decide (a = b)
  | .int a, .int b => decide (a = b)
  | .str a, .str b => decide (a = b)
  | .tup a, .tup b => sameL a b
  | .lst a, .lst b => sameL a b
  | _, _ => false
def sameL : List D → List D → Bool
  | [], [] => true
  | a :: as, b :: bs => sameD a b && sameL as bs
  | _, _ => false
end
mutual
theorem sameD_refl : ∀ d, sameD d d = true
  | .non => by rw [sameD]
  | .bl _ => by rw [sameD]; exact decide_eq_true rfl
  | .int _ => by rw [sameD]; exact decide_eq_true rfl
  | .str _ => by rw [sameD]; exact decide_eq_true rfl
  | .tup ds => by rw [sameD]; exact sameL_refl ds
  | .lst ds => by rw [sameD]; exact sameL_refl ds
theorem sameL_refl : ∀ ds, sameL ds ds = true
  | [] => by rw [sameL]
  | d :: ds => by rw [sameL, sameD_refl d, sameL_refl ds]; rfl
end
end My

set_option Elab.async false
set_option linter.all false
set_option maxRecDepth 100000
set_option maxHeartbeats 1000000
/-! literals whose items are new tuples; loops over rows of two; a row picked. -/
namespace My
open PySem PySem.Spec PyProof.Rows L2 Evl
mutual
def plnB : D → Bool
  | .non => true
  | .bl _ => true
  | .int i => decide (i.natAbs < 2 ^ 64)
  | .str l => decide (l.length ≤ 1000) && l.all fun c => decide (c ∈ sgns)
  | .tup ds => decide (ds.length ≤ 1000) && plnBL ds
  | .lst _ => false
def plnBL : List D → Bool
  | [] => true
  | d :: ds => plnB d && plnBL ds
end
mutual
theorem plnB_ok : ∀ d, plnB d = true → Pln d
  | .non, _ => by rw [Pln]; trivial
  | .bl _, _ => by rw [Pln]; trivial
  | .int i, h => by rw [plnB] at h; rw [Pln]; exact of_decide_eq_true h
  | .str l, h => by
    rw [plnB, Bool.and_eq_true] at h
    rw [Pln]
    exact ⟨of_decide_eq_true h.1, fun c hc => of_decide_eq_true (List.all_eq_true.mp h.2 c hc)⟩
  | .tup ds, h => by
    rw [plnB, Bool.and_eq_true] at h
    rw [Pln]
    exact ⟨of_decide_eq_true h.1, plnBL_ok ds h.2⟩
  | .lst _, h => by rw [plnB] at h; exact nomatch h
theorem plnBL_ok : ∀ ds, plnBL ds = true → PlnL ds
  | [], _ => by rw [PlnL]; trivial
  | d :: ds, h => by
    rw [plnBL, Bool.and_eq_true] at h
    rw [PlnL]
    exact ⟨plnB_ok d h.1, plnBL_ok ds h.2⟩
end
def EvAR (ta : TA) (σ : L2.St) (H : Hp) (ds : List D) : Prop := EvAP ta σ H fun vs H' => Reps H' vs ds
section
variable {K : PySem.W.Frag} {σ : L2.St} {H : Hp} {ta tr : TA} {te tl tb : TE} {d : D} {ds : List D} {D0 : Ends} {tu tz : TS} {E : XK} {Q : VK}
theorem er_nil : EvAR tNil σ H [] := fun H1 _ Q q => q [] H1 (Ex.refl H1) .nil
theorem er_cons (h : EvD te σ H d) (hr : EvAR tr σ H ds) : EvAR (tCons te tr) σ H (d :: ds) := fun H1 e Q q =>
  h H1 e _ fun v H2 e2 r => hr H2 (e.trans e2) _ fun vs H3 e3 rs => q _ H3 (e2.trans e3) (.cons (r.mono e3) rs)
theorem ed_tup (h : EvAR ta σ H ds) (hn : ds.length ≤ 100000) : EvD (tTup ta) σ H (.tup ds) := fun H1 e Q q =>
  h H1 e _ fun vs H2 e2 rs => ⟨sz_of (by rw [rs.len]; exact hn), fun p hp => q (.ref p) _ (e2.trans (Ex.new hp)) (.tup upd_same (rs.mono (Ex.new hp)))⟩
theorem ed_lst (h : EvAR ta σ H ds) (hn : ds.length ≤ 100000) : EvD (tLst ta) σ H (.lst ds) := fun H1 e Q q =>
  h H1 e _ fun vs H2 e2 rs => ⟨sz_of (by rw [rs.len]; exact hn), fun p hp => q (.ref p) _ (e2.trans (Ex.new hp)) (.lst upd_same (rs.mono (Ex.new hp)))⟩
theorem rv_mulSn {c : Nat} {l : List Nat} {n : Int} (hm : MulOk (tx [c]) n) (he : Txt.mul (tx [c]) n = tx l) : RV rMulS (.str (tx [c])) (.int n) H (.str (tx l)) := fun H1 _ Q q =>
  ⟨tx [c], n, rfl, rfl, hm, by rw [he]; exact q H1 (Ex.refl H1)⟩
theorem q_forD2 {rows : List (D × D)} {j1 j2 : Nat} (h : EvD tl σ H (.lst (rows.map fun r => .tup [r.1, r.2]))) (Pv : Hp → Nat → L2.St → Hp → Prop) (h0 : ∀ H1, Ex H H1 → Pv H1 0 σ H1) (hk : ∀ H1 i σ' H', Pv H1 i σ' H' → Ex H1 H')
    (hs : ∀ H1 i r v1 v2 σ' H', Ex H H1 → rows[i]? = some r → Rep H' v1 r.1 → Rep H' v2 r.2 → Pv H1 i σ' H' → tu { D0 with nx := Pv H1 (i + 1), ct := Pv H1 (i + 1), bk := tz D0 } ((σ'.set j1 (some v1)).set j2 (some v2)) H')
    (hd : ∀ H1 σ' H', Ex H H1 → Pv H1 rows.length σ' H' → tz D0 σ' H') : tSeq (tFor (iList K tl) (gTup K 2 (gCons (gName j1) (gCons (gName j2) gNil))) tu) tz D0 σ H := by
  refine h H (Ex.refl H) _ fun v H1 e r => ?_
  cases r with
  | @lst a vs _ hl rs =>
    have hlen : vs.length = rows.length := by rw [rs.len, List.length_map]
    refine ⟨a, rfl, ⟨vs, sq_of hl⟩, for_list (Pv H1) (h0 H1 e) (fun i σ' H' _ p => sq_of (hk H1 i σ' H' p a _ hl)) (fun i x σ' H' hx p => ?_) (fun σ' H' p => hd H1 σ' H' e (by rw [← hlen]; exact p))⟩
    obtain ⟨d, hd', rd⟩ := rs.get' hx
    rw [List.getElem?_map] at hd'
    obtain ⟨r, hr, e2⟩ := Option.map_eq_some_iff.mp hd'
    rw [← e2] at rd
    have ex := hk H1 i σ' H' p
    cases rd with
    | tup ht rr =>
      cases rr with
      | cons r1 rr =>
        cases rr with
        | cons r2 rr =>
          cases rr
          exact ⟨_, _, rfl, st_of (ex _ _ ht), rfl, _, _, rfl, _, _, rfl, rfl, hs H1 i r _ _ σ' H' e hr (r1.mono ex) (r2.mono ex) p⟩
def tupB : D → Bool
  | .tup _ => true
  | _ => false
/-- a row picked -/
theorem r_pickD {p sc : Addr} {ns : List Int} (hP : Pool K H p sc ns) (ha : Ev te σ H (.ref p)) (hb : EvD tb σ H (.lst ds)) (h0 : ds ≠ []) (hn : ds.length ≤ 1000) (hp : plnBL ds = true) (ht : ds.all tupB = true) (q : ∀ v d H', d ∈ ds → Rep H' v d → G K p sc ns H H' → Q v H') : tCall (sp_pick K) [] E (tCons te (tCons tb tNil)) σ H Q :=
  ha H (Ex.refl H) _ fun H1 e1 => hb H1 e1 _ fun v H2 e2 r => by
    have E2 := e1.trans e2
    have P2 := hP.ex E2
    cases r with
    | @lst a vs _ hl rs =>
      have hne : a ≠ p := fun e => by
        subst e
        obtain ⟨_, r, f, h1, _⟩ := P2
        rw [h1] at hl
        have := HO.lst.inj (Option.some.inj hl)
        subst this
        cases rs with
        | cons r1 rs =>
          cases rs with
          | cons r2 rs =>
            cases r2
            rw [List.all_cons, List.all_cons, Bool.and_eq_true, Bool.and_eq_true] at ht
            exact nomatch ht.2.1
      refine ⟨p, sc, ns, a, vs, rfl, P2, sq_of hl, hne, ?_, by rw [rs.len]; exact hn, fun v H' hv g => ?_⟩
      · intro z
        subst z
        exact h0 (List.length_eq_zero_iff.mp rs.len.symm)
      · obtain ⟨i, hi, rfl⟩ := List.mem_iff_getElem.mp hv
        obtain ⟨d, hd, rd⟩ := rs.get' (List.getElem?_eq_getElem hi)
        exact q _ d H' (List.mem_of_getElem? hd) (Rep.g g P2 (PlnL_get (plnBL_ok _ hp) hd) rd) (G.exL E2 g)
end
end My

set_option Elab.async false
set_option linter.all false
set_option maxRecDepth 100000
set_option maxHeartbeats 1000000
/-! what the top has written: defs, numbers, texts, tuples. -/
namespace My
open PySem PySem.Spec PyProof.Rows L2 Evl
def HasF (K : PySem.W.Frag) (x : Str) (st : Stmt) : Prop := ∃ (f : Addr) (oc : Value) (od : Option Addr) (kV dc pm : Value) (an : Option Addr) (cd ct : Value) (sl : Array (Option Value)),
  PySem.W.nsIn K mainGlobals x = some (some (.ref f)) ∧ K.lookup f = some ⟨oc, od, .func (PySem.W.fnOf x x (defArgs st) (defBody st) (defScope st) .none kV dc pm an cd ct), sl⟩ ∧ PySem.W.codeIn K cd x = true ∧ PySem.W.keepIn K (.ref f) = true
def HasI (K : PySem.W.Frag) (x : Str) (n : Int) : Prop := ∃ t, PySem.W.nsIn K mainGlobals x = some (some (.int n t))
def HasS (K : PySem.W.Frag) (x z : Str) : Prop := ∃ t, PySem.W.nsIn K mainGlobals x = some (some (.str z t))
def HasT (K : PySem.W.Frag) (x : Str) (xs : List V) : Prop := ∃ (a : Addr) (o : Obj) (its : Array Value) (n : Nat), PySem.W.nsIn K mainGlobals x = some (some (.ref a)) ∧ K.lookup a = some o ∧ o.cls = .type "tuple" ∧ o.data = .seq its n ∧ its.size ≤ sizeLine ∧ Vals xs its.toList
section
variable {K : PySem.W.Frag} {h : Heap} {mg : Str → Option Value} {x z : Str} {st : Stmt} {n : Int} {xs : List V}
theorem HasF.mk' {f : Addr} {oc : Value} {od : Option Addr} {kV dc pm : Value} {an : Option Addr} {cd ct : Value} {sl : Array (Option Value)}
    (a : PySem.W.nsIn K mainGlobals x = some (some (.ref f))) (l : K.lookup f = some ⟨oc, od, .func (PySem.W.fnOf x x (defArgs st) (defBody st) (defScope st) .none kV dc pm an cd ct), sl⟩) (c : PySem.W.codeIn K cd x = true) (k : PySem.W.keepIn K (.ref f) = true) : HasF K x st :=
  ⟨f, oc, od, kV, dc, pm, an, cd, ct, sl, a, l, c, k⟩
theorem HasI.mk' {t : Tok} (a : PySem.W.nsIn K mainGlobals x = some (some (.int n t))) : HasI K x n := ⟨t, a⟩
theorem HasS.mk' {t : Tok} (a : PySem.W.nsIn K mainGlobals x = some (some (.str z t))) : HasS K x z := ⟨t, a⟩
theorem HasT.mk' {p : Addr} {od : Option Addr} {its : Array Value} {m : Nat} {sl : Array (Option Value)} (a : PySem.W.nsIn K mainGlobals x = some (some (.ref p))) (l : K.lookup p = some ⟨.type "tuple", od, .seq its m, sl⟩) (z : its.size ≤ sizeLine) (v : Vals xs its.toList) : HasT K x xs :=
  ⟨p, _, its, m, a, l, rfl, rfl, z, v⟩
theorem HasF.get (X : K.In h) (G : h.Ns mainGlobals mg) (H : HasF K x st) : ∃ f fd, Fun K x x st f fd ∧ mg x = some (.ref f) := by
  obtain ⟨f, oc, od, kV, dc, pm, an, cd, ct, sl, a, l, c, k⟩ := H
  exact ⟨f, _, fun_mk l c k, PySem.W.mg_of X G a⟩
theorem HasI.gi (X : K.In h) (G : h.Ns mainGlobals mg) (H : HasI K x n) : GI mg x n := by
  obtain ⟨t, a⟩ := H
  exact ⟨t, PySem.W.mg_of X G a⟩
theorem HasS.gs (X : K.In h) (G : h.Ns mainGlobals mg) (H : HasS K x z) : GS mg x z := by
  obtain ⟨t, a⟩ := H
  exact ⟨t, PySem.W.mg_of X G a⟩
theorem HasT.gt (X : K.In h) (G : h.Ns mainGlobals mg) (H : HasT K x xs) : GT K mg x xs := by
  obtain ⟨a, o, its, n, m, l, c, d, z, v⟩ := H
  exact ⟨a, PySem.W.mg_of X G m, fun _ => .inr ⟨o, its, n, l, c, d, z, v⟩⟩
end
end My

set_option Elab.async false
set_option linter.all false
set_option maxRecDepth 100000
set_option maxHeartbeats 1000000
/-! sorted of texts, any number of them: a list's, a dict's keys. -/
namespace My
open PySem PySem.Spec PyProof.Rows L2 Evl
def rSortSA (K : PySem.W.Frag) : List V → Hp → VK → Prop := fun vs H Q => ∃ (a : Addr) (ks : List Str), vs = [.ref a] ∧ SqL K H a (ks.map V.str) ∧ ks.length ≤ 100000 ∧
  ∀ ys p, ys.Perm ks → sortedS ys = true → H p = none → Q (.ref p) (upd H p (.lst (ys.map V.str)))
def rSortDA : List V → Hp → VK → Prop := fun vs H Q => ∃ (a : Addr) (kvs : List (Key × V)) (ks : List Str), vs = [.ref a] ∧ Rd H a (.dK kvs) ∧ kvs.map (·.1) = ks.map Sum.inr ∧ ks.length ≤ 100000 ∧
  ∀ ys p, ys.Perm ks → sortedS ys = true → H p = none → Q (.ref p) (upd H p (.lst (ys.map V.str)))
section
variable {X : Cx}
theorem cr_sortedSA : CallR X (.builtin "sorted") (rSortSA X.K) := by
  intro pins s σ H vs us Q I r h
  obtain ⟨a, ks, rfl, hs, hn, q⟩ := h
  rw [Vals.ref1 r]
  obtain ⟨its, rv, hl, _⟩ := I.list hs
  have hlen := rv.length
  rw [List.length_map] at hlen
  refine sorted_strsAny hl.isList rv.strs (by rw [← hlen]; exact sz_of hn) fun out ys h1 h2 h3 => ?_
  obtain ⟨ep, hat⟩ := sortedAll_at s.heap its out
  refine ⟨.ref _, upd H (s.heap.objs.size + 1) (.lst (ys.map V.str)), I.laid (t' := s.toks) (fun _ _ => sortedAll_old) (Nat.le_succ _) ⟨?_, out.toList, ep, vals_of_strs h1, hat⟩, rfl, q ys _ h2 h3 (I.hok.fresh (Nat.le_succ _))⟩
  rw [List.length_map, h2.length_eq]
  exact sz_of hn
theorem cr_sortedDA (hcalm : X.calm = true) : CallR X (.builtin "sorted") rSortDA := by
  intro pins s σ H vs us Q I r h
  obtain ⟨a, kvs, ks, rfl, hd, hks, hn, q⟩ := h
  rw [Vals.ref1 r]
  obtain ⟨z, lo, ws, rel, dd⟩ := dk_rd I.hok hd
  obtain ⟨ep, hat⟩ := dd.dictAt
  have hkeys : ws.map (·.1) = ks.map Sum.inr := rel.keys.symm.trans hks
  have hl : ws.length = ks.length := by simpa using congrArg List.length hkeys
  have hz : ks.length ≤ sizeLine := sz_of hn
  refine Calls.call_function_entry kind_sorted plain_sorted entry_sorted (args_sorted1 _) ?_
  unfold Builtin.«sorted»
  refine wpAny_bind (m := checkCount "sorted" 1 1 _) (wpAny_pure ?_)
  refine wpAny_bind (PySem.W.kdu_collect (A := X.A.in1) (PySem.W.kdl_dict (knd := mixKind X.prog X.w) (kvs := ws) (ep := ep) lo) (I.ok.hd hcalm) hat (by rw [hl]; exact hz) fun h' tk acc hk hacc => ?_)
  have hal : acc.toList.length = ks.length := by rw [Array.length_toList, hacc.1, hl]
  have hS : StrsAre acc.toList ks := strs_at hal fun j v e => by
    obtain ⟨k, x, e1, e2⟩ := hacc.2 j v (by rw [← Array.getElem?_toList]; exact e)
    have e3 : (ks.map Sum.inr)[j]? = some k := by rw [← hkeys, List.getElem?_map, e1]; rfl
    rw [List.getElem?_map] at e3
    obtain ⟨y, e4, e5⟩ := Option.map_eq_some_iff.mp e3
    subst e5
    obtain ⟨t, ev⟩ := Value.isStrOf_shape (x := y) (v := v) e2
    exact ⟨y, t, e4, ev⟩
  have I1 : Inv X pins σ H { s with heap := h', toks := tk } := I.kept hk
  refine wpAny_bind (wpAny_newList ?_ (by rw [hal]; exact hz))
  have hoL : (h'.push (seqObj "list" acc.toList.toArray 0)).get? h'.objs.size = some (seqObj "list" acc.toList.toArray 0) := Heap.get?_push_size _ rfl
  show wpAny _ _ _ _ _ { s with heap := h'.push (seqObj "list" acc.toList.toArray 0), toks := tk }
  refine wpAny_bind (wpAny_holding (wpAny_call_entry slot_list_sort ⟨_, hoL, rfl⟩ entry_list_sort
    (list_sort_treeKAny strKind_oneLt (s := { s with heap := h'.push (seqObj "list" acc.toList.toArray 0), toks := tk }) hoL hS.keysOf (fun v₁ v₂ rest e => keyKind_strs (by rw [← e]; exact hS)) (by rw [hal]; exact hz) fun st' hp hs => ⟨_, rfl, ?_⟩)
    (args_list_sort _)))
  obtain ⟨ys, g1, g2, g3⟩ := sorted_out_str hS hp hs
  obtain ⟨e', he'⟩ := sortedHeap_at (vs := acc.toList) (out := (arrOf st').map (·.2)) hoL
  refine wpAny_pure ⟨_, rfl, .ref h'.objs.size, upd H h'.objs.size (.lst (ys.map V.str)), I1.laid (t' := tk) (fun b u e => ?_) (Nat.le_refl _)
    (show ObjOk X.prog X.w _ _ _ (.lst (ys.map V.str)) from ⟨by rw [List.length_map, g2.length_eq]; exact hz, ((arrOf st').map (·.2)).toList, e', vals_of_strs g1, by rw [Array.toArray_toList]; exact he'⟩), rfl, q ys _ g2 g3 (I1.hok.fresh (Nat.le_refl _))⟩
  have hb : b < h'.objs.size := Heap.lt_size e
  rw [sortedHeap_old (Nat.ne_of_lt hb) (by rw [size_push']; exact Nat.lt_succ_of_lt hb)]
  exact Heap.get?_push_of_some _ e
end
end My

set_option Elab.async false
set_option linter.all false
set_option maxRecDepth 100000
set_option maxHeartbeats 1000000
/-! comprehensions with a test over lists and tuples, by their items. -/
namespace My
open PySem PySem.Spec PyProof.Rows L2 Evl
section
variable {K : PySem.W.Frag} {σ : L2.St} {H : Hp} {te tl : TE} {tt : TT} {xs : List V} {a : Addr}
/-- the turn of a comprehension whose item is x -/
theorem lcf_turn {H1 H' : Hp} {σ2 : L2.St} {Dl : Addr} {f : V → Bool} {g : V → V} {i : Nat} {x : V} (hx : xs[i]? = some x) (hD : H1 Dl = none) (ex : Ex H1 H') (hl : H' Dl = some (.lst (((xs.take i).filter f).map g))) (hz : xs.length ≤ 40000)
    (ht : EvT tt σ2 H1 (f x)) (he : f x = true → Ev te σ2 H1 (g x)) :
    tt σ2 H' fun b H3 => if b = true then te σ2 H3 fun y H4 => ∃ acc, H4 Dl = some (.lst acc) ∧ acc.length < sizeLine ∧ (Ex H1 (upd H4 Dl (.lst (acc ++ [y]))) ∧ (upd H4 Dl (.lst (acc ++ [y]))) Dl = some (.lst (((xs.take (i + 1)).filter f).map g)))
      else (Ex H1 H3 ∧ H3 Dl = some (.lst (((xs.take (i + 1)).filter f).map g))) := by
  refine ht H' ex _ fun H3 e3 => ?_
  have E3 := ex.trans e3
  have l3 := e3 Dl _ hl
  rw [List.take_add_one, hx, List.filter_append]
  cases hf : f x with
  | false =>
    rw [if_neg (by decide)]
    refine ⟨E3, ?_⟩
    rw [l3]
    simp [hf]
  | true =>
    rw [if_pos rfl]
    refine he hf H3 E3 _ fun H4 e4 => ⟨_, e4 Dl _ l3, sz_lt ?_, (E3.trans e4).mut hD, ?_⟩
    · have h1 := List.length_filter_le f (xs.take i)
      rw [List.length_map]
      rw [List.length_take] at h1
      omega
    · rw [upd_same]
      simp [hf]
theorem el_lcF {j : Nat} {vs : List Nat} (f : V → Bool) (g : V → V) (h : EvL tl σ H xs) (hz : xs.length ≤ 40000) (hw : ∀ x, wipe ((wipe σ vs).set j (some x)) vs = wipe σ vs)
    (ht : ∀ x H1, Ex H H1 → x ∈ xs → EvT tt ((wipe σ vs).set j (some x)) H1 (f x)) (he : ∀ x H1, Ex H H1 → x ∈ xs → f x = true → Ev te ((wipe σ vs).set j (some x)) H1 (g x)) : EvL (tLc (iList K tl) (gName j) tt te vs) σ H ((xs.filter f).map g) := by
  intro H0 e Q q
  refine h H0 e _ fun a H1 ha e1 h1 => ⟨a, rfl, ⟨xs, sq_of h1⟩, fun Dl hD => ?_⟩
  refine ⟨fun i m H' => m = xs.length - i ∧ i ≤ xs.length ∧ Ex H1 H' ∧ H' Dl = some (.lst (((xs.take i).filter f).map g)), ⟨xs.length, rfl, Nat.zero_le _, Ex.new hD, upd_same⟩, ?_⟩
  rintro i m H' ⟨rfl, hi, ex, hl⟩
  by_cases hlt : i < xs.length
  · have gx : xs[i]? = some xs[i] := List.getElem?_eq_getElem hlt
    refine .inr ⟨⟨xs, xs[i], sq_of (ex a _ h1), gx⟩, fun H' => Ex H1 H' ∧ H' Dl = some (.lst (((xs.take (i + 1)).filter f).map g)), fun H2 p => ⟨xs.length - (i + 1), by omega, rfl, hlt, p⟩, fun x H2 y => ?_⟩
    obtain ⟨rfl, y⟩ := y
    have ex' : x = xs[i] := Option.some.inj ((y xs (sq_of (ex a _ h1))).symm.trans gx)
    subst ex'
    exact ⟨hw _, lcf_turn gx hD ex hl hz (ht _ H1 (e.trans e1) (List.mem_of_getElem? gx)) (he _ H1 (e.trans e1) (List.mem_of_getElem? gx))⟩
  · have e0 : i = xs.length := by omega
    subst e0
    rw [List.take_of_length_le (Nat.le_refl _)] at hl
    exact .inl ⟨⟨xs, sq_of (ex a _ h1), Nat.le_refl _⟩, q Dl H' (fresh_back e1 hD) (e1.trans ex) hl⟩
theorem el_lcA {j : Nat} {vs : List Nat} (f : V → Bool) (g : V → V) (h : Ev tl σ H (.ref a)) (hS : SqL K H a xs) (hz : xs.length ≤ 40000) (hw : ∀ x, wipe ((wipe σ vs).set j (some x)) vs = wipe σ vs)
    (ht : ∀ x H1, Ex H H1 → x ∈ xs → EvT tt ((wipe σ vs).set j (some x)) H1 (f x)) (he : ∀ x H1, Ex H H1 → x ∈ xs → f x = true → Ev te ((wipe σ vs).set j (some x)) H1 (g x)) : EvL (tLc (iList K tl) (gName j) tt te vs) σ H ((xs.filter f).map g) := by
  intro H0 e Q q
  refine h H0 e _ fun H1 e1 => ⟨a, rfl, ⟨xs, ex_l (e.trans e1) hS⟩, fun Dl hD => ?_⟩
  have S1 := ex_l (e.trans e1) hS
  refine ⟨fun i m H' => m = xs.length - i ∧ i ≤ xs.length ∧ Ex H1 H' ∧ H' Dl = some (.lst (((xs.take i).filter f).map g)), ⟨xs.length, rfl, Nat.zero_le _, Ex.new hD, upd_same⟩, ?_⟩
  rintro i m H' ⟨rfl, hi, ex, hl⟩
  by_cases hlt : i < xs.length
  · have gx : xs[i]? = some xs[i] := List.getElem?_eq_getElem hlt
    refine .inr ⟨⟨xs, xs[i], ex_l ex S1, gx⟩, fun H' => Ex H1 H' ∧ H' Dl = some (.lst (((xs.take (i + 1)).filter f).map g)), fun H2 p => ⟨xs.length - (i + 1), by omega, rfl, hlt, p⟩, fun x H2 y => ?_⟩
    obtain ⟨rfl, y⟩ := y
    have ex' : x = xs[i] := Option.some.inj ((y xs (ex_l ex S1)).symm.trans gx)
    subst ex'
    exact ⟨hw _, lcf_turn gx hD ex hl hz (ht _ H1 (e.trans e1) (List.mem_of_getElem? gx)) (he _ H1 (e.trans e1) (List.mem_of_getElem? gx))⟩
  · have e0 : i = xs.length := by omega
    subst e0
    rw [List.take_of_length_le (Nat.le_refl _)] at hl
    exact .inl ⟨⟨xs, ex_l ex S1, Nat.le_refl _⟩, q Dl H' (fresh_back e1 hD) (e1.trans ex) hl⟩
theorem el_lcT {j : Nat} {vs : List Nat} (f : V → Bool) (g : V → V) (h : Ev tl σ H (.ref a)) (hS : SqT K H a xs) (hz : xs.length ≤ 40000) (hw : ∀ x, wipe ((wipe σ vs).set j (some x)) vs = wipe σ vs)
    (ht : ∀ x H1, Ex H H1 → x ∈ xs → EvT tt ((wipe σ vs).set j (some x)) H1 (f x)) (he : ∀ x H1, Ex H H1 → x ∈ xs → f x = true → Ev te ((wipe σ vs).set j (some x)) H1 (g x)) : EvL (tLc (iTup K tl) (gName j) tt te vs) σ H ((xs.filter f).map g) := by
  intro H0 e Q q
  refine h H0 e _ fun H1 e1 => ⟨a, rfl, ⟨xs, ex_t (e.trans e1) hS⟩, fun Dl hD => ?_⟩
  have S1 := ex_t (e.trans e1) hS
  refine ⟨fun i m H' => m = xs.length - i ∧ i ≤ xs.length ∧ Ex H1 H' ∧ H' Dl = some (.lst (((xs.take i).filter f).map g)), ⟨xs.length, rfl, Nat.zero_le _, Ex.new hD, upd_same⟩, ?_⟩
  rintro i m H' ⟨rfl, hi, ex, hl⟩
  by_cases hlt : i < xs.length
  · have gx : xs[i]? = some xs[i] := List.getElem?_eq_getElem hlt
    refine .inr ⟨⟨xs, xs[i], ex_t ex S1, gx⟩, fun H' => Ex H1 H' ∧ H' Dl = some (.lst (((xs.take (i + 1)).filter f).map g)), fun H2 p => ⟨xs.length - (i + 1), by omega, rfl, hlt, p⟩, fun x H2 y => ?_⟩
    obtain ⟨rfl, y⟩ := y
    have ex' : x = xs[i] := Option.some.inj ((y xs (ex_t ex S1)).symm.trans gx)
    subst ex'
    exact ⟨hw _, lcf_turn gx hD ex hl hz (ht _ H1 (e.trans e1) (List.mem_of_getElem? gx)) (he _ H1 (e.trans e1) (List.mem_of_getElem? gx))⟩
  · have e0 : i = xs.length := by omega
    subst e0
    rw [List.take_of_length_le (Nat.le_refl _)] at hl
    exact .inl ⟨⟨xs, ex_t ex S1, Nat.le_refl _⟩, q Dl H' (fresh_back e1 hD) (e1.trans ex) hl⟩
end
end My

set_option Elab.async false
set_option linter.all false
set_option maxRecDepth 100000
set_option maxHeartbeats 2000000
/-! enumerate(tuple); loops over enumerate(list), enumerate(tuple). -/
namespace My
open PySem PySem.Spec PyProof.Rows L2 Evl
open Sem (wp)
theorem meets_enumerate_newB1 {v : Value} {o : Obj} {H : Heap → Prop} (B : Begins v o H) :
    Meets (Builtin.«enumerate.__new__» ⟨[.type "enumerate", v], []⟩) (fun _ R s => H s.heap ∧
      R (.ok (.ret (.ref (s.heap.push o).objs.size))) { s with heap := (s.heap.push o).push { cls := .type "enumerate", data := .fields #[.none, .bool false, .ref s.heap.objs.size, rawInt 0, .none, .none] } }) :=
  .of_wp fun prog w A R s h => by
    obtain ⟨hp, g, d, tk, os⟩ := s; obtain ⟨h1, h⟩ := h
    have hsub := sub_enumerate
    have q1 : ∀ {A' : Around} {E : Value → Shared → Prop} {Q : Value → Shared → Prop}, Q (.ref hp.objs.size) ⟨hp.push o, g, d, tk, os⟩ → wpAny (model prog w) A' (pyIter v) Q E ⟨hp, g, d, tk, os⟩ :=
      fun q => B.iter prog w _ _ ⟨hp, g, d, tk, os⟩ _ h1 q
    wp_walk using q1
    refine wpAny_stack_any fun st => wpAny_pure ?_
    split
    · rename_i c _ _ _ _ _
      cases (c == Value.type "enumerate")
      · wp_walk using q1
        exact ⟨_, rfl, h⟩
      · wp_walk using q1
        exact ⟨_, rfl, h⟩
    · wp_walk using q1
      exact ⟨_, rfl, h⟩
theorem enum_begins1 {prog : Program} {w : World} {A : Around} {E : Value → Shared → Prop} {s : Shared} {v : Value} {o : Obj} {H : Heap → Prop} {Q : Value → Shared → Prop} (B : Begins v o H) (h1 : H s.heap)
    (h : ∀ h', IsEnum h' (s.heap.objs.size + 1) s.heap.objs.size 0 .none → h'.get? s.heap.objs.size = some o → h'.objs.size = s.heap.objs.size + 2 →
      (∀ b o, s.heap.get? b = some o → h'.get? b = some o) → Q (.ref (s.heap.objs.size + 1)) { s with heap := h' }) :
    wpAny (model prog w) A (call (.type "enumerate") [v]) Q E s := by
  refine callType_new F.called_enumerate (by decide) (F.typeCall_enumerate_1 _) (F.newCall_enumerate_1 _) (fun obj => F.args_object_init_2 obj _) F.entry_enumerate_new
    (meets_enumerate_newB1 B) ⟨h1, ?_⟩
  have hz : (s.heap.push o).objs.size = s.heap.objs.size + 1 := Heap.size_push ..
  show _ ∧ _
  rw [hz]
  have he : IsEnum ((s.heap.push o).push { cls := .type "enumerate", data := .fields #[.none, .bool false, .ref s.heap.objs.size, rawInt 0, .none, .none] }) (s.heap.objs.size + 1) s.heap.objs.size 0 .none := by
    have := Heap.get?_push_size (s.heap.push o) (o := { cls := .type "enumerate", data := .fields #[.none, .bool false, .ref s.heap.objs.size, rawInt 0, .none, .none] }) rfl
    rw [hz] at this; exact this
  refine ⟨⟨_, he, rfl⟩, h _ he (Heap.get?_push_of_some _ (Heap.get?_push_size _ B.free)) (by rw [Heap.size_push, hz]) fun b o x => Heap.get?_push_of_some _ (Heap.get?_push_of_some _ x)⟩
def IteT (K : PySem.W.Frag) (a : Addr) : It :=
  ⟨fun i H => ∃ (xs : List V) (x : V), SqT K H a xs ∧ xs[i]? = some x, fun i H v H' => ∃ T x, v = .ref T ∧ H T = none ∧ H' = upd H T (.tup [.int (i : Nat), x]) ∧ ∀ xs, SqT K H a xs → xs[i]? = some x, fun i H => ∃ xs : List V, SqT K H a xs ∧ xs.length ≤ i⟩
theorem turn_enumT {P : Program} {w : World} {K : PySem.W.Frag} {elts : List Expr} {kk : Nat} {tpos : Pos} (a e it : Addr) :
    Turn P w K (.Tuple elts kk tpos) (IteT K a) [e, it] e (fun i h => (∃ old, IsEnum h e it ((i : Nat) : Int) old) ∧ h.IsTupleIter it a i ∧ e ≠ it ∧ e ≠ a ∧ a ≠ it) where
  mem := by simp
  obj := fun i h st b hb => by
    obtain ⟨⟨old, he⟩, ⟨o, ho, hc, hd⟩, _⟩ := st
    have e' : b = e ∨ b = it := by simpa using hb
    rcases e' with z | z
    · rw [z]; exact ⟨_, he, fun v q => nomatch q⟩
    · rw [z]; exact ⟨o, ho, fun v q => by rw [hd] at q; cases q⟩
  keep := fun i h h' st k => let ⟨⟨old, he⟩, hi, hne⟩ := st; ⟨⟨old, k e (by simp) _ he⟩, hi.at fun o q => k it (by simp) o q, hne⟩
  item := by
    intro X hP hw hK hc i pins s σ H E I hf st hg
    subst hP hw hK
    obtain ⟨⟨old, he⟩, hit, hne, hea, hai⟩ := st
    obtain ⟨xs, x, hq, hx⟩ := hg
    obtain ⟨its, rv, p, hz⟩ := I.tuple hq
    obtain ⟨u, hu, ru⟩ := rv.get hx
    have hel : e < s.heap.objs.size := Heap.lt_size he
    have hil : it < s.heap.objs.size := by obtain ⟨_, q, _⟩ := hit; exact Heap.lt_size q
    have hlt : i < its.toArray.size := by
      have := (List.getElem?_eq_some_iff.mp hu).1
      simpa using this
    have D := Draws.tuple (prog := X.prog) (w := X.w) (A := X.A.in1) (I.ok.hd hc) it a hai its.toArray
    refine wpAny_pyNext_enum_itemD D he ⟨hit, p⟩ hlt hne (by simp [hne, hea]) fun x' h' tk hP ho hst' hT hsz hk => ?_
    obtain ⟨hit', _⟩ := hst'
    have hux : x' = u := by
      have h1 : its.toArray[i]? = some u := by simpa using hu
      exact Option.some.inj (hP.symm.trans h1)
    subst hux
    refine ⟨_, rfl, wpAny_letOwnedTupleGo_enum (s := { s with heap := h', toks := tk + 1 }) ho fun h'' he' sb => ?_⟩
    have hT2 : h''.get? s.heap.objs.size = some { cls := .type "tuple", data := .seq #[.int i tk, x'] } := (sb.2 _ (Nat.ne_of_gt hel)).trans hT
    have new : ObjOk X.prog X.w (upd H s.heap.objs.size (.tup [.int (i : Nat), x])) h'' s.heap.objs.size (.tup [.int (i : Nat), x]) :=
      ⟨by show 2 ≤ sizeLine; decide, [.int i tk, x'], .cons ⟨_, rfl⟩ (.cons ru .nil), ⟨_, hT2, rfl, _, rfl⟩⟩
    have I1 : Inv X pins σ (upd H s.heap.objs.size (.tup [.int (i : Nat), x])) { s with heap := h'', toks := tk + 1 } :=
      I.turnedNew (ch := [e, it]) (fun b ob hb q => (sb.2 b (fun z => hb (by simp [z]))).trans (hk b ob (fun z => hb (by simp [z])) (fun z => hb (by simp [z])) q)) hf (Nat.le_refl _) new
    refine ⟨.ref s.heap.objs.size, _, I1, rfl, ⟨_, x, rfl, I.hok.fresh (Nat.le_refl _), rfl, fun ys hy => by rw [I.tuple_inj hy hq]; exact hx⟩, ⟨⟨x', ?_⟩, hit'.at fun o q => (sb.2 it (Ne.symm hne)).trans q, hne, hea, hai⟩, fun b hb => ?_⟩
    · have e1 : ((i + 1 : Nat) : Int) = (i : Int) + 1 := by omega
      rw [e1]; exact he'
    · have hb' : b < s.heap.objs.size := by
        have e' : b = e ∨ b = it := by simpa using hb
        rcases e' with z | z
        · rw [z]; exact hel
        · rw [z]; exact hil
      rw [upd_ne (Nat.ne_of_lt hb')]
      exact (hf b hb).1
  done := by
    intro X hP hw hK hc i pins s σ H E I hf st hg
    subst hP hw hK
    obtain ⟨⟨old, he⟩, hit, hne, hea, hai⟩ := st
    obtain ⟨xs, hq, hx⟩ := hg
    obtain ⟨its, rv, p, hz⟩ := I.tuple hq
    obtain ⟨f0, f1, f2, f3, f4, f5⟩ := hf it (by simp)
    have hl := rv.length
    have D := Draws.tuple (prog := X.prog) (w := X.w) (A := X.A.in1) (I.ok.hd hc) it a hai its.toArray
    have hT : s.TypeIs (.ref e) "enumerate" := ⟨_, he, rfl⟩
    unfold pyNext
    refine wpAny_bind (wpAny_attempt (wpAny_callSpecial?_slot (name := Str.ofString "__next__") hT F.slot_enumerate_next
      (wpAny_call_entry F.slot_enumerate_next hT F.entry_enumerate_next ?_ (F.args_enumerate_next_1 _))))
    show wpAny _ _ (field (.ref e) 2 >>= _) _ _ _
    refine wpAny_bind (wpAny_field he rfl (x := .ref it) rfl ?_)
    refine wpAny_bind (wpAny_nextOf_tuple_end (I.ok.hd hc) hit (show s.heap.IsTuple a its.toArray from p) (by simp; omega) fun h' x he' hx' => ?_)
    obtain ⟨o, ho, hc'⟩ := hx'
    refine wpAny_bind (wpAny_isInstance (T := "StopIteration") (b := true) ⟨o, ho, hc'⟩ isSubtype_stop ?_)
    exact wpAny_pure ⟨rfl, I.turned (t' := s.toks) (fun b o hb q => he' b o hb q) f0 f1 f3 f4 f5⟩
  self := fun A i s Q E st h => let ⟨⟨_, he⟩, _⟩ := st; wpAny_pyIter_enum he h
def iEnumT (K : PySem.W.Frag) (ta : TA) : TI := fun σ H R => ta σ H fun vs H1 => ∃ a xs, vs = [.ref a] ∧ SqT K H1 a xs ∧ R (IteT K a) H1
theorem pi_enumT {X : Cx} {e : Expr} {ta : TA} {p pos tpos : Pos} {elts : List Expr} {kk : Nat} (hg : Gl X "enumerate") (hm : X.mg "enumerate" = none) (ha : PA X [e] ta) (hs : starEach [e] X.env = [(false, eval e X.env)] := by rfl) :
    PI X (.Tuple elts kk tpos) (.Call (.Name "enumerate" p) [e] [] pos) (iEnumT X.K ta) := by
  refine ⟨fun pins s σ H R I h => ?_⟩
  refine Call_ (ld_blt I hg hm boot_enumerate (PyProof.Rows.callWith_type1 (thn (ha.run pos pins s σ H _ I h) fun us s1 ⟨vs, H1, I1, r1, q1⟩ => ?_) hs rfl))
  obtain ⟨a, xs, ex, hq, q⟩ := q1
  subst ex
  cases r1 with
  | cons r rr =>
    cases rr
    cases r
    obtain ⟨its, rv, p', hz⟩ := I1.tuple hq
    have hal : a < s1.heap.objs.size := by obtain ⟨_, q', _⟩ := (show s1.heap.IsTuple a its.toArray from p'); exact Heap.lt_size q'
    refine enum_begins1 (begins_tuple a its.toArray) (show s1.heap.IsTuple a its.toArray from p') fun h' he hit hsz hk => wpAny_pyIter_enum he ?_
    have I2 : Inv X pins σ H1 { s1 with heap := h' } := I1.kept (t' := s1.toks) hk
    refine ⟨s1.heap.objs.size + 1, [s1.heap.objs.size + 1, s1.heap.objs.size], _, _, H1, rfl, I2, turn_enumT a (s1.heap.objs.size + 1) s1.heap.objs.size, ⟨⟨.none, he⟩, ⟨_, hit, rfl, rfl⟩, Nat.succ_ne_self _, Nat.ne_of_gt (Nat.lt_succ_of_lt hal), Nat.ne_of_lt hal⟩, fun b hb => ?_, q⟩
    have e' : b = s1.heap.objs.size + 1 ∨ b = s1.heap.objs.size := by simpa using hb
    have hle : s1.heap.objs.size ≤ b := by
      rcases e' with z | z
      · rw [z]; exact Nat.le_add_right _ _
      · rw [z]; exact Nat.le_refl _
    exact I1.fpOk hle (I1.hok.fresh hle)
section
variable {K : PySem.W.Frag} {σ : L2.St} {H : Hp} {te : TE} {xs : List V} {a : Addr} {D : Ends} {tu tz : TS}
/-- for i, x in enumerate(xs) -/
theorem s_forE {j1 j2 : Nat} (h : Ev te σ H (.ref a)) (hS : SqL K H a xs) (Pv : Nat → L2.St → Hp → Prop) (h0 : ∀ H1, Ex H H1 → Pv 0 σ H1) (hk : ∀ i σ' H', i ≤ xs.length → Pv i σ' H' → SqL K H' a xs)
    (hs : ∀ i x σ' H' H2, xs[i]? = some x → Pv i σ' H' → Ex H' H2 → tu { D with nx := Pv (i + 1), ct := Pv (i + 1), bk := D.nx } ((σ'.set j1 (some (.int (i : Int)))).set j2 (some x)) H2)
    (hd : ∀ σ' H', Pv xs.length σ' H' → D.nx σ' H') : tFor (iEnum K (tCons te tNil)) (gTup K 2 (gCons (gName j1) (gCons (gName j2) gNil))) tu D σ H := by
  refine h H (Ex.refl H) _ fun H1 e1 => ⟨a, xs, rfl, ex_l e1 hS, ?_⟩
  refine ⟨fun i m σ' H' => m = xs.length - i ∧ i ≤ xs.length ∧ Pv i σ' H', ⟨xs.length, rfl, Nat.zero_le _, h0 H1 e1⟩, ?_⟩
  rintro i m σ' H' ⟨rfl, hi, p⟩
  have S := hk i σ' H' hi p
  by_cases hlt : i < xs.length
  · have gx : xs[i]? = some xs[i] := List.getElem?_eq_getElem hlt
    refine .inr ⟨⟨xs, _, S, gx⟩, Pv (i + 1), fun σ2 H2 p2 => ⟨xs.length - (i + 1), by omega, rfl, hlt, p2⟩, fun v H2 y => ?_⟩
    obtain ⟨T, x', rfl, hT, rfl, f1⟩ := y
    exact ⟨T, [.int (i : Nat), x'], rfl, st_of upd_same, rfl, _, _, rfl, _, _, rfl, rfl, hs i x' σ' H' _ (f1 xs S) p (Ex.new hT)⟩
  · have e0 : i = xs.length := by omega
    subst e0
    exact .inl ⟨⟨xs, S, Nat.le_refl _⟩, hd σ' H' p⟩
theorem s_forET {j1 j2 : Nat} (h : Ev te σ H (.ref a)) (hS : SqT K H a xs) (Pv : Nat → L2.St → Hp → Prop) (h0 : ∀ H1, Ex H H1 → Pv 0 σ H1) (hk : ∀ i σ' H', i ≤ xs.length → Pv i σ' H' → SqT K H' a xs)
    (hs : ∀ i x σ' H' H2, xs[i]? = some x → Pv i σ' H' → Ex H' H2 → tu { D with nx := Pv (i + 1), ct := Pv (i + 1), bk := D.nx } ((σ'.set j1 (some (.int (i : Int)))).set j2 (some x)) H2)
    (hd : ∀ σ' H', Pv xs.length σ' H' → D.nx σ' H') : tFor (iEnumT K (tCons te tNil)) (gTup K 2 (gCons (gName j1) (gCons (gName j2) gNil))) tu D σ H := by
  refine h H (Ex.refl H) _ fun H1 e1 => ⟨a, xs, rfl, ex_t e1 hS, ?_⟩
  refine ⟨fun i m σ' H' => m = xs.length - i ∧ i ≤ xs.length ∧ Pv i σ' H', ⟨xs.length, rfl, Nat.zero_le _, h0 H1 e1⟩, ?_⟩
  rintro i m σ' H' ⟨rfl, hi, p⟩
  have S := hk i σ' H' hi p
  by_cases hlt : i < xs.length
  · have gx : xs[i]? = some xs[i] := List.getElem?_eq_getElem hlt
    refine .inr ⟨⟨xs, _, S, gx⟩, Pv (i + 1), fun σ2 H2 p2 => ⟨xs.length - (i + 1), by omega, rfl, hlt, p2⟩, fun v H2 y => ?_⟩
    obtain ⟨T, x', rfl, hT, rfl, f1⟩ := y
    exact ⟨T, [.int (i : Nat), x'], rfl, st_of upd_same, rfl, _, _, rfl, _, _, rfl, rfl, hs i x' σ' H' _ (f1 xs S) p (Ex.new hT)⟩
  · have e0 : i = xs.length := by omega
    subst e0
    exact .inl ⟨⟨xs, S, Nat.le_refl _⟩, hd σ' H' p⟩
theorem q_forE {j1 j2 : Nat} (h : Ev te σ H (.ref a)) (hS : SqL K H a xs) (Pv : Nat → L2.St → Hp → Prop) (h0 : ∀ H1, Ex H H1 → Pv 0 σ H1) (hk : ∀ i σ' H', i ≤ xs.length → Pv i σ' H' → SqL K H' a xs)
    (hs : ∀ i x σ' H' H2, xs[i]? = some x → Pv i σ' H' → Ex H' H2 → tu { D with nx := Pv (i + 1), ct := Pv (i + 1), bk := tz D } ((σ'.set j1 (some (.int (i : Int)))).set j2 (some x)) H2)
    (hd : ∀ σ' H', Pv xs.length σ' H' → tz D σ' H') : tSeq (tFor (iEnum K (tCons te tNil)) (gTup K 2 (gCons (gName j1) (gCons (gName j2) gNil))) tu) tz D σ H :=
  s_forE (D := { D with nx := tz D }) h hS Pv h0 hk hs hd
theorem q_forET {j1 j2 : Nat} (h : Ev te σ H (.ref a)) (hS : SqT K H a xs) (Pv : Nat → L2.St → Hp → Prop) (h0 : ∀ H1, Ex H H1 → Pv 0 σ H1) (hk : ∀ i σ' H', i ≤ xs.length → Pv i σ' H' → SqT K H' a xs)
    (hs : ∀ i x σ' H' H2, xs[i]? = some x → Pv i σ' H' → Ex H' H2 → tu { D with nx := Pv (i + 1), ct := Pv (i + 1), bk := tz D } ((σ'.set j1 (some (.int (i : Int)))).set j2 (some x)) H2)
    (hd : ∀ σ' H', Pv xs.length σ' H' → tz D σ' H') : tSeq (tFor (iEnumT K (tCons te tNil)) (gTup K 2 (gCons (gName j1) (gCons (gName j2) gNil))) tu) tz D σ H :=
  s_forET (D := { D with nx := tz D }) h hS Pv h0 hk hs hd
end
end My

set_option Elab.async false
set_option linter.all false
set_option maxRecDepth 100000
set_option maxHeartbeats 2000000
/-! own classes: methods bundled, fields read, dicts with text keys. -/
namespace My
open PySem PySem.Spec PyProof.Rows L2 Evl
structure MCal (P : Program) (w : World) (K : PySem.W.Frag) (mg : Str → Option Value) (base : Heap) (k : Nat) (C : Addr) (m : Str) (ps : List Str) (sp : Sp) : Prop where
  ex : ∃ f fd, FnOk P w K mg base CX0 k f fd ps sp ∧ Binds K fd ps [] ∧ Meth K C m f
theorem MCal.mono {P : Program} {w : World} {K : PySem.W.Frag} {mg : Str → Option Value} {base : Heap} {j k : Nat} {C : Addr} {m : Str} {ps : List Str} {sp : Sp} (M : MCal P w K mg base j C m ps sp) (h : j ≤ k) : MCal P w K mg base k C m ps sp := by
  obtain ⟨f, fd, F, b, mm⟩ := M.ex
  exact ⟨f, fd, F.mono h, b, mm⟩
theorem pe_mcal {X : Cx} {k j : Nat} {C : Addr} {m : Str} {ps : List Str} {sp : Sp} {o e : Expr} {es : List Expr} {ta : TE} {t : TA} {pos apos : Pos} {pl : Sem Bool} (c : Cls X.K C) (M : MCal X.prog X.w X.K X.mg X.base k C m ps sp) (hr : Room j X.A) (he : PE X o ta) (ha : PA X (e :: es) t)
    (hle : k ≤ j := by first | exact Nat.le_refl _ | decide | omega)
    (hst : starEach (e :: es) X.env = (false, eval e X.env) :: starEach es X.env := by rfl) (hpl : (backTo pos (starEach es X.env)).any (·.1) = false := by rfl)
    (ht : eval (.Call (.Attribute o m apos) (e :: es) [] pos) X.env = (do
      let ov ← eval o X.env
      standAt apos.atName
      let (f, first) ← holding [ov] (getMethod ov m pl)
      callWith pos f first (backTo pos (starEach (e :: es) X.env)) (backToKw pos (keywordEach [] X.env))) := by rfl) :
    PE X (.Call (.Attribute o m apos) (e :: es) [] pos) (tMeth C m sp [] E0 ta t) := by
  obtain ⟨f, fd, F, b, mm⟩ := M.ex
  exact pe_meth (pl := pl) he c mm F (hr.mono hle) b .nil pass0 ha hst hpl ht
/-- an own class with its __init__ -/
structure MkC (P : Program) (w : World) (K : PySem.W.Frag) (mg : Str → Option Value) (base : Heap) (k : Nat) (x : Str) (C : Addr) (ps : List Str) (sp : Sp) : Prop where
  ex : ∃ f fd, FnOk P w K mg base CX0 k f fd ps sp ∧ Binds K fd ps [] ∧ Mk K C f ∧ mg x = some (.ref C)
theorem MkC.mono {P : Program} {w : World} {K : PySem.W.Frag} {mg : Str → Option Value} {base : Heap} {j k : Nat} {x : Str} {C : Addr} {ps : List Str} {sp : Sp} (M : MkC P w K mg base j x C ps sp) (h : j ≤ k) : MkC P w K mg base k x C ps sp := by
  obtain ⟨f, fd, F, b, mm⟩ := M.ex
  exact ⟨f, fd, F.mono h, b, mm⟩
theorem pe_mkc0 {X : Cx} {k j : Nat} {x : Str} {C : Addr} {ps : List Str} {sp : Sp} {p pos : Pos} (M : MkC X.prog X.w X.K X.mg X.base k x C ps sp) (hr : Room j X.A) (hle : k + 1 ≤ j := by first | exact Nat.le_refl _ | decide | omega) (hg : Gl X x := by rfl) (hdb : (x == ("__debug__" : Str)) = false := by decide) :
    PE X (.Call (.Name x p) [] [] pos) (tMake C sp [] E0 tNil) := by
  obtain ⟨f, fd, F, b, mm, hm⟩ := M.ex
  exact pe_make0 mm F (hr.mono hle) hg hm b .nil pass0 hdb
section
variable {K : PySem.W.Frag} {σ : L2.St} {H H' : Hp} {ta tb tc te td ty tl : TE} {t : TA} {xs : List V} {x y z v : V} {p a d C dx : Addr} {D : Ends} {tu tz : TS} {fs : List (Str × V)} {f : Str} {kvs : List (Key × V)} {l : List Nat}
theorem ev_fld (h : Ev te σ H (.ref a)) (hi : H a = some (.ins C dx fs)) (c : Cls K C) (n : NoAttr K C f) (hl : fs.lookup f = some v) : Ev (tFld K te f) σ H v := fun H1 e Q q =>
  h H1 e _ fun H2 e2 => ⟨a, C, dx, fs, v, rfl, (e.trans e2) a _ hi, c, n, hl, q H2 e2⟩
theorem ev_din (h : Ev td σ H (.ref d)) (hd : H d = some (.dK kvs)) (hk : Ev ty σ H (.str (tx l))) : Ev (tDIn ty td) σ H (.bl (valV kvs (.inr (tx l))).isSome) := fun H1 e Q q =>
  hk H1 e _ fun H2 e2 => h H2 (e.trans e2) _ fun H3 e3 => ⟨d, _, rfl, DGet.k (k := Sum.inr (tx l)) (((e.trans e2).trans e3) d _ hd), q H3 (e2.trans e3)⟩
theorem ev_dget (h : Ev td σ H (.ref d)) (hd : H d = some (.dK kvs)) (hk : Ev ty σ H (.str (tx l))) (hv : valV kvs (.inr (tx l)) = some v) : Ev (tDGet td ty) σ H v := fun H1 e Q q =>
  h H1 e _ fun H2 e2 => hk H2 (e.trans e2) _ fun H3 e3 => ⟨d, v, rfl, by rw [← hv]; exact DGet.k (k := Sum.inr (tx l)) (((e.trans e2).trans e3) d _ hd), q H3 (e2.trans e3)⟩
/-- d[k] = v -/
theorem s_dput (hd : H d = some (.dK kvs)) (hv : Ev te σ H v) (h : Ev td σ H (.ref d)) (hk : Ev ty σ H (.str (tx l))) (hn : kvs.length < 100000) (k : ∀ H1, Ex H H1 → D.nx σ (upd H1 d (.dK (putK kvs (.inr (tx l)) v)))) : sDPut td ty te D σ H :=
  hv H (Ex.refl H) _ fun H1 e1 => h H1 e1 _ fun H2 e2 => hk H2 (e1.trans e2) _ fun H3 e3 => ⟨d, _, rfl, DPut.k (k := Sum.inr (tx l)) (((e1.trans e2).trans e3) d _ hd) (sz_lt hn), k H3 ((e1.trans e2).trans e3)⟩
theorem q_dput (hd : H d = some (.dK kvs)) (hv : Ev te σ H v) (h : Ev td σ H (.ref d)) (hk : Ev ty σ H (.str (tx l))) (hn : kvs.length < 100000) (k : ∀ H1, Ex H H1 → tz D σ (upd H1 d (.dK (putK kvs (.inr (tx l)) v)))) : tSeq (sDPut td ty te) tz D σ H := s_dput (D := { D with nx := tz D }) hd hv h hk hn k
theorem q_dnew {i : Nat} (k : ∀ p, H p = none → tz D (σ.set i (some (.ref p))) (upd H p (.dK []))) : tSeq (tAsg tDNewK (gName i)) tz D σ H := fun p hp => k p hp
/-- a loop over a tuple that an expression gives -/
theorem s_forTX {j : Nat} (h : ∀ Q : VK, (∀ a H1, Ex H H1 → H1 a = some (.tup xs) → Q (.ref a) H1) → te σ H Q) (Pv : Hp → Nat → L2.St → Hp → Prop) (h0 : ∀ H1, Ex H H1 → Pv H1 0 σ H1) (hk : ∀ H1 i σ' H' a us, Pv H1 i σ' H' → H1 a = some (.tup us) → H' a = some (.tup us))
    (hs : ∀ H1 i x σ' H', Ex H H1 → xs[i]? = some x → Pv H1 i σ' H' → tu { D with nx := Pv H1 (i + 1), ct := Pv H1 (i + 1), bk := D.nx } (σ'.set j (some x)) H') (hd : ∀ H1 σ' H', Ex H H1 → Pv H1 xs.length σ' H' → D.nx σ' H') : tFor (iTup K te) (gName j) tu D σ H := by
  refine h _ fun a H1 e1 h1 => ⟨a, rfl, ⟨xs, st_of h1⟩, ?_⟩
  refine ⟨fun i m σ' H' => m = xs.length - i ∧ i ≤ xs.length ∧ Pv H1 i σ' H', ⟨xs.length, rfl, Nat.zero_le _, h0 H1 e1⟩, ?_⟩
  rintro i m σ' H' ⟨rfl, hi, p⟩
  have S : SqT K H' a xs := st_of (hk H1 i σ' H' a xs p h1)
  by_cases hlt : i < xs.length
  · have gx : xs[i]? = some xs[i] := List.getElem?_eq_getElem hlt
    refine .inr ⟨⟨xs, _, S, gx⟩, Pv H1 (i + 1), fun σ2 H2 p2 => ⟨xs.length - (i + 1), by omega, rfl, hlt, p2⟩, fun v H2 y => ?_⟩
    obtain ⟨rfl, f1⟩ := y
    exact hs H1 i v σ' _ e1 (f1 xs S) p
  · have e0 : i = xs.length := by omega
    subst e0
    exact .inl ⟨⟨xs, S, Nat.le_refl _⟩, hd H1 σ' H' e1 p⟩
/-! what a text's dict holds, keys alone -/
def dkS (ks : List (List Nat)) : List (Key × V) := ks.map fun k => (Sum.inr (tx k), V.bl true)
theorem inr_tx {a b : List Nat} : ((Sum.inr (tx a) : Key) = Sum.inr (tx b)) ↔ a = b := ⟨fun h => tx_inj (Sum.inr.inj h), fun h => by rw [h]⟩
theorem dkS_any (ks : List (List Nat)) (w : List Nat) : (dkS ks).any (fun kv => decide (kv.1 = Sum.inr (tx w))) = decide (w ∈ ks) := by
  unfold dkS
  rw [List.any_map, Bool.eq_iff_iff, List.any_eq_true, decide_eq_true_eq]
  constructor
  · rintro ⟨k, hk, h⟩
    have := inr_tx.mp (of_decide_eq_true h)
    rw [← this]
    exact hk
  · exact fun h => ⟨w, h, decide_eq_true rfl⟩
theorem dkS_put (ks : List (List Nat)) (w : List Nat) : putK (dkS ks) (Sum.inr (tx w)) (V.bl true) = dkS (if w ∈ ks then ks else ks ++ [w]) := by
  by_cases h : w ∈ ks
  · have e : (dkS ks).any (fun kv => decide (kv.1 = Sum.inr (tx w))) = true := by rw [dkS_any, decide_eq_true h]
    unfold putK
    rw [if_pos e, if_pos h]
    have : ∀ l : List (List Nat), (dkS l).map (fun kv => if kv.1 = Sum.inr (tx w) then (kv.1, V.bl true) else kv) = dkS l := by
      intro l
      unfold dkS
      rw [List.map_map]
      refine List.map_congr_left fun k _ => ?_
      show (if (Sum.inr (tx k) : Key) = Sum.inr (tx w) then ((Sum.inr (tx k) : Key), V.bl true) else (Sum.inr (tx k), V.bl true)) = _
      rw [ite_self]
    exact this ks
  · have e : (dkS ks).any (fun kv => decide (kv.1 = Sum.inr (tx w))) = false := by rw [dkS_any, decide_eq_false h]
    unfold putK
    rw [e, if_neg (by decide), if_neg h]
    unfold dkS
    rw [List.map_append]
    rfl
end
end My

set_option Elab.async false
set_option linter.all false
set_option maxRecDepth 100000
set_option maxHeartbeats 2000000
/-! distinct texts, sorted texts; sorted(..), tuple(..) of them. -/
namespace My
open PySem PySem.Spec PyProof.Rows L2 Evl
abbrev L := List Nat
/-! distinct texts, in the order of their first places -/
def addF (acc : List L) (x : L) : List L := if x ∈ acc then acc else acc ++ [x]
def dedF (l : List L) : List L := l.foldl addF []
theorem add_mem {acc : List L} {x y : L} : y ∈ addF acc x ↔ y ∈ acc ∨ y = x := by
  unfold addF
  split
  · rename_i h
    constructor
    · exact fun z => .inl z
    · rintro (z | rfl)
      · exact z
      · exact h
  · rw [List.mem_append, List.mem_singleton]
theorem add_nodup {acc : List L} {x : L} (h : acc.Nodup) : (addF acc x).Nodup := by
  unfold addF
  split
  · exact h
  · rename_i hx
    rw [List.nodup_append]
    exact ⟨h, by simp, fun a ha b hb => by
      rw [List.mem_singleton] at hb
      subst hb
      intro e
      subst e
      exact hx ha⟩
theorem add_len {acc : List L} {x : L} : (addF acc x).length ≤ acc.length + 1 := by
  unfold addF
  split
  · exact Nat.le_succ _
  · rw [List.length_append]; exact Nat.le_refl _
theorem fold_mem (l : List L) : ∀ (acc : List L) (y : L), y ∈ l.foldl addF acc ↔ y ∈ acc ∨ y ∈ l := by
  induction l with
  | nil => intro acc y; simp
  | cons x r ih =>
    intro acc y
    rw [List.foldl_cons, ih, add_mem, List.mem_cons, or_assoc]
theorem fold_nodup (l : List L) : ∀ (acc : List L), acc.Nodup → (l.foldl addF acc).Nodup := by
  induction l with
  | nil => exact fun _ h => h
  | cons x r ih => exact fun acc h => ih _ (add_nodup h)
theorem fold_len (l : List L) : ∀ (acc : List L), (l.foldl addF acc).length ≤ acc.length + l.length := by
  induction l with
  | nil => exact fun _ => Nat.le_refl _
  | cons x r ih =>
    intro acc
    have h1 := ih (addF acc x)
    have h2 := @add_len acc x
    rw [List.foldl_cons, List.length_cons]
    omega
theorem ded_mem {l : List L} {y : L} : y ∈ dedF l ↔ y ∈ l := by
  unfold dedF
  rw [fold_mem]
  simp
theorem ded_nodup (l : List L) : (dedF l).Nodup := fold_nodup l [] List.nodup_nil
theorem ded_len (l : List L) : (dedF l).length ≤ l.length := by
  have := fold_len l []
  rw [List.length_nil, Nat.zero_add] at this
  exact this
theorem ded_snoc (l : List L) (x : L) : dedF (l ++ [x]) = addF (dedF l) x := by
  unfold dedF
  rw [List.foldl_append]
  rfl
theorem nodup_sub : ∀ {a b : List L}, a.Nodup → (∀ x ∈ a, x ∈ b) → a.length ≤ b.length
  | [], _, _, _ => Nat.zero_le _
  | x :: a, b, h, g => by
    rw [List.nodup_cons] at h
    have hx := g x (by simp)
    have := nodup_sub (a := a) (b := b.erase x) h.2 fun y hy => (List.mem_erase_of_ne (fun e : y = x => h.1 (by rw [← e]; exact hy))).mpr (g y (by simp [hy]))
    rw [List.length_erase_of_mem hx] at this
    have := List.length_pos_of_mem hx
    rw [List.length_cons]
    omega
/-! sorted texts -/
def leF (a b : L) : Bool := decide (¬ b < a)
def sortF (l : List L) : List L := l.mergeSort leF
theorem le_tot (a b : L) : leF a b = true ∨ leF b a = true := by
  unfold leF
  rw [decide_eq_true_eq, decide_eq_true_eq]
  rcases List.le_total a b with h | h
  · exact .inl h
  · exact .inr h
theorem le_trans' {a b c : L} (h : leF a b = true) (g : leF b c = true) : leF a c = true := by
  unfold leF at *
  rw [decide_eq_true_eq] at *
  exact List.le_trans h g
theorem le_anti {a b : L} (h : leF a b = true) (g : leF b a = true) : a = b := by
  unfold leF at *
  rw [decide_eq_true_eq] at *
  exact List.le_antisymm h g
theorem sort_unique : ∀ {xs ys : List L}, xs.Pairwise (fun a b => leF a b = true) → ys.Pairwise (fun a b => leF a b = true) → xs.Perm ys → xs = ys
  | [], ys, _, _, p => by
    have := p.length_eq
    cases ys with
    | nil => rfl
    | cons y r => exact nomatch this
  | x :: xs, [], _, _, p => nomatch p.length_eq
  | x :: xs, y :: ys, hx, hy, p => by
    rw [List.pairwise_cons] at hx hy
    have e : x = y := by
      have h1 : x ∈ y :: ys := p.mem_iff.mp (by simp)
      have h2 : y ∈ x :: xs := p.mem_iff.mpr (by simp)
      rw [List.mem_cons] at h1 h2
      rcases h1 with h1 | h1
      · exact h1
      · rcases h2 with h2 | h2
        · exact h2.symm
        · exact le_anti (hx.1 y h2) (hy.1 x h1)
    subst e
    rw [sort_unique hx.2 hy.2 (List.perm_cons x |>.mp p)]
theorem sort_perm (l : List L) : (sortF l).Perm l := List.mergeSort_perm l leF
theorem sort_sorted (l : List L) : (sortF l).Pairwise (fun a b => leF a b = true) := List.pairwise_mergeSort (le := leF) (fun a b c h g => le_trans' h g) (fun a b => by
  rw [Bool.or_eq_true]
  exact le_tot a b) l
theorem sort_mem {l : List L} {y : L} : y ∈ sortF l ↔ y ∈ l := (sort_perm l).mem_iff
theorem sort_len (l : List L) : (sortF l).length = l.length := (sort_perm l).length_eq
theorem sort_nodup {l : List L} (h : l.Nodup) : (sortF l).Nodup := (sort_perm l).nodup_iff.mpr h

theorem le_cps {x p : Str} (h : (!ltCps x.cps.toList p.cps.toList) = true) : leF p.cps.toList x.cps.toList = true := by
  rw [ltCps_eq] at h
  unfold leF
  rw [decide_eq_true_eq]
  intro z
  rw [decide_eq_true z] at h
  exact nomatch h
theorem rise_all : ∀ (r : List Str) (p : Str), risingS p r = true → (p :: r).Pairwise fun a b => leF a.cps.toList b.cps.toList = true
  | [], p, _ => by simp
  | x :: r, p, h => by
    rw [risingS, Bool.and_eq_true] at h
    have ih := rise_all r x h.2
    have h1 := le_cps h.1
    refine List.pairwise_cons.mpr ⟨fun y hy => ?_, ih⟩
    rw [List.mem_cons] at hy
    rcases hy with rfl | hy
    · exact h1
    · exact le_trans' h1 ((List.pairwise_cons.mp ih).1 y hy)
theorem sorted_is {ys : List Str} {ks : List L} (hp : ys.Perm (ks.map tx)) (hs : sortedS ys = true) : ys = (sortF ks).map tx := by
  have e : ys = (ys.map fun z => z.cps.toList).map tx := by
    rw [List.map_map]
    exact (List.map_id' ys).symm.trans (List.map_congr_left fun z _ => rfl)
  have h1 : (ys.map fun z => z.cps.toList).Perm ks := by
    have := hp.map fun z : Str => z.cps.toList
    rw [List.map_map] at this
    rw [show ks.map ((fun z : Str => z.cps.toList) ∘ tx) = ks from (List.map_congr_left fun z _ => rfl).trans (List.map_id' ks)] at this
    exact this
  have h2 : (ys.map fun z => z.cps.toList).Pairwise fun a b => leF a b = true := by
    rw [List.pairwise_map]
    cases ys with
    | nil => exact .nil
    | cons p r => exact rise_all r p hs
  rw [e, sort_unique h2 (sort_sorted ks) (h1.trans (sort_perm ks).symm)]
section
variable {K : PySem.W.Frag} {σ : L2.St} {H H' : Hp} {te : TE} {xs : List V} {a p d : Addr} {ks : List L}
theorem el_sortD (h : Ev te σ H (.ref d)) (hd : H d = some (.dK (dkS ks))) (hn : ks.length ≤ 100000) : EvL (tCB rSortDA (tCons te tNil)) σ H ((sortF ks).map fun p => V.str (tx p)) := fun H1 e Q q =>
  h H1 e _ fun H2 e2 => ⟨d, dkS ks, ks.map tx, rfl, .inl ((e.trans e2) d _ hd), by unfold dkS; rw [List.map_map, List.map_map]; rfl, by rw [List.length_map]; exact hn, fun ys p hp hs hn => by
    have := sorted_is hp hs
    subst this
    rw [List.map_map]
    exact q p _ (fresh_back e2 hn) (e2.trans (Ex.new hn)) upd_same⟩
theorem el_sortL (h : EvP te σ H fun v H' => ∃ a, v = .ref a ∧ SqL K H' a (ks.map fun p => V.str (tx p))) (hn : ks.length ≤ 100000) : EvL (tCB (rSortSA K) (tCons te tNil)) σ H ((sortF ks).map fun p => V.str (tx p)) := fun H1 e Q q =>
  h H1 e _ fun v H2 e2 ⟨a, hv, ha⟩ => ⟨a, ks.map tx, by rw [hv], by rw [List.map_map]; exact ha, by rw [List.length_map]; exact hn, fun ys p hp hs hn => by
    have := sorted_is hp hs
    subst this
    rw [List.map_map]
    exact q p _ (fresh_back e2 hn) (e2.trans (Ex.new hn)) upd_same⟩
def rTupS (K : PySem.W.Frag) : List V → Hp → VK → Prop := fun xs H Q => ∃ p ys, xs = [.ref p] ∧ ((SqL K H p ys ∧ ∀ l, H l = none → Q (.ref l) (upd H l (.tup ys))) ∨ (SqT K H p ys ∧ Q (.ref p) H))
theorem eu_tupL (h : EvL te σ H xs) : EvU (tCB (rTupS K) (tCons te tNil)) σ H xs := fun H1 e Q q =>
  h H1 e _ fun p H2 _ e2 hp => ⟨p, xs, rfl, .inl ⟨sq_of hp, fun l hl => q l _ (fresh_back e2 hl) (e2.trans (Ex.new hl)) upd_same⟩⟩
theorem eu_tupV (h : Ev te σ H (.ref a)) (ha : SqL K H a xs) : EvU (tCB (rTupS K) (tCons te tNil)) σ H xs := fun H1 e Q q =>
  h H1 e _ fun H2 e2 => ⟨a, xs, rfl, .inl ⟨ex_l (e.trans e2) ha, fun l hl => q l _ (fresh_back e2 hl) (e2.trans (Ex.new hl)) upd_same⟩⟩
theorem evp_k (h : Ev te σ H (.ref a)) (ha : SqL K H a xs) : EvP te σ H (fun v H' => ∃ a, v = .ref a ∧ SqL K H' a xs) := fun H1 e Q q => h H1 e Q fun H2 e2 => q _ H2 e2 ⟨a, rfl, ex_l (e.trans e2) ha⟩
theorem evp_ln (h : EvL te σ H xs) : EvP te σ H (fun v H' => ∃ a, v = .ref a ∧ SqL K H' a xs) := fun H1 e Q q => h H1 e Q fun p H2 _ e2 hp => q _ H2 e2 ⟨p, rfl, sq_of hp⟩
end
end My

set_option Elab.async false
set_option linter.all false
set_option maxRecDepth 100000
set_option maxHeartbeats 2000000
/-! == and != of two lists, of two tuples, one of them empty. -/
namespace My
open PySem PySem.Spec PyProof.Rows L2 Evl
def rEqE (K : PySem.W.Frag) : R2 := fun x y H Q => ∃ a b xs ys, x = .ref a ∧ y = .ref b ∧ ((SqL K H a xs ∧ SqL K H b ys) ∨ (SqT K H a xs ∧ SqT K H b ys)) ∧ ys = [] ∧ Q (.bl (decide (xs.length = 0))) H
def rNeE (K : PySem.W.Frag) : R2 := fun x y H Q => ∃ a b xs ys, x = .ref a ∧ y = .ref b ∧ (SqL K H a xs ∧ SqL K H b ys) ∧ ys = [] ∧ Q (.bl (!decide (xs.length = 0))) H
section
variable {X : Cx}
theorem op_eqE (hu : X.A.units + 64 < cLine) : OpR X (compareOp .Eq) (rEqE X.K) := by
  intro pins s σ H x y v u Q I rx ry h
  obtain ⟨a, b, xs, ys, rfl, rfl, hs, rfl, q⟩ := h
  cases rx
  cases ry
  have hu1 : X.A.units < cLine := by omega
  rcases hs with ⟨h1, h2⟩ | ⟨h1, h2⟩
  · obtain ⟨its, rv, p1, _⟩ := I.list h1
    obtain ⟨its2, rv2, p2, _⟩ := I.list h2
    cases rv2
    have hl := rv.length
    by_cases h0 : xs.length = 0
    · rw [decide_eq_true h0] at q
      have e : its = [] := List.eq_nil_of_length_eq_zero (by omega)
      subst e
      exact SeqAt.RcAt.lists (A := X.A) (s := s) (e := fun _ => true) p1.isList p2.isList rfl hu1 (fun j h1 _ => absurd h1 (by simp)) X.prog X.w _ _ ⟨.bl true, H, I, rfl, q⟩
    · rw [decide_eq_false h0] at q
      exact SeqAt.RcAt.lists_lengths (A := X.A) (s := s) p1.isList p2.isList (by simp; intro e; rw [e] at hl; exact h0 hl) hu1 X.prog X.w _ _ ⟨.bl false, H, I, rfl, q⟩
  · obtain ⟨its, rv, p1, _⟩ := I.tuple h1
    obtain ⟨its2, rv2, p2, _⟩ := I.tuple h2
    cases rv2
    have hl := rv.length
    have R := SeqAt.RcAt.tuples (A := X.A) (s := s) (e := fun _ => true) (show s.heap.IsTuple a its.toArray from p1) (show s.heap.IsTuple b [].toArray from p2) hu1 (fun j _ h2 => absurd h2 (by simp))
    have e : ((List.range (min its.toArray.size ([] : List Value).toArray.size)).all (fun _ => true) && its.toArray.size == ([] : List Value).toArray.size) = decide (xs.length = 0) := by
      rw [hl]
      cases its <;> simp
    rw [e] at R
    exact R X.prog X.w _ _ ⟨.bl _, H, I, rfl, q⟩
theorem op_neE (hu : X.A.units + 64 < cLine) : OpR X (compareOp .NotEq) (rNeE X.K) := by
  intro pins s σ H x y v u Q I rx ry h
  obtain ⟨a, b, xs, ys, rfl, rfl, ⟨h1, h2⟩, rfl, q⟩ := h
  cases rx
  cases ry
  have hu1 : X.A.units < cLine := by omega
  obtain ⟨its, rv, p1, _⟩ := I.list h1
  obtain ⟨its2, rv2, p2, _⟩ := I.list h2
  cases rv2
  have hl := rv.length
  by_cases h0 : xs.length = 0
  · rw [decide_eq_true h0] at q
    have e : its = [] := List.eq_nil_of_length_eq_zero (by omega)
    subst e
    exact SeqAt.RcNeAt.lists (A := X.A) (s := s) (e := fun _ => true) p1.isList p2.isList rfl hu1 (fun j h1 _ => absurd h1 (by simp)) X.prog X.w _ _ ⟨.bl false, H, I, rfl, q⟩
  · rw [decide_eq_false h0] at q
    exact SeqAt.RcNeAt.lists_lengths (A := X.A) (s := s) p1.isList p2.isList (by simp; intro e; rw [e] at hl; exact h0 hl) hu1 X.prog X.w _ _ ⟨.bl true, H, I, rfl, q⟩
end
section
variable {K : PySem.W.Frag} {σ : L2.St} {H H' : Hp} {te tb : TE} {xs : List V} {a : Addr}
theorem len0 {α : Type} [DecidableEq α] {xs : List α} : decide (xs.length = 0) = decide (xs = []) := decide_eq_decide.mpr List.length_eq_zero_iff
theorem ev_eqE (h : Ev te σ H (.ref a)) (hS : SqL K H a xs) (hb : EvL tb σ H []) : Ev (tOp (rEqE K) te tb) σ H (.bl (decide (xs.length = 0))) := fun H1 e Q q =>
  h H1 e _ fun H2 e2 => hb H2 (e.trans e2) _ fun p H3 _ e3 h3 => ⟨a, p, xs, [], rfl, rfl, .inl ⟨ex_l ((e.trans e2).trans e3) hS, sq_of h3⟩, rfl, q H3 (e2.trans e3)⟩
theorem ev_eqET (h : Ev te σ H (.ref a)) (hS : SqT K H a xs) (hb : EvU tb σ H []) : Ev (tOp (rEqE K) te tb) σ H (.bl (decide (xs.length = 0))) := fun H1 e Q q =>
  h H1 e _ fun H2 e2 => hb H2 (e.trans e2) _ fun p H3 _ e3 h3 => ⟨a, p, xs, [], rfl, rfl, .inr ⟨ex_t ((e.trans e2).trans e3) hS, st_of h3⟩, rfl, q H3 (e2.trans e3)⟩
theorem ev_neE (h : Ev te σ H (.ref a)) (hS : SqL K H a xs) (hb : EvL tb σ H []) : Ev (tOp (rNeE K) te tb) σ H (.bl (!decide (xs.length = 0))) := fun H1 e Q q =>
  h H1 e _ fun H2 e2 => hb H2 (e.trans e2) _ fun p H3 _ e3 h3 => ⟨a, p, xs, [], rfl, rfl, ⟨ex_l ((e.trans e2).trans e3) hS, sq_of h3⟩, rfl, q H3 (e2.trans e3)⟩
end
end My

set_option Elab.async false
set_option linter.all false
set_option maxRecDepth 100000
set_option maxHeartbeats 1000000
/-! text.split of one sign, as a plain function. -/
namespace My
open PySem PySem.Spec PyProof.Rows L2 Evl PySem.StrLaws
def splitT (c : Nat) : List Nat → List (List Nat)
  | [] => [[]]
  | x :: r => if x = c then [] :: splitT c r else
    match splitT c r with
    | [] => [[x]]
    | p :: q => (x :: p) :: q
/-- where c stands, counted from a -/
def posn (c : Nat) : Nat → List Nat → List Nat
  | _, [] => []
  | a, x :: r => if x = c then a :: posn c (a + 1) r else posn c (a + 1) r
theorem sub_one {l : List Nat} {c i : Nat} : Builtin.Str.subAt (tx l) (tx [c]) i = decide (l[i]? = some c) := by
  rw [subAt_eq]
  show ((l.drop i).take 1 == [c]) = _
  cases h : l[i]? with
  | none =>
    rw [List.drop_of_length_le (List.getElem?_eq_none_iff.mp h)]
    rfl
  | some x =>
    obtain ⟨hi, hx⟩ := List.getElem?_eq_some_iff.mp h
    rw [List.drop_eq_getElem_cons hi, hx]
    show ([x] == [c]) = decide (some x = some c)
    by_cases e : x = c
    · subst e
      simp
    · rw [decide_eq_false fun z => e (Option.some.inj z)]
      exact beq_eq_false_iff_ne.mpr fun z => e (List.cons.inj z).1
theorem occ_run {l : List Nat} {c : Nat} : ∀ (m k : Nat) (st : Array Nat × Nat) (pre : List Nat), k + m = l.length + 1 → st.1.toList = pre → st.2 ≤ k → pre.length ≤ k →
    (forIn (List.range' k m) st (occBody (tx l) (tx [c]) l.length (l.length + 1))).run.fst.toList = pre ++ posn c k (l.drop k)
  | 0, k, st, pre, hk, hp, _, _ => by
    rw [List.drop_of_length_le (by omega)]
    show st.1.toList = pre ++ []
    rw [hp, List.append_nil]
  | m + 1, k, st, pre, hk, hp, h2, h3 => by
    rw [List.range'_succ, List.forIn_cons]
    unfold occBody
    have hsz : st.1.size ≤ k := by rw [← Array.length_toList, hp]; exact h3
    rw [sub_one]
    by_cases hx : l[k]? = some c
    · obtain ⟨hlt, hx'⟩ := List.getElem?_eq_some_iff.mp hx
      rw [if_pos ⟨⟨⟨by omega, h2⟩, by show k + 1 ≤ l.length; omega⟩, decide_eq_true hx⟩]
      have := occ_run (l := l) (c := c) m (k + 1) (st.1.push k, k + 1) (pre ++ [k]) (by omega) (by rw [Array.toList_push, hp]) (Nat.le_refl _) (by rw [List.length_append]; exact Nat.succ_le_succ h3)
      rw [List.drop_eq_getElem_cons hlt, posn, if_pos hx', List.append_cons]
      exact this
    · rw [if_neg fun z => hx (of_decide_eq_true z.2)]
      have := occ_run (l := l) (c := c) m (k + 1) (st.1, st.2) pre (by omega) hp (Nat.le_succ_of_le h2) (Nat.le_succ_of_le h3)
      by_cases hlt : k < l.length
      · rw [List.drop_eq_getElem_cons hlt, posn, if_neg fun z => hx (by rw [List.getElem?_eq_getElem hlt, z])]
        exact this
      · rw [List.drop_of_length_le (by omega)]
        rw [List.drop_of_length_le (by omega)] at this
        exact this
theorem occ_one {l : List Nat} {c : Nat} : Builtin.Str.occurrences (tx l) (tx [c]) 0 l.length (l.length + 1) = posn c 0 l := by
  rw [occ_eq]
  exact occ_run (l.length + 1) 0 (#[], 0) [] (by omega) rfl (Nat.le_refl _) (Nat.le_refl _)
theorem str_sub {l : List Nat} {i j : Nat} : Builtin.Str.strSub (tx l) i j = tx ((l.drop i).take (j - i)) := by
  refine Str.ext' (Array.toList_inj.mp ?_)
  rw [strSub_toList]
  rfl
theorem split_ne (c : Nat) : ∀ l, splitT c l ≠ []
  | [] => fun z => nomatch z
  | x :: r => by
    rw [splitT]
    split
    · exact fun z => nomatch z
    · split <;> exact fun z => nomatch z
def pre1 (p : List Nat) : List (List Nat) → List (List Nat)
  | [] => [p]
  | q :: r => (p ++ q) :: r
theorem parts_run {l : List Nat} {c : Nat} : ∀ (n a b : Nat), b + n = l.length → a ≤ b → partsFrom (tx l) 1 a (posn c b (l.drop b)) = (pre1 ((l.drop a).take (b - a)) (splitT c (l.drop b))).map tx
  | 0, a, b, hb, hab => by
    rw [List.drop_of_length_le (show l.length ≤ b by omega)]
    show [Builtin.Str.strSub (tx l) a (tx l).length] = [tx (_ ++ [])]
    rw [str_sub, tx_len, List.append_nil, show l.length = b by omega]
  | n + 1, a, b, hb, hab => by
    have hlt : b < l.length := by omega
    rw [List.drop_eq_getElem_cons hlt, posn, splitT]
    by_cases hx : l[b] = c
    · rw [if_pos hx, if_pos hx]
      show Builtin.Str.strSub (tx l) a b :: partsFrom (tx l) 1 (b + 1) _ = tx (_ ++ []) :: (splitT c (l.drop (b + 1))).map tx
      rw [str_sub, List.append_nil, parts_run n (b + 1) (b + 1) (by omega) (Nat.le_refl _), Nat.sub_self, List.take_zero]
      cases h : splitT c (l.drop (b + 1)) with
      | nil => exact absurd h (split_ne _ _)
      | cons p q => rfl
    · rw [if_neg hx, if_neg hx, parts_run n a (b + 1) (by omega) (by omega)]
      have e : (l.drop a).take (b + 1 - a) = (l.drop a).take (b - a) ++ [l[b]] := by
        rw [show b + 1 - a = (b - a) + 1 by omega, List.take_add_one, List.getElem?_drop, show a + (b - a) = b by omega, List.getElem?_eq_getElem hlt]
        rfl
      rw [e]
      cases h : splitT c (l.drop (b + 1)) with
      | nil => exact absurd h (split_ne _ _)
      | cons p q =>
        show (((_ ++ [l[b]]) ++ p) :: q).map tx = ((_ ++ (l[b] :: p)) :: q).map tx
        rw [List.append_assoc]
        rfl
theorem split_tx {l : List Nat} {c : Nat} (hc : c < 128) : Txt.split (tx l) (tx [c]) = (splitT c l).map tx := by
  have hk : ∀ x : Str, 1 ≤ Builtin.Str.strKind x := fun x => by
    unfold Builtin.Str.strKind
    split
    · decide
    · split <;> decide
  have h1 : Builtin.Str.strKind (tx [c]) = 1 := by
    unfold Builtin.Str.strKind
    rw [if_pos (by simp [tx]; omega)]
  have key : partsFrom (tx l) 1 0 (posn c 0 l) = (splitT c l).map tx := by
    have := parts_run (l := l) (c := c) l.length 0 0 (by omega) (Nat.le_refl _)
    rw [List.drop_zero, Nat.sub_zero, List.take_zero] at this
    rw [this]
    cases h : splitT c l with
    | nil => exact absurd h (split_ne _ _)
    | cons p q => rfl
  unfold Txt.split
  rw [show (tx [c]).length = 1 from rfl, h1]
  cases l with
  | nil => rfl
  | cons x r =>
    rw [if_neg (by
      have := hk (tx (x :: r))
      rw [tx_len]
      simp
      omega)]
    rw [show (tx (x :: r)).length = (x :: r).length from tx_len _, occ_one]
    cases hp : posn c 0 (x :: r) with
    | nil =>
      rw [hp] at key
      rw [if_pos (show (([] : List Nat).isEmpty = true) from rfl), ← key]
      show [tx (x :: r)] = [Builtin.Str.strSub _ 0 _]
      rw [str_sub, List.drop_zero, tx_len, Nat.sub_zero, List.take_length]
    | cons a b =>
      rw [if_neg (by intro z; exact nomatch z), partsBetween_eq, ← hp, key]
end My

set_option Elab.async false
set_option linter.all false
set_option maxRecDepth 100000
set_option maxHeartbeats 2000000
/-! comprehensions over a dict's keys; dict(d); != of a tuple and an empty one; startswith and cuts. -/
namespace My
open PySem PySem.Spec PyProof.Rows L2 Evl
/-! ### dict(d): a new dict, entry by entry -/
def rDictD : List V → Hp → VK → Prop := fun xs H Q => ∃ (a : Addr) (kvs : List (Key × V)), xs = [.ref a] ∧ H a = some (.dK kvs) ∧ ∀ p, H p = none → Q (.ref p) (upd H p (.dK kvs))
section
variable {X : Cx}
theorem call_dictD : CallR X (.type "dict") rDictD := by
  intro pins s σ H xs us Q I r q
  obtain ⟨a, kvs, ex, hq, q⟩ := q
  subst ex
  obtain ⟨u, eu, rx⟩ := vals1 r
  subst eu
  cases rx
  obtain ⟨hz, lo, ws, rel, dd⟩ := dk_of I.hok hq
  have hl : kvs.length = ws.length := Paired.length rel
  refine kt_call_dict (knd := mixKind X.prog X.w) lo dd (by rw [← hl]; exact hz) fun h' hd' sb => ?_
  have hm : (s.heap.objs.size == sysModules) = false := beq_eq_false_iff_ne.mpr (Nat.ne_of_gt I.big)
  exact ⟨.ref s.heap.objs.size, upd H s.heap.objs.size (.dK kvs), I.laid (t' := s.toks) (fun b o e => (sb.2 b (Nat.ne_of_lt (Heap.lt_size e))).trans (Heap.get?_push_of_some _ e)) (Nat.le_refl _) (show ObjOk X.prog X.w _ _ _ (.dK kvs) from ⟨hz, hm, ws, rel, hd'⟩), rfl, q _ (I.hok.fresh (Nat.le_refl _))⟩
/-! ### != of two tuples, the second one empty -/
def rNeT (K : PySem.W.Frag) : R2 := fun x y H Q => ∃ a b xs ys, x = .ref a ∧ y = .ref b ∧ (SqT K H a xs ∧ SqT K H b ys) ∧ ys = [] ∧ Q (.bl (!decide (xs.length = 0))) H
theorem op_neT (hu : X.A.units + 64 < cLine) : OpR X (compareOp .NotEq) (rNeT X.K) := by
  intro pins s σ H x y v u Q I rx ry h
  obtain ⟨a, b, xs, ys, rfl, rfl, ⟨h1, h2⟩, rfl, q⟩ := h
  cases rx
  cases ry
  have hu1 : X.A.units < cLine := by omega
  obtain ⟨its, rv, p1, _⟩ := I.tuple h1
  obtain ⟨its2, rv2, p2, _⟩ := I.tuple h2
  cases rv2
  have hl := rv.length
  have R := SeqAt.RcNeAt.tuples (A := X.A) (s := s) (e := fun _ => true) (show s.heap.IsTuple a its.toArray from p1) (show s.heap.IsTuple b [].toArray from p2) hu1 (fun j _ h2 => absurd h2 (by simp))
  have e : (!((List.range (min its.toArray.size ([] : List Value).toArray.size)).all (fun _ => true) && its.toArray.size == ([] : List Value).toArray.size)) = !decide (xs.length = 0) := by
    rw [hl]
    cases its <;> simp
  rw [e] at R
  exact R X.prog X.w _ _ ⟨.bl _, H, I, rfl, q⟩
end
section
variable {K : PySem.W.Frag} {σ : L2.St} {H H' : Hp} {te tl tb : TE} {tt : TT} {xs : List V} {a d : Addr} {kvs : List (Key × V)}
theorem ev_neT (h : EvP te σ H fun v H' => ∃ a, v = .ref a ∧ SqT K H' a xs) (hb : EvU tb σ H []) : Ev (tOp (rNeT K) te tb) σ H (.bl (!decide (xs.length = 0))) := fun H1 e Q q =>
  h H1 e _ fun v H2 e2 ⟨a, hv, hS⟩ => hb H2 (e.trans e2) _ fun p H3 _ e3 h3 => ⟨a, p, xs, [], hv, rfl, ⟨ex_t e3 hS, st_of h3⟩, rfl, q H3 (e2.trans e3)⟩
/-- dict(d) -/
theorem evp_dictD (h : Ev te σ H (.ref d)) (hd : H d = some (.dK kvs)) : EvP (tCB rDictD (tCons te tNil)) σ H (fun v H' => ∃ p, v = .ref p ∧ H' p = some (.dK kvs)) := fun H1 e Q q =>
  h H1 e _ fun H2 e2 => ⟨d, kvs, rfl, (e.trans e2) _ _ hd, fun p hp => q _ _ (e2.trans (Ex.new hp)) ⟨p, rfl, upd_same⟩⟩
/-! ### a comprehension over a dict's keys, texts; tests and items that look at no heap -/
theorem el_lcK {j : Nat} {vs : List Nat} {ks : List (List Nat)} (f : V → Bool) (g : V → V) (h : ∀ H1, Ev tl σ H1 (.ref d)) (hd : H d = some (.dK kvs)) (hk : kvs.map (·.1) = ks.map fun k => Sum.inr (tx k)) (hz : ks.length ≤ 40000) (hw : ∀ x, wipe ((wipe σ vs).set j (some x)) vs = wipe σ vs)
    (ht : ∀ x H1, x ∈ (ks.map fun p => V.str (tx p)) → EvT tt ((wipe σ vs).set j (some x)) H1 (f x)) (he : ∀ x H1, x ∈ (ks.map fun p => V.str (tx p)) → f x = true → Ev te ((wipe σ vs).set j (some x)) H1 (g x)) :
    EvL (tLockE (tLc (iKeys tl) (gName j) tt te vs)) σ H (((ks.map fun p => V.str (tx p)).filter f).map g) := by
  intro H0 e Q q
  have hlen : kvs.length = ks.length := by simpa using congrArg List.length hk
  generalize hxs : (ks.map fun p => V.str (tx p)) = xs at ht he q
  have hxl : xs.length = ks.length := by rw [← hxs, List.length_map]
  refine ⟨d, _, e d _ hd, trivial, fun od => ?_⟩
  generalize hH : L2.upd H0 d (.frz od (.dK kvs)) = HF
  have hF : HF d = some (.frz od (.dK kvs)) := by rw [← hH, upd_same]
  refine h HF HF (Ex.refl HF) _ fun H1 e1 => ⟨d, od, rfl, .inl ⟨kvs, e1 d _ hF, fun Dl hD => ?_⟩⟩
  have hd1 := e1 d _ hF
  have ndl : Dl ≠ d := fun z => by rw [z, hd1] at hD; exact nomatch hD
  refine ⟨fun i m H' => m = xs.length - i ∧ i ≤ xs.length ∧ Ex H1 H' ∧ H' Dl = some (.lst (((xs.take i).filter f).map g)), ⟨xs.length, rfl, Nat.zero_le _, Ex.new hD, upd_same⟩, ?_⟩
  rintro i m H' ⟨rfl, hi, ex, hl⟩
  by_cases hlt : i < xs.length
  · have gx : xs[i]? = some xs[i] := List.getElem?_eq_getElem hlt
    refine .inr ⟨⟨ex d _ hd1, by omega⟩, fun H' => Ex H1 H' ∧ H' Dl = some (.lst (((xs.take (i + 1)).filter f).map g)), fun H2 p => ⟨xs.length - (i + 1), by omega, rfl, hlt, p⟩, fun x H2 y => ?_⟩
    obtain ⟨rfl, k, v, hkv, rfl⟩ := y
    have ex' : kV k = xs[i] := by
      have h1 : (kvs.map (·.1))[i]? = some k := by rw [List.getElem?_map, hkv]; rfl
      rw [hk, List.getElem?_map] at h1
      obtain ⟨p, h2, h3⟩ := Option.map_eq_some_iff.mp h1
      have h4 : xs[i]? = some (.str (tx p)) := by rw [← hxs, List.getElem?_map, h2]; rfl
      rw [gx] at h4
      rw [Option.some.inj h4, ← h3]
      rfl
    rw [ex']
    exact ⟨hw _, lcf_turn gx hD ex hl (by omega) (ht _ H1 (List.mem_of_getElem? gx)) (he _ H1 (List.mem_of_getElem? gx))⟩
  · have e0 : i = xs.length := by omega
    subst e0
    rw [List.take_of_length_le (Nat.le_refl _)] at hl
    refine .inl ⟨⟨ex d _ hd1, by omega⟩, ex d _ hd1, ?_⟩
    have h0 : H0 Dl = none := by
      have := fresh_back e1 hD
      rw [← hH, upd_ne ndl] at this
      exact this
    refine q Dl _ h0 (fun b o hb => ?_) (by rw [upd_ne ndl]; exact hl)
    by_cases hbd : b = d
    · subst hbd
      rw [upd_same]
      rw [e b _ hd] at hb
      exact hb
    · rw [upd_ne hbd]
      exact ex b _ (e1 b _ (by rw [← hH, upd_ne hbd]; exact hb))
end
/-! ### startswith -/
theorem sub_at0 (l p : List Nat) : Builtin.Str.subAt (tx l) (tx p) 0 = decide (l.take p.length = p) := by
  rw [StrLaws.subAt_eq, tx_list, List.drop_zero, tx_list, tx_len]
  rw [Bool.eq_iff_iff, beq_iff_eq, decide_eq_true_eq]
theorem starts_tx (l p : List Nat) : Txt.startswith (tx l) (tx p) = decide (l.take p.length = p) := by
  unfold Txt.startswith
  rw [sub_at0, tx_len, tx_len, Nat.zero_add]
  by_cases h : l.take p.length = p
  · have := congrArg List.length h
    rw [List.length_take] at this
    rw [decide_eq_true h, decide_eq_true (show p.length ≤ l.length by omega)]
    rfl
  · rw [decide_eq_false h, Bool.and_false]
def rStarts : V → List V → Hp → VK → Prop := fun x xs H Q => ∃ a b, x = .str a ∧ xs = [.str b] ∧ Q (.bl (Txt.startswith a b)) H
theorem ev_starts {K : PySem.W.Frag} {σ : L2.St} {H : Hp} {te tb : TE} {l p : List Nat} (h : Ev te σ H (.str (tx l))) (hb : Ev tb σ H (.str (tx p))) : Ev (tBM K "str" rStarts te (tCons tb tNil)) σ H (.bl (decide (l.take p.length = p))) := fun H1 e Q q =>
  h H1 e _ fun H2 e2 => ⟨rfl, hb H2 (e.trans e2) _ fun H3 e3 => ⟨tx l, tx p, rfl, rfl, by rw [starts_tx]; exact q H3 (e2.trans e3)⟩⟩
end My

set_option Elab.async false
set_option linter.all false
set_option maxRecDepth 100000
set_option maxHeartbeats 2000000
/-! own classes: methods without arguments, making with arguments; an expression that is never reached. -/
namespace My
open PySem PySem.Spec PyProof.Rows L2 Evl
theorem pe_mcal0 {X : Cx} {k j : Nat} {C : Addr} {m : Str} {ps : List Str} {sp : Sp} {o : Expr} {ta : TE} {pos apos : Pos} {pl : Sem Bool} (c : Cls X.K C) (M : MCal X.prog X.w X.K X.mg X.base k C m ps sp) (hr : Room j X.A) (he : PE X o ta)
    (hle : k ≤ j := by first | exact Nat.le_refl _ | decide | omega)
    (ht : eval (.Call (.Attribute o m apos) [] [] pos) X.env = (do
      let ov ← eval o X.env
      standAt apos.atName
      let (f, first) ← holding [ov] (getMethod ov m pl)
      callWith pos f first (backTo pos (starEach [] X.env)) (backToKw pos (keywordEach [] X.env))) := by rfl) :
    PE X (.Call (.Attribute o m apos) [] [] pos) (tMeth C m sp [] E0 ta tNil) := by
  obtain ⟨f, fd, F, b, mm⟩ := M.ex
  exact pe_meth0 (pl := pl) he c mm F (hr.mono hle) b .nil pass0 ht
theorem pe_mkc {X : Cx} {k j : Nat} {x : Str} {C : Addr} {ps : List Str} {sp : Sp} {e : Expr} {es : List Expr} {t : TA} {p pos : Pos} (M : MkC X.prog X.w X.K X.mg X.base k x C ps sp) (hr : Room j X.A) (ha : PA X (e :: es) t) (hle : k + 1 ≤ j := by first | exact Nat.le_refl _ | decide | omega) (hg : Gl X x := by rfl) (hdb : (x == ("__debug__" : Str)) = false := by decide)
    (he : starEach (e :: es) X.env = (false, eval e X.env) :: starEach es X.env := by rfl) (hpl : (backTo pos (starEach es X.env)).any (·.1) = false := by rfl) :
    PE X (.Call (.Name x p) (e :: es) [] pos) (tMake C sp [] E0 t) := by
  obtain ⟨f, fd, F, b, mm, hm⟩ := M.ex
  exact pe_make mm F (hr.mono hle) hg hm b .nil pass0 ha hdb he hpl
def tNevE : TE := fun _ _ _ => False
theorem pe_never {X : Cx} {e : Expr} : PE X e tNevE := ⟨fun _ _ _ _ _ _ h => h.elim⟩
section
variable {K : PySem.W.Frag} {σ : L2.St} {H H' : Hp} {te tl tb : TE} {t : TA} {tt : TT} {sp : Sp} {Q : VK} {E : XK} {v : V} {a r C dx : Addr} {fs : List (Str × V)} {m : Str}
theorem ev_ifN {tc : TT} (h : EvT tc σ H true) (ha : Ev te σ H v) : Ev (tIf tc te tNevE) σ H v := fun H1 e Q q => h H1 e _ fun H2 e2 => iteT (ha H2 (e.trans e2) Q fun H3 e3 => q H3 (e2.trans e3))
theorem evp_ifN {tc : TT} {P : V → Hp → Prop} (h : EvT tc σ H true) (ha : EvP te σ H P) : EvP (tIf tc te tNevE) σ H P := fun H1 e Q q => h H1 e _ fun H2 e2 => iteT (ha H2 (e.trans e2) Q fun v H3 e3 p => q v H3 (e2.trans e3) p)
theorem evp_if {tc : TT} {P : V → Hp → Prop} {b : Bool} (h : EvT tc σ H b) (h1 : b = true → EvP te σ H P) (h2 : b = false → EvP tb σ H P) : EvP (tIf tc te tb) σ H P := fun H1 e Q q => h H1 e _ fun H2 e2 => by
  cases b with
  | true => exact iteT (h1 rfl H2 (e.trans e2) Q fun v H3 e3 p => q v H3 (e2.trans e3) p)
  | false => exact iteF (h2 rfl H2 (e.trans e2) Q fun v H3 e3 p => q v H3 (e2.trans e3) p)
/-- a method that hands back something of which R is known -/
theorem evp_mcal {P : List V → Hp → Prop} {R : V → Hp → Prop} (h : Ev te σ H (.ref r)) (hi : H r = some (.ins C dx fs)) (hm : fs.lookup m = none) (ha : EvAP t σ H P) (k : ∀ vs H1 Q, Ex H H1 → P vs H1 → (∀ v H2, Ex H1 H2 → R v H2 → Q v H2) → sp (.ref r :: vs) H1 Q E) : EvP (tMeth C m sp [] E te t) σ H R := fun H1 e Q q =>
  h H1 e _ fun H2 e2 => ⟨r, dx, fs, rfl, (e.trans e2) _ _ hi, hm, ha H2 (e.trans e2) _ fun vs H3 e3 p => by
    rw [List.append_nil]
    exact k vs H3 Q ((e.trans e2).trans e3) p fun v H4 e4 hr => q v H4 ((e2.trans e3).trans e4) hr⟩
/-- a call that hands back something of which R is known -/
theorem evp_cal {P : List V → Hp → Prop} {R : V → Hp → Prop} (ha : EvAP t σ H P) (k : ∀ vs H1 Q, Ex H H1 → P vs H1 → (∀ v H2, Ex H1 H2 → R v H2 → Q v H2) → sp vs H1 Q E) : EvP (tCall sp [] E t) σ H R := fun H1 e Q q =>
  ha H1 e _ fun vs H3 e3 p => by
    rw [List.append_nil]
    exact k vs H3 Q (e.trans e3) p fun v H4 e4 hr => q v H4 (e3.trans e4) hr
end
end My

set_option Elab.async false
set_option linter.all false
set_option maxRecDepth 100000
set_option maxHeartbeats 4000000
/-! things that all laws' texts use: texts in heaps, data without lists, draws, sameness. -/
namespace My
open PySem PySem.Spec PyProof.Rows L2 Evl
def txs (ps : List (List Nat)) : List V := ps.map fun p => V.str (tx p)
theorem txs_len (ps : List (List Nat)) : (txs ps).length = ps.length := by unfold txs; rw [List.length_map]
theorem str_dec {a b : List Nat} : decide (V.str (tx a) = V.str (tx b)) = decide (a = b) := decide_eq_decide.mpr ⟨fun h => tx_inj (V.str.inj h), fun h => by rw [h]⟩
theorem head_get {l : List Nat} (h : l ≠ []) : l[0]? = some (l.headD 0) := by
  cases l with
  | nil => exact absurd rfl h
  | cons a r => rfl
theorem head_dec {c d : Nat} : decide (V.str (tx [c]) = V.str (tx [d])) = decide (c = d) := decide_eq_decide.mpr ⟨fun h => (List.cons.inj (tx_inj (V.str.inj h))).1, fun h => by rw [h]⟩
theorem txs_get {ps : List L} {i : Nat} {p : L} (h : ps[i]? = some p) : (txs ps)[i]? = some (.str (tx p)) := by
  unfold txs
  rw [List.getElem?_map, h]
  rfl
theorem txs_get' {ps : List L} {i : Nat} {v : V} (h : (txs ps)[i]? = some v) : v = .str (tx (ps.getD i [])) ∧ i < ps.length ∧ ps[i]? = some (ps.getD i []) := by
  unfold txs at h
  rw [List.getElem?_map] at h
  obtain ⟨p, hp, rfl⟩ := Option.map_eq_some_iff.mp h
  have hl := (List.getElem?_eq_some_iff.mp hp).1
  rw [List.getD_eq_getElem?_getD, hp]
  exact ⟨rfl, hl, rfl⟩
theorem getD_some {α : Type} {ps : List α} {i : Nat} {d : α} (h : i < ps.length) : ps[i]? = some (ps.getD i d) := by
  rw [List.getD_eq_getElem?_getD, List.getElem?_eq_getElem h]
  rfl
theorem txs_drop (ps : List L) (n : Nat) : txs (ps.drop n) = (txs ps).drop n := by unfold txs; rw [List.map_drop]
theorem txs_flat (ps : List L) : (txs ps).all flatV = true := by
  unfold txs
  rw [List.all_map, List.all_eq_true]
  intro x _
  rfl
theorem txs_in (l : L) (ps : List L) : inV (.str (tx l)) (txs ps) = decide (l ∈ ps) := by
  unfold inV txs
  rw [List.any_map]
  induction ps with
  | nil => rfl
  | cons p r ih =>
    rw [List.any_cons, ih]
    show ((tx p == tx l) || _) = _
    by_cases h : l = p
    · subst h
      rw [show (tx l == tx l) = true from beq_self_eq_true _, Bool.true_or, decide_eq_true (by simp)]
    · rw [show (tx p == tx l) = false from beq_eq_false_iff_ne.mpr fun z => h (tx_inj z).symm, Bool.false_or]
      exact decide_eq_decide.mpr (by simp [h])
theorem el_is {σ : L2.St} {H : Hp} {te : TE} {xs ys : List V} (h : EvL te σ H xs) (e : xs = ys) : EvL te σ H ys := by
  rw [← e]
  exact h
mutual
def NoL : D → Prop
  | .tup ds => NoLL ds
  | .lst _ => False
  | .non => True
  | .bl _ => True
  | .int _ => True
  | .str _ => True
def NoLL : List D → Prop
  | [] => True
  | d :: ds => NoL d ∧ NoLL ds
end
mutual
theorem Rep.keepT {H H1 : Hp} (k : ∀ a us, H a = some (.tup us) → H1 a = some (.tup us)) : ∀ {v : V} {d : D}, NoL d → Rep H v d → Rep H1 v d
  | _, _, _, .non => .non
  | _, _, _, .bl b => .bl b
  | _, _, _, .int i => .int i
  | _, _, _, .str l => .str l
  | _, .tup ds, h, .tup q r => .tup (k _ _ q) (Reps.keepT k (by rw [NoL] at h; exact h) r)
  | _, .lst ds, h, .lst q r => (by rw [NoL] at h; exact h.elim)
theorem Reps.keepT {H H1 : Hp} (k : ∀ a us, H a = some (.tup us) → H1 a = some (.tup us)) : ∀ {vs : List V} {ds : List D}, NoLL ds → Reps H vs ds → Reps H1 vs ds
  | _, _, _, .nil => .nil
  | _, _ :: _, h, .cons r rs => .cons (Rep.keepT k (by rw [NoLL] at h; exact h.1) r) (Reps.keepT k (by rw [NoLL] at h; exact h.2) rs)
end
theorem nol_app : ∀ {a b : List D}, NoLL a → NoLL b → NoLL (a ++ b)
  | [], _, _, h => h
  | d :: a, b, h, g => by
    rw [NoLL] at h
    show NoLL (d :: (a ++ b))
    rw [NoLL]
    exact ⟨h.1, nol_app h.2 g⟩
theorem nol_all {α : Type} {f : α → D} : ∀ {l : List α}, (∀ x ∈ l, NoL (f x)) → NoLL (l.map f)
  | [], _ => by rw [List.map_nil, NoLL]; trivial
  | x :: l, h => by
    rw [List.map_cons, NoLL]
    exact ⟨h x (by simp), nol_all fun y hy => h y (by simp [hy])⟩
theorem reps_txs (H : Hp) : ∀ ps : List L, Reps H (txs ps) (ps.map .str)
  | [] => .nil
  | p :: ps => .cons (.str p) (reps_txs H ps)
section
variable {K : PySem.W.Frag} {σ : L2.St} {H : Hp} {ta tb te tl td ty : TE} {tt : TT} {xs ys : List V} {a p d : Addr} {kvs : List (Key × V)} {l : List Nat} {D : Ends} {tu tz : TS}
theorem ne_kind {H : Hp} {a b : Addr} {o1 o2 : HO} (ha : H a = some o1) (hb : H b = some o2) (h : o1 ≠ o2) : a ≠ b := fun e => by
  rw [e, hb] at ha
  exact h (Option.some.inj ha).symm
theorem ev_word {σ : L2.St} {H : Hp} {a : Addr} {ws : List L} {i : Nat} (ha : Ev ta σ H (.ref a)) (hb : Ev tb σ H (.int (i : Int))) (hS : SqL K H a (txs ws)) (h : i < ws.length) : Ev (tOp (rIxL K) ta tb) σ H (.str (tx (ws.getD i []))) := ev_ixL ha hb hS (txs_get (getD_some h))
theorem ev_eqS {a b : L} (ha : Ev ta σ H (.str (tx a))) (hb : Ev tb σ H (.str (tx b))) : Ev (tOp rEq ta tb) σ H (.bl (decide (a = b))) := ev_is (ev_op ha hb (rv_eq rfl)) (congrArg V.bl str_dec)
def EvW (te : TE) (σ : L2.St) (H : Hp) (xs : List V) : Prop := ∀ H1, Ex H H1 → ∀ Q : VK, (∀ p H2, Ex H1 H2 → H2 p = some (.tup xs) → Q (.ref p) H2) → te σ H1 Q
theorem ev_dni (h : Ev td σ H (.ref d)) (hd : H d = some (.dK kvs)) (hk : Ev ty σ H (.str (tx l))) : Ev (tDNotIn ty td) σ H (.bl (!(valV kvs (.inr (tx l))).isSome)) := fun H1 e Q q =>
  hk H1 e _ fun H2 e2 => h H2 (e.trans e2) _ fun H3 e3 => ⟨d, _, rfl, DGet.k (k := Sum.inr (tx l)) (((e.trans e2).trans e3) d _ hd), q H3 (e2.trans e3)⟩
theorem r_bm0 {K : PySem.W.Frag} {σ : L2.St} {H : Hp} {Q : VK} {T : String} {r : V → List V → Hp → VK → Prop} {to : TE} (h : to σ H fun x H1 => tyV K T x H1 ∧ r x [] H1 Q) : tBM0 K T r to σ H Q := h
theorem ev_inN {x : V} (ha : Ev ta σ H x) (hb : EvL tb σ H xs) (hx : flatV x = true) (hf : xs.all flatV = true) : Ev (tOp (rIn K false) ta tb) σ H (.bl (inV x xs)) := fun H1 e Q q =>
  ha H1 e _ fun H2 e2 => hb H2 (e.trans e2) _ fun p H3 _ e3 h3 => rv_isL (sq_of h3) hx hf H3 (Ex.refl _) _ fun H4 e4 => q H4 ((e2.trans e3).trans e4)
theorem G.kt {p sc : Addr} {ns : List Int} {H' : Hp} (hP : Pool K H p sc ns) (g : G K p sc ns H H') : ∀ c us, H c = some (.tup us) → H' c = some (.tup us) := fun c us h => g.1 c _ (fun e => hP.noT us (by rw [← e]; exact h)) h
theorem G.back {p sc : Addr} {ns : List Int} {H1 : Hp} {a : Addr} (g : G K p sc ns H H1) (h : H1 a = none) : H a = none := by
  cases e : H a with
  | none => rfl
  | some o =>
    by_cases ha : a = p
    · obtain ⟨pl, r, f, hp, _⟩ := g.2
      rw [ha, hp] at h
      exact nomatch h
    · rw [g.1 a o ha e] at h
      exact nomatch h
theorem r_ifS {t : TT} {tu tw tz : TS} {D : Ends} {σ : L2.St} {H : Hp} (h : t σ H fun b H1 => if b = true then tu { D with nx := tz D } σ H1 else tw { D with nx := tz D } σ H1) : tSeq (tIfS t tu tw) tz D σ H := h
theorem r_or {t u : TT} {σ : L2.St} {H : Hp} {Q : Bool → Hp → Prop} (h : t σ H fun c H1 => if c = true then Q true H1 else u σ H1 Q) : tOr t u σ H Q := h
theorem r_lst {ta : TA} {σ : L2.St} {H : Hp} {Q : VK} (h : ta σ H fun vs H1 => vs.length ≤ sizeLine ∧ ∀ p, H1 p = none → Q (.ref p) (upd H1 p (.lst vs))) : tLst ta σ H Q := h
end
section
variable {K : PySem.W.Frag} {σ : L2.St} {H : Hp} {te tl : TE} {tt : TT} {ds : List D}
theorem ed_tupL (h : EvD te σ H (.lst ds)) (hd : NoLL ds) : EvD (tCB (rTupS K) (tCons te tNil)) σ H (.tup ds) := fun H1 e Q q =>
  h H1 e _ fun v H2 e2 r2 => by
    cases r2 with
    | @lst a xs _ ha rs =>
      exact ⟨a, xs, rfl, .inl ⟨sq_of ha, fun l hl => q (.ref l) _ (e2.trans (Ex.new hl)) (.tup upd_same (rs.mono (Ex.new hl)))⟩⟩
theorem ed_lcM {α : Type} {j : Nat} {vs : List Nat} (A B : α → D) (f : α → Bool) {l : List α} (h : EvD tl σ H (.lst (l.map A))) (hz : l.length ≤ 40000) (hw : ∀ x, wipe ((wipe σ vs).set j (some x)) vs = wipe σ vs) (hA : ∀ x ∈ l, NoL (A x)) (hB : ∀ x ∈ l, NoL (B x))
    (ht : ∀ x z H1, Ex H H1 → z ∈ l → Rep H1 x (A z) → EvT tt ((wipe σ vs).set j (some x)) H1 (f z)) (he : ∀ x z H1, Ex H H1 → z ∈ l → Rep H1 x (A z) → f z = true → EvD te ((wipe σ vs).set j (some x)) H1 (B z)) : EvD (tLc (iList K tl) (gName j) tt te vs) σ H (.lst ((l.filter f).map B)) := by
  intro H0 e Q q
  refine h H0 e _ fun v H1 e1 r1 => ?_
  cases r1 with
  | @lst a xs _ ha rs =>
    refine ⟨a, rfl, ⟨xs, sq_of ha⟩, fun Dl hD => ?_⟩
    have hxl := rs.len
    rw [List.length_map] at hxl
    refine ⟨fun i m H' => m = xs.length - i ∧ i ≤ xs.length ∧ Ex H1 H' ∧ ∃ us, H' Dl = some (.lst us) ∧ us.length ≤ i ∧ Reps H' us (((l.take i).filter f).map B), ⟨xs.length, rfl, Nat.zero_le _, Ex.new hD, [], upd_same, Nat.le_refl 0, .nil⟩, ?_⟩
    rintro i m H' ⟨rfl, hi, ex, us, hl, hul, hr⟩
    by_cases hlt : i < xs.length
    · have gx : xs[i]? = some xs[i] := List.getElem?_eq_getElem hlt
      obtain ⟨d, hd, hrep⟩ := rs.get' gx
      rw [List.getElem?_map] at hd
      obtain ⟨z, hz', rfl⟩ := Option.map_eq_some_iff.mp hd
      have hzm := List.mem_of_getElem? hz'
      refine .inr ⟨⟨xs, xs[i], sq_of (ex a _ ha), gx⟩, fun H' => Ex H1 H' ∧ ∃ us, H' Dl = some (.lst us) ∧ us.length ≤ i + 1 ∧ Reps H' us (((l.take (i + 1)).filter f).map B), fun H2 p => ⟨xs.length - (i + 1), by omega, rfl, hlt, p⟩, fun x H2 y => ?_⟩
      obtain ⟨rfl, y⟩ := y
      have ex' : x = xs[i] := Option.some.inj ((y xs (sq_of (ex a _ ha))).symm.trans gx)
      subst ex'
      refine ⟨hw _, ?_⟩
      refine ht _ z H1 (e.trans e1) hzm hrep _ ex _ fun H3 e3 => ?_
      have E3 := ex.trans e3
      have nB : NoLL (((l.take i).filter f).map B) := nol_all fun x hx => hB x (List.mem_of_mem_take (List.mem_filter.mp hx).1)
      rw [List.take_add_one, hz', List.filter_append]
      cases hf : f z with
      | false =>
        rw [if_neg (by decide)]
        refine ⟨E3, us, e3 Dl _ hl, by omega, ?_⟩
        rw [show (some z).toList.filter f = [] by simp [hf], List.append_nil]
        exact hr.mono e3
      | true =>
        rw [if_pos rfl]
        refine he _ z H1 (e.trans e1) hzm hrep hf _ E3 _ fun v H4 e4 r4 => ⟨us, e4 Dl _ (e3 Dl _ hl), sz_lt (by omega), (E3.trans e4).mut hD, us ++ [v], upd_same, by rw [List.length_append]; show _ + 1 ≤ _; omega, ?_⟩
        have kt : ∀ b ws, H4 b = some (.tup ws) → upd H4 Dl (.lst (us ++ [v])) b = some (.tup ws) := fun b ws hb => by
          rw [upd_ne (ne_kind hb (e4 Dl _ (e3 Dl _ hl)) (fun z => nomatch z))]
          exact hb
        rw [show (some z).toList.filter f = [z] by simp [hf], List.map_append]
        exact (Reps.keepT kt nB (hr.mono (e3.trans e4))).append (.cons (Rep.keepT kt (hB z hzm) r4) .nil)
    · have e0 : i = xs.length := by omega
      subst e0
      rw [List.take_of_length_le (by omega)] at hr
      exact .inl ⟨⟨xs, sq_of (ex a _ ha), Nat.le_refl _⟩, q (.ref Dl) H' (e1.trans ex) (.lst hl hr)⟩
end
section
variable {K : PySem.W.Frag} {σ : L2.St} {H : Hp} {Q : VK} {p sc : Addr} {ns : List Int} {D : Ends} {tu tz : TS} {ta : TA} {te : TE}
theorem r_zero {E : XK} {ip n : Nat} (hP : Pool K H p sc ns) (hv : σ[ip]? = some (some (.ref p))) (h0 : 0 < n) (hn : n < 1000) (R : List V → Hp → Prop) (h : ∀ (m : Nat) H1, 0 ≤ m → m ≤ n - 1 → G K p sc ns H H1 → R [.int (m : Int)] H1) :
    tCons (tCall (sp_draw K) [] E (tCons (tVar ip) (tCons (tC (.int (n : Int))) tNil))) tNil σ H R :=
  r_cons (r_draw hP (ea_cons (ev_v hv) (ea_cons (ev_cn n) ea_nil)) h0 (by omega) fun v H1 hv g => r_nil (h v H1 (Nat.zero_le _) (by omega) g))
theorem r_drop {te : TE} (h : te σ H fun _ H1 => tz D σ H1) : tSeq (tDrop te) tz D σ H := h
theorem r_dropE {te : TE} (h : te σ H fun _ H1 => D.nx σ H1) : tDrop te D σ H := h
theorem r_bm {to : TE} {t : TA} {T : String} {r : V → List V → Hp → VK → Prop} (h : to σ H fun x H1 => tyV K T x H1 ∧ t σ H1 fun xs H2 => r x xs H2 Q) : tBM K T r to t σ H Q := h
/-- a loop as often as is drawn -/
theorem s_forG {j : Nat} (M : Nat) (hM : M ≤ 1000) (ht : ∀ R : List V → Hp → Prop, (∀ (m : Nat) H1, 0 ≤ m → m ≤ M → G K p sc ns H H1 → R [.int (m : Int)] H1) → ta σ H R) (Pv : Nat → L2.St → Hp → Prop) (h0 : ∀ H1, G K p sc ns H H1 → Pv 0 σ H1)
    (hs : ∀ (i : Nat) σ' H', i < M → Pv i σ' H' → tu { D with nx := Pv (i + 1), ct := Pv (i + 1), bk := D.nx } (σ'.set j (some (.int (i : Int)))) H') (hd : ∀ i σ' H', i ≤ M → Pv i σ' H' → D.nx σ' H') : tFor (iRng1 ta) (gName j) tu D σ H :=
  ht _ fun m H1 _ hm g => ⟨m, rfl, by omega, by omega, by
    rw [Int.toNat_natCast]
    exact for_range (n := m) Pv (h0 H1 g) (fun i σ' H' hi p => by
      have e0 : (0 : Int) + (i : Int) = (i : Int) := Int.zero_add _
      show tu _ (σ'.set j (some (.int ((0 : Int) + (i : Int))))) H'
      rw [e0]
      exact hs i σ' H' (by omega) p) fun σ' H' p => hd m σ' H' hm p⟩
theorem q_forG {j : Nat} (M : Nat) (hM : M ≤ 1000) (ht : ∀ R : List V → Hp → Prop, (∀ (m : Nat) H1, 0 ≤ m → m ≤ M → G K p sc ns H H1 → R [.int (m : Int)] H1) → ta σ H R) (Pv : Nat → L2.St → Hp → Prop) (h0 : ∀ H1, G K p sc ns H H1 → Pv 0 σ H1)
    (hs : ∀ (i : Nat) σ' H', i < M → Pv i σ' H' → tu { D with nx := Pv (i + 1), ct := Pv (i + 1), bk := tz D } (σ'.set j (some (.int (i : Int)))) H') (hd : ∀ i σ' H', i ≤ M → Pv i σ' H' → tz D σ' H') : tSeq (tFor (iRng1 ta) (gName j) tu) tz D σ H :=
  s_forG (D := { D with nx := tz D }) M hM ht Pv h0 hs hd
end
/-! sameness, of equal data -/
mutual
def Wid : D → Prop
  | .tup ds => ds.length ≤ 10000 ∧ WidL ds
  | .lst ds => ds.length ≤ 10000 ∧ WidL ds
  | _ => True
def WidL : List D → Prop
  | [] => True
  | d :: ds => Wid d ∧ WidL ds
end
theorem WidL_get : ∀ {ds : List D} {i : Nat} {d : D}, WidL ds → ds[i]? = some d → Wid d
  | [], _, _, _, h => nomatch h
  | d :: ds, 0, _, p, h => by cases h; rw [WidL] at p; exact p.1
  | d :: ds, i + 1, _, p, h => by rw [WidL] at p; exact WidL_get (ds := ds) (i := i) p.2 h
def isTD : D → Bool
  | .tup _ => true
  | _ => false
def isLD : D → Bool
  | .lst _ => true
  | _ => false
def isSD : D → Bool
  | .str _ => true
  | _ => false
def isID : D → Bool
  | .int _ => true
  | .bl _ => true
  | _ => false
def isBD : D → Bool
  | .bl _ => true
  | _ => false
theorem kTD (d : D) : kitB (tyD d) "tuple" = some (isTD d) := by cases d <;> rfl
theorem kLD (d : D) : kitB (tyD d) "list" = some (isLD d) := by cases d <;> rfl
theorem kSD (d : D) : kitB (tyD d) "str" = some (isSD d) := by cases d <;> rfl
theorem kID (d : D) : kitB (tyD d) "int" = some (isID d) := by cases d <;> rfl
theorem kBD (d : D) : kitB (tyD d) "bool" = some (isBD d) := by cases d <;> rfl
theorem kDD (d : D) : kitB (tyD d) "dict" = some false := by cases d <;> rfl
section
variable {K : PySem.W.Frag}
theorem ev_isN {te : TE} {σ : L2.St} {H : Hp} {v : V} (h : Ev te σ H v) : Ev (tOp (fun x y H Q => y = .non ∧ Q (.bl (decide (x = .non))) H) te (tC .non)) σ H (.bl (decide (v = .non))) := fun H1 e Q q =>
  h H1 e _ fun H2 e2 => ⟨rfl, q H2 e2⟩
theorem ev_isBA {te : TE} {σ : L2.St} {H : Hp} {v : V} {b : Bool} (h : Ev te σ H v) : Ev (tOp rIsBA te (tC (.bl b))) σ H (.bl (decide (v = .bl b))) := fun H1 e Q q =>
  h H1 e _ fun H2 e2 => ⟨b, rfl, q H2 e2⟩
theorem ev_isNv {i : Nat} {c : Bool} {σ : L2.St} {H : Hp} {v : V} (h : σ[i]? = some (some v)) (hc : decide (v = .non) = c) : Ev (tOp (fun x y H Q => y = .non ∧ Q (.bl (decide (x = .non))) H) (tVar i) (tC .non)) σ H (.bl c) := ev_is (ev_isN (ev_v h)) (by rw [hc])
theorem ev_isBv {i : Nat} {c b : Bool} {σ : L2.St} {H : Hp} {v : V} (h : σ[i]? = some (some v)) (hc : decide (v = .bl b) = c) : Ev (tOp rIsBA (tVar i) (tC (.bl b))) σ H (.bl c) := ev_is (ev_isBA (ev_v h)) (by rw [hc])
theorem ev_lenQ {σ : L2.St} {H : Hp} {ta : TE} {p : Addr} {xs : List V} (ha : Ev ta σ H (.ref p)) (h : SqL K H p xs ∨ SqT K H p xs) : Ev (tCB (rLenS K) (tCons ta tNil)) σ H (.int (xs.length : Int)) := by
  rcases h with h | h
  · exact ev_len ha h
  · exact ev_lenT ha h
theorem rv_ixQ {H : Hp} {p : Addr} {xs : List V} {i : Nat} {v : V} (h : SqL K H p xs ∨ SqT K H p xs) (ha : xs[i]? = some v) : RV (rIx K) (.ref p) (.int (i : Int)) H v := by
  rcases h with h | h
  · exact fun H1 e Q q => .inl (rv_ixLn h ha H1 e Q q)
  · exact fun H1 e Q q => .inr (.inl (rv_ixTn h ha H1 e Q q))
theorem ex_q {H H' : Hp} {p : Addr} {xs : List V} (e : Ex H H') (h : SqL K H p xs ∨ SqT K H p xs) : SqL K H' p xs ∨ SqT K H' p xs := h.imp (ex_l e) (ex_t e)
end
end My

set_option Elab.async false
set_option linter.all false
set_option maxRecDepth 100000
set_option maxHeartbeats 4000000
/-! promises of data; truth of tuples and lists; names in a dict or a list. -/
namespace My
open PySem PySem.Spec PyProof.Rows L2 Evl
/-- a promise: something that stands for a datum -/
def spD (ok : List V → Hp → D → Prop) : Sp := fun vs H Q _ => ∃ d, ok vs H d ∧ ∀ v H', Ex H H' → Rep H' v d → Q v H'
theorem reps_strs {H : Hp} : ∀ {vs : List V} {ps : List L}, Reps H vs (ps.map .str) → vs = txs ps
  | _, [], h => by cases h; rfl
  | _, p :: ps, h => by
    rw [List.map_cons] at h
    cases h with
    | cons h1 r1 =>
      cases h1
      rw [reps_strs r1]
      rfl
theorem rep_strs {H : Hp} {v : V} {ps : List L} (h : Rep H v (.tup (ps.map .str))) : ∃ a, v = .ref a ∧ H a = some (.tup (txs ps)) := by
  cases h with
  | tup e r => exact ⟨_, rfl, by rw [← reps_strs r]; exact e⟩
theorem rep_txs {H : Hp} {a : Addr} {ps : List L} (h : H a = some (.tup (txs ps))) : Rep H (.ref a) (.tup (ps.map .str)) := .tup h (reps_txs H ps)
section
variable {K : PySem.W.Frag} {σ : L2.St} {H H' : Hp} {ta : TA} {te tb : TE} {tt : TT} {vs xs : List V} {v : V} {a : Addr} {d : D} {E : Ends} {tz : TS} {ok : List V → Hp → D → Prop}
theorem ed_calP {P : List V → Hp → Prop} (h : EvAP ta σ H P) (hk : ∀ vs H1, Ex H H1 → P vs H1 → ok vs H1 d) : EvD (tCall (spD ok) [] E0 ta) σ H d := fun H1 e Q q =>
  h H1 e _ fun vs H2 e2 p => by
    rw [List.append_nil]
    exact ⟨d, hk vs H2 (e.trans e2) p, fun v H3 e3 r => q v H3 (e2.trans e3) r⟩
theorem ed_cal (h : EvA ta σ H vs) (hk : ∀ H1, Ex H H1 → ok vs H1 d) : EvD (tCall (spD ok) [] E0 ta) σ H d := fun H1 e Q q =>
  h H1 e _ fun H2 e2 => by
    rw [List.append_nil]
    exact ⟨d, hk H2 (e.trans e2), fun v H3 e3 r => q v H3 (e2.trans e3) r⟩
theorem s_retD (h : EvD te σ H d) (k : ∀ v H1, Ex H H1 → Rep H1 v d → E.rt v H1) : tRet te E σ H := h H (Ex.refl H) _ k
theorem q_asgD {i : Nat} (h : EvD te σ H d) (k : ∀ v H1, Ex H H1 → Rep H1 v d → tz E (σ.set i (some v)) H1) : tSeq (tAsg te (gName i)) tz E σ H := h H (Ex.refl H) _ k
theorem ed_is {d2 : D} (h : EvD te σ H d) (e : d = d2) : EvD te σ H d2 := by
  rw [← e]
  exact h
theorem ed_if {tc : TT} {b : Bool} (h : EvT tc σ H b) (h1 : b = true → EvD te σ H d) (h2 : b = false → EvD tb σ H d) : EvD (tIf tc te tb) σ H d := evp_if h h1 h2
/-- a new tuple of texts, as data -/
theorem ed_txs {ps : List L} (h : EvU te σ H (txs ps)) : EvD te σ H (.tup (ps.map .str)) := fun H1 e Q q => h H1 e _ fun p H2 _ e2 h2 => q _ H2 e2 (rep_txs h2)
def IsT (K : PySem.W.Frag) (xs : List V) : V → Hp → Prop := fun v H => ∃ a, v = .ref a ∧ SqT K H a xs
theorem evt_k (h : Ev te σ H (.ref a)) (hS : SqT K H a xs) : EvP te σ H (IsT K xs) := fun H1 e Q q => h H1 e _ fun H2 e2 => q _ H2 e2 ⟨a, rfl, ex_t (e.trans e2) hS⟩
theorem evt_n (h : EvU te σ H xs) : EvP te σ H (IsT K xs) := fun H1 e Q q => h H1 e _ fun p H2 _ e2 h2 => q _ H2 e2 ⟨p, rfl, st_of h2⟩
theorem et_truT (h : EvP te σ H (IsT K xs)) : EvT (fun σ H Q => te σ H fun x H' => ∃ k, TruV K x H' k ∧ Q k H') σ H (!xs.isEmpty) := fun H1 e Q q =>
  h H1 e _ fun v H2 e2 ⟨a, hv, hS⟩ => by
    subst hv
    exact ⟨_, Or.inr (Or.inl ⟨xs, hS, rfl⟩), q H2 e2⟩
theorem et_truL (h : Ev te σ H (.ref a)) (hS : SqL K H a xs) : EvT (fun σ H Q => te σ H fun x H' => ∃ k, TruV K x H' k ∧ Q k H') σ H (!xs.isEmpty) := fun H1 e Q q =>
  h H1 e _ fun H2 e2 => ⟨_, Or.inl ⟨xs, ex_l (e.trans e2) hS, rfl⟩, q H2 e2⟩
theorem el_lcR0 {j : Nat} {ws : List Nat} {n : Int} (h : EvA ta σ H [.int n]) (hn : -1000 ≤ n ∧ n ≤ 0) : EvL (tLc (iRng1 ta) (gName j) tt te ws) σ H [] := fun H0 e Q q => h H0 e _ fun H1 e1 => ⟨n, rfl, by omega, by omega, fun Dl hD => by
  rw [show n.toNat = 0 by omega]
  exact lc_range (lo := 0) (n := 0) (fun _ H' => H1 Dl = none ∧ Ex H1 H' ∧ H' Dl = some (.lst [])) ⟨hD, Ex.new hD, upd_same⟩ (fun i H' hi => absurd hi (Nat.not_lt_zero i)) fun H' p => q Dl H' (fresh_back e1 p.1) (e1.trans p.2.1) p.2.2⟩
/-- names: the keys of a dict, or a list -/
def keyT (k : L) : Key := Sum.inr (tx k)
def NmAt (K : PySem.W.Frag) (H : Hp) (v : V) (ks : List L) : Prop := ∃ a, v = .ref a ∧ ((∃ kvs : List (Key × V), H a = some (.dK kvs) ∧ kvs.map (·.1) = ks.map keyT) ∨ SqL K H a (txs ks))
theorem NmAt.mono {ks : List L} (e : Ex H H') (h : NmAt K H v ks) : NmAt K H' v ks := by
  obtain ⟨a, hv, h⟩ := h
  refine ⟨a, hv, ?_⟩
  rcases h with ⟨kvs, h1, h2⟩ | h
  · exact .inl ⟨kvs, e _ _ h1, h2⟩
  · exact .inr (ex_l e h)
theorem keyT_in {kvs : List (Key × V)} {ks : List L} (h : kvs.map (·.1) = ks.map keyT) (k : L) : (valV kvs (keyT k)).isSome = decide (k ∈ ks) := by
  rw [← valV_any, Bool.eq_iff_iff, List.any_eq_true, decide_eq_true_eq]
  constructor
  · rintro ⟨kv, hm, e⟩
    have e := of_decide_eq_true e
    have h2 : keyT k ∈ ks.map keyT := by
      rw [← h, ← e]
      exact List.mem_map.mpr ⟨kv, hm, rfl⟩
    obtain ⟨j, hj, e2⟩ := List.mem_map.mp h2
    rw [← inr_tx.mp e2]
    exact hj
  · intro hk
    have h2 : keyT k ∈ kvs.map (·.1) := by
      rw [h]
      exact List.mem_map.mpr ⟨k, hk, rfl⟩
    obtain ⟨kv, hm, e⟩ := List.mem_map.mp h2
    exact ⟨kv, hm, decide_eq_true e⟩
/-- two tuples as data, put together -/
theorem ed_catU {ds es : List D} (ha : EvD te σ H (.tup ds)) (hb : EvD tb σ H (.tup es)) (hz : ds.length + es.length ≤ 100000) : EvD (tOp (rCatA K) te tb) σ H (.tup (ds ++ es)) := fun H1 e Q q =>
  ha H1 e _ fun v H2 e2 r2 => hb H2 (e.trans e2) _ fun u H3 e3 r3 => by
    cases r2 with
    | @tup a xs _ h2 s2 =>
      cases r3 with
      | @tup b ys _ h3 s3 =>
        have s2 := s2.mono e3
        refine ⟨a, b, xs, ys, rfl, rfl, st_of (e3 _ _ h2), st_of h3, sz_of (by rw [s2.len, s3.len]; exact hz), fun hx => ?_, fun _ hy => ?_, fun _ _ p hp => ?_⟩
        · subst hx
          cases s2
          exact q _ H3 (e2.trans e3) (.tup h3 s3)
        · subst hy
          cases s3
          rw [List.append_nil] at q
          exact q _ H3 (e2.trans e3) (.tup (e3 _ _ h2) s2)
        · exact q _ _ ((e2.trans e3).trans (Ex.new hp)) (.tup upd_same ((s2.mono (Ex.new hp)).append (s3.mono (Ex.new hp))))
/-- two lists as data, put together -/
theorem ed_catL {ds es : List D} (ha : EvD te σ H (.lst ds)) (hb : EvD tb σ H (.lst es)) (hz : ds.length + es.length ≤ 100000) : EvD (tOp rCat te tb) σ H (.lst (ds ++ es)) := fun H1 e Q q =>
  ha H1 e _ fun v H2 e2 r2 => hb H2 (e.trans e2) _ fun u H3 e3 r3 => by
    cases r2 with
    | @lst a xs _ h2 s2 =>
      cases r3 with
      | @lst b ys _ h3 s3 =>
        have s2 := s2.mono e3
        exact ⟨a, b, xs, ys, rfl, rfl, e3 _ _ h2, h3, sz_of (by rw [s2.len, s3.len]; exact hz), fun p hp => q _ _ ((e2.trans e3).trans (Ex.new hp)) (.lst upd_same ((s2.mono (Ex.new hp)).append (s3.mono (Ex.new hp))))⟩
/-- a comprehension over a text, items that are data -/
theorem ed_lcS {tl : TE} {j : Nat} {ws : List Nat} {l : List Nat} (B : Nat → D) (h : Ev tl σ H (.str (tx l))) (hz : l.length ≤ 40000) (hw : ∀ x, wipe ((wipe σ ws).set j (some x)) ws = wipe σ ws) (hB : ∀ c ∈ l, NoL (B c))
    (he : ∀ c H1, Ex H H1 → c ∈ l → EvD te ((wipe σ ws).set j (some (.str (tx [c])))) H1 (B c)) : EvD (tLc (iStr tl) (gName j) tYes te ws) σ H (.lst (l.map B)) := by
  intro H0 e Q q
  refine h H0 e _ fun H1 e1 => ⟨tx l, rfl, fun Dl hD => ?_⟩
  have hsz : (tx l).cps.size = l.length := List.size_toArray
  refine ⟨fun i m H' => m = l.length - i ∧ i ≤ l.length ∧ Ex H1 H' ∧ ∃ us, H' Dl = some (.lst us) ∧ Reps H' us ((l.take i).map B), ⟨l.length, rfl, Nat.zero_le _, Ex.new hD, [], upd_same, .nil⟩, ?_⟩
  rintro i m H' ⟨rfl, hi, ex, us, hl, hr⟩
  by_cases hlt : i < l.length
  · refine .inr ⟨show i < _ by rw [hsz]; exact hlt, fun H' => Ex H1 H' ∧ ∃ us, H' Dl = some (.lst us) ∧ Reps H' us ((l.take (i + 1)).map B), fun H2 p => ⟨l.length - (i + 1), by omega, rfl, hlt, p⟩, fun x H2 y => ?_⟩
    obtain ⟨rfl, c, hc, rfl⟩ := y
    have hc' : l[i]? = some c := by simpa [tx] using hc
    refine ⟨hw _, ?_⟩
    refine tyes_ ?_
    have hul : us.length ≤ l.length := by
      rw [hr.len, List.length_map, List.length_take]
      omega
    refine iteT (he c H1 (e.trans e1) (List.mem_of_getElem? hc') H2 ex _ fun v H3 e3 r3 => ⟨us, e3 Dl _ hl, sz_lt (by omega), (ex.trans e3).mut hD, us ++ [v], upd_same, ?_⟩)
    have kt : ∀ b zs, H3 b = some (.tup zs) → upd H3 Dl (.lst (us ++ [v])) b = some (.tup zs) := fun b zs hb => by
      rw [upd_ne (ne_kind hb (e3 Dl _ hl) (fun z => nomatch z))]
      exact hb
    rw [List.take_add_one, hc', List.map_append]
    exact (Reps.keepT kt (nol_all fun x hx => hB x (List.mem_of_mem_take hx)) (hr.mono e3)).append (.cons (Rep.keepT kt (hB c (List.mem_of_getElem? hc')) r3) .nil)
  · have e0 : i = l.length := by omega
    subst e0
    rw [List.take_of_length_le (Nat.le_refl _)] at hr
    exact .inl ⟨show _ ≤ _ by rw [hsz]; exact Nat.le_refl _, q (.ref Dl) H' (e1.trans ex) (.lst hl hr)⟩
end
/-! data as the kit's own plain data -/
mutual
def pyD : D → PyData
  | .non => .none
  | .bl b => .bool b
  | .int i => .int i
  | .str l => .str (tx l)
  | .tup ds => .tuple (pyDL ds)
  | .lst ds => .list (pyDL ds)
def pyDL : List D → List PyData
  | [] => []
  | d :: ds => pyD d :: pyDL ds
end
mutual
theorem dp_of {K : PySem.W.Frag} {H : Hp} : ∀ {v : V} {d : D}, Rep H v d → Dp K H v (pyD d)
  | _, _, .non => by rw [pyD]; exact .non
  | _, _, .bl b => by rw [pyD]; exact .bl b
  | _, _, .int i => by rw [pyD]; exact .int i
  | _, _, .str l => by rw [pyD]; exact .str _
  | _, _, .tup e r => by rw [pyD]; exact .tup (st_of e) (dps_of r)
  | _, _, .lst e r => by rw [pyD]; exact .lst (sq_of e) (dps_of r)
theorem dps_of {K : PySem.W.Frag} {H : Hp} : ∀ {vs : List V} {ds : List D}, Reps H vs ds → DpAll K H vs (pyDL ds)
  | _, _, .nil => by rw [pyDL]; exact .nil
  | _, _, .cons r rs => by rw [pyDL]; exact .cons (dp_of r) (dps_of rs)
end
theorem ev_eqDD {K : PySem.W.Frag} {σ : L2.St} {H : Hp} {ta tb : TE} {d e : D} (ha : EvD ta σ H d) (hb : EvD tb σ H e) (sd : SeqAt.shaped (pyD d) = true) (se : SeqAt.shaped (pyD e) = true) : Ev (tOp (rEqD K) ta tb) σ H (.bl (PyData.eqv (pyD d) (pyD e))) := fun H1 e1 Q q =>
  ha H1 e1 _ fun v H2 e2 r2 => hb H2 (e1.trans e2) _ fun u H3 e3 r3 => ⟨_, _, dp_of (r2.mono e3), dp_of r3, sd, se, q H3 (e2.trans e3)⟩
section
variable {K : PySem.W.Frag} {σ : L2.St} {H : Hp} {te tl : TE} {tt : TT} {v : V} {d : Addr} {kvs : List (Key × V)}
theorem ev_isiX {T T0 : String} {b : Bool} (h : Ev te σ H v) (ht : ∀ H1, Ex H H1 → TyX K H1 v (.type T0)) (hk : kitB T0 T = some b) : Ev (tCB (rIsi K) (tCons te (tCons (tC (.ty T)) tNil))) σ H (.bl b) := fun H1 e Q q =>
  h H1 e _ fun H2 e2 => ⟨v, .ty T, .type T0, .type T, b, rfl, .ty T, ht H2 (e.trans e2), kit_ty hk, q H2 e2⟩
theorem ty_dK (h : H d = some (.dK kvs)) : TyX K H (.ref d) (.type "dict") := .base (.dK h)
theorem ty_lst {xs : List V} (h : H d = some (.lst xs)) : TyX K H (.ref d) (.type "list") := .base (.lst h)
/-- what of a heap is seen while the dict at d is held -/
def Held (H : Hp) (d : Addr) (kvs : List (Key × V)) (H1 : Hp) : Prop := (∀ b o, b ≠ d → H b = some o → H1 b = some o) ∧ ∃ od, H1 d = some (.frz od (.dK kvs))
theorem Held.ex {H1 H2 : Hp} (h : Held H d kvs H1) (e : Ex H1 H2) : Held H d kvs H2 := ⟨fun b o n hb => e _ _ (h.1 b o n hb), by
  obtain ⟨od, ho⟩ := h.2
  exact ⟨od, e _ _ ho⟩⟩
/-- a comprehension over a dict's keys, texts; tests and items read the heap -/
theorem el_lcKg {j : Nat} {vs : List Nat} {ks : List L} (f : V → Bool) (g : V → V) (h : ∀ H1, Ev tl σ H1 (.ref d)) (hd : H d = some (.dK kvs)) (hk : kvs.map (·.1) = ks.map keyT) (hz : ks.length ≤ 40000) (hw : ∀ x, wipe ((wipe σ vs).set j (some x)) vs = wipe σ vs)
    (ht : ∀ k H1, Held H d kvs H1 → k ∈ ks → EvT tt ((wipe σ vs).set j (some (.str (tx k)))) H1 (f (.str (tx k)))) (he : ∀ k H1, Held H d kvs H1 → k ∈ ks → f (.str (tx k)) = true → Ev te ((wipe σ vs).set j (some (.str (tx k)))) H1 (g (.str (tx k)))) :
    EvL (tLockE (tLc (iKeys tl) (gName j) tt te vs)) σ H (((txs ks).filter f).map g) := by
  intro H0 e Q q
  have hlen : kvs.length = ks.length := by simpa using congrArg List.length hk
  have hxl := txs_len ks
  refine ⟨d, _, e d _ hd, trivial, fun od => ?_⟩
  generalize hH : L2.upd H0 d (.frz od (.dK kvs)) = HF
  have hF : HF d = some (.frz od (.dK kvs)) := by rw [← hH, upd_same]
  have hHd : Held H d kvs HF := ⟨fun b o n hb => by rw [← hH, upd_ne n]; exact e _ _ hb, od, hF⟩
  refine h HF HF (Ex.refl HF) _ fun H1 e1 => ⟨d, od, rfl, .inl ⟨kvs, e1 d _ hF, fun Dl hD => ?_⟩⟩
  have hd1 := e1 d _ hF
  have ndl : Dl ≠ d := fun z => by rw [z, hd1] at hD; exact nomatch hD
  refine ⟨fun i m H' => m = (txs ks).length - i ∧ i ≤ (txs ks).length ∧ Ex H1 H' ∧ H' Dl = some (.lst ((((txs ks).take i).filter f).map g)), ⟨(txs ks).length, rfl, Nat.zero_le _, Ex.new hD, upd_same⟩, ?_⟩
  rintro i m H' ⟨rfl, hi, ex, hl⟩
  by_cases hlt : i < (txs ks).length
  · have gx : (txs ks)[i]? = some (txs ks)[i] := List.getElem?_eq_getElem hlt
    refine .inr ⟨⟨ex d _ hd1, by omega⟩, fun H' => Ex H1 H' ∧ H' Dl = some (.lst ((((txs ks).take (i + 1)).filter f).map g)), fun H2 p => ⟨(txs ks).length - (i + 1), by omega, rfl, hlt, p⟩, fun x H2 y => ?_⟩
    obtain ⟨rfl, k, v, hkv, rfl⟩ := y
    obtain ⟨hgv, hlk, hgk⟩ := txs_get' gx
    have ex' : kV k = .str (tx (ks.getD i [])) := by
      have h1 : (kvs.map (·.1))[i]? = some k := by rw [List.getElem?_map, hkv]; rfl
      rw [hk, List.getElem?_map, hgk] at h1
      rw [← Option.some.inj h1]
      rfl
    rw [ex']
    rw [hgv] at gx
    have hm := List.mem_of_getElem? hgk
    exact ⟨hw _, lcf_turn gx hD ex hl (by omega) (ht _ H1 (hHd.ex e1) hm) (he _ H1 (hHd.ex e1) hm)⟩
  · have e0 : i = (txs ks).length := by omega
    subst e0
    rw [List.take_of_length_le (Nat.le_refl _)] at hl
    refine .inl ⟨⟨ex d _ hd1, by omega⟩, ex d _ hd1, ?_⟩
    have h0 : H0 Dl = none := by
      have := fresh_back e1 hD
      rw [← hH, upd_ne ndl] at this
      exact this
    refine q Dl _ h0 (fun b o hb => ?_) (by rw [upd_ne ndl]; exact hl)
    by_cases hbd : b = d
    · subst hbd
      rw [upd_same]
      rw [e b _ hd] at hb
      exact hb
    · rw [upd_ne hbd]
      exact ex b _ (e1 b _ (by rw [← hH, upd_ne hbd]; exact hb))
end
section
variable {K : PySem.W.Frag} {σ : L2.St} {H : Hp} {Q : VK} {p sc : Addr} {ns : List Int}
/-- a comprehension over a range whose items draw -/
theorem r_lcG {ta : TA} {te : TE} {j : Nat} {vs : List Nat} (Pd : Addr → V → Hp → Prop) (lo M : Nat) (hM : M ≤ 1000)
    (hm : ∀ b v H1 H2, (∀ a o, a ≠ p → a ≠ b → H1 a = some o → H2 a = some o) → Pd b v H1 → Pd b v H2) (hP : Pool K H p sc ns)
    (ht : ∀ R : List V → Hp → Prop, (∀ (m : Nat) H1, lo ≤ m → m ≤ M → G K p sc ns H H1 → R [.int (m : Int)] H1) → ta σ H R)
    (hw : ∀ x, wipe ((wipe σ vs).set j (some x)) vs = wipe σ vs)
    (he : ∀ (x : V) H1 (Q' : VK), G K p sc ns H H1 → (∀ v H2, (∀ b, H1 b ≠ none → b ≠ p → Pd b v H2) → G K p sc ns H1 H2 → Q' v H2) → te ((wipe σ vs).set j (some x)) H1 Q')
    (q : ∀ Dl xs H', lo ≤ xs.length → xs.length ≤ M → H Dl = none → H' Dl = some (.lst xs) → (∀ x ∈ xs, Pd Dl x H') → G K p sc ns H H' → Q (.ref Dl) H') : tLc (iRng1 ta) (gName j) tYes te vs σ H Q := by
  refine r_lcR1 (ht _ fun m H1 hlo hhi g1 => ⟨m, rfl, by omega, by omega, fun Dl hD => ?_⟩)
  have hD0 := G.back g1 hD
  have hDp : Dl ≠ p := hP.ne hD0
  rw [Int.toNat_natCast]
  refine ⟨fun i k H' => k = m - i ∧ i ≤ m ∧ G K p sc ns H H' ∧ ∃ xs, H' Dl = some (.lst xs) ∧ xs.length = i ∧ ∀ x ∈ xs, Pd Dl x H', ⟨m, rfl, Nat.zero_le _, G.new hP g1 hD0, [], upd_same, rfl, fun x hx => absurd hx (by simp)⟩, ?_⟩
  rintro i k H' ⟨rfl, hi, g, xs, hl, hlen, hx⟩
  by_cases hlt : i < m
  · refine .inr ⟨hlt, fun H' => G K p sc ns H H' ∧ ∃ xs, H' Dl = some (.lst xs) ∧ xs.length = i + 1 ∧ ∀ x ∈ xs, Pd Dl x H', fun H2 pp => ⟨m - (i + 1), by omega, rfl, hlt, pp⟩, fun x H2 y => ?_⟩
    obtain ⟨rfl, rfl⟩ := y
    refine ⟨hw _, ?_⟩
    refine tyes_ ?_
    refine iteT (he _ _ _ g fun v H4 hv g4 => ⟨xs, g4.1 Dl _ hDp hl, sz_lt (by omega), G.new hP (g.trans g4) hD0, xs ++ [v], upd_same, by rw [List.length_append, hlen]; rfl, fun x hx' => ?_⟩)
    rw [List.mem_append, List.mem_singleton] at hx'
    rcases hx' with hx' | rfl
    · exact hm Dl x _ _ (fun a o n1 n2 h => by rw [upd_ne n2]; exact g4.1 a o n1 h) (hx x hx')
    · exact hm Dl x _ _ (fun a o n1 n2 h => by rw [upd_ne n2]; exact h) (hv Dl (by rw [hl]; exact fun z => nomatch z) hDp)
  · have e0 : i = m := by omega
    subst e0
    exact .inl ⟨Nat.le_refl _, q Dl xs _ (by omega) (by omega) hD0 hl hx g⟩
end
section
variable {K : PySem.W.Frag} {σ : L2.St} {H : Hp} {te tl : TE} {tt : TT} {xs : List V}
theorem evt_d {ps : List L} (h : EvD te σ H (.tup (ps.map .str))) : EvP te σ H (IsT K (txs ps)) := fun H1 e Q q => h H1 e _ fun v H2 e2 r => by
  obtain ⟨a, hv, ha⟩ := rep_strs r
  exact q v H2 e2 ⟨a, hv, st_of ha⟩
/-- over a tuple that an expression gives -/
theorem el_lcTP {j : Nat} {vs : List Nat} (f : V → Bool) (g : V → V) (h : EvP tl σ H (IsT K xs)) (hz : xs.length ≤ 40000) (hw : ∀ x, wipe ((wipe σ vs).set j (some x)) vs = wipe σ vs)
    (ht : ∀ x H1, Ex H H1 → x ∈ xs → EvT tt ((wipe σ vs).set j (some x)) H1 (f x)) (he : ∀ x H1, Ex H H1 → x ∈ xs → f x = true → Ev te ((wipe σ vs).set j (some x)) H1 (g x)) : EvL (tLc (iTup K tl) (gName j) tt te vs) σ H ((xs.filter f).map g) := by
  intro H0 e Q q
  refine h H0 e _ fun w H1 e1 ⟨a, hv, S1⟩ => ?_
  subst hv
  refine ⟨a, rfl, ⟨xs, S1⟩, fun Dl hD => ?_⟩
  refine ⟨fun i m H' => m = xs.length - i ∧ i ≤ xs.length ∧ Ex H1 H' ∧ H' Dl = some (.lst (((xs.take i).filter f).map g)), ⟨xs.length, rfl, Nat.zero_le _, Ex.new hD, upd_same⟩, ?_⟩
  rintro i m H' ⟨rfl, hi, ex, hl⟩
  by_cases hlt : i < xs.length
  · have gx : xs[i]? = some xs[i] := List.getElem?_eq_getElem hlt
    refine .inr ⟨⟨xs, xs[i], ex_t ex S1, gx⟩, fun H' => Ex H1 H' ∧ H' Dl = some (.lst (((xs.take (i + 1)).filter f).map g)), fun H2 p => ⟨xs.length - (i + 1), by omega, rfl, hlt, p⟩, fun x H2 y => ?_⟩
    obtain ⟨rfl, y⟩ := y
    have ex' : x = xs[i] := Option.some.inj ((y xs (ex_t ex S1)).symm.trans gx)
    subst ex'
    exact ⟨hw _, lcf_turn gx hD ex hl hz (ht _ H1 (e.trans e1) (List.mem_of_getElem? gx)) (he _ H1 (e.trans e1) (List.mem_of_getElem? gx))⟩
  · have e0 : i = xs.length := by omega
    subst e0
    rw [List.take_of_length_le (Nat.le_refl _)] at hl
    exact .inl ⟨⟨xs, ex_t ex S1, Nat.le_refl _⟩, q Dl H' (fresh_back e1 hD) (e1.trans ex) hl⟩
end
end My

set_option Elab.async false
set_option linter.all false
set_option maxRecDepth 100000
set_option maxHeartbeats 4000000
/-! an exception that leaves a list comprehension -/
namespace PySem
namespace HandSPX
open PySem.W PySem.Calls PyProof.Rows
section
variable {M : Model} {A : Around} {E : Value → Shared → Prop} {s : Shared} {Z : Obj → Prop} {base : Heap} {env : Env} {outer l : List Env} {L e : Addr}
/-- noted by another frame: noted here -/
theorem looks_elseZ {fl : Value} {Q : Unit → Shared → Prop} (hZ : Steady Z) (hfr : A.frames = some (env :: outer)) (hf : env.frame = some L) (hkb : base.StaysIn s.heap) (hen : base.get? e = none) (hl : s.heap.FunFrames base (env :: outer)) (ht : TracedZ s.heap base e Z fl) (hfl : ¬ (fl == rawInt L) = true)
    (hQ : ∀ h', HeldZ base (env :: outer) e Z L h' → s.heap.UpToSlots h' → Q () { s with heap := h' }) : wpAny M A (noteFrame (.ref e) env) Q E s := by
  obtain ⟨oe, vs, T, oT, ts, he, hz, hd, h1, hnT, hTe, hT, hdT, h3⟩ := ht
  unfold noteFrame
  simp only [hf]
  refine wpAny_bind (wpAny_field he hd h1 ?_)
  rw [if_pos (show (Value.ref T != Value.none) = true from by simp)]
  refine wpAny_bind (wpAny_field hT hdT h3 ?_)
  rw [if_neg hfl]
  refine wpAny_bind (wpAny_setField hT hdT (Array.getElem?_eq_some_iff.mp h3).1 ?_)
  have other : ∀ b, b ≠ T → (s.heap.update T (Obj.mapFields (·.setIfInBounds 3 Value.none))).get? b = s.heap.get? b := fun b hb => Heap.get?_update_other _ _ (Ne.symm hb)
  have noRecord : ∀ b o, s.heap.get? b = some o → (∀ vs, o.data ≠ .fields vs) → b ≠ T := fun b o hb hnf q => by
    rw [q, hT] at hb; injection hb with hb; subst hb; exact hnf ts hdT
  refine wpAny_entryZ hZ hfr (hl.of_keeps fun b o hb hnf => ⟨o, (other b (noRecord b o hb hnf)).trans hb, rfl⟩) hf ((other e (Ne.symm hTe)).trans he)
    (fun b o hbo => (other b fun q => by rw [q, hnT] at hbo; cases hbo).trans (hkb b o hbo)) hen hd (Array.getElem?_eq_some_iff.mp h1).1 hz fun h' hN => ?_
  obtain ⟨x1, x2, x3, x4⟩ := hN
  exact hQ h' ⟨x1, hen, x2, x3⟩ (Heap.UpToSlots.trans (fun b o hb hnf => ⟨o.slots, (other b (noRecord b o hb hnf)).trans hb⟩) x4)
end
end HandSPX
end PySem
namespace My
open PySem PySem.Spec PyProof.Rows L2
section
variable {M : Model} {A : Around} {E : Value → Shared → Prop} {s : Shared} {B : Heap} {env : Env} {outer : List Env} {L L' a : Addr} {Z : Obj → Prop} {Q : Unit → Shared → Prop}
theorem sky_noted (hZ : HandSPX.Steady Z) (hfr : A.frames = some (env :: outer)) (hf : env.frame = some L) (x : Sky B (env :: outer) a Z L' s.heap) (hQ : ∀ h', HandSPX.HeldZ B (env :: outer) a Z L h' → s.heap.UpToSlots h' → Q () { s with heap := h' }) : wpAny M A (noteFrame (.ref a) env) Q E s := by
  rcases x with ⟨hB, hn, hl, oe, vs, he, hz, hd, h1⟩ | fl | hh
  · exact HandSPX.look_newZ hZ hfr hl hf he hB hn hd h1 hz hQ
  · exact HandSPX.looks_onZ hZ hfr hf fl hQ
  · obtain ⟨k1, k2, k3, k4⟩ := hh
    by_cases e : (rawInt L' == rawInt L) = true
    · have e : rawInt L' = rawInt L := eq_of_beq e
      rw [e] at k4
      exact HandSPX.againZ hf k4 (hQ s.heap ⟨k1, k2, k3, k4⟩ (Heap.UpToSlots.refl _))
    · exact HandSPX.looks_elseZ hZ hfr hf k1 k2 k3 k4 e hQ
/-- the ground behind a block that was let go -/
theorem held_letGo {h h2 : Heap} {C : Addr} {oC : Obj} (hh : HandSPX.HeldZ B (env :: outer) a Z L h) (hC : B.get? C = some oC) (hs : Heap.SameBut C h h2) (hC2 : ∃ o, h2.get? C = some o) :
    ∃ B2 : Heap, HandSPX.HeldZ B2 (env :: outer) a Z L h2 ∧ (∀ b o, b ≠ C → B.get? b = some o → B2.get? b = some o) ∧ ∀ b, (B2.get? b).isSome = true → (B.get? b).isSome = true := by
  obtain ⟨B2, g1, g2⟩ := restrict h2 fun b => (B.get? b).isSome
  obtain ⟨k1, k2, k3, oe, vs, T, oT, ts, he, hz, hd, h1, hnT, hTe, hT, hdT, h3⟩ := hh
  have none_of : ∀ b, B.get? b = none → B2.get? b = none := fun b hb => g2 b (by rw [hb]; rfl)
  have back : ∀ b, (B2.get? b).isSome = true → (B.get? b).isSome = true := fun b hb => by
    cases q : (B.get? b).isSome with
    | true => rfl
    | false => rw [g2 b q] at hb; exact nomatch hb
  have neC : ∀ b, B.get? b = none → b ≠ C := fun b hb z => by rw [z, hC] at hb; exact nomatch hb
  refine ⟨B2, ⟨fun b o hb => ?_, none_of a k2, ?_, oe, vs, T, oT, ts, (hs.2 a (neC a k2)).trans he, hz, hd, h1, none_of T hnT, hTe, (hs.2 T (neC T hnT)).trans hT, hdT, h3⟩, fun b o hb hB => ?_, back⟩
  · rw [← g1 b (back b (by rw [hb]; rfl))]
    exact hb
  · have fr : ∀ l : List Env, h.FunFrames B l → h2.FunFrames B2 l := by
      intro l
      induction l with
      | nil => intro _; trivial
      | cons env r ih =>
        rintro ⟨q1, ⟨L, o, q2, q3, q4, q5⟩, q6⟩
        exact ⟨q1, ⟨L, o, q2, none_of L q3, (hs.2 L (neC L q3)).trans q4, q5⟩, ih q6⟩
    exact fr _ k3
  · rw [g1 b (by rw [hB]; rfl), hs.2 b hb]
    exact k1 b o hB
end
/-- the block's context with a wish -/
abbrev blkX (X : Cx) (s : Shared) (H : Hp) (scope : Scope) (ce : Env) (fp : List Addr) : Cx := (X.blk s H scope ce fp).wish (notedBy (model X.prog X.w) X.A ce (CompFails (model X.prog X.w) X.A X.xe ce))
theorem blk_takes {X : Cx} {W : WX} (tk : Takes X W) (hst : X.stack = X.env :: X.outer) (hf : X.env.frame = some X.env.locals) {pins0 : List (Addr × Obj)} {σ0 : L2.St} {H0 : Hp} {s0 : Shared} (I0 : Inv X pins0 σ0 H0 s0) {scope : Scope} {cl : List (Str × Addr)} {C : Addr} {fp : List Addr} (hC : s0.heap.objs.size ≤ C)
    (hfp : ∀ b ∈ fp, FpOk X pins0 H0 b ∧ b < s0.heap.objs.size) : Takes (blkX X s0 H0 scope (compEnvC scope cl C X.env) fp) (fun c d _ H' => W c d σ0 H') := by
  rintro u s' ⟨a, B, sI, pins, σ, H, cls, d, rfl, I6, nb, up, sky, na, os, ag, w⟩
  have hfr : X.A.frames = some (X.env :: X.outer) := by rw [I0.ok.frames, hst]
  have sky : Sky B (X.env :: X.outer) a (Zc cls d) C s'.heap := by rw [← hst]; exact sky
  have nb : ∀ b o, sI.heap.get? b = some o → b ∉ frs X.stack → B.get? b = some o := nb
  have hCf : C ∉ frs X.stack := fun hm => by
    rcases List.mem_cons.mp (I0.stkSub C hm) with z | z
    · have := I0.lt
      rw [z] at hC
      exact absurd (Nat.lt_of_lt_of_le this hC) (Nat.lt_irrefl _)
    · exact I0.nofs hC z
  show wpAny _ _ (noteFrame (.ref a) (compEnvC scope cl C X.env)) _ _ s'
  rw [noteFrame_env _ (show (compEnvC scope cl C X.env).frame = X.env.frame from rfl)]
  refine sky_noted Zc.steady hfr hf sky fun h1 hh up1 => ?_
  obtain ⟨m, ⟨oC, es, ep, hoC, hns⟩, _⟩ := I6.loc
  have hoC : sI.heap.get? C = some oC := hoC
  have hBC := nb C oC hoC hCf
  refine ⟨m, ⟨oC, es, ep, hh.1 C oC hBC, hns⟩, fun h2 m2 hn2 hs2 => ?_⟩
  have hs2 : Heap.SameBut C h1 h2 := hs2
  obtain ⟨B2, hh2, gB, bB⟩ := held_letGo hh hBC hs2 (let ⟨o, _, _, ho, _⟩ := hn2; ⟨o, ho⟩)
  unfold PySem.passOn
  obtain ⟨oe, vs, T, oT, ts, he, hz, hd, h1', hnT, hTe, hT, hdT, h3'⟩ := hh2.2.2.2
  refine wpAny_bind (wpAny_field he hd h1' ?_)
  rw [if_neg (show ¬ ((Value.ref T == Value.none) = true) from by simp)]
  rw [show (compEnvC scope cl C X.env).frame = some X.env.locals from hf]
  refine wpAny_bind (HandSPX.setFlight_onZ (s := { s' with heap := h2 }) hh2 fun h3 hh3 up3 => ?_)
  refine wpAny_throw ?_
  have neC : ∀ b o, s0.heap.get? b = some o → b ≠ C := fun b o e z => by
    have := Heap.lt_size e
    rw [z] at this
    exact absurd (Nat.lt_of_lt_of_le this hC) (Nat.lt_irrefl _)
  obtain ⟨G, g1, g2⟩ := restrict h3 fun b => (B2.get? b).isSome || decide (b ∈ frs X.stack)
  have st : B2.StaysIn h3 := hh3.1
  have gB2 : ∀ b o, B2.get? b = some o → G.get? b = some o := fun b o e => by
    rw [g1 b (by simp [e])]
    exact st b o e
  have gF : ∀ b, b ∈ frs X.stack → G.get? b = h3.get? b := fun b hb => g1 b (by simp [hb])
  have og : ∀ b o, G.get? b = some o → h3.get? b = some o ∧ ((B2.get? b).isSome = true ∨ b ∈ frs X.stack) := fun b o e => by
    cases q : ((B2.get? b).isSome || decide (b ∈ frs X.stack)) with
    | false => rw [g2 b q] at e; cases e
    | true =>
      rw [g1 b q] at e
      exact ⟨e, by simpa [Bool.or_eq_true] using q⟩
  have frames : ∀ b o, s0.heap.get? b = some o → b ∈ frs X.stack → H0 b = none → b ∉ fp → ∃ sl, G.get? b = some { o with slots := sl } := fun b o e hb hn hx => by
    obtain ⟨_, o', e', hd'⟩ := I0.stack.mem hb
    rw [e] at e'; cases e'
    obtain ⟨sl1, e1⟩ := I6.base.slot b o e hn hb hx
    obtain ⟨sl2, e2⟩ := up b _ e1 hd'
    obtain ⟨sl3, e3⟩ := up1 b _ e2 hd'
    have e3 := (hs2.2 b (neC b o e)).trans e3
    obtain ⟨sl4, e4⟩ := up3 b _ e3 hd'
    exact ⟨sl4, by rw [gF b hb]; exact e4⟩
  refine tk _ _ ⟨a, B2, { s' with heap := G }, pins0, σ0, H, cls, d, rfl, ?_, fun b o e hb => ?_, Heap.UpToSlots.of_keeps fun b o e => (og b o e).1, .inr (.inr (by rw [hst]; exact hh3)), na, rfl, ag, w⟩
  · refine I0.call' (ch := fp) (os.trans I6.os) ⟨fun b o e n hb hx => ?_, fun b o e n hb hx => frames b o e hb n hx, fun b o e n hx => I6.base.free b o e n hx, fun b o e hx => ?_, I6.base.tups, I6.base.frzs, I6.base.tbls⟩ (fun b u q => (I6.hok b u q).stay (fun c v hc r => ?_) (fun _ r => r) fun _ _ r => r) ag fun b hb => ⟨(hfp b hb).1.2.2.2.1, (hfp b hb).1.2.1, (hfp b hb).1.2.2.2.2.1, (hfp b hb).1.2.2.2.2.2⟩
    · exact gB2 b o (gB b o (neC b o e) (nb b o (I6.base.keep b o e n hb hx) hb))
    · by_cases hb : b ∈ frs X.stack
      · obtain ⟨_, q⟩ := frames b o e hb (I0.stkFree b hb) hx
        exact ⟨_, q⟩
      · obtain ⟨o', q⟩ := I6.base.there b o e hx
        exact ⟨o', gB2 b o' (gB b o' (neC b o e) (nb b o' q hb))⟩
    · have hcC : c ≠ C := fun z => by
        have z2 : H C = none := I6.free
        rw [← z] at z2
        rcases hc with hc | hc
        · rw [hc, q] at z2; cases z2
        · rw [hc] at z2; cases z2
      have hcf : c ∉ frs X.stack := fun hm => by
        have z := I6.stkFree c hm
        rcases hc with hc | hc
        · rw [hc, q] at z; cases z
        · rw [hc] at z; cases z
      exact gB2 c v (gB c v hcC (nb c v r hcf))
  · obtain ⟨e', h⟩ := og b o e
    rcases h with h | h
    · obtain ⟨o', q⟩ := Option.isSome_iff_exists.mp h
      have z := st b o' q
      rw [e'] at z; cases z
      exact q
    · exact absurd h hb
section
variable {X : Cx}
theorem lc_coreX {W : WX} {pins : List (Addr × Obj)} {s : Shared} {σ : L2.St} {H : Hp} {Q : VK} {elt tg iter : Expr} {ifs : List Expr} {scope : Scope} {own : List (Str × Nat)} {pos pos' : Pos} {wi : TI} {g : TG} {tt : TT} {te : L2.St → TE} {use : Option (Value → Sem Unit)} {Qf : Value → Shared → Prop}
    (tk : Takes X W) (hst : X.stack = X.env :: X.outer) (hf : X.env.frame = some X.env.locals) (hc : X.calm = true) (hN : X.N.Nodup) (I : Inv X pins σ H s) (hi : PI X tg iter wi) (ok : BlkOk X.N X.env.scope scope own)
    (hg : ∀ (s : Shared) (H : Hp) (C : Addr) (cl : List (Str × Addr)) (fp : List Addr), PG (blkX X s H scope (compEnvC scope cl C X.env) fp) tg g) (ht : ∀ (s : Shared) (H : Hp) (C : Addr) (cl : List (Str × Addr)) (fp : List Addr), PTs (blkX X s H scope (compEnvC scope cl C X.env) fp) ifs tt)
    (he : ∀ (s : Shared) (H : Hp) (C : Addr) (cl : List (Str × Addr)) (fp : List Addr), Takes (blkX X s H scope (compEnvC scope cl C X.env) fp) (fun c d _ H' => W c d σ H') → PE (blkX X s H scope (compEnvC scope cl C X.env) fp) elt (te σ)) (hs : ∀ x, foldedSetIterable iter X.env x = pure x)
    (h : tLc wi g tt (te σ) (own.map (·.2)) σ H Q)
    (hRR : ∀ D C s' m H', Inv X pins σ H' s' → Q (.ref D) H' → s'.heap.Ns C m → FpOk X pins H' C → ∀ ce : Env, ce.locals = C → compEnds (model X.prog X.w) X.A X.xe use Qf (.ref D) ce (.ok .next) s') :
    wpAny (model X.prog X.w) X.A (comprehension (.ListComp elt [⟨tg, iter, ifs, 0⟩] scope pos) scope X.env pos' (newList []) false (eval iter X.env) use) Qf X.xe s := by
  have hfree : ∀ y ∈ scope.names, y.2 = .free → ∃ c, X.env.cells.lookup y.1 = some c := fun y hy e => by
    rcases ok.free y hy e with k | k
    · exact I.ok.has _ (.inl k)
    · exact I.ok.has _ (.inr k)
  refine comprehension_at (use := use) rfl hs (closure_ok hfree) ok.kind (fun y hy e => by rw [ok.uniq y hy, e])
    (thn (hi.run pins s σ H _ I h) fun xv s1 hx => thn hx fun itv s2 h2 => ?_)
  obtain ⟨it, fp, tn, J, H2, e, I2, T, st2, f2, q⟩ := h2
  subst e
  refine wpAny_newObj_type (newEnv_comp ?_) (by show 0 ≤ sizeLine; decide)
  generalize hD : s2.heap.objs.size = D
  have hDn : H2 D = none := I2.hok.fresh (Nat.le_of_eq hD)
  obtain ⟨W, ⟨m0, w0⟩, turn⟩ := q D hDn
  -- the new list
  generalize hs3 : ({ s2 with heap := s2.heap.push { cls := .type "list", data := .seq ([] : List Value).toArray } } : Shared) = s3
  have I3 : Inv X pins σ (upd H2 D (.lst [])) s3 := by
    rw [← hs3]
    refine I2.laid (t' := s2.toks) (fun b o e => Heap.get?_push_of_some _ e) (Nat.le_of_eq hD) ⟨Nat.zero_le _, [], 0, .nil, ?_⟩
    rw [← hD]
    exact Heap.get?_push_size _ rfl
  have h3 : s3.heap = s2.heap.push { cls := .type "list", data := .seq ([] : List Value).toArray } := by rw [← hs3]
  have sz : ∀ b ∈ fp, b < s2.heap.objs.size := fun b hb => by
    obtain ⟨o, e, _⟩ := T.obj _ _ st2 b hb
    exact Heap.lt_size e
  have f3 : ∀ b ∈ fp, FpOk X pins (upd H2 D (.lst [])) b ∧ b < s3.heap.objs.size := fun b hb => by
    have hlt := sz b hb
    refine ⟨⟨?_, (f2 b hb).2⟩, by rw [h3, Heap.size_push]; exact Nat.lt_succ_of_lt hlt⟩
    rw [upd_ne (by rw [← hD]; exact Nat.ne_of_lt hlt)]
    exact (f2 b hb).1
  have st3 : tn 0 s3.heap := T.keep _ _ _ st2 fun b _ o e => by rw [h3]; exact Heap.get?_push_of_some _ e
  have I4 := (block_start I3 ok hN f3).wish (notedBy (model X.prog X.w) X.A (compEnvC scope (cellsFrom (s3.heap.objs.size + 1) scope.names (cloFrom X.env.cells scope.names [])) s3.heap.objs.size X.env) (CompFails (model X.prog X.w) X.A X.xe (compEnvC scope (cellsFrom (s3.heap.objs.size + 1) scope.names (cloFrom X.env.cells scope.names [])) s3.heap.objs.size X.env)))
  have pg := hg s3 (upd H2 D (.lst [])) s3.heap.objs.size (cellsFrom (s3.heap.objs.size + 1) scope.names (cloFrom X.env.cells scope.names [])) fp
  have pt := ht s3 (upd H2 D (.lst [])) s3.heap.objs.size (cellsFrom (s3.heap.objs.size + 1) scope.names (cloFrom X.env.cells scope.names [])) fp
  have pe := he s3 (upd H2 D (.lst [])) s3.heap.objs.size (cellsFrom (s3.heap.objs.size + 1) scope.names (cloFrom X.env.cells scope.names [])) fp (blk_takes tk hst hf I3 (Nat.le_refl _) f3)
  show codeAny _ _ (.compStart (.ListComp elt [⟨tg, iter, ifs, 0⟩] scope pos) 0 (.ref it) (.ref D) (compEnvC scope (cellsFrom (s3.heap.objs.size + 1) scope.names (cloFrom X.env.cells scope.names [])) s3.heap.objs.size X.env)) (compEnds (model X.prog X.w) X.A X.xe use Qf (.ref D) (compEnvC scope (cellsFrom (s3.heap.objs.size + 1) scope.names (cloFrom X.env.cells scope.names [])) s3.heap.objs.size X.env)) { s3 with heap := pushCells (s3.heap.push { cls := .type "dict", data := .dict #[] }) scope.names }
  have nfp : ∀ b ∈ fp, (upd H2 D (.lst [])) b = none := fun b hb => (f3 b hb).1.1
  generalize hce : compEnvC scope (cellsFrom (s3.heap.objs.size + 1) scope.names (cloFrom X.env.cells scope.names [])) s3.heap.objs.size X.env = ce at I4 pg pt pe ⊢
  have cL : ce.locals = s3.heap.objs.size := by subst hce; rfl
  generalize hH3 : upd H2 D (.lst []) = H3 at I3 I4 pg pt pe w0 nfp f3
  generalize hs4 : ({ s3 with heap := pushCells (s3.heap.push { cls := .type "dict", data := .dict #[] }) scope.names } : Shared) = s4 at I4 ⊢
  have st4 : tn 0 s4.heap := T.keep _ _ _ st3 fun b _ o e => by rw [← hs4]; exact pushCells_keeps _ _ _ _ (Heap.get?_push_of_some _ e)
  have stat : ∀ {σ' : L2.St} {H' : Hp} {s' : Shared}, Inv (blkX X s3 H3 scope ce fp) [] σ' H' s' → (∀ b ∈ fp, H' b = none) → ∀ b ∈ fp, FpOk (blkX X s3 H3 scope ce fp) [] H' b := fun {σ' H' s'} I' hn b hb =>
    ⟨hn b hb, (I'.ok.exf b hb).1, I'.ok.exfs b hb, .inl hb, fun x c e => (I'.ok.exf b hb).2 x c e, fun p hp => absurd (show p ∈ ([] : List (Addr × Obj)) ++ [] from hp) (by simp)⟩
  have loop : codeAny (model X.prog X.w) X.A (.compLoop (.ListComp elt [⟨tg, iter, ifs, 0⟩] scope pos) 0 (.ref it) (.ref D) ce) (compEnds (model X.prog X.w) X.A X.xe use Qf (.ref D) ce) s4 := by
    refine compLoop_any (fun n s' => ∃ i H', Inv (blkX X s3 H3 scope ce fp) [] (wipe σ (own.map (·.2))) H' s' ∧ tn i s'.heap ∧ (∀ b ∈ fp, H' b = none) ∧ W i n H') ?_ m0 ⟨0, H3, I4, st4, nfp, w0⟩
    rintro n s5 ⟨i, H5, I5, st5, n5, w5⟩
    rcases turn i n H5 w5 with ⟨stop, qq⟩ | ⟨go, Nx, hNx, step⟩
    · have td := T.done (blkX X s3 H3 scope ce fp) rfl rfl rfl hc i [] s5 _ H5 (fun _ _ => False) I5 (stat I5 n5) st5 stop
      refine thnF td fun r s6 ⟨hr, I6⟩ => ?_
      subst hr
      -- back in the def's context
      have I7 : Inv X pins σ H5 s6 := I3.call' (ch := fp) I6.os I6.base I6.hok I6.bare fun b hb => ⟨(f3 b hb).1.2.2.2.1, (f3 b hb).1.2.1, (f3 b hb).1.2.2.2.2.1, (f3 b hb).1.2.2.2.2.2⟩
      have nC : H5 s3.heap.objs.size = none := by
        have z : H5 ce.locals = none := I6.free
        rw [cL] at z
        exact z
      obtain ⟨m, hn, _⟩ := I6.loc
      have hn : s6.heap.Ns ce.locals m := hn
      rw [cL] at hn
      exact hRR D s3.heap.objs.size s6 m H5 I7 qq hn (I3.fpOk (Nat.le_refl _) nC) ce cL
    · have ti := T.item (blkX X s3 H3 scope ce fp) rfl rfl rfl hc i [] s5 _ H5 (fun _ _ => False) I5 (stat I5 n5) st5 go
      refine thnF ti fun r s6 ⟨u, hr, h6⟩ => ?_
      subst hr
      refine thnF h6 fun _ s7 ⟨x, H7, I7, r7, y7, st7, n7⟩ => ?_
      have I7' := I7.pinned (stat I7 n7) (T.obj _ _ st7)
      refine thn (pg.run _ s7 _ H7 x u _ I7' r7 (step x H7 y7)) fun _ s8 ⟨σ8, H8, I8, hw8, q8⟩ => ?_
      refine thn (pt.run _ s8 σ8 H8 _ I8 q8) fun b s9 ⟨H9, I9, q9⟩ => ?_
      -- the turn's end
      have fin : ∀ {s' : Shared} {H' : Hp}, Inv (blkX X s3 H3 scope ce fp) ([] ++ pinsAt fp s7.heap) σ8 H' s' → Nx H' → ∃ m, m < n ∧ ∃ i H', Inv (blkX X s3 H3 scope ce fp) [] (wipe σ (own.map (·.2))) H' s' ∧ tn i s'.heap ∧ (∀ b ∈ fp, H' b = none) ∧ W i m H' := fun {s' H'} I' nx => by
        obtain ⟨m', hm, w'⟩ := hNx H' nx
        have pin' : ∀ b ∈ fp, ∀ o, s7.heap.get? b = some o → s'.heap.get? b = some o ∧ H' b = none := fun b hb o e =>
          let z := I'.pin (b, o) (List.mem_append_right _ (List.mem_append_right _ (mem_pinsAt hb e)))
          ⟨z.1, z.2.1⟩
        have hl : (wipe σ (own.map (·.2))).length = σ8.length := by rw [← hw8, wipe_length]
        refine ⟨m', hm, i + 1, H', (I'.unpinned (pins := [])).weak hl (fun j v e => ?_), T.keep _ _ _ st7 fun b hb o e => (pin' b hb o e).1, fun b hb => ?_, w'⟩
        · rw [← hw8] at e
          exact (wipe_some e).1
        · obtain ⟨o, e, _⟩ := T.obj _ _ st7 b hb
          exact (pin' b hb o e).2
      cases b with
      | false =>
        simp only [Bool.false_eq_true, if_false] at q9 ⊢
        exact fin I9 q9
      | true =>
        simp only [if_true] at q9 ⊢
        refine thn (pe.run _ s9 σ8 H9 _ I9 q9) fun z s10 ⟨yv, H10, I10, r10, acc, hD10, hz10, nx⟩ => ?_
        exact app_ok (X := blkX X s3 H3 scope ce fp) I10 hD10 hz10 r10 fun s11 I11 => fin I11 nx
  exact codeAny_compStart_list loop (T.self X.A 0 _ _ _ st4 loop)
/-- [elt for target in iter if ..], the element may raise: W is the wish about what is raised, at the slots σ -/
def tLcX (wi : TI) (g : TG) (tt : TT) (te : L2.St → TE) (vs : List Nat) : TE := fun σ H Q => tLc wi g tt (te σ) vs σ H Q
theorem pe_lcX {W : WX} {elt tg iter : Expr} {ifs : List Expr} {scope : Scope} {own : List (Str × Nat)} {pos : Pos} {wi : TI} {g : TG} {tt : TT} {te : L2.St → TE} (tk : Takes X W) (hst : X.stack = X.env :: X.outer) (hf : X.env.frame = some X.env.locals) (hc : X.calm = true) (hN : X.N.Nodup) (hi : PI X tg iter wi) (ok : BlkOk X.N X.env.scope scope own)
    (hg : ∀ (s : Shared) (H : Hp) (C : Addr) (cl : List (Str × Addr)) (fp : List Addr), PG (blkX X s H scope (compEnvC scope cl C X.env) fp) tg g) (ht : ∀ (s : Shared) (H : Hp) (C : Addr) (cl : List (Str × Addr)) (fp : List Addr), PTs (blkX X s H scope (compEnvC scope cl C X.env) fp) ifs tt)
    (he : ∀ (σ : L2.St) (s : Shared) (H : Hp) (C : Addr) (cl : List (Str × Addr)) (fp : List Addr), Takes (blkX X s H scope (compEnvC scope cl C X.env) fp) (fun c d _ H' => W c d σ H') → PE (blkX X s H scope (compEnvC scope cl C X.env) fp) elt (te σ)) (hs : ∀ x, foldedSetIterable iter X.env x = pure x := by intro _; rfl) :
    PE X (.ListComp elt [⟨tg, iter, ifs, 0⟩] scope pos) (tLcX wi g tt te (own.map (·.2))) := by
  refine ⟨fun pins s σ H Q I h => ?_⟩
  rw [eval_ListComp]
  refine lc_coreX tk hst hf hc hN I hi ok hg ht (he σ) hs h fun D C s' m H' I' q hn f ce hce => ⟨m, by rw [hce]; exact hn, fun h'' sb => ?_⟩
  obtain ⟨f0, f1, f2, f3, f4, f5⟩ := f
  rw [hce] at sb
  exact ⟨.ref D, H', I'.turned (t' := s'.toks) (fun b o hb e => (sb.2 b hb).trans e) f0 f1 f3 f4 f5, rfl, q⟩
end
end My

set_option Elab.async false
set_option linter.all false
set_option maxRecDepth 100000
set_option maxHeartbeats 2000000
/-! an own exception whose __init__ says super().__init__(..), ValueError above it -/
namespace PySem
namespace SupX
open PySem.W PySem.Calls PyProof.Rows PySem.HandSPX
section
variable {prog : Program} {w : World} {A : Around} {E : Value → Shared → Prop} {s : Shared} {K : Frag}
/-- super() in a method -/
theorem sup_base {body : List Stmt} {q : Str} {scope : Scope} {p0 p1 : Pos} {attr : Str} {whole : Sem Value} {fd : FuncData} {ar : Arg} {vs : Array Value} {file : Str} {tf : Tok} {oc ccl cl : Value} {od cdd cld : Option Addr} {osl ccs csl : Array (Option Value)} {L f cda cc D x C : Addr} {cdD : ClassData} {ox : Obj} {mg mb m : Str → Option Value} {Q : Value → Shared → Prop}
    (X : K.In s.heap) (hg : s.heap.Ns mainGlobals mg) (hb : s.heap.Ns builtinsNs mb) (hn : s.heap.Ns L m)
    (hf : K.lookup f = some ⟨oc, od, .func fd, osl⟩) (hp : (fd.params.posonlyargs ++ fd.params.args).head? = some ar) (hv : m ar.arg = some (.ref x)) (hx : s.heap.get? x = some ox) (hxc : ox.cls = .ref C) (hnc : ∀ c, ox.data ≠ .cls c)
    (hcode : K.lookup cda = some ⟨ccl, cdd, .fields vs, ccs⟩) (hvs : vs[2]? = some (.str file tf)) (hfile : ((prog.main.file : Str) == file) = true)
    (hcell : K.lookup cc = some ⟨cl, cld, .cell (some (.ref D)), csl⟩) (hD : clsIn K D = some cdD) (hsub : mroIn K C (.ref D) = some true) (hms : mg "super" = none) (hmb : mb "super" = some (.type "super"))
    (hat : (attr == ("__class__" : Str)) = false) (hks : scope.names.lookup ("super" : Str) = some .globalImplicit) (hkc : scope.names.lookup ("__class__" : Str) = some .free) (hka : scope.names.lookup ar.arg = some .local) (hk : scope.kind = .function)
    (htop : (prog.main.scope.names.lookup ("super" : Str)).isSome = false)
    (h : ∀ h', h'.get? s.heap.objs.size = some (ks_superObj D x C) → (∀ b o, s.heap.get? b = some o → h'.get? b = some o) → Q (.ref s.heap.objs.size) { s with heap := h' }) :
    _root_.PySem.wpAt (model prog w) A (.func body (ksEnv q scope L f (.ref cda) cc)) (attributeBase (.Call (.Name "super" p0) [] [] p1) attr (ksEnv q scope L f (.ref cda) cc) whole) Q E s := by
  obtain ⟨hh, g, d, t, os⟩ := s
  obtain ⟨oD, hD1, hD2⟩ : ∃ oD, hh.get? D = some oD ∧ oD.data = .cls cdD := by
    unfold clsIn at hD
    split at hD
    · rename_i c d cd' sl ho
      cases hD
      exact ⟨_, X _ _ ho, rfl⟩
    · cases hD
  refine ks_wpAt_super_base (env := ksEnv q scope L f (.ref cda) cc) hks hkc hat rfl (X _ _ hf) rfl hp rfl (X _ _ hcode) rfl hvs hfile htop ?_
  refine ks_loadName_global hk hks (loadGlobal_builtin (env := ksEnv q scope L f (.ref cda) cc) hg hms hb hmb ⟨rfl, ?_⟩)
  refine wpAny_loadName_free hk hkc rfl ⟨_, X _ _ hcell, rfl⟩ ?_
  refine wpAny_loadName_local hk hka hn hv ?_
  refine ks_wpAny_isType_cls hD1 hD2 ⟨rfl, ?_⟩
  exact ks_wpAny_call_super hD1 hD2 hx hxc hnc (looks_mroIn X hsub) h
/-- the bound built-in __init__ called -/
theorem call_mw {nm q : Str} {C N : Addr} {bs bm bmB : List Value} {hdct : Bool} {sn : List Str} {sub : List Value} {ab : Bool} {col : Option Bool} {dd : Option Addr} {k0 k1 k2 k3 k5 : Option Value} {B i newId : String} {u x t0 : Addr} {rest : List Value} {Q : Value → Shared → Prop}
    (FB : ExcBaseFacts B newId i bmB) (hC : s.heap.get? C = some (excClassObj nm q C N bs bm hdct sn sub ab col dd k0 k1 k2 k3 k5 newId)) (hu : s.heap.get? u = some (kxs_mw i x)) (he : s.heap.get? x = some (excO C t0)) (hz : rest.length ≤ sizeLine)
    (h : ∀ h' t1, (∀ b o, b ≠ x → s.heap.get? b = some o → h'.get? b = some o) → h'.get? x = some (excO C t1) → Q .none { s with heap := h' }) :
    wpAny (model prog w) A (call (.ref u) rest) Q E s := by
  obtain ⟨hh, g, d, tk, os⟩ := s
  refine wpAny_call (codeAny_of_tree ?_)
  show wpAny _ A.in1 (callAny (.ref u) ⟨rest, []⟩) _ _ _
  simp only [callAny]
  refine wpAny_bind (wpAny_load hu ?_)
  simp only [kxs_mw, show (Value.type "method-wrapper" == Value.type "method" || Value.type "method-wrapper" == Value.type "builtin_function_or_method" || Value.type "method-wrapper" == Value.type "method-wrapper") = true by decide, if_true]
  refine KFB.if_so (by decide) ?_
  refine wpAny_bind (check_bound_init FB.toExcCallFacts hC he rfl ?_)
  refine wpAny_bind (wpAny_pure (wpAny_pure ?_))
  refine ⟨plainId_quiet FB.init.plain _, codeAny_builtin FB.initEntry ?_⟩
  exact exc_init_tree (cls := .ref C) (t0 := t0) (dv := none) (c2 := .none) (c3 := .none) (b4 := .bool false) he hz fun h' k e' _ => h h' _ k e'
/-- super().__init__(e) as a statement, self a fresh exception at x -/
theorem sup_stmt {body : List Stmt} {q : Str} {scope : Scope} {p0 p1 p2 p3 p4 : Pos} {e : Expr} {fd : FuncData} {ar : Arg} {vs : Array Value} {file : Str} {tf : Tok} {oc ccl cl : Value} {od cdd cld : Option Addr} {osl ccs csl : Array (Option Value)} {L f cda cc x C t0 : Addr} {cd : ClassData} {mg mb m : Str → Option Value} {Q : Flow → Shared → Prop}
    {pl : Sem Bool} {nm qn : Str} {N : Addr} {bs bm : List Value} {hdct : Bool} {sn : List Str} {sub : List Value} {ab : Bool} {col : Option Bool} {dd : Option Addr} {k0 k1 k2 k3 k5 : Option Value}
    (X : K.In s.heap) (hg : s.heap.Ns mainGlobals mg) (hb : s.heap.Ns builtinsNs mb) (hn : s.heap.Ns L m)
    (hf : K.lookup f = some ⟨oc, od, .func fd, osl⟩) (hp : (fd.params.posonlyargs ++ fd.params.args).head? = some ar) (hv : m ar.arg = some (.ref x)) (hx : s.heap.get? x = some (excO C t0)) (hnx : K.lookup x = none) (hLx : L ≠ x)
    (hcode : K.lookup cda = some ⟨ccl, cdd, .fields vs, ccs⟩) (hvs : vs[2]? = some (.str file tf)) (hfile : ((prog.main.file : Str) == file) = true)
    (hcell : K.lookup cc = some ⟨cl, cld, .cell (some (.ref C)), csl⟩) (hD : clsIn K C = some cd) (hC : K.lookup C = some (excClassObj nm qn C N bs bm hdct sn sub ab col dd k0 k1 k2 k3 k5 "ValueError.__new__")) (hsub : mroIn K C (.ref C) = some true) (hms : mg "super" = none) (hmb : mb "super" = some (.type "super"))
    (ho : nsIn K cStatics "thirdparty.any" = some none) (hm : ks_superIn K C C "__init__" = some (some (.builtin "ValueError.__init__"))) (hB : subIn K (.ref C) (.type "ValueError") = some true)
    (hks : scope.names.lookup ("super" : Str) = some .globalImplicit) (hkc : scope.names.lookup ("__class__" : Str) = some .free) (hka : scope.names.lookup ar.arg = some .local) (hk : scope.kind = .function)
    (htop : (prog.main.scope.names.lookup ("super" : Str)).isSome = false)
    (he : ∀ (s1 : Shared) (Q' : Value → Shared → Prop), s1.heap.Ns L m → (∀ v tk, Q' v { s1 with toks := tk }) → wpAny (model prog w) A (eval e (ksEnv q scope L f (.ref cda) cc)) Q' E s1)
    (h : ∀ h' tk t1, (∀ b o, b ≠ x → s.heap.get? b = some o → h'.get? b = some o) → h'.get? x = some (excO C t1) → Q .next { s with heap := h', toks := tk })
    (hi : interactive (ksEnv q scope L f (.ref cda) cc) = false)
    (hev : eval (.Call (.Attribute (.Call (.Name "super" p0) [] [] p1) "__init__" p2) [e] [] p3) (ksEnv q scope L f (.ref cda) cc) = (do
      let ov ← attributeBase (.Call (.Name "super" p0) [] [] p1) "__init__" (ksEnv q scope L f (.ref cda) cc) (eval (.Call (.Name "super" p0) [] [] p1) (ksEnv q scope L f (.ref cda) cc))
      standAt p2.atName
      let (f', first) ← holding [ov] (getMethod ov "__init__" pl)
      callWith p3 f' first (backTo p3 (starEach [e] (ksEnv q scope L f (.ref cda) cc))) []))
    (hst : starEach [e] (ksEnv q scope L f (.ref cda) cc) = (false, eval e (ksEnv q scope L f (.ref cda) cc)) :: starEach [] (ksEnv q scope L f (.ref cda) cc)) :
    _root_.PySem.wpAt (model prog w) A (.func body (ksEnv q scope L f (.ref cda) cc)) (exec (.Expr (.Call (.Attribute (.Call (.Name "super" p0) [] [] p1) "__init__" p2) [e] [] p3) p4) (ksEnv q scope L f (.ref cda) cc)) Q E s := by
  refine ks_wpAt_Expr_any (ks_wpAt_MethodCall (sup_base X hg hb hn hf hp hv hx rfl (fun c z => nomatch z) hcode hvs hfile hcell hD hsub hms hmb rfl hks hkc hka hk htop fun h1 e1 k1 => ?_) hev) hi
  have X1 : K.In h1 := X.keeps k1
  have I1 : InstAt h1 x (excO C t0) C none := ⟨k1 _ _ hx, rfl, rfl, trivial⟩
  have hxC : x ≠ C := fun z => by rw [z, hC] at hnx; exact nomatch hnx
  obtain ⟨hh, g, d, t, os⟩ := s
  have hm2 : alongIn K "__init__" ((cd.mro.dropWhile (· != .ref C)).drop 1) = some (some (.builtin "ValueError.__init__")) := by
    unfold ks_superIn at hm
    rw [hD] at hm
    exact hm
  refine kxs_getMethod kxs_ValueError e1 (looks_opaque X1 ho) (l₀ := cd.mro) (fun A Q E s k q => wpAny_bind ((looks_clsIn X1 hD) A _ E s k (wpAny_pure q))) rfl X1 hm2 (I1.type.andThen (looks_subIn X1 hB)) hxC rfl ?_
  have k2 : ∀ b o, hh.get? b = some o → (h1.push (kxs_mw "ValueError.__init__" x)).get? b = some o := fun b o z => Heap.get?_push_of_some _ (k1 b o z)
  have hn2 : (h1.push (kxs_mw "ValueError.__init__" x)).Ns L m := by
    obtain ⟨oL, es, ep, hL, r⟩ := hn
    exact ⟨oL, es, ep, k2 _ _ hL, r⟩
  have hu : (h1.push (kxs_mw "ValueError.__init__" x)).get? h1.objs.size = some (kxs_mw "ValueError.__init__" x) := Heap.get?_push_size _ rfl
  show wpAny _ _ (callWith _ (.ref h1.objs.size) [] (backTo _ (starEach [e] _)) []) _ _ _
  rw [hst]
  refine kxs_callWith (i := "ValueError.__init__") (x := x) (by rfl) ?_
  refine evalArgs_plain (spliced_cons (he _ _ hn2 fun v tk => spliced_nil ⟨hu, ?_⟩))
  refine call_mw F.excBase_ValueError (C := C) (X1.keeps (fun b o z => Heap.get?_push_of_some _ z) _ _ hC) hu (k2 _ _ hx) (by show 1 ≤ sizeLine; rw [sizeLine_eq]; decide) fun h' t1 k3 e3 => ?_
  exact h h' _ t1 (fun b o hb z => k3 b o hb (k2 b o z)) e3
end
end SupX
end PySem
namespace PySem
namespace SupX
open PySem.W PySem.Calls PyProof.Rows PySem.HandSPX
theorem call_eq {o e : Expr} {name : Str} {p2 p3 : Pos} {env : Env} (hl : (p2.endLine == p3.line) = true) (hf : methodCallForm ([e].length + ([] : List Keyword).length) (backTo p3 (starEach [e] env)) (backToKw p3 (keywordEach [] env)) = true) : eval (.Call (.Attribute o name p2) [e] [] p3) env = (do
      let ov ← attributeBase o name env (eval o env)
      standAt p2.atName
      let (f', first) ← holding [ov] (getMethod ov name (do return (← importBound o env).getD true))
      callWith p3 f' first (backTo p3 (starEach [e] env)) []) := by
  rw [arm_eval_Call]
  unfold methodCall
  rw [hf]
  simp only [calleeOf, methodCallPos, hl, Bool.not_true, Bool.false_or, if_true, pure_bind]
  rfl
/-! ### the text of an __init__ with a field "place" -/
def iA1 (p1 p2 : Pos) : Arguments := { posonlyargs := [], args := [{ arg := "self", annotation := none, pos := p1 }, { arg := "place", annotation := none, pos := p2 }], vararg := none, kwonlyargs := [], kw_defaults := [], kwarg := none, defaults := [] }
def iB1 (q1 q2 q3 q4 q5 q6 r1 r2 r3 r4 : Pos) : List Stmt := [.Expr (.Call (.Attribute (.Call (.Name "super" q1) [] [] q2) "__init__" q3) [.Name "place" q4] [] q5) q6, .Assign [.Attribute (.Name "self" r1) "place" r2] (.Name "place" r3) r4]
def iS1 : Scope := { kind := .function, names := [(PySem.Str.ofString "self", .local), (PySem.Str.ofString "place", .local), (PySem.Str.ofString "__class__", .free), (PySem.Str.ofString "super", .globalImplicit)], isGenerator := false, isCoroutine := false, more := [] }
/-! ### the text of an __init__ without one -/
def iA0 (p1 : Pos) : Arguments := { posonlyargs := [], args := [{ arg := "self", annotation := none, pos := p1 }], vararg := none, kwonlyargs := [], kw_defaults := [], kwarg := none, defaults := [] }
def iB0 (txt : Str) (k : Nat) (q1 q2 q3 q4 q5 q6 : Pos) : List Stmt := [.Expr (.Call (.Attribute (.Call (.Name "super" q1) [] [] q2) "__init__" q3) [.Constant (.str txt) k q4] [] q5) q6]
def iS0 : Scope := { kind := .function, names := [(PySem.Str.ofString "self", .local), (PySem.Str.ofString "__class__", .free), (PySem.Str.ofString "super", .globalImplicit)], isGenerator := false, isCoroutine := false, more := [] }
/-- what the written part says of such a class at C, called cn, and of the __init__ at fI -/
structure SupCls (P : Program) (K : Frag) (mg : Str → Option Value) (cn : Str) (C fI cda cc : Addr) : Prop where
  gC : mg cn = some (.ref C)
  cls : ∃ nm q N bs bm sn sub ab col dd k0 k1 k2 k3 k5, K.lookup C = some (excClassObj nm q C N bs bm true sn sub ab col dd k0 k1 k2 k3 k5 "ValueError.__new__") ∧ refsVE bm = true
  sa : findIn K (.ref C) "__setattr__" = some (some (.builtin "object.__setattr__"))
  ga : findIn K (.ref C) "__getattribute__" = some (some (.builtin "BaseException.__getattribute__"))
  gg : findIn K (.ref C) "__getattr__" = some none
  iC : findIn K (.ref C) "__init__" = some (some (.ref fI))
  tC : typeIn K (.ref fI) = some (.type "function")
  kC : keepIn K (.ref C) = true
  exC : subIn K (.ref C) (.type "BaseException") = some true
  tyC : typeIn K (.ref C) = some (.type "type")
  hdC : hasDictIn K C = true
  te : exmOne K (.ref C) (.ref C) = some true
  sup : ks_superIn K C C "__init__" = some (some (.builtin "ValueError.__init__"))
  subV : subIn K (.ref C) (.type "ValueError") = some true
  own : mroIn K C (.ref C) = some true
  thp : nsIn K cStatics "thirdparty.any" = some none
  hms : mg "super" = none
  cell : ∃ cl cld csl, K.lookup cc = some ⟨cl, cld, .cell (some (.ref C)), csl⟩
  code : ∃ ccl cdd vs ccs file tf, K.lookup cda = some ⟨ccl, cdd, .fields vs, ccs⟩ ∧ vs[2]? = some (.str file tf) ∧ ((P.main.file : Str) == file) = true
  top : (P.main.scope.names.lookup ("super" : Str)).isSome = false
structure Sup1 (P : Program) (K : Frag) (mg : Str → Option Value) (cn qn : Str) (C fI cda cc : Addr) : Prop extends SupCls P K mg cn C fI cda cc where
  noN : findIn K (.ref C) "place" = some none
  fn : ∃ (oc : Value) (od : Option Addr) (doc pm : Value) (an : Option Addr) (ct : Value) (osl : Array (Option Value)) (p1 p2 q1 q2 q3 q4 q5 q6 r1 r2 r3 r4 : Pos),
    K.lookup fI = some ⟨oc, od, .func (ksFn "__init__" qn (iA1 p1 p2) (iB1 q1 q2 q3 q4 q5 q6 r1 r2 r3 r4) iS1 .none .none doc pm an (.ref cda) ct cc), osl⟩ ∧ codeIn K (.ref cda) qn = true ∧ (q3.endLine == q5.line) = true
structure Sup0 (P : Program) (K : Frag) (mg : Str → Option Value) (cn qn txt : Str) (C fI cda cc : Addr) : Prop extends SupCls P K mg cn C fI cda cc where
  fn : ∃ (oc : Value) (od : Option Addr) (doc pm : Value) (an : Option Addr) (ct : Value) (osl : Array (Option Value)) (k : Nat) (p1 q1 q2 q3 q4 q5 q6 : Pos),
    K.lookup fI = some ⟨oc, od, .func (ksFn "__init__" qn (iA0 p1) (iB0 txt k q1 q2 q3 q4 q5 q6) iS0 .none .none doc pm an (.ref cda) ct cc), osl⟩ ∧ codeIn K (.ref cda) qn = true ∧ (q3.endLine == q5.line) = true
theorem kept_but {K : Frag} {h h' : Heap} {x : Addr} (X : K.In h) (hx : K.lookup x = none) (k : ∀ b o, b ≠ x → h.get? b = some o → h'.get? b = some o) : K.In h' := fun a o e =>
  k a o (fun z => by rw [z, hx] at e; cases e) (X a o e)
theorem ns_but {h h' : Heap} {x L : Addr} {m : Str → Option Value} (hn : h.Ns L m) (hx : L ≠ x) (k : ∀ b o, b ≠ x → h.get? b = some o → h'.get? b = some o) : h'.Ns L m := by
  obtain ⟨o, es, ep, ho, r⟩ := hn
  exact ⟨o, es, ep, k _ _ hx ho, r⟩
section
variable {prog : Program} {w : World} {A : Around} {E : Value → Shared → Prop} {R : Result → Shared → Prop} {s : Shared} {K : Frag} {mg : Str → Option Value} {C fI cda cc : Addr} {cn qn txt : Str}
theorem init1 (T : Sup1 prog K mg cn qn C fI cda cc) {x t0 : Addr} {v : Value} (X : K.In s.heap) (hg : s.heap.Ns mainGlobals mg) {mb : Str → Option Value} (hb : s.heap.Ns builtinsNs mb) (hmb : mb "super" = some (.type "super")) (hlim : s.heap.NoLimit) (hx : s.heap.get? x = some (excO C t0)) (hnx : K.lookup x = none) (hroom : A.depth < recursionLimit)
    (hq : ∀ h' tk dx t1, (∀ b o, b ≠ x → s.heap.get? b = some o → h'.get? b = some o) → h'.get? x = some { cls := .ref C, dict := some dx, data := .fields #[.ref t1, .none, .none, .none, .bool false, .none] } → s.heap.objs.size ≤ dx → dx ≠ x → h'.Ns1 dx (fun y => if y = "place" then some v else none) → R (.ok (.ret .none)) { s with heap := h', toks := tk }) :
    codeAny (model prog w) A (.call (.ref fI) ⟨[.ref x, v], []⟩) R s := by
  obtain ⟨oc, od, doc, pm, an, ct, osl, p1, p2, q1, q2, q3, q4, q5, q6, r1, r2, r3, r4, ho, hcd, hline⟩ := T.fn
  obtain ⟨nm, q, N, bs, bm, sn, sub, ab, col, dd, k0, k1, k2, k3, k5, hC, hbm⟩ := T.cls
  obtain ⟨cl, cld, csl, hcell⟩ := T.cell
  obtain ⟨ccl, cdd, vs, ccs, file, tf, hcode, hvs, hfile⟩ := T.code
  have hcl : clsIn K C = some { name := nm, bases := bs, mro := .ref C :: bm, ns := N, qualname := q, hasDict := true, slotNames := sn, subclasses := sub, abstract := ab, collection := col, hasDel := false } := by unfold clsIn; rw [hC] <;> rfl
  have hxL : s.heap.objs.size ≠ x := Nat.ne_of_gt (Heap.lt_size hx)
  refine ks_codeAny_call_defAt (fd := ksFn "__init__" qn (iA1 p1 p2) (iB1 q1 q2 q3 q4 q5 q6 r1 r2 r3 r4) iS1 .none .none doc pm an (.ref cda) ct cc) (body := iB1 q1 q2 q3 q4 q5 q6 r1 r2 r3 r4) (binds := [("self", .ref x), ("place", v)]) hroom (X _ _ ho) rfl hlim (codeRec_of X hcd) rfl (BindsTo.of_eq (by first | rfl | with_unfolding_all rfl)) (show ∀ x ∈ iS1.names, x.2 ≠ .cell by decide) (fun y hy => by
    rcases List.mem_cons.mp hy with rfl | hy
    · rfl
    · rw [List.mem_singleton.mp hy]
      rfl) (fun h₁ hns kk => ?_) rfl rfl rfl
  have X₁ := X.keeps kk
  show _root_.PySem.wpAt _ _ (.func _ (ksEnv qn iS1 s.heap.objs.size fI (.ref cda) cc)) (execs _ (ksEnv qn iS1 s.heap.objs.size fI (.ref cda) cc)) _ _ _
  refine ks_wpAt_execs_cons (sup_stmt (ar := { arg := "self", annotation := none, pos := p1 }) X₁ (by
      obtain ⟨o, es, ep, ho', r⟩ := hg
      exact ⟨o, es, ep, kk _ _ ho', r⟩) (by
      obtain ⟨o, es, ep, ho', r⟩ := hb
      exact ⟨o, es, ep, kk _ _ ho', r⟩) hns ho rfl rfl (kk _ _ hx) hnx hxL hcode hvs hfile hcell hcl hC T.own T.hms hmb T.thp T.sup T.subV rfl rfl rfl rfl T.top (fun s1 Q' hn1 k => wpAny_Name (wpAny_loadName_local rfl rfl hn1 rfl (k v s1.toks)) (by decide)) (fun h' tk t1 k3' e3 => ?_) rfl (call_eq hline rfl) (by rfl))
  have X₃ := kept_but X₁ hnx k3'
  have hns3 := ns_but hns hxL k3'
  show _root_.PySem.wpAt _ _ _ (execs _ _) _ _ _
  refine ks_wpAt_execs_cons (ks_wpAt_Assign_Attr (wpAt_of_wpAny (wpAny_Name (wpAny_loadName_local rfl rfl hns3 rfl (wpAny_Name (wpAny_loadName_local rfl rfl hns3 rfl ?_) (by decide))) (by decide))))
  refine set_plain X₃ (ox := excO C t1) (od := none) ⟨e3, rfl, rfl, trivial⟩ T.sa ?_
  refine exc_osa X₃ e3 hcl (show refsVE (.ref C :: bm) = true from hbm) rfl T.noN (fun h₃ tk₃ dx k₃ dn dne hx₃ hn₃ => ?_)
  show _root_.PySem.wpAt _ _ _ (execs _ _) _ _ _
  refine wpAt_of_wpAny (wpAny_execs_nil (hq h₃ tk₃ dx t1 (fun b o hb' e => k₃ b o hb' (k3' b o hb' (kk b o e))) hx₃ ?_ dne hn₃))
  refine Nat.le_trans (Nat.le_of_lt hns3.lt) dn
theorem init0 (T : Sup0 prog K mg cn qn txt C fI cda cc) {x t0 : Addr} (X : K.In s.heap) (hg : s.heap.Ns mainGlobals mg) {mb : Str → Option Value} (hb : s.heap.Ns builtinsNs mb) (hmb : mb "super" = some (.type "super")) (hlim : s.heap.NoLimit) (hx : s.heap.get? x = some (excO C t0)) (hnx : K.lookup x = none) (hroom : A.depth < recursionLimit)
    (hq : ∀ h' tk t1, (∀ b o, b ≠ x → s.heap.get? b = some o → h'.get? b = some o) → h'.get? x = some (excO C t1) → R (.ok (.ret .none)) { s with heap := h', toks := tk }) :
    codeAny (model prog w) A (.call (.ref fI) ⟨[.ref x], []⟩) R s := by
  obtain ⟨oc, od, doc, pm, an, ct, osl, k, p1, q1, q2, q3, q4, q5, q6, ho, hcd, hline⟩ := T.fn
  obtain ⟨nm, q, N, bs, bm, sn, sub, ab, col, dd, k0, k1, k2, k3, k5, hC, hbm⟩ := T.cls
  obtain ⟨cl, cld, csl, hcell⟩ := T.cell
  obtain ⟨ccl, cdd, vs, ccs, file, tf, hcode, hvs, hfile⟩ := T.code
  have hcl : clsIn K C = some { name := nm, bases := bs, mro := .ref C :: bm, ns := N, qualname := q, hasDict := true, slotNames := sn, subclasses := sub, abstract := ab, collection := col, hasDel := false } := by unfold clsIn; rw [hC] <;> rfl
  have hxL : s.heap.objs.size ≠ x := Nat.ne_of_gt (Heap.lt_size hx)
  refine ks_codeAny_call_defAt (fd := ksFn "__init__" qn (iA0 p1) (iB0 txt k q1 q2 q3 q4 q5 q6) iS0 .none .none doc pm an (.ref cda) ct cc) (body := iB0 txt k q1 q2 q3 q4 q5 q6) (binds := [("self", .ref x)]) hroom (X _ _ ho) rfl hlim (codeRec_of X hcd) rfl (BindsTo.of_eq (by first | rfl | with_unfolding_all rfl)) (show ∀ x ∈ iS0.names, x.2 ≠ .cell by decide) (fun y hy => by
    rw [List.mem_singleton.mp hy]
    rfl) (fun h₁ hns kk => ?_) rfl rfl rfl
  have X₁ := X.keeps kk
  show _root_.PySem.wpAt _ _ (.func _ (ksEnv qn iS0 s.heap.objs.size fI (.ref cda) cc)) (execs _ (ksEnv qn iS0 s.heap.objs.size fI (.ref cda) cc)) _ _ _
  refine ks_wpAt_execs_cons (sup_stmt (ar := { arg := "self", annotation := none, pos := p1 }) X₁ (by
      obtain ⟨o, es, ep, ho', r⟩ := hg
      exact ⟨o, es, ep, kk _ _ ho', r⟩) (by
      obtain ⟨o, es, ep, ho', r⟩ := hb
      exact ⟨o, es, ep, kk _ _ ho', r⟩) hns ho rfl rfl (kk _ _ hx) hnx hxL hcode hvs hfile hcell hcl hC T.own T.hms hmb T.thp T.sup T.subV rfl rfl rfl rfl T.top (fun s1 Q' hn1 k => wpAny_Constant_str (k _ _)) (fun h' tk t1 k3' e3 => ?_) rfl (call_eq hline rfl) (by rfl))
  show _root_.PySem.wpAt _ _ _ (execs _ _) _ _ _
  exact wpAt_of_wpAny (wpAny_execs_nil (hq h' tk t1 (fun b o hb' e => k3' b o hb' (kk b o e)) e3))
/-- a made one, with the field -/
theorem made1 (T : Sup1 prog K mg cn qn C fI cda cc) {v : Value} (X : K.In s.heap) (hg : s.heap.Ns mainGlobals mg) {mb : Str → Option Value} (hb : s.heap.Ns builtinsNs mb) (hmb : mb "super" = some (.type "super")) (hlim : s.heap.NoLimit) (hroom : A.depth + 1 < recursionLimit)
    (hq : ∀ h' tk e d t1, (∀ b o, s.heap.get? b = some o → h'.get? b = some o) → s.heap.objs.size ≤ e → h'.get? e = some { cls := .ref C, dict := some d, data := .fields #[.ref t1, .none, .none, .none, .bool false, .none] } → s.heap.objs.size ≤ d → d ≠ e → h'.Ns1 d (fun y => if y = "place" then some v else none) → R (.ok (.ret (.ref e))) { s with heap := h', toks := tk }) :
    codeAny (model prog w) A (.call (.ref C) ⟨[v], []⟩) R s := by
  obtain ⟨nm, q, N, bs, bm, sn, sub, ab, col, dd, k0, k1, k2, k3, k5, hC, hbm⟩ := T.cls
  obtain ⟨hp, g, dr, tk, os⟩ := s
  have k : ∀ b o, hp.get? b = some o → ((hp.push (kdv_tup [v])).push (excO C hp.objs.size)).get? b = some o := fun b o e => Heap.get?_push_of_some _ (Heap.get?_push_of_some _ e)
  have hget : ((hp.push (kdv_tup [v])).push (excO C hp.objs.size)).get? (hp.objs.size + 1) = some (excO C hp.objs.size) := by heap_get
  have hnx : K.lookup (hp.objs.size + 1) = none := by
    cases e : K.lookup (hp.objs.size + 1) with
    | none => rfl
    | some o =>
      have z : hp.get? (hp.objs.size + 1) = some o := X _ _ e
      exact absurd (Nat.lt_of_succ_lt (Heap.lt_size z)) (Nat.lt_irrefl _)
  have ns : ∀ {a : Addr} {m : Str → Option Value}, hp.Ns a m → ((hp.push (kdv_tup [v])).push (excO C hp.objs.size)).Ns a m := fun hn => by
    obtain ⟨o, es, ep, ho', r⟩ := hn
    exact ⟨o, es, ep, k _ _ ho', r⟩
  refine call_own F.excBase_ValueError (fun X => refsVE_contains X bm hbm) (X _ _ hC) (looks_findIn X T.iC) (fun self => bind_fn X self T.tC) (by show 1 ≤ sizeLine; rw [sizeLine_eq]; decide) ?_
  refine init1 (s := ⟨(hp.push (kdv_tup [v])).push (excO C hp.objs.size), g, dr, tk, os⟩) T (X.keeps k) (ns hg) (ns hb) hmb (hlim.keeps k) hget hnx (by show A.depth + 1 < recursionLimit; exact hroom) fun h' tk' dx t1 k' hx dn dne hns => ?_
  have old : ∀ b o, hp.get? b = some o → h'.get? b = some o := fun b o e => k' b o (Nat.ne_of_lt (Nat.lt_succ_of_lt (Heap.lt_size e))) (k b o e)
  have z : hp.objs.size + 1 + 1 ≤ dx := by
    first
      | (simpa only [Heap.size_push] using dn)
      | exact dn
      | (have q := dn; rw [Heap.size_push, Heap.size_push] at q; exact q)
  exact ⟨rfl, hq h' tk' (hp.objs.size + 1) dx t1 old (Nat.le_succ _) hx (Nat.le_trans (Nat.le_trans (Nat.le_succ _) (Nat.le_succ _)) z) dne hns⟩
/-- a made one, without a dict -/
theorem made0 (T : Sup0 prog K mg cn qn txt C fI cda cc) (X : K.In s.heap) (hg : s.heap.Ns mainGlobals mg) {mb : Str → Option Value} (hb : s.heap.Ns builtinsNs mb) (hmb : mb "super" = some (.type "super")) (hlim : s.heap.NoLimit) (hroom : A.depth + 1 < recursionLimit)
    (hq : ∀ h' tk e t1, (∀ b o, s.heap.get? b = some o → h'.get? b = some o) → s.heap.objs.size ≤ e → h'.get? e = some (excO C t1) → R (.ok (.ret (.ref e))) { s with heap := h', toks := tk }) :
    codeAny (model prog w) A (.call (.ref C) ⟨[], []⟩) R s := by
  obtain ⟨nm, q, N, bs, bm, sn, sub, ab, col, dd, k0, k1, k2, k3, k5, hC, hbm⟩ := T.cls
  obtain ⟨hp, g, dr, tk, os⟩ := s
  have k : ∀ b o, hp.get? b = some o → ((hp.push (kdv_tup [])).push (excO C hp.objs.size)).get? b = some o := fun b o e => Heap.get?_push_of_some _ (Heap.get?_push_of_some _ e)
  have hget : ((hp.push (kdv_tup [])).push (excO C hp.objs.size)).get? (hp.objs.size + 1) = some (excO C hp.objs.size) := by heap_get
  have hnx : K.lookup (hp.objs.size + 1) = none := by
    cases e : K.lookup (hp.objs.size + 1) with
    | none => rfl
    | some o =>
      have z : hp.get? (hp.objs.size + 1) = some o := X _ _ e
      exact absurd (Nat.lt_of_succ_lt (Heap.lt_size z)) (Nat.lt_irrefl _)
  have ns : ∀ {a : Addr} {m : Str → Option Value}, hp.Ns a m → ((hp.push (kdv_tup [])).push (excO C hp.objs.size)).Ns a m := fun hn => by
    obtain ⟨o, es, ep, ho', r⟩ := hn
    exact ⟨o, es, ep, k _ _ ho', r⟩
  refine call_own F.excBase_ValueError (fun X => refsVE_contains X bm hbm) (X _ _ hC) (looks_findIn X T.iC) (fun self => bind_fn X self T.tC) (by show 0 ≤ sizeLine; exact Nat.zero_le _) ?_
  refine init0 (s := ⟨(hp.push (kdv_tup [])).push (excO C hp.objs.size), g, dr, tk, os⟩) T (X.keeps k) (ns hg) (ns hb) hmb (hlim.keeps k) hget hnx (by show A.depth + 1 < recursionLimit; exact hroom) fun h' tk' t1 k' hx => ?_
  have old : ∀ b o, hp.get? b = some o → h'.get? b = some o := fun b o e => k' b o (Nat.ne_of_lt (Nat.lt_succ_of_lt (Heap.lt_size e))) (k b o e)
  exact ⟨rfl, hq h' tk' (hp.objs.size + 1) t1 old (Nat.le_succ _) hx⟩
end
end SupX
end PySem

set_option Elab.async false
set_option linter.all false
set_option maxRecDepth 100000
set_option maxHeartbeats 2000000
/-! raise C(e), raise C(): own exceptions whose __init__ says super().__init__(..); n.place in an except suite -/
namespace My
open PySem PySem.Spec PyProof.Rows L2
theorem boot_super : bootBuiltins "super" = some (.type "super") := by first | rfl | decide +kernel | kernel_rfl
theorem relO_place {v : V} {v' : Value} (r : RelV v v') (f : Str) : RelO (List.lookup f [(("place" : Str), v)]) (if f = "place" then some v' else none) := by
  by_cases hw : f = "place"
  · subst hw
    rw [if_pos rfl]
    have q : List.lookup ("place" : Str) [(("place" : Str), v)] = some v := by simp [List.lookup]
    rw [q]
    exact r
  · rw [if_neg hw]
    have qw : (f == ("place" : Str)) = false := by simpa using hw
    have q2 : List.lookup f [(("place" : Str), v)] = none := by simp [List.lookup, qw]
    rw [q2]
    trivial
section
variable {X : Cx} {C fI cda cc : Addr} {cn qn txt : Str}
def tMkS1 (C : Addr) (ta : TA) : L2.St → Hp → XK → Prop := fun σ H Q => ta σ H fun vs H1 => ∃ v, vs = [v] ∧ ∀ d, H1 d = none → Q (.ref C) (some d) (upd H1 d (.xd [(("place" : Str), v)]))
theorem pmk_sup1 {a : Expr} {ta : TA} {p pos : Pos} {k : Nat} (T : PySem.SupX.Sup1 X.prog X.K X.mg cn qn C fI cda cc) (hr : Room k X.A) (ha : PA X [a] ta) (hg : Gl X cn) (hdb : (cn == ("__debug__" : Str)) = false)
    (he : starEach (a :: []) X.env = (false, eval a X.env) :: starEach [] X.env := by rfl) (hpl : (backTo pos (starEach [] X.env)).any (·.1) = false := by rfl) :
    PMk X (.Call (.Name cn p) [a] [] pos) (tMkS1 C ta) := by
  intro pins s σ H Q I h
  refine wpAny_Call_Name_kw (ld_glob I hg T.gC ?_ hdb)
  refine PySem.W.callWith_K (h₀ := X.base) I.ok.mod.kin T.kC (thn (ha.run pos pins s σ H _ I h) fun us s1 hh => ?_) he hpl
  obtain ⟨vs, H1, I1, r1, v, ev, q1⟩ := hh
  subst ev
  refine ⟨I1.kIn, ?_⟩
  cases r1 with
  | cons rv rn =>
    rename_i v' us'
    cases rn
    show wpAny _ _ (call (.ref C) [v']) _ _ _
    have hlim := I1.nolimit
    obtain ⟨mb, hb, hmb⟩ := I1.mod.blt
    have hb1 := hb.keeps I1.bk
    have hg1 := I1.mod.glob.keeps I1.bk
    obtain ⟨hp, g, dr, tk, os⟩ := s1
    refine wpAny_call (PySem.SupX.made1 T I1.kIn hg1 hb1 ((hmb "super" (by decide)).trans boot_super) hlim (by have := hr.dp; omega) fun h' tk' e d t1 old en he' dn dne hns => ?_)
    show MkP X pins σ Q (.ref e) ⟨h', g, dr, tk', os⟩
    obtain ⟨G', g1, g2⟩ := restrict h' fun b => decide (b ≠ e)
    have gk : ∀ b, b ≠ e → G'.get? b = h'.get? b := fun b hb => g1 b (decide_eq_true hb)
    have ge : G'.get? e = none := g2 e (by simp)
    have old2 : ∀ b o, hp.get? b = some o → G'.get? b = some o := fun b o q => (gk b (Nat.ne_of_lt (Nat.lt_of_lt_of_le (Heap.lt_size q) en))).trans (old b o q)
    have ob : ObjOk X.prog X.w (upd H1 d (.xd [(("place" : Str), v)])) G' d (.xd [(("place" : Str), v)]) :=
      ⟨_, hns.at (fun o q => (gk d dne).trans q), fun f => relO_place rv f⟩
    have J : Inv X pins σ (upd H1 d (.xd [(("place" : Str), v)])) ⟨G', g, dr, tk', os⟩ := I1.laid (t' := tk') old2 dn ob
    refine ⟨e, _, _, ⟨G', g, dr, tk', os⟩, _, .ref C, some d, rfl, J, fun b o q => ?_, ge, he', ⟨rfl, rfl⟩, rfl, rfl, ?_, rfl, I1.bare, raises_own T.exC T.tyC, q1 d (I1.hok.fresh dn)⟩
    · by_cases hb : b = e
      · have q' : G'.get? b = some o := q
        rw [hb, ge] at q'; cases q'
      · exact (gk b hb).symm.trans q
    · rw [upd_ne (Ne.symm dne)]
      exact I1.hok.fresh en
def tRaiseS1 (C : Addr) (W : WX) (ta : TA) : TS := fun _ σ H => tMkS1 C ta σ H fun cls d H' => W cls d σ H'
theorem ps_raiseS1 {a : Expr} {ta : TA} {W : WX} {p pos pos2 : Pos} {k : Nat} (hc : X.calm = true) (T : PySem.SupX.Sup1 X.prog X.K X.mg cn qn C fI cda cc) (hr : Room k X.A) (tk : Takes X W) (ha : PA X [a] ta) (hg : Gl X cn := by rfl) (hdb : (cn == ("__debug__" : Str)) = false := by decide)
    (he : starEach (a :: []) X.env = (false, eval a X.env) :: starEach [] X.env := by rfl) (hpl : (backTo pos (starEach [] X.env)).any (·.1) = false := by rfl) :
    PS X (.Raise (some (.Call (.Name cn p) [a] [] pos)) none pos2) (tRaiseS1 C W ta) := ps_raise hc tk (pmk_sup1 T hr ha hg hdb he hpl)
def tMkS0 (C : Addr) : L2.St → Hp → XK → Prop := fun _ H Q => Q (.ref C) none H
theorem pmk_sup0 {p pos : Pos} {k : Nat} (T : PySem.SupX.Sup0 X.prog X.K X.mg cn qn txt C fI cda cc) (hr : Room k X.A) (hg : Gl X cn) (hdb : (cn == ("__debug__" : Str)) = false) : PMk X (.Call (.Name cn p) [] [] pos) (tMkS0 C) := by
  intro pins s σ H Q I h
  refine wpAny_Call_Name_kw (ld_glob I hg T.gC ?_ hdb)
  refine PySem.W.callWith_K0 I.kIn T.kC ?_
  show wpAny _ _ (call (.ref C) []) _ _ _
  have hlim := I.nolimit
  obtain ⟨mb, hb, hmb⟩ := I.mod.blt
  have hb1 := hb.keeps I.bk
  have hg1 := I.mod.glob.keeps I.bk
  obtain ⟨hp, g, dr, tk, os⟩ := s
  refine wpAny_call (PySem.SupX.made0 T I.kIn hg1 hb1 ((hmb "super" (by decide)).trans boot_super) hlim (by have := hr.dp; omega) fun h' tk' e t1 old en he' => ?_)
  show MkP X pins σ Q (.ref e) ⟨h', g, dr, tk', os⟩
  refine ⟨e, _, _, ⟨hp, g, dr, tk, os⟩, _, .ref C, none, rfl, I, old, ?_, he', ⟨rfl, rfl⟩, rfl, rfl, I.hok.fresh en, rfl, I.bare, raises_own T.exC T.tyC, h⟩
  cases z : hp.get? e with
  | none => rfl
  | some o => exact absurd (Nat.lt_of_lt_of_le (Heap.lt_size z) en) (Nat.lt_irrefl _)
def tRaiseS0 (C : Addr) (W : WX) : TS := fun _ σ H => W (.ref C) none σ H
theorem ps_raiseS0 {W : WX} {p pos pos2 : Pos} {k : Nat} (hc : X.calm = true) (T : PySem.SupX.Sup0 X.prog X.K X.mg cn qn txt C fI cda cc) (hr : Room k X.A) (tk : Takes X W) (hg : Gl X cn := by rfl) (hdb : (cn == ("__debug__" : Str)) = false := by decide) :
    PS X (.Raise (some (.Call (.Name cn p) [] [] pos)) none pos2) (tRaiseS0 C W) := ps_raise hc tk (pmk_sup0 T hr hg hdb)
/-- n.place, n the exception that the suite holds (at a; its class cls, its dict d) -/
def tByPlace (C : Addr) (a : Addr) (cls : Value) (d : Option Addr) (te : TE) : TE := fun σ H Q => te σ H fun x H1 => x = .ref a ∧ cls = .ref C ∧ ∃ (dd : Addr) (v : V), d = some dd ∧ H1 dd = some (.xd [(("place" : Str), v)]) ∧ Q v H1
theorem pe_byPlace {a : Addr} {oe : Obj} {cls : Value} {d : Option Addr} {pn : List (Addr × Obj)} {e : Expr} {te : TE} {pos : Pos} (T : PySem.SupX.Sup1 X.prog X.K X.mg cn qn C fI cda cc) (hz : Zc cls d oe) (hf : ∃ vs, oe.data = .fields vs) (he : PE (X.suite a ((a, oe) :: pn)) e te)
    (hb : attributeBase e "place" X.env (eval e X.env) = eval e X.env := by rfl) :
    PE (X.suite a ((a, oe) :: pn)) (.Attribute e "place" pos) (tByPlace C a cls d te) := by
  refine ⟨fun pins s σ H Q I h => ?_⟩
  refine attr_of hb (thn (he.run pins s σ H _ I h) fun u s1 hh => ?_)
  obtain ⟨x, H1, I1, rx, ex, ec, dd, v, ed, ea, q⟩ := hh
  subst ex
  obtain rfl : u = Value.ref a := rx
  subst ec
  subst ed
  obtain ⟨ha, _⟩ := I1.pin (a, oe) (List.mem_append_left _ List.mem_cons_self)
  obtain ⟨vs, hd⟩ := hf
  have hx : ObjOk X.prog X.w H1 s1.heap dd (.xd [(("place" : Str), v)]) := I1.hok dd _ ea
  obtain ⟨mA, hns, hr⟩ := hx
  obtain ⟨od, ho, hl⟩ := lookIn_ns hns
  have l : List.lookup ("place" : Str) [(("place" : Str), v)] = some v := by simp [List.lookup]
  obtain ⟨u, hu, ru⟩ := RelO.some_of (v := v) (o := mA "place") (by rw [← l]; exact hr "place")
  have J : PySem.W.InstAt s1.heap a oe C (some od) := ⟨ha, hz.1, by unfold PySem.W.notCls; rw [hd] <;> rfl, by rw [hz.2]; exact ho⟩
  exact HandSPX.exc_get I1.kIn J T.ga T.gg T.exC (PySem.W.findObj_own T.hdC T.noN rfl (by rw [hl, hu])) (handed_of ru) ⟨v, H1, I1.tok _, ru, q⟩
end
end My

set_option Elab.async false
set_option linter.all false
set_option maxRecDepth 100000
set_option maxHeartbeats 2000000
/-! defs and methods that may raise: bundles, calls where a wish about exceptions is told, calls where none is raised. -/
namespace My
open PySem PySem.Spec PyProof.Rows L2 Evl
structure CalX (P : Program) (w : World) (K : PySem.W.Frag) (mg : Str → Option Value) (base : Heap) (k : Nat) (x : Str) (ps : List Str) (sp : Sp) : Prop where
  ex : ∃ f fd, FnOk P w K mg base (L2.CX P w) k f fd ps sp ∧ Binds K fd ps [] ∧ PySem.W.keepIn K (.ref f) = true ∧ mg x = some (.ref f)
theorem CalX.mono {P : Program} {w : World} {K : PySem.W.Frag} {mg : Str → Option Value} {base : Heap} {j k : Nat} {x : Str} {ps : List Str} {sp : Sp} (C : CalX P w K mg base j x ps sp) (h : j ≤ k) : CalX P w K mg base k x ps sp := by
  obtain ⟨f, fd, F, b, kp, m⟩ := C.ex
  exact ⟨f, fd, F.mono h, b, kp, m⟩
structure MCalX (P : Program) (w : World) (K : PySem.W.Frag) (mg : Str → Option Value) (base : Heap) (k : Nat) (C : Addr) (m : Str) (ps : List Str) (sp : Sp) : Prop where
  ex : ∃ f fd, FnOk P w K mg base (L2.CX P w) k f fd ps sp ∧ Binds K fd ps [] ∧ Meth K C m f
theorem MCalX.mono {P : Program} {w : World} {K : PySem.W.Frag} {mg : Str → Option Value} {base : Heap} {j k : Nat} {C : Addr} {m : Str} {ps : List Str} {sp : Sp} (M : MCalX P w K mg base j C m ps sp) (h : j ≤ k) : MCalX P w K mg base k C m ps sp := by
  obtain ⟨f, fd, F, b, mm⟩ := M.ex
  exact ⟨f, fd, F.mono h, b, mm⟩
theorem passN {X : Cx} : Passes (L2.CX X.prog X.w) X E0 := fun _ _ _ _ _ _ _ h => by
  obtain ⟨_, _, _, _, _, _, _, _, _, _, _, _, z⟩ := h
  exact z.elim
section
variable {X : Cx} {W : WX} {k j : Nat} {C : Addr} {x m : Str} {ps : List Str} {sp : Sp} {o e : Expr} {es : List Expr} {ta : TE} {t : TA} {p pos apos : Pos} {pl : Sem Bool}
theorem pe_calX (C : CalX X.prog X.w X.K X.mg X.base k x ps sp) (hr : Room j X.A) (tk : Takes X W) (ha : PA X (e :: es) t) (hle : k ≤ j := by first | exact Nat.le_refl _ | decide | omega) (hg : Gl X x := by rfl)
    (hdb : (x == ("__debug__" : Str)) = false := by decide) (hs : starEach (e :: es) X.env = (false, eval e X.env) :: starEach es X.env := by rfl) (hplain : (backTo pos (starEach es X.env)).any (·.1) = false := by rfl) :
    PE X (.Call (.Name x p) (e :: es) [] pos) (tCallS sp (WE W) t) := by
  obtain ⟨f, fd, F, b, kp, m⟩ := C.ex
  exact pe_callS F (hr.mono hle) hg m kp b (fun σ => passAt tk σ) ha hdb hs hplain
theorem pe_calN (C : CalX X.prog X.w X.K X.mg X.base k x ps sp) (hr : Room j X.A) (ha : PA X (e :: es) t) (hle : k ≤ j := by first | exact Nat.le_refl _ | decide | omega) (hg : Gl X x := by rfl)
    (hdb : (x == ("__debug__" : Str)) = false := by decide) (hs : starEach (e :: es) X.env = (false, eval e X.env) :: starEach es X.env := by rfl) (hplain : (backTo pos (starEach es X.env)).any (·.1) = false := by rfl) :
    PE X (.Call (.Name x p) (e :: es) [] pos) (tCall sp [] E0 t) := by
  obtain ⟨f, fd, F, b, kp, m⟩ := C.ex
  exact pe_call F (hr.mono hle) hg m kp b .nil passN ha hdb hs hplain
/-- o.m(..), which may raise -/
def tMethX (C : Addr) (m : Str) (sp : Sp) (E : L2.St → XK) (ta : TE) (t : TA) : TE := fun σ H Q => ta σ H fun x H1 => ∃ a dx fs, x = .ref a ∧ H1 a = some (.ins C dx fs) ∧ fs.lookup m = none ∧ t σ H1 fun vs H2 => sp (x :: vs) H2 Q (E σ)
theorem pe_mcalX (c : Cls X.K C) (M : MCalX X.prog X.w X.K X.mg X.base k C m ps sp) (hr : Room j X.A) (tk : Takes X W) (he : PE X o ta) (ha : PA X (e :: es) t)
    (hle : k ≤ j := by first | exact Nat.le_refl _ | decide | omega)
    (hst : starEach (e :: es) X.env = (false, eval e X.env) :: starEach es X.env := by rfl) (hpl : (backTo pos (starEach es X.env)).any (·.1) = false := by rfl)
    (ht : eval (.Call (.Attribute o m apos) (e :: es) [] pos) X.env = (do
      let ov ← eval o X.env
      standAt apos.atName
      let (f, first) ← holding [ov] (getMethod ov m pl)
      callWith pos f first (backTo pos (starEach (e :: es) X.env)) (backToKw pos (keywordEach [] X.env))) := by rfl) :
    PE X (.Call (.Attribute o m apos) (e :: es) [] pos) (tMethX C m sp (WE W) ta t) := by
  obtain ⟨f, fd, F, b, mm⟩ := M.ex
  refine ⟨fun pins s σ H Q I h => ?_⟩
  refine PySem.W.methodCall_KW (pl := pl) (thn (he.run pins s σ H _ I h) fun u s1 ⟨x, H1, I1, rx, a, dx, fs, ex, ea, l, q⟩ => ?_) ht
  subst ex
  obtain rfl : u = Value.ref a := rx
  refine getmeth_ok I1 ea c mm l ?_
  refine PySem.W.callWith_K (first := [.ref a]) (h₀ := X.base) I.ok.mod.kin mm.kp (thn (ha.run pos pins s1 σ H1 _ I1 q) fun us s2 ⟨vs, H2, I2, r, q2⟩ => ⟨I2.kIn, ?_⟩) hst hpl
  exact run_fnS (us := .ref a :: us) (vs := .ref a :: vs) F (hr.mono hle) b (passAt tk σ) I2 (.cons rfl r) q2
theorem pe_mcalX0 (c : Cls X.K C) (M : MCalX X.prog X.w X.K X.mg X.base k C m ps sp) (hr : Room j X.A) (tk : Takes X W) (he : PE X o ta)
    (hle : k ≤ j := by first | exact Nat.le_refl _ | decide | omega)
    (ht : eval (.Call (.Attribute o m apos) [] [] pos) X.env = (do
      let ov ← eval o X.env
      standAt apos.atName
      let (f, first) ← holding [ov] (getMethod ov m pl)
      callWith pos f first (backTo pos (starEach [] X.env)) (backToKw pos (keywordEach [] X.env))) := by rfl) :
    PE X (.Call (.Attribute o m apos) [] [] pos) (tMethX C m sp (WE W) ta tNil) := by
  obtain ⟨f, fd, F, b, mm⟩ := M.ex
  refine ⟨fun pins s σ H Q I h => ?_⟩
  refine PySem.W.methodCall_KW (pl := pl) (thn (he.run pins s σ H _ I h) fun u s1 ⟨x, H1, I1, rx, a, dx, fs, ex, ea, l, q⟩ => ?_) ht
  subst ex
  obtain rfl : u = Value.ref a := rx
  refine getmeth_ok I1 ea c mm l ?_
  exact PySem.W.callWith_K0 (first := [.ref a]) I1.kIn mm.kp (run_fnS (us := [.ref a]) (vs := [.ref a]) F (hr.mono hle) b (passAt tk σ) I1 (.cons rfl .nil) q)
end
section
variable {σ : L2.St} {H : Hp} {Q : VK} {ta : TA} {te : TE} {sp : Sp} {E : L2.St → XK} {C : Addr} {m : Str}
theorem r_callX (h : ta σ H fun vs H1 => sp vs H1 Q (E σ)) : tCallS sp E ta σ H Q := h
theorem r_methX (h : te σ H fun x H1 => ∃ a dx fs, x = .ref a ∧ H1 a = some (.ins C dx fs) ∧ fs.lookup m = none ∧ ta σ H1 fun vs H2 => sp (x :: vs) H2 Q (E σ)) : tMethX C m sp E te ta σ H Q := h
theorem r_raiseS1 {W : WX} {D : Ends} (h : ta σ H fun vs H1 => ∃ v, vs = [v] ∧ ∀ d, H1 d = none → W (.ref C) (some d) σ (upd H1 d (.xd [(("place" : Str), v)]))) : tRaiseS1 C W ta D σ H := h
end
end My

set_option Elab.async false
set_option linter.all false
set_option maxRecDepth 100000
set_option maxHeartbeats 1000000
/-! zip(t1, t2, strict=False) of two tuples, in a comprehension. -/
namespace My
open PySem PySem.Spec PyProof.Rows L2 Evl Builtin.SmallTypes
theorem typeCall_zf (a b : Value) : checkTypeCall "zip" ⟨[a, b], [(Str.ofString "strict", .bool false)]⟩ = pure () := by kernel_rfl
theorem newCall_zf (a b : Value) : checkBuiltinCall "zip.__new__" ⟨[.type "zip", a, b], [(Str.ofString "strict", .bool false)]⟩ = pure () := by kernel_rfl
theorem init_zf (obj a b : Value) : argsOk "object.__init__" ⟨[obj, a, b], [(Str.ofString "strict", .bool false)]⟩ := by unfold argsOk; kernel_rfl
abbrev zfZ (h : Heap) (o1 o2 : Obj) : Heap := (gzO2 h o1 o2).push { cls := .type "zip", data := .fields #[.none, .bool false, .bool false, .ref ((h.push o1).push o2).objs.size, .ref (gzT2 h o1 o2).objs.size] }
theorem meets_zf {v1 v2 : Value} {o1 o2 : Obj} {H1 H2 : Heap → Prop} (B1 : Begins v1 o1 H1) (B2 : Begins v2 o2 H2) :
    Meets (Builtin.«zip.__new__» ⟨[.type "zip", v1, v2], [(Str.ofString "strict", .bool false)]⟩) (fun _ R s => (H1 s.heap ∧ H2 s.heap) ∧ R (.ok (.ret (.ref (gzO2 s.heap o1 o2).objs.size))) { s with heap := zfZ s.heap o1 o2 }) :=
  .of_wp fun prog w A R s h => by
    obtain ⟨hp, g, d, tk, os⟩ := s; obtain ⟨⟨h1, h2⟩, h⟩ := h
    have hsub := sub_zip
    have q1 : ∀ {A' : Around} {E : Value → Shared → Prop} {Q : Value → Shared → Prop}, Q (.ref hp.objs.size) ⟨(hp.push o1), g, d, tk, os⟩ → wpAny (model prog w) A' (pyIter v1) Q E ⟨hp, g, d, tk, os⟩ :=
      fun q => B1.iter prog w _ _ ⟨hp, g, d, tk, os⟩ _ (B1.keeps _ _ h1 fun b o' e => e) q
    have q2 : ∀ {A' : Around} {E : Value → Shared → Prop} {Q : Value → Shared → Prop}, Q (.ref (hp.push o1).objs.size) ⟨((hp.push o1).push o2), g, d, tk, os⟩ → wpAny (model prog w) A' (pyIter v2) Q E ⟨(hp.push o1), g, d, tk, os⟩ :=
      fun q => B2.iter prog w _ _ ⟨(hp.push o1), g, d, tk, os⟩ _ (B2.keeps _ _ h2 fun b o' e => (Heap.get?_push_of_some _ e)) q
    have e1 : (Str.ofString "strict" != ("strict" : Str)) = false := by decide +kernel
    wp_walk using q1, q2
    exact ⟨_, rfl, h⟩
def iZf (K : PySem.W.Frag) (ta : TA) : TI := fun σ H R => ta σ H fun vs H1 => ∃ a b xs ys, vs = [.ref a, .ref b] ∧ SqT K H1 a xs ∧ SqT K H1 b ys ∧ R (RZ.ItzT K a b) H1
theorem pi_zf {X : Cx} {e : Expr} {es : List Expr} {ta : TA} {p pos tpos : Pos} {kws : List Keyword} {elts : List Expr} {kk : Nat} (hg : Gl X "zip") (hm : X.mg "zip" = none) (ha : PA X (e :: es) ta) (hk : PK X kws (tCons (tC (.bl false)) tNil))
    (he : backTo pos (starEach (e :: es) X.env) = (false, eval e X.env) :: backTo pos (starEach es X.env) := by rfl) (hpl : (backTo pos (starEach (e :: es) X.env)).any (·.1) = false := by rfl)
    (hks : (backToKw pos (keywordEach kws X.env)).filterMap (·.1) = [Str.ofString "strict"] := by rfl)
    (hall : (backToKw pos (keywordEach kws X.env)).all (·.1.isSome) = true := by rfl) (hnone : (backToKw pos (keywordEach kws X.env)).any (·.1.isNone) = false := by rfl) :
    PI X (.Tuple elts kk tpos) (.Call (.Name "zip" p) (e :: es) kws pos) (iZf X.K ta) := by
  refine ⟨fun pins s σ H R I h => ?_⟩
  refine wpAny_Call_Name_kw (ld_blt I hg hm PyProof.Rows.boot_zip ?_)
  refine callTy_kw (thn (ha.run pos pins s σ H _ I h) fun us s1 h1 => ?_) he hpl hall hnone
  obtain ⟨vs, H1, I1, r1, q1⟩ := h1
  refine thn (hk.run pos pins s1 σ H1 (fun zs H2 => zs = [.bl false] ∧ H2 = H1) I1 ⟨rfl, rfl⟩) fun ws s2 h2 => ?_
  obtain ⟨zs, H2, I2, r2, ez, eh⟩ := h2
  subst ez
  subst eh
  obtain ⟨a, b, xs, ys, rfl, hqx, hqy, q⟩ := q1
  have ew : ws = [.bool false] := by
    cases r2 with
    | cons r rr =>
      cases rr
      rw [show _ = Value.bool false from r]
  obtain ⟨u1, u2, rfl, ra, rb⟩ := vals2 r1
  cases (show u1 = Value.ref a from ra)
  cases (show u2 = Value.ref b from rb)
  rw [hks, ew]
  obtain ⟨its, rv, p1, la⟩ := sqB_inv (t := true) I2 hqx
  obtain ⟨its2, rv2, p2, lb⟩ := sqB_inv (t := true) I2 hqy
  refine callType_newKw F.called_zip (by decide) (typeCall_zf _ _) (newCall_zf _ _) (fun obj => init_zf obj _ _) F.entry_zip_new (meets_zf (beginsB true a its.toArray) (beginsB true b its2.toArray)) ⟨⟨p1, p2⟩, ?_⟩
  have z1 : (s2.heap.push (oB true a)).objs.size = s2.heap.objs.size + 1 := by rw [Heap.size_push]
  have z2 : ((s2.heap.push (oB true a)).push (oB true b)).objs.size = s2.heap.objs.size + 2 := by rw [Heap.size_push, z1]
  have zT : (gzT2 s2.heap (oB true a) (oB true b)).objs.size = s2.heap.objs.size + 3 := by rw [Heap.size_push, z2]
  have zO : (gzO2 s2.heap (oB true a) (oB true b)).objs.size = s2.heap.objs.size + 4 := by rw [Heap.size_push, zT]
  have f1 := (beginsB true a its.toArray).free
  have f2 := (beginsB true b its2.toArray).free
  have gZ : (zfZ s2.heap (oB true a) (oB true b)).get? (gzO2 s2.heap (oB true a) (oB true b)).objs.size = some _ := Heap.get?_push_size _ rfl
  have gO : (zfZ s2.heap (oB true a) (oB true b)).get? (gzT2 s2.heap (oB true a) (oB true b)).objs.size = some _ := Heap.get?_push_of_some _ (Heap.get?_push_size _ rfl)
  have gT : (zfZ s2.heap (oB true a) (oB true b)).get? ((s2.heap.push (oB true a)).push (oB true b)).objs.size = some _ := Heap.get?_push_of_some _ (Heap.get?_push_of_some _ (Heap.get?_push_size _ rfl))
  have g1 : (zfZ s2.heap (oB true a) (oB true b)).get? s2.heap.objs.size = some (oB true a) := Heap.get?_push_of_some _ (Heap.get?_push_of_some _ (Heap.get?_push_of_some _ (Heap.get?_push_of_some _ (Heap.get?_push_size _ f1))))
  have g2 : (zfZ s2.heap (oB true a) (oB true b)).get? (s2.heap.push (oB true a)).objs.size = some (oB true b) := Heap.get?_push_of_some _ (Heap.get?_push_of_some _ (Heap.get?_push_of_some _ (Heap.get?_push_size _ f2)))
  have keep : ∀ c o, s2.heap.get? c = some o → (zfZ s2.heap (oB true a) (oB true b)).get? c = some o := fun c o e => Heap.get?_push_of_some _ (Heap.get?_push_of_some _ (Heap.get?_push_of_some _ (Heap.get?_push_of_some _ (Heap.get?_push_of_some _ e))))
  rw [zO, zT, z2] at gZ
  rw [zT] at gO
  rw [z2, z1] at gT
  rw [z1] at g2
  generalize zfZ s2.heap (oB true a) (oB true b) = h' at gZ gO gT g1 g2 keep
  show _ ∧ _
  rw [zO]
  refine ⟨⟨_, gZ, rfl⟩, wpAny_pyIter_zip gZ ?_⟩
  have I3 : Inv X pins σ H2 { s2 with heap := h' } := I2.kept (t' := s2.toks) keep
  refine ⟨s2.heap.objs.size + 4, [s2.heap.objs.size + 4, s2.heap.objs.size + 2, s2.heap.objs.size + 3, s2.heap.objs.size, s2.heap.objs.size + 1], _, _, H2, rfl, I3, RZ.turn_zipT (PySem.W.ktu_apart s2.heap.objs.size a b la lb), ⟨gZ, gT, ⟨_, _, gO⟩, oB_it true g1, oB_it true g2⟩, fun c hcm => ?_, q⟩
  have e' : c = s2.heap.objs.size + 4 ∨ c = s2.heap.objs.size + 2 ∨ c = s2.heap.objs.size + 3 ∨ c = s2.heap.objs.size ∨ c = s2.heap.objs.size + 1 := by simpa using hcm
  have hle : s2.heap.objs.size ≤ c := by
    rcases e' with z | z | z | z | z
    · rw [z]; exact Nat.le_add_right _ _
    · rw [z]; exact Nat.le_add_right _ _
    · rw [z]; exact Nat.le_add_right _ _
    · rw [z]; exact Nat.le_refl _
    · rw [z]; exact Nat.le_add_right _ _
  exact I2.fpOk hle (I2.hok.fresh hle)
section
variable {K : PySem.W.Frag} {σ : L2.St} {H : Hp} {te tl : TE} {ta : TA} {xs ys : List V}
/-- what the comprehension gives: one item for each place of both -/
theorem el_lcZF {j1 j2 : Nat} {vs : List Nat} {a b : Addr} (n : Nat) (v : Nat → V) (h : ∀ H1, Ex H H1 → ∀ Q : List V → Hp → Prop, (∀ a b H2, Ex H1 H2 → SqT K H2 a xs → SqT K H2 b ys → Q [.ref a, .ref b] H2) → ta σ H1 Q) (hn : n = min xs.length ys.length) (hz : xs.length ≤ 1000)
    (hw : ∀ x y, wipe (((wipe σ vs).set j1 (some x)).set j2 (some y)) vs = wipe σ vs)
    (he : ∀ i x y H1, Ex H H1 → xs[i]? = some x → ys[i]? = some y → Ev te (((wipe σ vs).set j1 (some x)).set j2 (some y)) H1 (v i)) :
    EvL (tLc (iZf K ta) (gTup K 2 (gCons (gName j1) (gCons (gName j2) gNil))) tYes te vs) σ H ((List.range n).map v) := by
  intro H0 e Q q
  refine h H0 e _ fun a b H1 e1 ha hb => ⟨a, b, xs, ys, rfl, ha, hb, fun Dl hD => ?_⟩
  refine ⟨fun i m H' => m = n - i ∧ i ≤ n ∧ Ex H1 H' ∧ H' Dl = some (.lst ((List.range i).map v)), ⟨n, rfl, Nat.zero_le _, Ex.new hD, upd_same⟩, ?_⟩
  rintro i m H' ⟨rfl, hi, ex, hl⟩
  by_cases hlt : i < n
  · have gx : xs[i]? = some xs[i] := List.getElem?_eq_getElem (by omega)
    have gy : ys[i]? = some ys[i] := List.getElem?_eq_getElem (by omega)
    refine .inr ⟨⟨xs, ys, _, _, ex_t ex ha, ex_t ex hb, gx, gy⟩, fun H' => Ex H1 H' ∧ H' Dl = some (.lst ((List.range (i + 1)).map v)), fun H2 p => ⟨n - (i + 1), by omega, rfl, hlt, p⟩, fun z H2 y => ?_⟩
    obtain ⟨T, x', y', rfl, hT, rfl, hx', hy'⟩ := y
    have ex1 := hx' xs (ex_t ex ha)
    have ey1 := hy' ys (ex_t ex hb)
    rw [gx] at ex1
    rw [gy] at ey1
    cases ex1
    cases ey1
    refine ⟨T, [xs[i], ys[i]], rfl, st_of upd_same, rfl, xs[i], [ys[i]], rfl, ys[i], [], rfl, rfl, hw _ _, ?_⟩
    refine tyes_ ?_
    have ex2 : Ex H1 (upd H' T (.tup [xs[i], ys[i]])) := ex.trans (Ex.new hT)
    have nDT : Dl ≠ T := fun z => by
      rw [z, hT] at hl
      exact nomatch hl
    refine iteT (he i _ _ H1 (e.trans e1) gx gy _ ex2 _ fun H3 e3 => ⟨(List.range i).map v, e3 Dl _ (by rw [upd_ne nDT]; exact hl), sz_lt (by rw [List.length_map, List.length_range]; omega), (ex2.trans e3).mut hD, ?_⟩)
    rw [upd_same, List.range_succ, List.map_append]
    rfl
  · have e0 : i = n := by omega
    subst e0
    exact .inl ⟨⟨xs, ys, ex_t ex ha, ex_t ex hb, by omega⟩, q Dl H' (fresh_back e1 hD) (e1.trans ex) hl⟩
end
end My

set_option Elab.async false
set_option linter.all false
set_option maxRecDepth 100000
set_option maxHeartbeats 1000000
/-! what the top has written: methods of an own class. -/
namespace My
open PySem PySem.Spec PyProof.Rows L2 Evl
def HasM (K : PySem.W.Frag) (C : Addr) (x q : Str) (st : Stmt) : Prop := ∃ (f : Addr) (oc : Value) (od : Option Addr) (kV dc pm : Value) (an : Option Addr) (cd ct : Value) (sl : Array (Option Value)),
  PySem.W.findIn K (.ref C) x = some (some (.ref f)) ∧ PySem.W.isFn K (.ref f) = true ∧ K.lookup f = some ⟨oc, od, .func (PySem.W.fnOf x q (defArgs st) (defBody st) (defScope st) .none kV dc pm an cd ct), sl⟩ ∧ PySem.W.codeIn K cd q = true ∧ PySem.W.keepIn K (.ref f) = true
section
variable {K : PySem.W.Frag} {C : Addr} {x q : Str} {st : Stmt}
theorem HasM.mk' {f : Addr} {oc : Value} {od : Option Addr} {kV dc pm : Value} {an : Option Addr} {cd ct : Value} {sl : Array (Option Value)}
    (a : PySem.W.findIn K (.ref C) x = some (some (.ref f))) (i : PySem.W.isFn K (.ref f) = true) (l : K.lookup f = some ⟨oc, od, .func (PySem.W.fnOf x q (defArgs st) (defBody st) (defScope st) .none kV dc pm an cd ct), sl⟩) (c : PySem.W.codeIn K cd q = true) (k : PySem.W.keepIn K (.ref f) = true) : HasM K C x q st :=
  ⟨f, oc, od, kV, dc, pm, an, cd, ct, sl, a, i, l, c, k⟩
theorem HasM.get (H : HasM K C x q st) : ∃ f fd, Fun K x q st f fd ∧ Meth K C x f := by
  obtain ⟨f, oc, od, kV, dc, pm, an, cd, ct, sl, a, i, l, c, k⟩ := H
  exact ⟨f, _, fun_mk l c k, ⟨a, i, k⟩⟩
end
end My

set_option Elab.async false
set_option linter.all false
set_option maxRecDepth 100000
set_option maxHeartbeats 1000000
/-! sorted of tuples of ints and texts, any number of them: a list's, a dict's keys. -/
namespace My
open PySem PySem.Spec PyProof.Rows L2 Evl
abbrev It1 := Int ⊕ List Nat
def itV : It1 → V
  | .inl n => .int n
  | .inr l => .str (tx l)
def shOk (sh : Nat → Bool) : Nat → List It1 → Bool
  | _, [] => true
  | i, .inl _ :: r => (!sh i) && shOk sh (i + 1) r
  | i, .inr _ :: r => sh i && shOk sh (i + 1) r
def lexT (a b : List It1) : Bool := PyProof.Rows.lexLt itemOrd a b
theorem items_of_vals (sh : Nat → Bool) : ∀ (k : List It1) (us : List Value) (i : Nat), Vals (k.map itV) us → shOk sh i k = true → tupItems sh i us = some k
  | [], us, i, r, _ => by
    cases r
    rfl
  | .inl n :: k, us, i, r, h => by
    rw [shOk, Bool.and_eq_true] at h
    rw [List.map_cons] at r
    cases r with
    | cons r1 r2 =>
      obtain ⟨t, rfl⟩ := r1
      rw [tupItems, if_neg (by rw [Bool.not_eq_true'] at h; rw [h.1]; exact Bool.false_ne_true), items_of_vals sh k _ (i + 1) r2 h.2]
      rfl
  | .inr l :: k, us, i, r, h => by
    rw [shOk, Bool.and_eq_true] at h
    rw [List.map_cons] at r
    cases r with
    | cons r1 r2 =>
      obtain ⟨t, rfl⟩ := r1
      rw [tupItems, if_pos h.1, items_of_vals sh k _ (i + 1) r2 h.2]
      rfl
/-- a tuple of the heap, its items as the shape says -/
def TP (h : Heap) (sh : Nat → Bool) (v : Value) (k : List It1) : Prop := ∃ a o xs n, v = Value.ref a ∧ h.get? a = some o ∧ o.cls = .type "tuple" ∧ o.data = .seq xs n ∧ tupItems sh 0 xs.toList = some k ∧ k ≠ []
theorem TP.key {h : Heap} {sh : Nat → Bool} {v : Value} {k : List It1} (t : TP h sh v k) : tupKey h sh v = some k := by
  obtain ⟨a, o, xs, n, rfl, ho, _, hd, hi, _⟩ := t
  simp only [tupKey, ho, hd]
  exact hi
theorem TP.keeps {h h' : Heap} {sh : Nat → Bool} {v : Value} {k : List It1} (t : TP h sh v k) (hk : ∀ b o, h.get? b = some o → o.cls = .type "tuple" → h'.get? b = some o) : TP h' sh v k := by
  obtain ⟨a, o, xs, n, e, ho, hc, r⟩ := t
  exact ⟨a, o, xs, n, e, hk _ _ ho hc, hc, r⟩
theorem TP.first {h : Heap} {sh : Nat → Bool} {v : Value} {k : List It1} (t : TP h sh v k) : ∃ f, TupOf h sh v f := by
  obtain ⟨a, o, xs, n, e, ho, hc, hd, hi, hne⟩ := t
  cases hx : xs.toList with
  | nil =>
    rw [hx] at hi
    have : k = [] := (Option.some.inj hi).symm
    exact absurd this hne
  | cons f r =>
    rw [hx] at hi
    refine ⟨f, a, o, xs, n, e, ho, hc, hd, by rw [← Array.getElem?_toList, hx]; rfl, fun h0 => ?_, fun h0 => ?_⟩
    · obtain ⟨m, t, l', rfl, _⟩ := tupItems_int h0 hi
      exact ⟨m, t, rfl⟩
    · obtain ⟨m, t, l', rfl, _⟩ := tupItems_str h0 hi
      exact ⟨m, t, rfl⟩
theorem firsts_all {h : Heap} {sh : Nat → Bool} : ∀ {vs : List Value}, (∀ v ∈ vs, ∃ k, TP h sh v k) → ∃ fs, TupsOf h sh vs fs ∧ fs.length = vs.length
  | [], _ => ⟨[], .nil, rfl⟩
  | v :: vs, hv => by
    obtain ⟨k, t⟩ := hv v (by simp)
    obtain ⟨f, tf⟩ := t.first
    obtain ⟨fs, h1, h2⟩ := firsts_all (vs := vs) fun u hu => hv u (by simp [hu])
    exact ⟨f :: fs, .cons tf h1, by rw [List.length_cons, List.length_cons, h2]⟩
def ltK (h : Heap) (sh : Nat → Bool) (v u : Value) : Bool := lexT ((tupKey h sh v).getD []) ((tupKey h sh u).getD [])
theorem swo_K (h : Heap) (sh : Nat → Bool) : SrtO.Swo (ltK h sh) := by
  refine ⟨fun x y e => ?_, fun x y z h1 h2 => ?_⟩
  · cases g : ltK h sh y x with
    | false => rfl
    | true =>
      have := lex_trans (O := itemOrd) _ _ _ e g
      rw [lex_irrefl] at this
      exact nomatch this
  · cases g : ltK h sh z x with
    | false => rfl
    | true =>
      rcases lex_negTrans (O := itemOrd) ((tupKey h sh z).getD []) ((tupKey h sh y).getD []) ((tupKey h sh x).getD []) g with q | q
      · exact absurd (h2.symm.trans q) Bool.false_ne_true
      · exact absurd (h1.symm.trans q) Bool.false_ne_true
section
variable {prog : Program} {w : World} {A : Around} {E : Value → Shared → Prop} {s : Shared}
theorem sortable_K {h0 : Heap} {sh : Nat → Bool} {a : Addr} {vs : List Value} (h2 : 0 < vs.length) (hv0 : ∀ v ∈ vs, ∃ k, TP h0 sh v k) (hk0 : ∀ b o, h0.get? b = some o → o.cls = .type "tuple" → s.heap.get? b = some o) (ha : ∀ o, s.heap.get? a = some o → o.cls ≠ .type "tuple") :
    SrtO.SortableO prog w A s a vs (ltK h0 sh) := by
  intro h' keep
  have hv : ∀ v ∈ vs, ∀ k, TP h0 sh v k → TP h' sh v k := fun v hm k t => (t.keeps hk0).keeps fun b o e c => keep b o (fun z => by subst z; exact ha o e c) e
  obtain ⟨fs, f1, f2⟩ := firsts_all (h := h') (sh := sh) (vs := vs) fun v hm => (hv0 v hm).elim fun k t => ⟨k, hv v hm k t⟩
  refine ⟨tuples' true, fun Q E hq => tup_kind (s := { s with heap := h' }) (by omega) f1 hq, ?_⟩
  intro p q hm hm'
  obtain ⟨k1, t1⟩ := hv0 _ hm
  obtain ⟨k2, t2⟩ := hv0 _ hm'
  refine tup_ltAt (s := { s with heap := h' }) (shape := sh) true A (fun _ _ => False) p.1 q.1 k1 k2 (hv _ hm _ t1).key (hv _ hm' _ t2).key ⟨rfl, ?_⟩
  show PyProof.Rows.lexLt itemOrd k1 k2 = ltK h0 sh p.1 q.1
  unfold ltK
  rw [t1.key, t2.key]
  rfl
end
theorem perm_pre {α β : Type} {f : α → β} : ∀ {l : List β} {ts : List α}, l.Perm (ts.map f) → ∃ ts' : List α, ts'.Perm ts ∧ l = ts'.map f
  | [], ts, h => by
    have := h.length_eq
    rw [List.length_map, List.length_nil] at this
    rw [List.length_eq_zero_iff.mp this.symm]
    exact ⟨[], .refl _, rfl⟩
  | b :: l, ts, h => by
    have hb : b ∈ ts.map f := h.mem_iff.mp (by simp)
    obtain ⟨t, ht, rfl⟩ := List.mem_map.mp hb
    obtain ⟨p, q, rfl⟩ := List.append_of_mem ht
    have h1 : (f t :: l).Perm (f t :: (p ++ q).map f) := h.trans (by
      rw [List.map_append, List.map_append, List.map_cons]
      exact List.perm_middle)
    obtain ⟨ts', g1, g2⟩ := perm_pre (List.Perm.cons_inv h1)
    exact ⟨t :: ts', (g1.cons t).trans List.perm_middle.symm, by rw [g2]; rfl⟩
abbrev TK := Addr × List It1
def rSortTA (K : PySem.W.Frag) : List V → Hp → VK → Prop := fun vs H Q => ∃ (a : Addr) (ts : List TK) (sh : Nat → Bool), vs = [.ref a] ∧ SqL K H a (ts.map fun t => V.ref t.1) ∧ (∀ t ∈ ts, SqT K H t.1 (t.2.map itV) ∧ shOk sh 0 t.2 = true ∧ t.2 ≠ []) ∧ ts.length ≤ 100000 ∧
  ∀ (ts' : List TK) p, ts'.Perm ts → ts'.Pairwise (fun x y => lexT y.2 x.2 = false) → H p = none → Q (.ref p) (upd H p (.lst (ts'.map fun t => V.ref t.1)))
def kI : Key → It1
  | .inl i => .inl i
  | .inr x => .inr x.cps.toList
theorem kI_V (k : Key) : itV (kI k) = kV k := by cases k <;> rfl
/-- sorted(d), d's keys tuples -/
def rSortTD : List V → Hp → VK → Prop := fun vs H Q => ∃ (a : Addr) (kvs : List (List Key × V)) (sh : Nat → Bool), vs = [.ref a] ∧ Rd H a (.dT kvs) ∧ (∀ t ∈ kvs, shOk sh 0 (t.1.map kI) = true ∧ t.1 ≠ []) ∧ kvs.length ≤ 100000 ∧
  ∀ (ts' : List TK) p, (ts'.map (·.2)).Perm (kvs.map fun t => t.1.map kI) → ts'.Pairwise (fun x y => lexT y.2 x.2 = false) → (∀ t ∈ ts', H t.1 = some (.tup (t.2.map itV))) → H p = none → Q (.ref p) (upd H p (.lst (ts'.map fun t => V.ref t.1)))
section
variable {X : Cx}
theorem vals_refT : ∀ {ts : List TK} {us : List Value}, Vals (ts.map fun t => V.ref t.1) us → us = ts.map fun t => Value.ref t.1
  | [], _, .nil => rfl
  | p :: ks, _, .cons r t => by
    cases r
    rw [vals_refT t] <;> rfl
theorem vals_refT' : ∀ ts : List TK, Vals (ts.map fun t => V.ref t.1) (ts.map fun t => Value.ref t.1)
  | [] => .nil
  | _ :: r => .cons rfl (vals_refT' r)
theorem tp_of {pins : List (Addr × Obj)} {σ : L2.St} {H : Hp} {s : Shared} {sh : Nat → Bool} {t : TK} (I : Inv X pins σ H s) (h : SqT X.K H t.1 (t.2.map itV)) (h1 : shOk sh 0 t.2 = true) (h2 : t.2 ≠ []) : TP s.heap sh (.ref t.1) t.2 := by
  obtain ⟨its, r, ⟨o, ho, hc, n, hd⟩, _⟩ := I.tuple h
  exact ⟨_, o, its.toArray, n, rfl, ho, hc, hd, items_of_vals sh _ _ 0 r h1, h2⟩
theorem cr_sortedTA : CallR X (.builtin "sorted") (rSortTA X.K) := by
  intro pins s σ H vs us Q I r h
  obtain ⟨a, ts, sh, rfl, hs, ht, hn, q⟩ := h
  rw [Vals.ref1 r]
  obtain ⟨its, rv, hl, hz⟩ := I.list hs
  have ei := vals_refT rv
  have tp : ∀ t ∈ ts, TP s.heap sh (.ref t.1) t.2 := fun t hm => tp_of I (ht t hm).1 (ht t hm).2.1 (ht t hm).2.2
  have hall : ∀ v ∈ its, ∃ k, TP s.heap sh v k := fun v hv => by
    rw [ei] at hv
    obtain ⟨t, hm, rfl⟩ := List.mem_map.mp hv
    exact ⟨_, tp t hm⟩
  refine SrtO.sorted_ord (swo_K s.heap sh) hl.isList (by rw [ei, List.length_map]; exact sz_of hn) (fun h2 h₁ b hb kk => ?_) fun out hs' hb => ?_
  · refine sortable_K (s := { s with heap := h₁ }) (by omega) hall (fun c o e _ => (kk c o e).2) fun o e => ?_
    have e' : some o = some (seqObj "list" its.toArray 0) := e.symm.trans hb
    cases e'
    intro c
    exact absurd (Value.type.inj c) (by decide)
  · obtain ⟨ts', p1, p2⟩ := perm_pre (show out.Perm (ts.map fun t : TK => Value.ref t.1) by rw [← ei]; exact hb.perm)
    obtain ⟨ep, hat⟩ := sortedAll_at s.heap its out.toArray
    refine ⟨.ref _, upd H (s.heap.objs.size + 1) (.lst (ts'.map fun t => V.ref t.1)), I.laid (t' := s.toks) (fun _ _ => sortedAll_old) (Nat.le_succ _) ⟨?_, out, ep, ?_, hat⟩, rfl, q ts' _ p1 ?_ (I.hok.fresh (Nat.le_succ _))⟩
    · rw [List.length_map, p1.length_eq]
      exact sz_of hn
    · rw [p2]
      exact vals_refT' ts'
    · have hp : (ts'.map fun t : TK => Value.ref t.1).Pairwise (fun x y => ltK s.heap sh y x = false) := by rw [← p2]; exact hs'
      rw [List.pairwise_map] at hp
      refine hp.imp_of_mem fun {x y} hx hy e => ?_
      have tx' := tp x (p1.mem_iff.mp hx)
      have ty' := tp y (p1.mem_iff.mp hy)
      unfold ltK at e
      rw [tx'.key, ty'.key] at e
      exact e
theorem cr_sortedTD (hcalm : X.calm = true) : CallR X (.builtin "sorted") rSortTD := by
  intro pins s σ H vs us Q I r h
  obtain ⟨d, kvs, sh, rfl, hd, ht, hn, q⟩ := h
  rw [Vals.ref1 r]
  obtain ⟨z, hs, ks, pr, o, es, ep, ho, hx, hdt, he, hnd⟩ := (show ObjOk X.prog X.w H s.heap d (.dT kvs) from hd.ok I.hok)
  have l1 : es.size = ks.length := size_of_entries he
  have l2 : kvs.length = ks.length := Paired.length pr
  refine Calls.call_function_entry kind_sorted plain_sorted entry_sorted (args_sorted1 _) ?_
  unfold Builtin.«sorted»
  refine wpAny_bind (m := checkCount "sorted" 1 1 _) (wpAny_pure ?_)
  refine wpAny_bind (PySem.W.kdu_collect (A := X.A.in1) (kdl_raw hs hx hdt) (I.ok.hd hcalm) ho (by omega) fun h' tk acc' kp it => ?_)
  have ea : acc'.toList = ks.map fun x => Value.ref x.2.1 := by
    have hl : acc'.toList.length = ks.length := by rw [Array.length_toList, it.1]; exact l1
    apply List.ext_getElem?
    intro j
    rw [List.getElem?_map]
    cases hj : acc'.toList[j]? with
    | none =>
      have h1 := List.getElem?_eq_none_iff.mp hj
      rw [List.getElem?_eq_none (by omega)]
      all_goals rfl
    | some v =>
      obtain ⟨en, hen, hv⟩ := it.2 j v (by rw [← Array.getElem?_toList]; exact hj)
      have qe := entry_at he j
      rw [hen] at qe
      cases hb : ks[j]? with
      | none =>
        rw [hb] at qe
        exact nomatch (show some en = none from qe)
      | some b =>
        rw [hb] at qe
        have e2 : en = entryOfKey (tupleKind (mixKind X.prog X.w)) b := Option.some.inj qe
        rw [hv, e2]
        all_goals rfl
  have I1 : Inv X pins σ H { s with heap := h', toks := tk } := I.kept kp
  -- the pairs (key's place, key)
  have tk0 : ∀ {l : List (List Key × V)} {m : List (List Key × Addr × Value)}, Paired (fun (p : List Key × V) (q : List Key × Addr × Value) => p.1 = q.1 ∧ H q.2.1 = some (.tup (p.1.map kV)) ∧ RelV p.2 q.2.2) l m → (∀ t ∈ l, shOk sh 0 (t.1.map kI) = true ∧ t.1 ≠ []) →
      ∃ ts : List TK, (m.map fun x => Value.ref x.2.1) = ts.map (fun t => Value.ref t.1) ∧ ts.map (·.2) = l.map (fun t => t.1.map kI) ∧ ∀ t ∈ ts, H t.1 = some (.tup (t.2.map itV)) ∧ shOk sh 0 t.2 = true ∧ t.2 ≠ [] := by
    intro l m q
    induction q with
    | nil => intro _; exact ⟨[], rfl, rfl, fun t h => absurd h (by simp)⟩
    | @cons p q ps qs hq t ih =>
      intro hl
      obtain ⟨ts, a1, a2, a3⟩ := ih fun t ht => hl t (by simp [ht])
      have hp := hl p (by simp)
      refine ⟨(q.2.1, p.1.map kI) :: ts, by rw [List.map_cons, List.map_cons, a1], by rw [List.map_cons, List.map_cons, a2], fun t ht => ?_⟩
      rcases List.mem_cons.mp ht with rfl | ht
      · refine ⟨?_, hp.1, fun e => hp.2 (List.map_eq_nil_iff.mp e)⟩
        show H q.2.1 = _
        rw [hq.2.1, List.map_map]
        congr 2
        exact List.map_congr_left fun k _ => (kI_V k).symm
      · exact a3 t ht
  obtain ⟨ts, e1, e2, e3⟩ := tk0 pr ht
  have ei : acc'.toList = ts.map fun t => Value.ref t.1 := by rw [ea, e1]
  have hlen : acc'.toList.length ≤ sizeLine := by rw [ea, List.length_map]; omega
  refine wpAny_bind (wpAny_newList ?_ hlen)
  have hoL : (h'.push (seqObj "list" acc'.toList.toArray 0)).get? h'.objs.size = some (seqObj "list" acc'.toList.toArray 0) := Heap.get?_push_size _ rfl
  have tp : ∀ t ∈ ts, TP h' sh (.ref t.1) t.2 := fun t hm => tp_of (X := X) (s := { s with heap := h', toks := tk }) I1 (st_of (e3 t hm).1) (e3 t hm).2.1 (e3 t hm).2.2
  have hall : ∀ v ∈ acc'.toList, ∃ k, TP h' sh v k := fun v hv => by
    rw [ei] at hv
    obtain ⟨t, hm, rfl⟩ := List.mem_map.mp hv
    exact ⟨_, tp t hm⟩
  show wpAny _ _ _ _ _ { s with heap := h'.push (seqObj "list" acc'.toList.toArray 0), toks := tk }
  refine wpAny_bind (wpAny_holding (wpAny_call_entry slot_list_sort ⟨_, hoL, rfl⟩ entry_list_sort
    (SrtO.list_sort_ord (s := { s with heap := h'.push (seqObj "list" acc'.toList.toArray 0), toks := tk }) (swo_K h' sh) hoL hlen (fun h2 => ?_) fun out hs' hb => ⟨_, rfl, ?_⟩)
    (args_list_sort _)))
  · refine sortable_K (by omega) hall (fun c o e _ => Heap.get?_push_of_some _ e) fun o e => ?_
    have e' : some o = some (seqObj "list" acc'.toList.toArray 0) := e.symm.trans hoL
    cases e'
    intro c
    exact absurd (Value.type.inj c) (by decide)
  · obtain ⟨ts', p1, p2⟩ := perm_pre (show out.Perm (ts.map fun t : TK => Value.ref t.1) by rw [← ei]; exact hb.perm)
    obtain ⟨e', he'⟩ := sortedHeap_at (vs := acc'.toList) (out := out.toArray) hoL
    refine wpAny_pure ⟨_, rfl, .ref h'.objs.size, upd H h'.objs.size (.lst (ts'.map fun t => V.ref t.1)), I1.laid (t' := tk) (fun b u e => ?_) (Nat.le_refl _)
      (show ObjOk X.prog X.w _ _ _ (.lst (ts'.map fun t => V.ref t.1)) from ⟨?_, out, e', ?_, he'⟩), rfl, q ts' _ ?_ ?_ (fun t hm => (e3 t (p1.mem_iff.mp hm)).1) (I1.hok.fresh (Nat.le_refl _))⟩
    · have hb : b < h'.objs.size := Heap.lt_size e
      rw [sortedHeap_old (Nat.ne_of_lt hb) (by rw [size_push']; exact Nat.lt_succ_of_lt hb)]
      exact Heap.get?_push_of_some _ e
    · rw [List.length_map, p1.length_eq]
      have := congrArg List.length ei
      rw [List.length_map] at this
      omega
    · rw [p2]
      exact vals_refT' ts'
    · rw [← e2]
      exact p1.map _
    · have hp : (ts'.map fun t : TK => Value.ref t.1).Pairwise (fun x y => ltK h' sh y x = false) := by rw [← p2]; exact hs'
      rw [List.pairwise_map] at hp
      refine hp.imp_of_mem fun {x y} hx hy e => ?_
      have tx' := tp x (p1.mem_iff.mp hx)
      have ty' := tp y (p1.mem_iff.mp hy)
      unfold ltK at e
      rw [tx'.key, ty'.key] at e
      exact e
end
/-! the one order of the contents -/
def sortK (l : List (List It1)) : List (List It1) := l.mergeSort fun a b => !lexT b a
theorem sortK_unique {xs ys : List (List It1)} (h1 : xs.Perm ys) (h2 : xs.Pairwise fun a b => lexT b a = false) : xs = sortK ys := by
  have hp : (sortK ys).Perm ys := List.mergeSort_perm ys _
  have hs : (sortK ys).Pairwise fun a b => lexT b a = false := by
    have := List.pairwise_mergeSort (le := fun a b => !lexT b a) (fun a b c h g => by
      rw [Bool.not_eq_true'] at h g ⊢
      cases e : lexT c a with
      | false => rfl
      | true =>
        rcases lex_negTrans (O := itemOrd) c b a e with q | q
        · exact absurd (g.symm.trans q) Bool.false_ne_true
        · exact absurd (h.symm.trans q) Bool.false_ne_true) (fun a b => by
      cases e : lexT b a with
      | false => rfl
      | true =>
        cases f : lexT a b with
        | false => rfl
        | true =>
          have := lex_trans (O := itemOrd) _ _ _ e f
          rw [lex_irrefl] at this
          exact nomatch this) ys
    exact this.imp fun h => by rwa [Bool.not_eq_true'] at h
  have uniq : ∀ {xs ys : List (List It1)}, xs.Pairwise (fun a b => lexT b a = false) → ys.Pairwise (fun a b => lexT b a = false) → xs.Perm ys → xs = ys := by
    intro xs
    induction xs with
    | nil => intro ys _ _ h; exact h.nil_eq
    | cons x xs ih =>
      intro ys ha hb h
      cases ys with
      | nil => exact absurd h.length_eq (by simp)
      | cons y ys =>
        rw [List.pairwise_cons] at ha hb
        have e : x = y := by
          have hx : x ∈ y :: ys := h.mem_iff.mp (by simp)
          have hy : y ∈ x :: xs := h.mem_iff.mpr (by simp)
          rcases List.mem_cons.mp hx with e | hx
          · exact e
          · rcases List.mem_cons.mp hy with e | hy
            · exact e.symm
            · exact lex_total (O := itemOrd) x y (hb.1 x hx) (ha.1 y hy)
        subst e
        rw [ih ha.2 hb.2 (List.Perm.cons_inv h)]
  exact uniq h2 hs (h1.trans hp.symm)
end My

set_option Elab.async false
set_option linter.all false
set_option maxRecDepth 100000
set_option maxHeartbeats 1000000
/-! t[::-1] of a tuple; d[k] = v by a comprehension with tuple keys. -/
namespace My
open PySem PySem.Spec PyProof.Rows L2 Evl
section
variable {prog : Program} {w : World} {A : Around} {E : Value → Shared → Prop} {s : Shared}
theorem fm_congr {α β : Type} {f g : α → Option β} : ∀ (l : List α), (∀ x ∈ l, f x = g x) → l.filterMap f = l.filterMap g
  | [], _ => rfl
  | a :: l, h => by
    rw [List.filterMap_cons, List.filterMap_cons, h a (by simp), fm_congr l fun x hx => h x (by simp [hx])]
theorem pick_back (xs : Array Value) : ((List.range xs.size).filterMap fun (m : Nat) => xs[(((xs.size : Int) - 1) + (m : Int) * (-1)).toNat]?).toArray = xs.toList.reverse.toArray := by
  have e : (List.range xs.size).filterMap (fun (m : Nat) => xs[(((xs.size : Int) - 1) + (m : Int) * (-1)).toNat]?) = xs.toList.reverse := by
    have e1 : (List.range xs.size).filterMap (fun (m : Nat) => xs[(((xs.size : Int) - 1) + (m : Int) * (-1)).toNat]?) = (List.range xs.size).filterMap (fun (m : Nat) => xs.toList.reverse[m]?) := by
      refine fm_congr _ fun m hm => ?_
      have := List.mem_range.mp hm
      rw [List.getElem?_reverse (by rw [Array.length_toList]; exact this), Array.length_toList, Array.getElem?_toList]
      congr 1
      omega
    rw [e1]
    have h : ∀ (l : List Value) (n : Nat), n = l.length → (List.range n).filterMap (fun (m : Nat) => l[m]?) = l := by
      intro l n hn
      subst hn
      induction l with
      | nil => rfl
      | cons a r ih =>
        rw [List.length_cons, List.range_succ_eq_map, List.filterMap_cons]
        show a :: _ = _
        rw [List.filterMap_map]
        exact congrArg (a :: ·) ih
    exact h _ _ (by rw [List.length_reverse, Array.length_toList])
  rw [e]
theorem getItem_tuple_back {t sl : Addr} {items : Array Value} {vl vu vs : Value} {Q : Value → Shared → Prop} (ht : IsTup s.heap t items) (hs : s.heap.IsSliceOf sl vl vu vs) (pl : IsPart vl none) (pu : IsPart vu none) (ps : IsPart vs (some (-1)))
    (h : Q (.ref s.heap.objs.size) { s with heap := s.heap.push { cls := .type "tuple", data := .seq items.toList.reverse.toArray } })
    (hsz : items.size ≤ sizeLine) : wpAny (model prog w) A (getItem (.ref t) (.ref sl)) Q E s := by
  have htake : sizeOk (.seq items.toList.reverse.toArray) := by
    show items.toList.reverse.toArray.size ≤ sizeLine
    rw [List.size_toArray, List.length_reverse, Array.length_toList]
    exact hsz
  obtain ⟨os, hos, hcs, hds⟩ := id hs
  have hTs : s.TypeIs (.ref sl) "slice" := ⟨os, hos, hcs⟩
  unfold getItem
  try with_reducible refine wpAny_holding ?_
  first | refine wpAny_bind (wpAny_pure ?_) | skip
  refine wpAny_bind (wpAny_sequenceKey ht.typeIs (by decide) ?_)
  refine wpAny_bind (wpAny_callSpecial?_slot (name := Str.ofString "__getitem__") ht.typeIs PyProof.Rows.slot_tuple_getitem
    (wpAny_call_entry PyProof.Rows.slot_tuple_getitem ht.typeIs entry_tuple_getitem ?_ (args_tuple_getitem _ _)))
  show wpAny _ _ (Builtin.Tuple.tupleItemsOf (.ref t) >>= _) _ _ s
  refine wpAny_bind (tupleItemsOf_ ht ?_)
  refine wpAny_bind (wpAny_typeOf hTs ?_)
  rw [if_pos (by decide)]
  have hap : ∀ {Q : Int × Int × Nat → Shared → Prop} {A : Around} {E : Value → Shared → Prop}, Q ((items.size : Int) - 1, -1, items.size) s → wpAny (model prog w) A (Builtin.Slice.sliceApplied (.ref sl) (pure (items.size : Int))) Q E s := by
    intro Q A E q
    unfold Builtin.Slice.sliceApplied Builtin.Slice.sliceFields
    refine wpAny_bind (wpAny_bind (wpAny_field hos hds (x := vl) rfl (wpAny_bind (wpAny_field hos hds (x := vu) rfl (wpAny_bind (wpAny_field hos hds (x := vs) rfl (wpAny_pure ?_)))))))
    refine wpAny_bind (HT.slicePart_ ps ?_)
    show wpAny _ _ (if ((-1 : Int) == 0) = true then _ else _) _ _ s
    rw [if_neg (by decide)]
    refine wpAny_bind (HT.slicePart_ pl (wpAny_bind (HT.slicePart_ pu (wpAny_bind (wpAny_pure ?_)))))
    show wpAny _ _ (match Builtin.Slice.sliceAdjust none none (-1) (items.size : Int) with | (lo, hi) => pure (lo, (-1 : Int), Builtin.Slice.slicePlaces lo hi (-1))) _ _ s
    have e : Builtin.Slice.sliceAdjust none none (-1) (items.size : Int) = ((items.size : Int) - 1, -1) := by
      unfold Builtin.Slice.sliceAdjust
      simp
    rw [e]
    show wpAny _ _ (pure ((items.size : Int) - 1, (-1 : Int), Builtin.Slice.slicePlaces ((items.size : Int) - 1) (-1) (-1))) _ _ s
    have e2 : Builtin.Slice.slicePlaces ((items.size : Int) - 1) (-1) (-1) = items.size := by
      unfold Builtin.Slice.slicePlaces
      have h1 : ¬ ((-1 : Int) > 0) := by omega
      have h2 : (- -1 : Int) = 1 := by decide
      simp only [h1, if_false, h2, Int.ediv_one]
      split <;> omega
    rw [e2]
    exact wpAny_pure q
  refine wpAny_bind (hap ?_)
  show wpAny _ _ (if (((items.size : Int) - 1) == 0 && (-1 : Int) == 1 && items.size == items.size) = true then _ else _) _ _ s
  rw [if_neg (by rw [show ((-1 : Int) == 1) = false by decide, Bool.and_false, Bool.false_and]; exact Bool.false_ne_true), pick_back]
  first
    | exact wpAny_bind (m := Builtin.Tuple.tupleExact _) (wpAny_newObj_type (wpAny_pure ⟨_, rfl, wpAny_pure h⟩) htake)
    | exact wpAny_bind (m := Builtin.Tuple.tupleExact _) (wpAny_newObj_type (wpAny_bind (wpAny_pure (wpAny_pure ⟨_, rfl, wpAny_pure h⟩))) htake)
    | exact wpAny_bind (wpAny_bind (m := Builtin.Tuple.tupleExact _) (wpAny_newObj_type (wpAny_pure (wpAny_pure ⟨_, rfl, wpAny_pure h⟩)) htake))
    | exact wpAny_bind (wpAny_bind (m := Builtin.Tuple.tupleExact _) (wpAny_newObj_type (wpAny_pure ⟨_, rfl, wpAny_pure h⟩) htake))
end
section
variable {X : Cx}
def tRevT (K : PySem.W.Frag) (te : TE) : TE := fun σ H Q => te σ H fun x H1 => ∃ a xs, x = .ref a ∧ SqT K H1 a xs ∧ ∀ p, H1 p = none → Q (.ref p) (upd H1 p (.tup xs.reverse))
theorem pe_revT {e : Expr} {te : TE} {k : Nat} {p1 p2 p3 pos : Pos} (he : PE X e te) : PE X (.Subscript e (.Slice none none (some (.UnaryOp .USub (.Constant (.int 1) k p1) p2)) p3) pos) (tRevT X.K te) := by
  refine ⟨fun pins s σ H Q I h => ?_⟩
  refine Subscript_ (thn (he.run pins s σ H _ I h) fun v s1 ⟨x, H1, I1, r1, q1⟩ => ?_)
  obtain ⟨a, xs, ex, hx, q⟩ := q1
  subst ex
  cases r1
  have hst : PO X (some (.UnaryOp .USub (.Constant (.int 1) k p1) p2)) (tPart (tUn (rU fun i => .int (-i)) (tC (.int 1)))) := po_some (pe_un un_neg pe_int)
  refine wpAny_Slice (thn (po_none.run pins s1 σ H1 (fun o H2 => o = none ∧ H2 = H1) I1 ⟨rfl, rfl⟩) fun vl s2 ⟨l, H2, I2, pl, el, e2⟩ => ?_)
  subst el e2
  refine thn (po_none.run pins s2 σ H2 (fun o H3 => o = none ∧ H3 = H2) I2 ⟨rfl, rfl⟩) fun vu s3 ⟨u, H3, I3, pu, eu, e3⟩ => ?_
  subst eu e3
  refine thn (hst.run pins s3 σ H3 (fun o H4 => o = some (-1) ∧ H4 = H3) I3 ⟨1, rfl, -1, rfl, rfl, rfl⟩) fun vs s4 ⟨o, H4, I4, ps, eo, e4⟩ => ?_
  subst eo e4
  have I5 : Inv X pins σ H4 { s4 with heap := s4.heap.push { cls := .type "slice", data := .fields #[vl, vu, vs] } } := I4.kept (t' := s4.toks) fun b ob q => Heap.get?_push_of_some _ q
  obtain ⟨its, r, ht, hz⟩ := I5.tuple hx
  have hlen := r.length
  show wpAny (model X.prog X.w) X.A (subscriptTail e (.Slice none none (some (.UnaryOp .USub (.Constant (.int 1) k p1) p2)) p3) (.ref a) (.ref s4.heap.objs.size)) (EP X pins σ Q) X.xe { s4 with heap := s4.heap.push { cls := .type "slice", data := .fields #[vl, vu, vs] } }
  refine tail_any (ops := [.ref a, .ref s4.heap.objs.size]) ht.typeIs (PyProof.Rows.slot_tuple_getitem.lookup) ?_ (by with_unfolding_all rfl)
  refine getItem_tuple_back ht (Heap.IsSliceOf.new _ vl vu vs) pl pu ps ?_ (by rw [List.size_toArray]; omega)
  refine ⟨.ref _, _, I5.laid (t' := s4.toks) (o := .tup xs.reverse) (fun b ob q => Heap.get?_push_of_some _ q) (Nat.le_refl _) ?_, rfl, q _ (I5.hok.fresh (Nat.le_refl _))⟩
  exact ⟨by rw [List.length_reverse]; exact hz, _, r.reverse, IsTup.new _ _⟩
end
end My

set_option Elab.async false
set_option linter.all false
set_option maxRecDepth 100000
set_option maxHeartbeats 1000000
/-! dict comprehensions whose keys are tuples (the statement and its proof go as HandS.DictComp's). -/
namespace My
open PySem PySem.Spec PyProof.Rows L2 Evl
theorem d_dictSetT {X : Cx} {pins : List (Addr × Obj)} {σ : L2.St} {H : Hp} {s : Shared} {E : Value → Shared → Prop} {D b : Addr} {kvs : List (List Key × V)} {k : List Key} {v : V} {u r : Value} {Q : Unit → Shared → Prop} (hu : X.A.units + 1 < cLine) (I : Inv X pins σ H s) (hD : H D = some (.dT kvs))
    (hb : H b = some (.tup (k.map kV))) (hz : kvs.length < sizeLine) (ry : RelV (.ref b) u) (rv : RelV v r) (h : ∀ s', Inv X pins σ (upd H D (.dT (putK kvs k v))) s' → Q () s') : wpAny (model X.prog X.w) X.A (dictSet D u r) Q E s := by
  cases (show u = Value.ref b from ry)
  obtain ⟨z, hd, xs, rel, dd⟩ := dt_of I.hok hD
  have hz : xs.length ≤ sizeLine := by rw [← Paired.length rel]; exact z
  have hl : (putK kvs k v).length ≤ sizeLine := by have := length_putK kvs k v; omega
  refine wpAny_dictSet_heap (hsz := hz) (show X.A.units < cLine by omega) (key_of I.hok hb) dd fun h' dd' hs => h _ ?_
  obtain ⟨q, es, ep, hq, h2, h3, h4, _, h5⟩ := dd'
  refine d_write I (by rw [hD]; exact True.intro) hs ⟨q, hq⟩ ⟨hl, hd, _, (rel.put k hb rv).keeps fun c ys ec => ?_, q, es, ep, hq, h2, h3, h4, h5⟩
  rw [upd_ne (ne_of ec hD (fun z => nomatch z))]
  exact ec
section
variable {X : Cx}
def tDcT (wi : TI) (g : TG) (tt : TT) (tk tv : TE) (vs : List Nat) : TE := fun σ H Q => wi σ H fun J H1 => ∀ D, H1 D = none → ∃ W : Nat → Nat → Hp → Prop, (∃ m, W 0 m (upd H1 D (.dT []))) ∧ ∀ i m H, W i m H →
  (J.stop i H ∧ Q (.ref D) H) ∨ (J.go i H ∧ ∃ Nx : Hp → Prop, (∀ H', Nx H' → ∃ m', m' < m ∧ W (i + 1) m' H') ∧ ∀ x H', J.yld i H x H' → g x (wipe σ vs) H' fun σ2 H2 => wipe σ2 vs = wipe σ vs ∧ tt σ2 H2 fun b H3 =>
    if b = true then tk σ2 H3 fun y H4 => tv σ2 H4 fun z H5 => ∃ kvs k kb, y = .ref kb ∧ H5 kb = some (.tup (k.map kV)) ∧ H5 D = some (.dT kvs) ∧ kvs.length < sizeLine ∧ Nx (upd H5 D (.dT (putK kvs k z))) else Nx H3)
theorem dct_core {pins : List (Addr × Obj)} {s : Shared} {σ : L2.St} {H : Hp} {Q : VK} {kx vx tg iter : Expr} {ifs : List Expr} {scope : Scope} {own : List (Str × Nat)} {pos pos' : Pos} {wi : TI} {g : TG} {tt : TT} {tk tv : TE} {use : Option (Value → Sem Unit)} {Qf : Value → Shared → Prop}
    (hu : X.A.units + 1 < cLine) (hc : X.calm = true) (hN : X.N.Nodup) (I : Inv X pins σ H s) (hi : PI X tg iter wi) (ok : BlkOk X.N X.env.scope scope own)
    (hg : ∀ (s : Shared) (H : Hp) (C : Addr) (cl : List (Str × Addr)) (fp : List Addr), PG (X.blk s H scope (compEnvC scope cl C X.env) fp) tg g) (ht : ∀ (s : Shared) (H : Hp) (C : Addr) (cl : List (Str × Addr)) (fp : List Addr), PTs (X.blk s H scope (compEnvC scope cl C X.env) fp) ifs tt)
    (hk : ∀ (s : Shared) (H : Hp) (C : Addr) (cl : List (Str × Addr)) (fp : List Addr), PE (X.blk s H scope (compEnvC scope cl C X.env) fp) kx tk)
    (he : ∀ (s : Shared) (H : Hp) (C : Addr) (cl : List (Str × Addr)) (fp : List Addr), PE (X.blk s H scope (compEnvC scope cl C X.env) fp) vx tv) (hs : ∀ x, foldedSetIterable iter X.env x = pure x)
    (h : tDcT wi g tt tk tv (own.map (·.2)) σ H Q)
    (hRR : ∀ D C s' m H', Inv X pins σ H' s' → Q (.ref D) H' → s'.heap.Ns C m → FpOk X pins H' C → compPost (model X.prog X.w) X.A X.xe use Qf (.ref D) C (.ok .next) s') :
    wpAny (model X.prog X.w) X.A (comprehension (.DictComp kx vx [⟨tg, iter, ifs, 0⟩] scope pos) scope X.env pos' newDict false (eval iter X.env) use) Qf X.xe s := by
  have hfree : ∀ y ∈ scope.names, y.2 = .free → ∃ c, X.env.cells.lookup y.1 = some c := fun y hy e => by
    rcases ok.free y hy e with k | k
    · exact I.ok.has _ (.inl k)
    · exact I.ok.has _ (.inr k)
  refine wpAny_comprehension_free (use := use) rfl hs (closure_ok hfree) ok.kind (fun y hy e => by rw [ok.uniq y hy, e])
    (thn (hi.run pins s σ H _ I h) fun xv s1 hx => thn hx fun itv s2 h2 => ?_)
  obtain ⟨it, fp, tn, J, H2, e, I2, T, st2, f2, q⟩ := h2
  subst e
  refine wpAny_newObj_type (newEnv_comp ?_)
  generalize hD : s2.heap.objs.size = D
  have hDn : H2 D = none := I2.hok.fresh (Nat.le_of_eq hD)
  obtain ⟨W, ⟨m0, w0⟩, turn⟩ := q D hDn
  -- the new list
  generalize hs3 : ({ s2 with heap := s2.heap.push { cls := .type "dict", data := .dict #[] } } : Shared) = s3
  have I3 : Inv X pins σ (upd H2 D (.dT [])) s3 := by
    rw [← hs3]
    refine I2.laid (t' := s2.toks) (fun b o e => Heap.get?_push_of_some _ e) (Nat.le_of_eq hD) ?_
    rw [← hD]
    exact dt_empty s2.heap I2.big
  have h3 : s3.heap = s2.heap.push { cls := .type "dict", data := .dict #[] } := by rw [← hs3]
  have sz : ∀ b ∈ fp, b < s2.heap.objs.size := fun b hb => by
    obtain ⟨o, e, _⟩ := T.obj _ _ st2 b hb
    exact Heap.lt_size e
  have f3 : ∀ b ∈ fp, FpOk X pins (upd H2 D (.dT [])) b ∧ b < s3.heap.objs.size := fun b hb => by
    have hlt := sz b hb
    refine ⟨⟨?_, (f2 b hb).2⟩, by rw [h3, Heap.size_push]; exact Nat.lt_succ_of_lt hlt⟩
    rw [upd_ne (by rw [← hD]; exact Nat.ne_of_lt hlt)]
    exact (f2 b hb).1
  have st3 : tn 0 s3.heap := T.keep _ _ _ st2 fun b _ o e => by rw [h3]; exact Heap.get?_push_of_some _ e
  have I4 := block_start I3 ok hN f3
  have pg := hg s3 (upd H2 D (.dT [])) s3.heap.objs.size (cellsFrom (s3.heap.objs.size + 1) scope.names (cloFrom X.env.cells scope.names [])) fp
  have pt := ht s3 (upd H2 D (.dT [])) s3.heap.objs.size (cellsFrom (s3.heap.objs.size + 1) scope.names (cloFrom X.env.cells scope.names [])) fp
  have pk := hk s3 (upd H2 D (.dT [])) s3.heap.objs.size (cellsFrom (s3.heap.objs.size + 1) scope.names (cloFrom X.env.cells scope.names [])) fp
  have pe := he s3 (upd H2 D (.dT [])) s3.heap.objs.size (cellsFrom (s3.heap.objs.size + 1) scope.names (cloFrom X.env.cells scope.names [])) fp
  show codeAny _ _ (.compStart (.DictComp kx vx [⟨tg, iter, ifs, 0⟩] scope pos) 0 (.ref it) (.ref D) (compEnvC scope (cellsFrom (s3.heap.objs.size + 1) scope.names (cloFrom X.env.cells scope.names [])) s3.heap.objs.size X.env)) (compPost (model X.prog X.w) X.A X.xe use Qf (.ref D) s3.heap.objs.size) { s3 with heap := pushCells (s3.heap.push { cls := .type "dict", data := .dict #[] }) scope.names }
  have nfp : ∀ b ∈ fp, (upd H2 D (.dT [])) b = none := fun b hb => (f3 b hb).1.1
  generalize hce : compEnvC scope (cellsFrom (s3.heap.objs.size + 1) scope.names (cloFrom X.env.cells scope.names [])) s3.heap.objs.size X.env = ce at I4 pg pt pk pe ⊢
  have cL : ce.locals = s3.heap.objs.size := by subst hce; rfl
  generalize hH3 : upd H2 D (.dT []) = H3 at I3 I4 pg pt pk pe w0 nfp f3
  generalize hs4 : ({ s3 with heap := pushCells (s3.heap.push { cls := .type "dict", data := .dict #[] }) scope.names } : Shared) = s4 at I4 ⊢
  have st4 : tn 0 s4.heap := T.keep _ _ _ st3 fun b _ o e => by rw [← hs4]; exact pushCells_keeps _ _ _ _ (Heap.get?_push_of_some _ e)
  have stat : ∀ {σ' : L2.St} {H' : Hp} {s' : Shared}, Inv (X.blk s3 H3 scope ce fp) [] σ' H' s' → (∀ b ∈ fp, H' b = none) → ∀ b ∈ fp, FpOk (X.blk s3 H3 scope ce fp) [] H' b := fun {σ' H' s'} I' hn b hb =>
    ⟨hn b hb, (I'.ok.exf b hb).1, I'.ok.exfs b hb, .inl hb, fun x c e => (I'.ok.exf b hb).2 x c e, fun p hp => absurd (show p ∈ ([] : List (Addr × Obj)) ++ [] from hp) (by simp)⟩
  have loop : codeAny (model X.prog X.w) X.A (.compLoop (.DictComp kx vx [⟨tg, iter, ifs, 0⟩] scope pos) 0 (.ref it) (.ref D) ce) (compPost (model X.prog X.w) X.A X.xe use Qf (.ref D) s3.heap.objs.size) s4 := by
    refine compLoop_anyD (fun n s' => ∃ i H', Inv (X.blk s3 H3 scope ce fp) [] (wipe σ (own.map (·.2))) H' s' ∧ tn i s'.heap ∧ (∀ b ∈ fp, H' b = none) ∧ W i n H') ?_ m0 ⟨0, H3, I4, st4, nfp, w0⟩
    rintro n s5 ⟨i, H5, I5, st5, n5, w5⟩
    rcases turn i n H5 w5 with ⟨stop, qq⟩ | ⟨go, Nx, hNx, step⟩
    · have td := T.done (X.blk s3 H3 scope ce fp) rfl rfl rfl hc i [] s5 _ H5 (fun _ _ => False) I5 (stat I5 n5) st5 stop
      refine thnF td fun r s6 ⟨hr, I6⟩ => ?_
      subst hr
      -- back in the def's context
      have I7 : Inv X pins σ H5 s6 := I3.call' (ch := fp) I6.os I6.base I6.hok I6.bare fun b hb => ⟨(f3 b hb).1.2.2.2.1, (f3 b hb).1.2.1, (f3 b hb).1.2.2.2.2.1, (f3 b hb).1.2.2.2.2.2⟩
      have nC : H5 s3.heap.objs.size = none := by
        have z : H5 ce.locals = none := I6.free
        rw [cL] at z
        exact z
      obtain ⟨m, hn, _⟩ := I6.loc
      have hn : s6.heap.Ns ce.locals m := hn
      rw [cL] at hn
      exact hRR D s3.heap.objs.size s6 m H5 I7 qq hn (I3.fpOk (Nat.le_refl _) nC)
    · have ti := T.item (X.blk s3 H3 scope ce fp) rfl rfl rfl hc i [] s5 _ H5 (fun _ _ => False) I5 (stat I5 n5) st5 go
      refine thnF ti fun r s6 ⟨u, hr, h6⟩ => ?_
      subst hr
      refine thnF h6 fun _ s7 ⟨x, H7, I7, r7, y7, st7, n7⟩ => ?_
      have I7' := I7.pinned (stat I7 n7) (T.obj _ _ st7)
      refine thnF (pg.run _ s7 _ H7 x u _ I7' r7 (step x H7 y7)) fun _ s8 ⟨σ8, H8, I8, hw8, q8⟩ => ?_
      refine thnF (pt.run _ s8 σ8 H8 _ I8 q8) fun b s9 ⟨H9, I9, q9⟩ => ?_
      -- the turn's end
      have fin : ∀ {s' : Shared} {H' : Hp}, Inv (X.blk s3 H3 scope ce fp) ([] ++ pinsAt fp s7.heap) σ8 H' s' → Nx H' → ∃ m, m < n ∧ ∃ i H', Inv (X.blk s3 H3 scope ce fp) [] (wipe σ (own.map (·.2))) H' s' ∧ tn i s'.heap ∧ (∀ b ∈ fp, H' b = none) ∧ W i m H' := fun {s' H'} I' nx => by
        obtain ⟨m', hm, w'⟩ := hNx H' nx
        have pin' : ∀ b ∈ fp, ∀ o, s7.heap.get? b = some o → s'.heap.get? b = some o ∧ H' b = none := fun b hb o e =>
          let z := I'.pin (b, o) (List.mem_append_right _ (List.mem_append_right _ (mem_pinsAt hb e)))
          ⟨z.1, z.2.1⟩
        have hl : (wipe σ (own.map (·.2))).length = σ8.length := by rw [← hw8, wipe_length]
        refine ⟨m', hm, i + 1, H', (I'.unpinned (pins := [])).weak hl (fun j v e => ?_), T.keep _ _ _ st7 fun b hb o e => (pin' b hb o e).1, fun b hb => ?_, w'⟩
        · rw [← hw8] at e
          exact (wipe_some e).1
        · obtain ⟨o, e, _⟩ := T.obj _ _ st7 b hb
          exact (pin' b hb o e).2
      cases b with
      | false =>
        simp only [Bool.false_eq_true, if_false] at q9 ⊢
        exact fin I9 q9
      | true =>
        simp only [if_true] at q9 ⊢
        refine thnF (pk.run _ s9 σ8 H9 _ I9 q9) fun z s10 ⟨yk, H10, I10, r10, q10⟩ => ?_
        refine thnF (pe.run _ s10 σ8 H10 _ I10 q10) fun z2 s11 ⟨yv, H11, I11, r11, kvs, k, kb, ek, hkb, hD11, hz11, nx⟩ => ?_
        subst ek
        exact d_dictSetT (X := X.blk s3 H3 scope ce fp) hu I11 hD11 (hkb) hz11 r10 r11 fun s12 I12 => fin I12 nx
  exact codeAny_compStart_dict loop (T.self X.A 0 _ _ _ st4 loop)
/-- as a value -/
theorem pe_dcT (hu : X.A.units + 1 < cLine) {kx vx tg iter : Expr} {ifs : List Expr} {scope : Scope} {own : List (Str × Nat)} {pos : Pos} {wi : TI} {g : TG} {tt : TT} {tk tv : TE} (hc : X.calm = true) (hN : X.N.Nodup) (hi : PI X tg iter wi) (ok : BlkOk X.N X.env.scope scope own)
    (hg : ∀ (s : Shared) (H : Hp) (C : Addr) (cl : List (Str × Addr)) (fp : List Addr), PG (X.blk s H scope (compEnvC scope cl C X.env) fp) tg g) (ht : ∀ (s : Shared) (H : Hp) (C : Addr) (cl : List (Str × Addr)) (fp : List Addr), PTs (X.blk s H scope (compEnvC scope cl C X.env) fp) ifs tt)
    (hk : ∀ (s : Shared) (H : Hp) (C : Addr) (cl : List (Str × Addr)) (fp : List Addr), PE (X.blk s H scope (compEnvC scope cl C X.env) fp) kx tk)
    (he : ∀ (s : Shared) (H : Hp) (C : Addr) (cl : List (Str × Addr)) (fp : List Addr), PE (X.blk s H scope (compEnvC scope cl C X.env) fp) vx tv) (hs : ∀ x, foldedSetIterable iter X.env x = pure x := by intro _; rfl) :
    PE X (.DictComp kx vx [⟨tg, iter, ifs, 0⟩] scope pos) (tDcT wi g tt tk tv (own.map (·.2))) := by
  refine ⟨fun pins s σ H Q I h => ?_⟩
  rw [arm_eval_DictComp]
  refine dct_core hu hc hN I hi ok hg ht hk he hs h fun D C s' m H' I' q hn f => ⟨m, hn, fun h'' sb => ?_⟩
  obtain ⟨f0, f1, f2, f3, f4, f5⟩ := f
  exact ⟨.ref D, H', I'.turned (t' := s'.toks) (fun b o hb e => (sb.2 b hb).trans e) f0 f1 f3 f4 f5, rfl, q⟩
end
end My

set_option Elab.async false
set_option linter.all false
set_option maxRecDepth 100000
set_option maxHeartbeats 2000000
/-! a display with one tuple key; d.update(d2); a module's dict: d.get(k). -/
namespace My
open PySem PySem.Spec PyProof.Rows L2 Evl
/-! ### {(..): v} -/
def tDispT1 (tk tv : TE) : TE := fun σ H Q => ∀ p, H p = none → tk σ (upd H p (.dT [])) fun x H1 => tv σ H1 fun y H2 => ∃ (b : Addr) (ks : List Key), x = .ref b ∧ H2 b = some (.tup (ks.map kV)) ∧ H2 p = some (.dT []) ∧ Q (.ref p) (upd H2 p (.dT [(ks, y)]))
theorem pe_dispT1 {X : Cx} {pos : Pos} {k v : Expr} {tk tv : TE} (hu : X.A.units + 1 < cLine) (hk : PE X k tk) (hv : PE X v tv) : PE X (.Dict [some k] [v] pos) (tDispT1 tk tv) := by
  refine ⟨fun pins s σ H Q I q => ?_⟩
  have hn := I.hok.fresh (Nat.le_refl s.heap.objs.size)
  have I1 := I.laid (a := s.heap.objs.size) (o := .dT []) (h' := s.heap.push { cls := .type "dict", data := .dict #[] }) (t' := s.toks) (fun _ _ q => Heap.get?_push_of_some _ q) (Nat.le_refl _) (dt_empty s.heap I.big)
  have hl := pairTrees_length [some k] [v] X.env pos rfl rfl
  rw [arm_eval_Dict, zip_pairTrees [some k] [v] X.env pos rfl rfl, dictDisplay_pairs (pairTrees [some k] [v] X.env pos) (fun he => by rw [he] at hl; exact nomatch hl) (by rw [hl]; show 1 < 17; decide)]
  refine wpAny_bind (wpAny_standAt (wpAny_bind (wpAny_subDictH (knd := tupleKind (mixKind X.prog X.w)) (Q := fun d s' => wpAny (model X.prog X.w) X.A (pure (Value.ref d)) (EP X pins σ Q) X.xe s') (show X.A.units < cLine by omega) (by rw [hl]; show 1 ≤ 15; decide) ?_)))
  refine pairTrees_cons_walk (thn (hk.run pins _ σ _ _ I1 (q _ hn)) fun u s1 ⟨x, H1, I2, rx, q1⟩ => thn (hv.run pins s1 σ H1 _ I2 q1) fun w2 s2 ⟨y, H2, I3, ry, b, ks, ex, hb, hp, q2⟩ => pairTrees_nil_walk ?_)
  subst ex
  cases (show u = Value.ref b from rx)
  obtain ⟨z, hd, xs, rel, dd⟩ := dt_of I3.hok hp
  cases rel
  refine ⟨[(ks, b, w2)], ⟨rfl, rfl, key_of I3.hok hb, trivial⟩, dd, fun h' tk' dd' hs => wpAny_pure ?_⟩
  refine ⟨.ref s.heap.objs.size, _, ?_, rfl, q2⟩
  obtain ⟨o, es, ep, hq, h2, h3, h4, _, h5⟩ := dd'
  have hkt : KT H2 [(ks, y)] (storedAllH [] [(ks, b, w2)]) := KT.put (kvs := []) .nil ks hb ry
  refine d_write I3 (by rw [hp]; exact True.intro) hs ⟨o, hq⟩ ⟨by show 1 ≤ sizeLine; rw [sizeLine_eq]; decide, hd, _, hkt.keeps fun c ys ec => ?_, o, es, ep, hq, h2, h3, h4, h5⟩
  rw [upd_ne (ne_of ec hp (fun z => nomatch z))]
  exact ec
/-! ### d.update(d2) -/
def tDUpd (td te : TE) : TE := fun σ H Q => td σ H fun x H1 => ∃ a, x = .ref a ∧ IsD H1 a ∧ te σ H1 fun y H2 => ∃ (b : Addr) (kvs more : List (Key × V)), y = .ref b ∧ a ≠ b ∧ H2 a = some (.dK kvs) ∧ H2 b = some (.dK more) ∧ kvs.length + more.length ≤ 100000 ∧ Q .non (upd H2 a (.dK (mergeK kvs more)))
theorem pe_dupd {X : Cx} {o e : Expr} {apos cpos : Pos} {td te : TE} (ho : PE X o td) (he : PE X e te) (m : M1 X o "update" apos e cpos) : PE X (.Call (.Attribute o "update" apos) [e] [] cpos) (tDUpd td te) := by
  refine ⟨fun pins s σ H Q I h => ?_⟩
  refine wpAny_Call_method m.base m.few m.line PySem.F.plainAttrs_dict PySem.F.slot_dict_update PySem.F.type_dict_update (thn (ho.run pins s σ H _ I h) fun u s1 ⟨x, H1, I1, rx, a, ex, d, q1⟩ => ?_)
  subst ex
  obtain rfl : u = Value.ref a := rx
  obtain ⟨t1, t2, _⟩ := isD_at I1 d
  refine ⟨t1, t2, ?_⟩
  rw [m.trees]
  refine Calls.callWith_builtin rfl (Calls.evalArgs_plain (Calls.spliced_cons (thn (he.run pins s1 σ H1 _ I1 q1) fun iv s2 ⟨y, H2, I2, ry, b, kvs, more, ey, hne, ha, hb, hz, q2⟩ => Calls.spliced_nil ?_)))
  subst ey
  obtain rfl : iv = Value.ref b := ry
  obtain ⟨za, hda, vsa, ra, dda⟩ := dk_of I2.hok ha
  obtain ⟨zb, hdb, vsb, rb, ddb⟩ := dk_of I2.hok hb
  have la := Paired.length ra
  have lb := Paired.length rb
  refine call_meetsIn PySem.F.slot_dict_update dda.typeIs PySem.F.entry_dict_update (PySem.F.args_dict_update_2 _ _) (meets_dict_update (mixKind X.prog X.w) a b hne hdb) ⟨vsa, vsb, dda, ddb, by rw [← la, ← lb]; exact sz_of hz, fun h' dd' _ hs => ⟨.non, upd H2 a (.dK (mergeK kvs more)), ?_, rfl, q2⟩⟩
  have hm : (mergeK kvs more).length ≤ sizeLine := by
    have h1 := length_mergeK more kvs
    exact Nat.le_trans h1 (sz_of hz)
  have he' : ∃ q, h'.get? a = some q := let ⟨q, _, _, hq, _⟩ := dd'; ⟨q, hq⟩
  exact d_write I2 (by rw [ha]; exact True.intro) hs he' (dk_new hm hda (rb.merge ra) dd')
/-! ### D.get(k), D a module's dict -/
def tKGet1 (K : PySem.W.Frag) (d : Addr) (td ty : TE) : TE := fun σ H Q => td σ H fun x H1 => x = .ref d ∧ ty σ H1 fun y H2 => ∃ (z : Str) (r : Option Value) (v : V), y = .str z ∧ PySem.W.nsIn K d z = some r ∧ RelV v (r.getD .none) ∧ Q v H2
theorem pe_kget1 {X : Cx} {o e : Expr} {apos cpos : Pos} {td ty : TE} {d : Addr} {es : Array DictEntry} {n : Nat} (D : KDict X.K X.w d es n) (ho : PE X o td) (he : PE X e ty) (m : M1 X o "get" apos e cpos) : PE X (.Call (.Attribute o "get" apos) [e] [] cpos) (tKGet1 X.K d td ty) := by
  refine ⟨fun pins s σ H Q I h => ?_⟩
  refine wpAny_Call_method m.base m.few m.line PySem.F.plainAttrs_dict PySem.F.slot_dict_get PySem.F.type_dict_get (thn (ho.run pins s σ H _ I h) fun u s1 ⟨x, H1, I1, rx, ex, q1⟩ => ?_)
  subst ex
  obtain rfl : u = Value.ref d := rx
  refine ⟨kd_type D I1, fun b q => ?_, ?_⟩
  · cases q
    exact ⟨_, I1.kIn _ _ D.at_, rfl⟩
  rw [m.trees]
  refine Calls.callWith_builtin rfl (Calls.evalArgs_plain (Calls.spliced_cons (thn (he.run pins s1 σ H1 _ I1 q1) fun iv s2 ⟨y, H2, I2, ry, z, r, v, ey, hr, rv, q2⟩ => Calls.spliced_nil ?_)))
  subst ey
  obtain ⟨t, rfl⟩ := ry
  refine call_meetsIn PySem.F.slot_dict_get (kd_type D I2) PySem.F.entry_dict_get (PySem.F.args_dict_get_2 _ _) (meets_dict_get (strKind X.prog X.w) d (PySem.strKind_is X.prog X.w z t) D.low) ⟨_, PySem.W.mapOf_K (prog := X.prog) I2.kIn D.at_ D.lit, ⟨v, H2, I2.tok _, ?_, q2⟩⟩
  rw [PySem.W.find_K D.at_ hr]
  exact rv
/-- around a body that raises nothing -/
theorem takesN {X : Cx} : Takes X (fun _ _ _ _ => False) := fun _ _ x => by
  obtain ⟨_, _, _, _, _, _, _, _, _, _, _, _, _, _, _, _, z⟩ := x
  exact z.elim
end My

set_option Elab.async false
set_option linter.all false
set_option maxRecDepth 100000
set_option maxHeartbeats 1000000
/-! what the top has written: own exception classes whose __init__ calls super().__init__. -/
namespace My
open PySem PySem.Spec PySem.W PySem.SupX PyProof.Rows PySem.HandSPX
def HasS0 (P : Program) (K : Frag) (cn qn txt : Str) (C : Addr) : Prop := nsIn K mainGlobals cn = some (some (.ref C)) ∧ nsIn K mainGlobals "super" = some none ∧ ∀ mg : Str → Option Value, mg cn = some (.ref C) → mg "super" = none → ∃ fI cda cc, Sup0 P K mg cn qn txt C fI cda cc
def HasS1 (P : Program) (K : Frag) (cn qn : Str) (C : Addr) : Prop := nsIn K mainGlobals cn = some (some (.ref C)) ∧ nsIn K mainGlobals "super" = some none ∧ ∀ mg : Str → Option Value, mg cn = some (.ref C) → mg "super" = none → ∃ fI cda cc, Sup1 P K mg cn qn C fI cda cc
section
variable {P : Program} {K : Frag} {cn qn txt : Str} {C fI cda cc : Addr}
theorem HasS0.mk' {nm q : Str} {N : Addr} {bs bm : List Value} {sn : List Str} {sub : List Value} {ab : Bool} {col : Option Bool} {dd : Option Addr} {k0 k1 k2 k3 k5 : Option Value} {cl : Value} {cld : Option Addr} {csl : Array (Option Value)} {ccl : Value} {cdd : Option Addr} {vs : Array Value} {ccs : Array (Option Value)} {file : Str} {tf : Tok}
    {oc : Value} {od : Option Addr} {doc pm : Value} {an : Option Addr} {ct : Value} {osl : Array (Option Value)} {k : Nat} {p1 q1 q2 q3 q4 q5 q6 : Pos}
    (a : nsIn K mainGlobals cn = some (some (.ref C))) (s : nsIn K mainGlobals "super" = some none) (c1 : K.lookup C = some (excClassObj nm q C N bs bm true sn sub ab col dd k0 k1 k2 k3 k5 "ValueError.__new__")) (c2 : refsVE bm = true)
    (sa : findIn K (.ref C) "__setattr__" = some (some (.builtin "object.__setattr__"))) (ga : findIn K (.ref C) "__getattribute__" = some (some (.builtin "BaseException.__getattribute__"))) (gg : findIn K (.ref C) "__getattr__" = some none) (iC : findIn K (.ref C) "__init__" = some (some (.ref fI)))
    (f1 : K.lookup fI = some ⟨oc, od, .func (ksFn "__init__" qn (iA0 p1) (iB0 txt k q1 q2 q3 q4 q5 q6) iS0 .none .none doc pm an (.ref cda) ct cc), osl⟩) (f2 : codeIn K (.ref cda) qn = true) (f3 : (q3.endLine == q5.line) = true)
    (tC : typeIn K (.ref fI) = some (.type "function")) (kC : keepIn K (.ref C) = true) (exC : subIn K (.ref C) (.type "BaseException") = some true) (tyC : typeIn K (.ref C) = some (.type "type")) (hdC : hasDictIn K C = true) (te : exmOne K (.ref C) (.ref C) = some true)
    (sup : ks_superIn K C C "__init__" = some (some (.builtin "ValueError.__init__"))) (subV : subIn K (.ref C) (.type "ValueError") = some true) (own : mroIn K C (.ref C) = some true) (thp : nsIn K cStatics "thirdparty.any" = some none)
    (e1 : K.lookup cc = some ⟨cl, cld, .cell (some (.ref C)), csl⟩) (d1 : K.lookup cda = some ⟨ccl, cdd, .fields vs, ccs⟩) (d2 : vs[2]? = some (.str file tf)) (d3 : ((P.main.file : Str) == file) = true) (top : (P.main.scope.names.lookup ("super" : Str)).isSome = false) : HasS0 P K cn qn txt C :=
  ⟨a, s, fun mg g1 g2 => ⟨fI, cda, cc, { gC := g1, cls := ⟨nm, q, N, bs, bm, sn, sub, ab, col, dd, k0, k1, k2, k3, k5, c1, c2⟩, sa := sa, ga := ga, gg := gg, iC := iC, tC := tC, kC := kC, exC := exC, tyC := tyC, hdC := hdC, te := te, sup := sup, subV := subV, own := own, thp := thp, hms := g2, cell := ⟨cl, cld, csl, e1⟩, code := ⟨ccl, cdd, vs, ccs, file, tf, d1, d2, d3⟩, top := top, fn := ⟨oc, od, doc, pm, an, ct, osl, k, p1, q1, q2, q3, q4, q5, q6, f1, f2, f3⟩ }⟩⟩
theorem HasS1.mk' {nm q : Str} {N : Addr} {bs bm : List Value} {sn : List Str} {sub : List Value} {ab : Bool} {col : Option Bool} {dd : Option Addr} {k0 k1 k2 k3 k5 : Option Value} {cl : Value} {cld : Option Addr} {csl : Array (Option Value)} {ccl : Value} {cdd : Option Addr} {vs : Array Value} {ccs : Array (Option Value)} {file : Str} {tf : Tok}
    {oc : Value} {od : Option Addr} {doc pm : Value} {an : Option Addr} {ct : Value} {osl : Array (Option Value)} {p1 p2 q1 q2 q3 q4 q5 q6 r1 r2 r3 r4 : Pos}
    (a : nsIn K mainGlobals cn = some (some (.ref C))) (s : nsIn K mainGlobals "super" = some none) (c1 : K.lookup C = some (excClassObj nm q C N bs bm true sn sub ab col dd k0 k1 k2 k3 k5 "ValueError.__new__")) (c2 : refsVE bm = true)
    (sa : findIn K (.ref C) "__setattr__" = some (some (.builtin "object.__setattr__"))) (ga : findIn K (.ref C) "__getattribute__" = some (some (.builtin "BaseException.__getattribute__"))) (gg : findIn K (.ref C) "__getattr__" = some none) (iC : findIn K (.ref C) "__init__" = some (some (.ref fI)))
    (f1 : K.lookup fI = some ⟨oc, od, .func (ksFn "__init__" qn (iA1 p1 p2) (iB1 q1 q2 q3 q4 q5 q6 r1 r2 r3 r4) iS1 .none .none doc pm an (.ref cda) ct cc), osl⟩) (f2 : codeIn K (.ref cda) qn = true) (f3 : (q3.endLine == q5.line) = true)
    (tC : typeIn K (.ref fI) = some (.type "function")) (kC : keepIn K (.ref C) = true) (exC : subIn K (.ref C) (.type "BaseException") = some true) (tyC : typeIn K (.ref C) = some (.type "type")) (hdC : hasDictIn K C = true) (te : exmOne K (.ref C) (.ref C) = some true)
    (sup : ks_superIn K C C "__init__" = some (some (.builtin "ValueError.__init__"))) (subV : subIn K (.ref C) (.type "ValueError") = some true) (own : mroIn K C (.ref C) = some true) (thp : nsIn K cStatics "thirdparty.any" = some none)
    (e1 : K.lookup cc = some ⟨cl, cld, .cell (some (.ref C)), csl⟩) (d1 : K.lookup cda = some ⟨ccl, cdd, .fields vs, ccs⟩) (d2 : vs[2]? = some (.str file tf)) (d3 : ((P.main.file : Str) == file) = true) (top : (P.main.scope.names.lookup ("super" : Str)).isSome = false) (noN : findIn K (.ref C) "place" = some none) : HasS1 P K cn qn C :=
  ⟨a, s, fun mg g1 g2 => ⟨fI, cda, cc, { gC := g1, cls := ⟨nm, q, N, bs, bm, sn, sub, ab, col, dd, k0, k1, k2, k3, k5, c1, c2⟩, sa := sa, ga := ga, gg := gg, iC := iC, tC := tC, kC := kC, exC := exC, tyC := tyC, hdC := hdC, te := te, sup := sup, subV := subV, own := own, thp := thp, hms := g2, cell := ⟨cl, cld, csl, e1⟩, code := ⟨ccl, cdd, vs, ccs, file, tf, d1, d2, d3⟩, top := top, noN := noN, fn := ⟨oc, od, doc, pm, an, ct, osl, p1, p2, q1, q2, q3, q4, q5, q6, r1, r2, r3, r4, f1, f2, f3⟩ }⟩⟩
end
end My

set_option Elab.async false
set_option linter.all false
set_option maxRecDepth 100000
set_option maxHeartbeats 4000000
namespace K00
open PySem PySem.Spec PyProof.Rows L2 Evl My
def topS (i : Nat) : Stmt := PySem.Challenge.pw_lineage_k00_whole_values_and_octets.main.body.getD i (.Pass ⟨0, 0, 0, 0⟩)
def signsS : Str := Str.ofString " !\"#$&'()*+,-./0123456789:;<=>?@ABCDEFGHIJKLMNOPQRSTUVWXYZ[\\]^_`abcdefghijklmnopqrstuvwxyz{|}~\n"
theorem signs_eq : signsS = tx sgns := by decide +kernel
theorem signs_at : ∀ c ∈ sgns, ∃ r, Builtin.Str.occurrences (tx sgns) (tx [c]) 0 (tx sgns).length 1 = sgn c :: r := by
  have h : ∀ c ∈ sgns, Builtin.Str.occurrences (tx sgns) (tx [c]) 0 (tx sgns).length 1 = [sgn c] := by decide +kernel
  intro c hc
  exact ⟨[], h c hc⟩
/-! what is plain: told, or refused -/
mutual
def goodT (t : Nat) : D → Bool
  | .str l => l.all fun c => decide (c ∈ sgns)
  | .tup ds => decide (t ≠ 40) && goodL (t + 1) ds
  | .lst _ => false
  | _ => true
def goodL (t : Nat) : List D → Bool
  | [] => true
  | d :: ds => goodT t d && goodL t ds
end
mutual
def FitD : D → Prop
  | .int i => i.natAbs < 2 ^ 64
  | .str l => l.length ≤ 1000
  | .tup ds => ds.length < 2 ^ 60 ∧ FitL ds
  | _ => True
def FitL : List D → Prop
  | [] => True
  | d :: ds => FitD d ∧ FitL ds
end
theorem FitL_get : ∀ {ds : List D} {i : Nat} {d : D}, FitL ds → ds[i]? = some d → FitD d
  | [], _, _, _, h => nomatch h
  | d :: ds, 0, _, p, h => by cases h; rw [FitL] at p; exact p.1
  | d :: ds, i + 1, _, p, h => by rw [FitL] at p; exact FitL_get (ds := ds) (i := i) p.2 h
theorem goodL_get : ∀ {ds : List D} {t i : Nat} {d : D}, goodL t ds = true → ds[i]? = some d → goodT t d = true
  | [], _, _, _, _, h => nomatch h
  | d :: ds, t, 0, _, p, h => by cases h; rw [goodL, Bool.and_eq_true] at p; exact p.1
  | d :: ds, t, i + 1, _, p, h => by rw [goodL, Bool.and_eq_true] at p; exact goodL_get (ds := ds) (i := i) p.2 h
theorem goodL_take : ∀ {ds : List D} {t : Nat}, (∀ (i : Nat) (d : D), ds[i]? = some d → goodT t d = true) → goodL t ds = true
  | [], _, _ => by rw [goodL]
  | d :: ds, t, h => by rw [goodL, h 0 d rfl, goodL_take (ds := ds) fun i d hd => h (i + 1) d hd]; rfl
section
variable {P : Program} {w : World} {K : PySem.W.Frag} {mg : Str → Option Value} {base : Heap} {Cv fv dv cv : Addr} {txv : Str}
abbrev s_number_told : Stmt := topS 7
theorem sc_number_told : FnScope ["number", "found"] ["number"] (defScope s_number_told) := ⟨rfl, rfl, rfl, by decide +kernel, rfl, by decide +kernel, by decide +kernel⟩
/- 0 number, 1 found -/
def ok_number_told (vs : List V) (H : Hp) (z : List V) : Prop := ∃ n : Nat, vs = [.int (n : Int)] ∧ n < 2 ^ 64 ∧ z = nats (sev n)
theorem fn_number_told {f : Addr} {fd : FuncData} {k : Nat} (F : Fun K "number_told" "number_told" s_number_told f fd) (N : Nb mg) : FnOk P w K mg base CX0 (k + 1) f fd ["number"] (spL ok_number_told) := by
  refine F.ok sc_number_told (fun vs H Q E h => ?_) (fun cdv A outer s H vs Q E hr h => ?_)
  · obtain ⟨_, ⟨_, rfl, _⟩, _⟩ := h
    rfl
  · obtain ⟨_, ⟨n, rfl, hn, hz⟩, q⟩ := h
    rw [hz] at q
    have hsl : (sev n).length ≤ 10 := sev_len 9 n (Nat.lt_of_lt_of_le hn (by decide))
    refine ⟨_, (pss_cons (ps_set (i := 1) sc_number_told.nd rfl (Or.inl rfl) (pe_lst pa_nil))
      (pss_cons (ps_while PassesOwn.never (pt_cmpR op_gt (pv 0) pe_int (nomark _)) (pss_cons (ps_expr (pe_bm PySem.F.plainAttrs_list PySem.F.slot_list_append PySem.F.type_list_append mt_append (pv 1) (pa_cons (pe_op op_add pe_int (pe_op op_mod (pv 0) pe_int)) pa_nil)))
      (pss_one (ps_set (i := 0) sc_number_told.nd rfl (Or.inl rfl) (pe_op op_fdiv (pv 0) pe_int)))))
      (pss_one (ps_ret (pe_op op_cat (pv 1) (pe_lst (pa_cons (pv 0) pa_nil))))))), ?_⟩
    refine q_asgL (el_lst ea_nil (by decide)) fun p H1 hp e1 h1 => ?_
    refine q_while (fun m σ H' => Ex H H' ∧ ∃ pre, H' p = some (.lst (nats pre)) ∧ pre ++ sev m = sev n ∧ σ = [some (.int (m : Int)), some (.ref p)]) n ⟨e1, [], h1, rfl, rfl⟩ ?_
    rintro m σ H' ⟨e, pre, hP, hs, rfl⟩
    have hl : pre.length ≤ 10 := by
      have := congrArg List.length hs
      rw [List.length_append] at this
      omega
    refine ⟨decide ((127 : Int) < (m : Int)), et_test (ev_op (ev_v rfl) (ev_cn 127) rv_I0), fun hb H2 e2 => ⟨fun σ2 H2 => ∃ m', m' < m ∧ (Ex H H2 ∧ ∃ pre, H2 p = some (.lst (nats pre)) ∧ pre ++ sev m' = sev n ∧ σ2 = [some (.int (m' : Int)), some (.ref p)]), fun _ _ h => h, ?_⟩, fun hb H2 e2 => ?_⟩
    · have hm : 127 < m := by
        have := of_decide_eq_true hb
        omega
      refine q_app (e2 p _ hP) (ev_v rfl) (ev_op (ev_cn 128) (ev_op (ev_v rfl) (ev_cn 128) (rv_modN (by decide))) rv_addN) (by rw [nats_len]; omega) fun H3 e3 => ?_
      refine s_asg (ev_op (ev_v rfl) (ev_cn 128) (rv_divN (by decide) (by decide))) fun H4 e4 => ?_
      refine ⟨m / 128, by omega, (((e.trans e2).trans e3).mut hp).trans e4, pre ++ [128 + m % 128], ?_, ?_, rfl⟩
      · rw [nats_app]
        exact e4 p _ upd_same
      · rw [List.append_assoc]
        rw [sev_ge (show ¬ m < 128 by omega)] at hs
        exact hs
    · have hm : m < 128 := by
        have := of_decide_eq_false hb
        omega
      rw [sev_lt hm] at hs
      refine s_retL (xs := nats (sev n)) ?_ fun p2 H3 hp2 e3 h3 => q p2 H3 (fresh_back (e.trans e2) hp2) ((e.trans e2).trans e3) h3
      rw [← hs, nats_app]
      exact el_cat (evl_k (ev_v rfl) (e2 p _ hP)) (evl_n (el_lst (ea_cons (ev_v rfl) ea_nil) (by show 1 ≤ 100000; decide))) (by rw [nats_len, nats_len, List.length_singleton]; omega)
theorem el_pre {σ : L2.St} {H : Hp} {tb : TE} {c n : Nat} (h : Ev tb σ H (.int (n : Int))) (hn : n < 2 ^ 64) : EvL (tOp rCat (tLst (tCons (tC (.int (c : Int))) tNil)) (tCall (spL ok_number_told) [] E0 (tCons tb tNil))) σ H (nats (c :: sev n)) := by
  have hsl : (sev n).length ≤ 10 := sev_len 9 _ (Nat.lt_of_lt_of_le hn (by decide))
  rw [show c :: sev n = [c] ++ sev n from rfl, nats_app]
  exact el_cat (evl_n (el_lst (ea_cons (ev_cn c) ea_nil) (by show 1 ≤ 100000; decide))) (evl_n (el_cal (ea_cons h ea_nil) fun _ _ => ⟨n, rfl, hn, rfl⟩)) (by rw [nats_len, nats_len, List.length_singleton]; omega)
abbrev s_text_told : Stmt := topS 8
theorem sc_text_told : FnScope ["text", "found", "sign"] ["text"] (defScope s_text_told) := ⟨rfl, rfl, rfl, by decide +kernel, rfl, by decide +kernel, by decide +kernel⟩
/- 0 text, 1 found, 2 sign -/
/-- told, or refused by the class at Cv -/
def sp_text_told (Cv : Addr) : Sp := fun vs H Q E => ∃ l : List Nat, vs = [.str (tx l)] ∧ l.length ≤ 1000 ∧ ((l.all fun c => decide (c ∈ sgns)) = true → ∀ p H', H p = none → Ex H H' → H' p = some (.lst (nats (octs (.str l)))) → Q (.ref p) H') ∧ ((l.all fun c => decide (c ∈ sgns)) = false → ∀ H', Ex H H' → E (.ref Cv) none H')
theorem fn_text_told {f : Addr} {fd : FuncData} {k : Nat} (F : Fun K "text_told" "text_told" s_text_told f fd) (N : Nb mg) (T_Misvalued : PySem.SupX.Sup0 P K mg "Misvalued" "Misvalued.__init__" txv Cv fv dv cv) (g_SIGNS : GS mg "SIGNS" signsS) (C_number_told : Cal P w K mg base k "number_told" ["number"] (spL ok_number_told)) : FnOk P w K mg base (L2.CX P w) (k + 1) f fd ["text"] (sp_text_told Cv) := by
  refine F.okX sc_text_told (fun vs H Q E h => ?_) (fun cdv A outer s H vs Q E hr h => ?_)
  · obtain ⟨_, rfl, _⟩ := h
    rfl
  · obtain ⟨l, rfl, hl, q, qe⟩ := h
    refine ⟨_, (pss_cons (ps_set (i := 1) sc_text_told.nd rfl (Or.inl rfl) (pe_op op_cat (pe_lst (pa_cons pe_int pa_nil)) (pe_cal C_number_told hr (pa_cons (pe_callB call_len_str (by rfl) N.len PySem.boot_len (pa_cons (pv 0) pa_nil)) pa_nil))))
      (pss_cons (ps_for (passes_of rfl) rfl (pi_str (pv 0)) (pg_name (i := 2) sc_text_told.nd rfl (Or.inl rfl)) (pss_cons (ps_if (pt_cmpR op_notIn_sign (pv 2) (pe_gs g_SIGNS) rfl) (pss_one (ps_raiseS0 rfl T_Misvalued hr (takes_of rfl rfl rfl rfl))) pss_nil)
      (pss_one (ps_expr (pe_bm PySem.F.plainAttrs_list PySem.F.slot_list_append PySem.F.type_list_append mt_append (pv 1) (pa_cons (pe_bm PySem.F.plainAttrs_str PySem.F.slot_str_index PySem.F.type_str_index mt_sindex (pe_gs g_SIGNS) (pa_cons (pv 2) pa_nil)) pa_nil))))))
      (pss_one (ps_ret (pv 1))))), ?_⟩
    have hsl : (sev l.length).length ≤ 10 := sev_len 9 _ (Nat.lt_of_le_of_lt hl (by decide))
    refine q_asgL (xs := nats ([5] ++ sev l.length)) (by
      rw [nats_app]
      exact el_cat (evl_n (el_lst (ea_cons (ev_cn 5) ea_nil) (by decide))) (evl_n (el_cal (ea_cons (ev_lenS (ev_v rfl) (by omega)) ea_nil) fun _ _ => ⟨l.length, rfl, by omega, rfl⟩)) (by rw [nats_len, nats_len, List.length_singleton]; omega)) fun p H1 hp e1 h1 => ?_
    refine q_forS (l := l) (ev_v rfl) (fun i σ H' => Ex H H' ∧ (∀ j c, j < i → l[j]? = some c → c ∈ sgns) ∧ H' p = some (.lst (nats ([5] ++ sev l.length ++ (l.take i).map sgn))) ∧ ∃ y, σ = [some (.str (tx l)), some (.ref p), y]) (fun H2 e2 => ⟨e1.trans e2, fun j c hj => absurd hj (Nat.not_lt_zero _), ?_, none, rfl⟩) ?_ ?_
    · rw [List.take_zero, List.map_nil, List.append_nil]
      exact e2 p _ h1
    · rintro i c σ H' hc ⟨e, hall, hP, y, rfl⟩
      refine q_when (b := !decide (c ∈ sgns)) (et_test (ev_is (ev_op (ev_v rfl) ev_c (rv_val fun H1 _ Q q => ⟨c, signsS, rfl, rfl, q⟩)) (by rw [signs_eq]; rfl))) (fun hb H2 e2 => ?_) fun hb H2 e2 => ?_
      · rw [Bool.not_eq_true'] at hb
        refine qe ?_ H2 (e.trans e2)
        rw [List.all_eq_false]
        exact ⟨c, List.mem_of_getElem? hc, by rw [hb]; decide⟩
      rw [Bool.not_eq_false'] at hb
      have hcs := of_decide_eq_true hb
      obtain ⟨r, ho⟩ := signs_at c hcs
      have hlen : (l.take i).length ≤ l.length := by rw [List.length_take]; omega
      refine s_app (e2 p _ hP) (ev_v rfl) (ev_sidx (i := sgn c) (r := r) (ev_c (v := .str signsS)) (ev_v rfl) (by rw [signs_eq]; exact ho)) (by rw [nats_len, List.length_append, List.length_append, List.length_map, List.length_singleton]; omega) fun H3 e3 => ?_
      refine ⟨((e.trans e2).trans e3).mut hp, fun j c' hj hc' => ?_, ?_, _, rfl⟩
      · by_cases hji : j = i
        · subst hji
          rw [hc] at hc'
          cases hc'
          exact hcs
        · exact hall j c' (by omega) hc'
      · rw [upd_same, List.take_add_one, hc, List.map_append, ← List.append_assoc, nats_app ([5] ++ sev l.length ++ _) (List.map sgn (some c).toList)]
        rfl
    · rintro σ H' ⟨e, hall, hP, y, rfl⟩
      rw [List.take_of_length_le (Nat.le_refl _)] at hP
      exact s_ret (ev_v rfl) fun H2 e2 => q (List.all_eq_true.mpr fun c hc => by
        obtain ⟨j, hj, hje⟩ := List.getElem_of_mem hc
        exact decide_eq_true (hall j c hj (by rw [List.getElem?_eq_getElem hj, hje]))) p H2 hp (e.trans e2) (e2 p _ hP)
end
end K00

set_option Elab.async false
set_option linter.all false
set_option maxRecDepth 100000
set_option maxHeartbeats 4000000
namespace K00
open PySem PySem.Spec PyProof.Rows L2 Evl My
section
variable {P : Program} {w : World} {K : PySem.W.Frag} {mg : Str → Option Value} {base : Heap} {Cv fv dv cv : Addr} {txv : Str}
abbrev s_told_at : Stmt := topS 9
theorem sc_told_at : FnScope ["value", "tuples", "found", "one"] ["value", "tuples"] (defScope s_told_at) := ⟨rfl, rfl, rfl, by decide +kernel, rfl, by decide +kernel, by decide +kernel⟩
/- 0 value, 1 tuples, 2 found, 3 one -/
/-- told, or refused by the class at Cv; a dict is refused -/
def TellsAt (Cv : Addr) (h t : Nat) (v : V) (H : Hp) (Q : VK) (E : XK) : Prop :=
  (∃ d, Rep H v d ∧ FitD d ∧ height d < h ∧ (octs d).length ≤ 20000 ∧ (goodT t d = true → ∀ p H', H p = none → Ex H H' → H' p = some (.lst (nats (octs d))) → Q (.ref p) H') ∧ (goodT t d = false → ∀ H', Ex H H' → E (.ref Cv) none H')) ∨
  ∃ a kvs, v = .ref a ∧ H a = some (.dK kvs) ∧ ∀ H', Ex H H' → E (.ref Cv) none H'
def sp_told_at (Cv : Addr) (h : Nat) : Sp := fun vs H Q E => ∃ (v : V) (t : Nat), vs = [v, .int (t : Int)] ∧ 0 < h ∧ TellsAt Cv h t v H Q E
theorem fn_told_at {f : Addr} {fd : FuncData} {k h : Nat} (F : Fun K "told_at" "told_at" s_told_at f fd) (N : Nb mg) (T_Misvalued : PySem.SupX.Sup0 P K mg "Misvalued" "Misvalued.__init__" txv Cv fv dv cv) (g_MOST_TUPLES : GI mg "MOST_TUPLES" 40) (C_number_told : Cal P w K mg base k "number_told" ["number"] (spL ok_number_told))
    (C_text_told : CalX P w K mg base k "text_told" ["text"] (sp_text_told Cv)) (C_told_at : CalX P w K mg base k "told_at" ["value", "tuples"] (sp_told_at Cv h)) : FnOk P w K mg base (L2.CX P w) (k + 1) f fd ["value", "tuples"] (sp_told_at Cv (h + 1)) := by
  refine F.okX sc_told_at (fun vs H Q E h => ?_) (fun cdv A outer s H vs Q E hr h => ?_)
  · obtain ⟨_, _, rfl, _⟩ := h
    rfl
  · obtain ⟨v, t, rfl, h0, hT⟩ := h
    refine ⟨_, (pss_cons (ps_if (pt_cmpR op_isN (pv 0) pe_non (nomark _)) (pss_one (ps_ret (pe_lst (pa_cons pe_int pa_nil)))) pss_nil)
      (pss_cons (ps_if (pt_val (pe_callB call_isi (by rfl) N.isinstance PyProof.Rows.boot_isinstance (pa_cons (pv 0) (pa_cons (pe_bltn (v := .ty "bool") (by rfl) N.bool PyProof.Rows.boot_bool rfl) pa_nil)))) (pss_one (ps_ret (pe_lst (pa_cons (pe_ifExp (pt_val (pv 0)) pe_int pe_int) pa_nil)))) pss_nil)
      (pss_cons (ps_if (pt_val (pe_callB call_isi (by rfl) N.isinstance PyProof.Rows.boot_isinstance (pa_cons (pv 0) (pa_cons (pe_bltn (v := .ty "int") (by rfl) N.int PyProof.Rows.boot_int rfl) pa_nil)))) (pss_one (ps_ret (pe_ifExp (pt_cmpR op_ge (pv 0) pe_int (nomark _)) (pe_op op_cat (pe_lst (pa_cons pe_int pa_nil)) (pe_cal C_number_told hr (pa_cons (pv 0) pa_nil))) (pe_op op_cat (pe_lst (pa_cons pe_int pa_nil)) (pe_cal C_number_told hr (pa_cons (pe_op op_sub (pe_un un_neg (pv 0)) pe_int) pa_nil)))))) pss_nil)
      (pss_cons (ps_if (pt_val (pe_callB call_isi (by rfl) N.isinstance PyProof.Rows.boot_isinstance (pa_cons (pv 0) (pa_cons (pe_bltn (v := .ty "str") (by rfl) N.str PyProof.Rows.boot_str rfl) pa_nil)))) (pss_one (ps_ret (pe_calX C_text_told hr (takes_of rfl rfl rfl rfl) (pa_cons (pv 0) pa_nil)))) pss_nil)
      (pss_cons (ps_if (PW.pt (pw_or (pt_not (pt_val (pe_callB call_isi (by rfl) N.isinstance PyProof.Rows.boot_isinstance (pa_cons (pv 0) (pa_cons (pe_bltn (v := .ty "tuple") (by rfl) N.tuple PyProof.Rows.boot_tuple rfl) pa_nil))))) (pw_or1 (pt_cmpR op_eq (pv 1) (pe_gi g_MOST_TUPLES) (nomark _))))) (pss_one (ps_raiseS0 rfl T_Misvalued hr (takes_of rfl rfl rfl rfl))) pss_nil)
      (pss_cons (ps_set (i := 2) sc_told_at.nd rfl (Or.inl rfl) (pe_op op_cat (pe_lst (pa_cons pe_int pa_nil)) (pe_cal C_number_told hr (pa_cons (pe_callB call_len_seq (by rfl) N.len PySem.boot_len (pa_cons (pv 0) pa_nil)) pa_nil))))
      (pss_cons (ps_for (passes_of rfl) rfl (pi_tup (pv 0)) (pg_name (i := 3) sc_told_at.nd rfl (Or.inl rfl)) (pss_one (ps_expr (pe_bm PySem.F.plainAttrs_list PySem.F.slot_list_extend PySem.F.type_list_extend mt_extend (pv 2) (pa_cons (pe_calX C_told_at hr (takes_of rfl rfl rfl rfl) (pa_cons (pv 3) (pa_cons (pe_op op_add (pv 1) pe_int) pa_nil))) pa_nil)))))
      (pss_one (ps_ret (pv 2)))))))))), ?_⟩
    rcases hT with ⟨d, hR, hp, hh, ho, q, qe⟩ | ⟨a, kvs, rfl, ha, qe⟩
    case inr =>
      have isx : ∀ {T : String} {σ : L2.St} {H' : Hp}, Ex H H' → σ[0]? = some (some (.ref a)) → kitB "dict" T = some false → EvT (tTest (tCB (rIsi K) (tCons (tVar 0) (tCons (tC (.ty T)) tNil)))) σ H' false := fun e hv hk => et_test (ev_isiX (ev_v hv) (fun H1 e1 => ty_dK ((e.trans e1) _ _ ha)) hk)
      refine q_when (b := false) (et_is (et_isN (ev_v rfl)) rfl) (fun z => nomatch z) fun _ H1 e1 => ?_
      refine q_when (isx e1 rfl (by rfl)) (fun z => nomatch z) fun _ H2 e2 => ?_
      refine q_when (isx (e1.trans e2) rfl (by rfl)) (fun z => nomatch z) fun _ H3 e3 => ?_
      refine q_when (isx ((e1.trans e2).trans e3) rfl (by rfl)) (fun z => nomatch z) fun _ H4 e4 => ?_
      have E4 := ((e1.trans e2).trans e3).trans e4
      exact q_when (b := true) (et_or (a := true) (b := false) (et_not (isx E4 rfl (by rfl))) fun z => nomatch z) (fun _ H5 e5 => qe H5 (E4.trans e5)) (fun z => nomatch z)
    have isi : ∀ {v : V} {d : D} {T : String} {σ : L2.St} {H' : Hp} {b : Bool}, Ex H H' → Rep H v d → σ[0]? = some (some v) → kitB (tyD d) T = some b → EvT (tTest (tCB (rIsi K) (tCons (tVar 0) (tCons (tC (.ty T)) tNil)))) σ H' b := fun e r hv hk => et_test (ev_isi (ev_v hv) (r.mono e) hk)
    refine q_when (et_isN (ev_v rfl)) (fun hb H1 e1 => ?_) fun hb H1 e1 => ?_
    · have hv := of_decide_eq_true hb
      subst hv
      cases hR
      exact s_retL (xs := nats [0]) (el_lst (ea_cons (ev_cn 0) ea_nil) (by decide)) fun p2 H3 hp2 e3 h3 => q (by rw [goodT] <;> intros <;> contradiction) p2 H3 (fresh_back e1 hp2) (e1.trans e3) h3
    cases hR with
    | non => exact (of_decide_eq_false hb rfl).elim
    | bl b =>
      refine q_when (isi e1 (.bl b) rfl (b := true) (by rfl)) (fun _ H2 e2 => ?_) (fun z => nomatch z)
      refine s_retL (xs := nats (octs (.bl b))) (el_lst (ea_cons (ev_if (b := b) (et_B (ev_v rfl)) (fun hb => by subst hb; exact ev_cn 2) (fun hb => by subst hb; exact ev_cn 1)) ea_nil) (by show 1 ≤ 100000; decide)) fun p2 H3 hp2 e3 h3 => q (by rw [goodT] <;> intros <;> contradiction) p2 H3 (fresh_back (e1.trans e2) hp2) ((e1.trans e2).trans e3) h3
    | int i =>
      refine q_when (isi e1 (.int i) rfl (b := false) (by rfl)) (fun z => nomatch z) fun _ H2 e2 => ?_
      refine q_when (isi (e1.trans e2) (.int i) rfl (b := true) (by rfl)) (fun _ H3 e3 => ?_) (fun z => nomatch z)
      have E3 := (e1.trans e2).trans e3
      rw [FitD] at hp
      refine s_retL (xs := nats (octs (.int i))) ?_ fun p2 H3 hp2 e3 h3 => q (by rw [goodT] <;> intros <;> contradiction) p2 H3 (fresh_back E3 hp2) (E3.trans e3) h3
      refine el_if (b := decide (0 ≤ i)) (et_test (ev_op (ev_v rfl) (ev_cn 0) rv_I0)) (fun hb => ?_) fun hb => ?_
      · have h0 := of_decide_eq_true hb
        rw [octs, if_pos h0]
        exact el_pre (c := 3) (n := i.toNat) (ev_is (ev_v (v := .int i) rfl) (by rw [Int.toNat_of_nonneg h0])) (by omega)
      · have h0 := of_decide_eq_false hb
        rw [octs, if_neg h0]
        exact el_pre (c := 4) (n := (-i - 1).toNat) (ev_is (ev_op (ev_un (ev_v (v := .int i) rfl) ru_neg) (ev_cn 1) rv_I0) (by rw [Int.toNat_of_nonneg (by omega)]; rfl)) (by omega)
    | str l =>
      refine q_when (isi e1 (.str l) rfl (b := false) (by rfl)) (fun z => nomatch z) fun _ H2 e2 => ?_
      refine q_when (isi (e1.trans e2) (.str l) rfl (b := false) (by rfl)) (fun z => nomatch z) fun _ H3 e3 => ?_
      refine q_when (isi ((e1.trans e2).trans e3) (.str l) rfl (b := true) (by rfl)) (fun _ H4 e4 => ?_) (fun z => nomatch z)
      have E4 := ((e1.trans e2).trans e3).trans e4
      rw [FitD] at hp
      rw [goodT] at q qe
      exact r_ret (r_callX (r_cons (r_var rfl (r_nil ⟨l, rfl, hp, fun hg p H' hp' e' h' => q hg p H' (fresh_back E4 hp') (E4.trans e') h', fun hg H' e' => qe hg H' (E4.trans e')⟩))))
    | @lst a vs ds e r =>
      have R : Rep H (.ref a) (.lst ds) := .lst e r
      refine q_when (isi e1 R rfl (b := false) (by rfl)) (fun z => nomatch z) fun _ H2 e2 => ?_
      refine q_when (isi (e1.trans e2) R rfl (b := false) (by rfl)) (fun z => nomatch z) fun _ H3 e3 => ?_
      refine q_when (isi ((e1.trans e2).trans e3) R rfl (b := false) (by rfl)) (fun z => nomatch z) fun _ H4 e4 => ?_
      have E4 := ((e1.trans e2).trans e3).trans e4
      exact q_when (b := true) (et_or (a := true) (b := false) (et_not (isi E4 R rfl (b := false) (by rfl))) fun z => nomatch z) (fun _ H5 e5 => qe (by rw [goodT]) H5 (E4.trans e5)) (fun z => nomatch z)
    | @tup a vs ds e r =>
      have R : Rep H (.ref a) (.tup ds) := .tup e r
      refine q_when (isi e1 R rfl (b := false) (by rfl)) (fun z => nomatch z) fun _ H2 e2 => ?_
      refine q_when (isi (e1.trans e2) R rfl (b := false) (by rfl)) (fun z => nomatch z) fun _ H3 e3 => ?_
      refine q_when (isi ((e1.trans e2).trans e3) R rfl (b := false) (by rfl)) (fun z => nomatch z) fun _ H4 e4 => ?_
      have E4 := ((e1.trans e2).trans e3).trans e4
      rw [FitD] at hp
      rw [goodT] at q qe
      have hh4 : heightL ds < h := by rw [height] at hh; omega
      have hl := r.len
      refine q_when (b := decide (t = 40)) (et_is (et_or (et_not (isi E4 R rfl (b := true) (by rfl))) fun _ => et_test (ev_op (ev_v rfl) ev_c (rv_eq rfl))) (by
        rw [Bool.not_true, Bool.false_or]
        exact decide_eq_decide.mpr ⟨fun z => by have := V.int.inj z; omega, fun z => by rw [z]; rfl⟩)) (fun hb5 H5 e5 => ?_) fun hb5 H5 e5 => ?_
      · refine qe ?_ H5 (E4.trans e5)
        rw [decide_eq_false (fun z => z (of_decide_eq_true hb5)), Bool.false_and]
      have ht40 := of_decide_eq_false hb5
      rw [decide_eq_true ht40, Bool.true_and] at q qe
      have E5 := E4.trans e5
      have ho2 : (sev ds.length).length + (octsL ds).length ≤ 19999 := by
        rw [octs, List.length_cons, List.length_append] at ho
        omega
      refine q_asgL (xs := nats (6 :: sev ds.length)) (el_pre (c := 6) (n := ds.length) (ev_is (ev_lenT (ev_v rfl) (st_of (E5 a _ e))) (by rw [hl])) (by omega)) fun p H6 hp6 e6 h6 => ?_
      have hp0 := fresh_back E5 hp6
      refine q_forT (K := K) (xs := vs) (ev_v rfl) (st_of (e6 a _ (E5 a _ e))) (fun i σ H' => Ex H H' ∧ (∀ (j : Nat) (d : D), j < i → ds[j]? = some d → goodT (t + 1) d = true) ∧ H' p = some (.lst (nats (6 :: (sev ds.length ++ octsL (ds.take i))))) ∧ ∃ y, σ = [some (.ref a), some (.int (t : Int)), some (.ref p), y]) (fun H7 e7 => ⟨(E5.trans e6).trans e7, fun j d hj => absurd hj (Nat.not_lt_zero _), ?_, none, rfl⟩) (fun i σ' H' _ ⟨e', _⟩ => st_of (e' a _ e)) ?_ ?_
      · rw [List.take_zero, octsL, List.append_nil]
        exact e7 p _ h6
      · rintro i x σ H' hx ⟨e', hall, hP, y, rfl⟩
        obtain ⟨d, hd, rd⟩ := r.get' hx
        have g1 := heightL_get hd
        have g2 := octsL_part hd
        refine r_dropE (r_bm (r_var (v := .ref p) rfl ⟨.inl ⟨rfl, _, sq_of hP⟩, r_cons (r_callX (r_cons (r_var (v := x) rfl (r_cons (r_ev (v := .int ((t + 1 : Nat) : Int)) (ev_op (ev_v rfl) (ev_cn 1) rv_addN) (Ex.refl _) fun H8 e8 => r_nil ⟨x, t + 1, rfl, by omega, .inl ⟨d, rd.mono (e'.trans e8), FitL_get hp.2 hd, by omega, by omega, fun hg p2 H9 hp2 e9 h9 => ?_, fun hg H9 e9 => ?_⟩⟩)))))⟩))
        · refine r_nil ⟨p, p2, nats (6 :: (sev ds.length ++ octsL (ds.take i))), nats (octs d), rfl, rfl, e9 _ _ (e8 _ _ hP), h9, sz_of (by rw [nats_len, nats_len, List.length_cons, List.length_append]; omega), ?_⟩
          refine ⟨((e'.trans e8).trans e9).mut hp0, fun j d' hj hd' => ?_, ?_, _, rfl⟩
          · by_cases hji : j = i
            · subst hji
              rw [hd] at hd'
              cases hd'
              exact hg
            · exact hall j d' (by omega) hd'
          · rw [upd_same, ← nats_app, List.cons_append, List.append_assoc, ← octsL_take hd]
        · refine qe ?_ H9 ((e'.trans e8).trans e9)
          cases hc : goodL (t + 1) ds with
          | false => rfl
          | true => rw [goodL_get hc hd] at hg; exact nomatch hg
      · rintro σ H' ⟨e', hall, hP, y, rfl⟩
        rw [List.take_of_length_le (by omega)] at hP
        refine s_ret (ev_v rfl) fun H9 e9 => q (goodL_take fun j d hd => hall j d (by have := (List.getElem?_eq_some_iff.mp hd).1; omega) hd) p H9 hp0 (e'.trans e9) (e9 p _ hP)
theorem cal_told_at {f : Addr} {fd : FuncData} {k : Nat} (F : Fun K "told_at" "told_at" s_told_at f fd) (hb : Binds K fd ["value", "tuples"] []) (hk : PySem.W.keepIn K (.ref f) = true) (hm : mg "told_at" = some (.ref f)) (N : Nb mg) (T_Misvalued : PySem.SupX.Sup0 P K mg "Misvalued" "Misvalued.__init__" txv Cv fv dv cv) (g_MOST_TUPLES : GI mg "MOST_TUPLES" 40)
    (C_number_told : Cal P w K mg base k "number_told" ["number"] (spL ok_number_told)) (C_text_told : CalX P w K mg base k "text_told" ["text"] (sp_text_told Cv)) : ∀ h, CalX P w K mg base (k + h) "told_at" ["value", "tuples"] (sp_told_at Cv h)
  | 0 => ⟨f, fd, ⟨fun vs H Q E h => by obtain ⟨_, _, _, h, _⟩ := h; exact (Nat.not_lt_zero _ h).elim, fun A outer s H args us vs Q E _ _ _ _ h => by obtain ⟨_, _, _, h, _⟩ := h; exact (Nat.not_lt_zero _ h).elim⟩, hb, hk, hm⟩
  | h + 1 => ⟨f, fd, fn_told_at F N T_Misvalued g_MOST_TUPLES (C_number_told.mono (Nat.le_add_right k h)) (C_text_told.mono (Nat.le_add_right k h)) (cal_told_at F hb hk hm N T_Misvalued g_MOST_TUPLES C_number_told C_text_told h), hb, hk, hm⟩
abbrev s_told : Stmt := topS 10
theorem sc_told : FnScope ["value"] ["value"] (defScope s_told) := ⟨rfl, rfl, rfl, by decide +kernel, rfl, by decide +kernel, by decide +kernel⟩
def sp_told (Cv : Addr) : Sp := fun vs H Q E => ∃ v : V, vs = [v] ∧ TellsAt Cv 43 0 v H Q E
theorem fn_told {f : Addr} {fd : FuncData} {k : Nat} (F : Fun K "told" "told" s_told f fd) (N : Nb mg) (C_told_at : CalX P w K mg base k "told_at" ["value", "tuples"] (sp_told_at Cv 43)) : FnOk P w K mg base (L2.CX P w) (k + 1) f fd ["value"] (sp_told Cv) := by
  refine F.okX sc_told (fun vs H Q E h => ?_) (fun cdv A outer s H vs Q E hr h => ?_)
  · obtain ⟨_, rfl, _⟩ := h
    rfl
  · obtain ⟨v, rfl, hT⟩ := h
    refine ⟨_, (pss_one (ps_ret (pe_calX C_told_at hr (takes_of rfl rfl rfl rfl) (pa_cons (pv 0) (pa_cons pe_int pa_nil))))), ?_⟩
    exact r_ret (r_callX (r_cons (r_var rfl (r_cons (r_c (r_nil ⟨v, 0, rfl, by decide, hT⟩))))))
abbrev s_is_plain : Stmt := topS 11
theorem sc_is_plain : FnScope ["value"] ["value"] (defScope s_is_plain) := ⟨rfl, rfl, rfl, by decide +kernel, rfl, by decide +kernel, by decide +kernel⟩
/-- plain or not -/
def sp_plain : Sp := fun vs H Q _ => ∃ v : V, vs = [v] ∧ ((∃ d, Rep H v d ∧ FitD d ∧ height d < 43 ∧ (octs d).length ≤ 20000 ∧ ∀ H', Ex H H' → Q (.bl (goodT 0 d)) H') ∨ ∃ a kvs, v = .ref a ∧ H a = some (.dK kvs) ∧ ∀ H', Ex H H' → Q (.bl false) H')
theorem fn_plain {f : Addr} {fd : FuncData} {k : Nat} (F : Fun K "is_plain" "is_plain" s_is_plain f fd) (N : Nb mg) (T_Misvalued : PySem.SupX.Sup0 P K mg "Misvalued" "Misvalued.__init__" txv Cv fv dv cv) (C_told : CalX P w K mg base k "told" ["value"] (sp_told Cv)) : FnOk P w K mg base CX0 (k + 1) f fd ["value"] sp_plain := by
  refine F.ok sc_is_plain (fun vs H Q E h => ?_) (fun cdv A outer s H vs Q E hr h => ?_)
  · obtain ⟨_, rfl, _⟩ := h
    rfl
  · obtain ⟨v, rfl, hT⟩ := h
    refine ⟨_, (pss_cons (ps_try_only rfl rfl ⟨rfl, by decide, .inl T_Misvalued.gC⟩ takesN (fun W pn xe tk po => (pss_one (ps_expr (pe_calX C_told hr tk (pa_cons (pv 0) pa_nil))))) (fun a oe cls d pn _ _ => (pss_one (ps_ret pe_bl))))
      (pss_one (ps_ret pe_bl))), ?_⟩
    rcases hT with ⟨d, hR, hp, hh, ho, q⟩ | ⟨a, kvs, rfl, ha, q⟩
    · refine r_dropE (r_callX (r_cons (r_var rfl (r_nil ⟨v, rfl, .inl ⟨d, hR, hp, hh, ho, fun hg p H1 hp1 e1 h1 => ?_, fun hg H1 e1 => ⟨true, T_Misvalued.te, fun _ a ha => ?_, fun z => nomatch z⟩⟩⟩))))
      · rw [hg] at q
        show tRet (tC (.bl true)) { nx := fun _ H' => Q V.non H', rt := Q } [some v] H1
        exact s_ret ev_c fun H2 e2 => q H2 (e1.trans e2)
      · rw [hg] at q
        show tRet (tC (.bl false)) { nx := tRet (tC (.bl true)) { nx := fun _ H' => Q V.non H', rt := Q }, rt := Q } [some v] H1
        exact s_ret ev_c fun H2 e2 => q H2 (e1.trans e2)
    · refine r_dropE (r_callX (r_cons (r_var rfl (r_nil ⟨_, rfl, .inr ⟨a, kvs, rfl, ha, fun H1 e1 => ⟨true, T_Misvalued.te, fun _ a' ha' => ?_, fun z => nomatch z⟩⟩⟩))))
      show tRet (tC (.bl false)) { nx := tRet (tC (.bl true)) { nx := fun _ H' => Q V.non H', rt := Q }, rt := Q } [some (.ref a)] H1
      exact s_ret ev_c fun H2 e2 => q H2 (e1.trans e2)
end
end K00

set_option Elab.async false
set_option linter.all false
set_option maxRecDepth 100000
set_option maxHeartbeats 4000000
namespace K00
open PySem PySem.Spec PyProof.Rows L2 Evl My
/-! octets read as values, in plain terms -/
def numL : List Nat → Nat → Nat → Nat → Except Nat (Nat × Nat)
  | [], at_, _, _ => .error at_
  | o :: l, at_, f, w => if 127 < o then numL l (at_ + 1) (f + w * (o - 128)) (w * 128) else if o = 0 ∧ 1 < w then .error at_ else .ok (f + w * o, at_ + 1)
def numR (data : List Nat) (at_ : Nat) : Except Nat (Nat × Nat) := numL (data.drop at_) at_ 0 1
def sigR (data : List Nat) : Nat → Nat → List Nat → Except Nat (D × Nat)
  | 0, at_, acc => .ok (.str acc, at_)
  | n + 1, at_, acc => match data[at_]? with
    | none => .error at_
    | some o => if 94 < o then .error at_ else sigR data n (at_ + 1) (acc ++ [sgns.getD o 0])
def tupR (g : Nat → Except Nat (D × Nat)) : Nat → Nat → List D → Except Nat (D × Nat)
  | 0, at_, acc => .ok (.tup acc, at_)
  | n + 1, at_, acc => match g at_ with
    | .error p => .error p
    | .ok (d, p) => tupR g n p (acc ++ [d])
def valR (data : List Nat) : Nat → Nat → Nat → Except Nat (D × Nat)
  | 0, _, at_ => .error at_
  | h + 1, t, at_ => match data[at_]? with
    | none => .error at_
    | some k => if (if t < 40 then 6 else 5) < k then .error at_ else if k < 3 then .ok (if k = 0 then .non else .bl (decide (k = 2)), at_ + 1) else match numR data (at_ + 1) with
      | .error p => .error p
      | .ok (n, p) => if k = 3 then .ok (.int (n : Int), p) else if k = 4 then .ok (.int (-(n : Int) - 1), p) else if k = 5 then sigR data n p [] else tupR (valR data h (t + 1)) n p []
theorem nats_get? {xs : List Nat} {i : Nat} {x : Nat} (h : xs[i]? = some x) : (nats xs)[i]? = some (.int (x : Int)) := by
  unfold nats
  rw [List.getElem?_map, h]
  rfl
theorem sgns_len : sgns.length = 95 := by decide +kernel
/-! the taker -/
def fldD : Str := "data"
def fldA : Str := "at"
def flT (dl : Addr) (at_ : Nat) : List (Str × V) := [(fldD, .ref dl), (fldA, .int (at_ : Int))]
theorem fl_none {dl : Addr} {at_ : Nat} {m : Str} (h1 : m ≠ fldD) (h2 : m ≠ fldA) : (flT dl at_).lookup m = none := by
  unfold flT
  rw [List.lookup_cons, beq_eq_false_iff_ne.mpr h1]
  show List.lookup m [(fldA, V.int (at_ : Int))] = none
  rw [List.lookup_cons, beq_eq_false_iff_ne.mpr h2]
  rfl
structure RT (K : PySem.W.Frag) (mg : Str → Option Value) (C : Addr) : Prop where
  cl : Cls K C
  nD : NoAttr K C "data"
  nA : NoAttr K C "at"
/-- what stands beside r stands -/
def Frm (r : Addr) (H H' : Hp) : Prop := ∀ a o, a ≠ r → H a = some o → H' a = some o
theorem Frm.of {r : Addr} {H H' : Hp} (e : Ex H H') : Frm r H H' := fun a o _ h => e a o h
theorem Frm.trans {r : Addr} {H H1 H2 : Hp} (a : Frm r H H1) (b : Frm r H1 H2) : Frm r H H2 := fun x o n h => b x o n (a x o n h)
theorem Frm.exR {r : Addr} {H H1 H2 : Hp} (a : Frm r H H1) (e : Ex H1 H2) : Frm r H H2 := a.trans (.of e)
theorem Frm.exL {r : Addr} {H H1 H2 : Hp} (e : Ex H H1) (a : Frm r H1 H2) : Frm r H H2 := (Frm.of e).trans a
theorem Frm.upd {r : Addr} {H : Hp} {o : HO} : Frm r H (upd H r o) := fun x u n h => by rw [upd_ne n]; exact h
theorem Frm.kt {r C dx : Addr} {H H' : Hp} {fs : List (Str × V)} (hr : H r = some (.ins C dx fs)) (h : Frm r H H') : ∀ a us, H a = some (.tup us) → H' a = some (.tup us) := fun a us ha => h a _ (ne_kind ha hr (fun z => nomatch z)) ha
/-- a taker at r that has read up to at_ -/
structure TkS (C : Addr) (H : Hp) (r dl : Addr) (data : List Nat) (at_ : Nat) : Prop where
  ins : ∃ dx, H r = some (.ins C dx (flT dl at_))
  lst : H dl = some (.lst (nats data))
theorem TkS.ex {C : Addr} {H H' : Hp} {r dl : Addr} {data : List Nat} {at_ : Nat} (e : Ex H H') (h : TkS C H r dl data at_) : TkS C H' r dl data at_ := by
  obtain ⟨⟨dx, h1⟩, h2⟩ := h
  exact ⟨⟨dx, e _ _ h1⟩, e _ _ h2⟩
theorem TkS.ne {C : Addr} {H : Hp} {r dl : Addr} {data : List Nat} {at_ : Nat} (h : TkS C H r dl data at_) : dl ≠ r := by
  obtain ⟨⟨dx, h1⟩, h2⟩ := h
  exact ne_kind h2 h1 (fun z => nomatch z)
/-- refused at the place pl -/
def Rz (Cm r : Addr) (H : Hp) (E : XK) (pl : Nat) : Prop := ∀ d H', H' d = some (.xd [(("place" : Str), .int (pl : Int))]) → Frm r H H' → E (.ref Cm) (some d) H'
section
variable {P : Program} {w : World} {K : PySem.W.Frag} {mg : Str → Option Value} {base : Heap} {C Cm fm dm cm : Addr}
abbrev s_Taker___init__ : Stmt := inClass (topS 12) 0
theorem sc_Taker___init__ : FnScope ["self", "data"] ["self", "data"] (defScope s_Taker___init__) := ⟨rfl, rfl, rfl, by decide +kernel, rfl, by decide +kernel, by decide +kernel⟩
def sp_init (C : Addr) : Sp := fun vs H Q _ => ∃ (r dl dx : Addr) (data : List Nat), vs = [.ref r, .ref dl] ∧ H r = some (.ins C dx []) ∧ H dl = some (.lst (nats data)) ∧ ∀ H', Frm r H H' → TkS C H' r dl data 0 → Q .non H'
theorem fn_init {f : Addr} {fd : FuncData} {k : Nat} (F : Fun K "__init__" "Taker.__init__" s_Taker___init__ f fd) (N : Nb mg) (T : RT K mg C) : FnOk P w K mg base CX0 (k + 1) f fd ["self", "data"] (sp_init C) := by
  refine F.ok sc_Taker___init__ (fun vs H Q E h => ?_) (fun cdv A outer s H vs Q E hr h => ?_)
  · obtain ⟨r, dl, dx, data, rfl, _⟩ := h
    rfl
  · obtain ⟨r, dl, dx, data, rfl, hp, hd, q⟩ := h
    refine ⟨_, (pss_cons (ps_fld (pv 0) (pv 1) rfl)
      (pss_one (ps_fld (pv 0) pe_int rfl))), ?_⟩
    have nd : dl ≠ r := ne_kind hd hp (fun z => nomatch z)
    refine ⟨_, rfl, _, rfl, r, C, dx, [], rfl, hp, T.cl, T.nD, (by show 0 < 1000; decide), ?_⟩
    refine ⟨_, rfl, r, C, dx, [(fldD, .ref dl)], rfl, upd_same, T.cl, T.nA, (by show 1 < 1000; decide), ?_⟩
    exact q _ (fun a o n h => by rw [upd_ne n, upd_ne n]; exact h) ⟨⟨dx, upd_same⟩, by rw [upd_ne nd, upd_ne nd]; exact hd⟩
theorem ev_dat {σ : L2.St} {H : Hp} {i : Nat} {r dl : Addr} {data : List Nat} {at_ : Nat} (T : RT K mg C) (h : σ[i]? = some (some (.ref r))) (hi : TkS C H r dl data at_) : Ev (tFld K (tVar i) "data") σ H (.ref dl) := by
  obtain ⟨⟨dx, h1⟩, _⟩ := hi
  exact ev_fld (ev_v h) h1 T.cl T.nD rfl
theorem ev_at {σ : L2.St} {H : Hp} {i : Nat} {r dl : Addr} {data : List Nat} {at_ : Nat} (T : RT K mg C) (h : σ[i]? = some (some (.ref r))) (hi : TkS C H r dl data at_) : Ev (tFld K (tVar i) "at") σ H (.int (at_ : Int)) := by
  obtain ⟨⟨dx, h1⟩, _⟩ := hi
  exact ev_fld (ev_v h) h1 T.cl T.nA rfl
abbrev s_Taker_octet : Stmt := inClass (topS 12) 1
theorem sc_Taker_octet : FnScope ["self", "most"] ["self", "most"] (defScope s_Taker_octet) := ⟨rfl, rfl, rfl, by decide +kernel, rfl, by decide +kernel, by decide +kernel⟩
/- 0 self, 1 most -/
def sp_oct (C Cm : Addr) : Sp := fun vs H Q E => ∃ (r dl : Addr) (data : List Nat) (at_ most : Nat), vs = [.ref r, .int (most : Int)] ∧ TkS C H r dl data at_ ∧ (∀ o, data[at_]? = some o → o ≤ most → ∀ H', Frm r H H' → TkS C H' r dl data (at_ + 1) → Q (.int (o : Int)) H') ∧ ((∀ o, data[at_]? = some o → most < o) → Rz Cm r H E at_)
theorem fn_octet {f : Addr} {fd : FuncData} {k : Nat} (F : Fun K "octet" "Taker.octet" s_Taker_octet f fd) (N : Nb mg) (T : RT K mg C) (T_Misread : PySem.SupX.Sup1 P K mg "Misread" "Misread.__init__" Cm fm dm cm) : FnOk P w K mg base (L2.CX P w) (k + 1) f fd ["self", "most"] (sp_oct C Cm) := by
  refine F.okX sc_Taker_octet (fun vs H Q E h => ?_) (fun cdv A outer s H vs Q E hr h => ?_)
  · obtain ⟨_, _, _, _, _, rfl, _⟩ := h
    rfl
  · obtain ⟨r, dl, data, at_, most, rfl, hT, q, qe⟩ := h
    refine ⟨_, (pss_cons (ps_if (PW.pt (pw_or (pt_cmpR op_ge (pe_fld (pv 0) rfl) (pe_callB call_len_seq (by rfl) N.len PySem.boot_len (pa_cons (pe_fld (pv 0) rfl) pa_nil)) (nomark _)) (pw_or1 (pt_cmpR op_gt (pe_ix ix_list (pe_fld (pv 0) rfl) (pe_fld (pv 0) rfl) (fun _ _ => rfl)) (pv 1) (nomark _))))) (pss_one (ps_raiseS1 rfl T_Misread hr (takes_of rfl rfl rfl rfl) (pa_cons (pe_fld (pv 0) rfl) pa_nil))) pss_nil)
      (pss_cons (ps_fld (pv 0) (pe_op op_add (pe_fld (pv 0) rfl) pe_int) rfl)
      (pss_one (ps_ret (pe_ix ix_list (pe_fld (pv 0) rfl) (pe_op op_sub (pe_fld (pv 0) rfl) pe_int) (fun _ _ => rfl)))))), ?_⟩
    have lenE : ∀ {σ : L2.St} {H' : Hp}, σ[0]? = some (some (.ref r)) → Ex H H' → Ev (tCB (rLenS K) (tCons (tFld K (tVar 0) "data") tNil)) σ H' (.int (data.length : Int)) := fun hv e => ev_is (ev_len (ev_dat T hv (hT.ex e)) (sq_of (e _ _ hT.lst))) (by rw [nats_len])
    have hq : ∀ (D0 : Ends) (H1 : Hp), Ex H H1 → D0.rt = Q → (∀ o, data[at_]? = some o → o ≤ most) → data[at_]? ≠ none → tSeq (sFld K (tVar 0) (tOp (rI0 fun i j => .int (i + j)) (tFld K (tVar 0) "at") (tC (.int 1))) "at") (tRet (tOp (rIxL K) (tFld K (tVar 0) "data") (tOp (rI0 fun i j => .int (i - j)) (tFld K (tVar 0) "at") (tC (.int 1))))) D0 [some (.ref r), some (.int (most : Int))] H1 := fun D0 H1 e1 hD hm hne => by
      obtain ⟨o, ho⟩ := Option.ne_none_iff_exists'.mp hne
      refine (ev_op (ev_at T rfl (hT.ex e1)) (ev_cn 1) rv_addN : Ev _ _ H1 (.int ((at_ + 1 : Nat) : Int))) H1 (Ex.refl _) _ fun H2 e2 => ?_
      have T2 := hT.ex (e1.trans e2)
      obtain ⟨⟨dx, t1⟩, t2⟩ := T2
      refine ⟨_, rfl, r, C, dx, flT dl at_, rfl, t1, T.cl, T.nA, (by show 2 < 1000; decide), ?_⟩
      have T3 : TkS C (upd H2 r (.ins C dx (flT dl (at_ + 1)))) r dl data (at_ + 1) := ⟨⟨dx, upd_same⟩, by rw [upd_ne hT.ne]; exact t2⟩
      have hD2 : D0.rt = Q := hD
      refine s_ret (v := .int (o : Int)) (ev_ixL (j := at_) (ev_dat T rfl T3) (ev_is (ev_op (ev_at T rfl T3) (ev_cn 1) (rv_subN (a := at_ + 1) (b := 1) (by omega))) rfl) (sq_of T3.lst) (nats_get? ho)) fun H4 e4 => ?_
      show D0.rt _ _
      rw [hD]
      exact q o ho (hm o ho) H4 (((Frm.of (e1.trans e2)).trans .upd).exR e4) (T3.ex e4)
    have rz : ∀ {D0 : Ends} {H1 : Hp}, Ex H H1 → (∀ o, data[at_]? = some o → most < o) → tRaiseS1 Cm (fun cls d _ H => E cls d H) (tCons (tFld K (tVar 0) "at") tNil) D0 [some (.ref r), some (.int (most : Int))] H1 := fun {D0 H1} e1 hm =>
      r_raiseS1 (r_cons (r_ev (ev_at T rfl (hT.ex e1)) (Ex.refl _) fun H2 e2 => r_nil ⟨_, rfl, fun d hd => qe hm d _ upd_same (Frm.of ((e1.trans e2).trans (Ex.new hd)))⟩))
    cases ho : data[at_]? with
    | none =>
      have hl : data.length ≤ at_ := List.getElem?_eq_none_iff.mp ho
      exact q_when (b := true) (et_or (a := true) (b := false) (et_is (et_test (ev_op (ev_at T rfl hT) (lenE rfl (Ex.refl _)) rv_I0)) (decide_eq_true (by omega))) fun z => nomatch z) (fun _ H1 e1 => rz e1 fun o h => by rw [ho] at h; exact nomatch h) (fun z => nomatch z)
    | some o =>
      have hl : at_ < data.length := (List.getElem?_eq_some_iff.mp ho).1
      refine q_when (b := decide (most < o)) (et_or (a := false) (b := decide (most < o)) (et_is (et_test (ev_op (ev_at T rfl hT) (lenE rfl (Ex.refl _)) rv_I0)) (decide_eq_false (by omega))) fun _ => et_is (et_test (ev_op (ev_ixL (j := at_) (ev_dat T rfl hT) (ev_at T rfl hT) (sq_of hT.lst) (nats_get? ho)) (ev_v rfl) rv_I0)) (decide_eq_decide.mpr (by omega))) (fun hb H1 e1 => rz e1 fun o' h => by
        rw [ho] at h
        cases h
        exact of_decide_eq_true hb) fun hb H1 e1 => hq _ H1 e1 rfl (fun o' h => by
        rw [ho] at h
        cases h
        have := of_decide_eq_false hb
        omega) (by rw [ho]; exact fun z => nomatch z)
end
end K00

set_option Elab.async false
set_option linter.all false
set_option maxRecDepth 100000
set_option maxHeartbeats 4000000
namespace K00
open PySem PySem.Spec PyProof.Rows L2 Evl My
theorem join_no (l : List Nat) : Txt.join (Str.ofString "") (l.map fun c => tx [c]) = tx l := by
  show Builtin.Str.glued _ _ = _
  rw [StrLaws.glued_eq_join]
  have h : ∀ l : List Nat, Str.join (Str.ofString "") (l.map fun c => tx [c]) = tx l := by
    intro l
    induction l with
    | nil => rfl
    | cons x r ih =>
      cases r with
      | nil => rfl
      | cons y r =>
        show tx [x] ++ Str.ofString "" ++ Str.join (Str.ofString "") ((y :: r).map fun c => tx [c]) = _
        rw [ih, show Str.ofString "" = tx [] by decide +kernel, tx_app, tx_app]
        rfl
  exact h l
theorem sum_ones (l : List Nat) : ((l.map fun c => tx [c]).map (·.length)).sum = l.length := by
  induction l with
  | nil => rfl
  | cons x r ih =>
    rw [List.map_cons, List.map_cons, List.sum_cons, ih, tx_len]
    show 1 + r.length = r.length + 1
    omega
/-! how far is read -/
theorem numL_adv : ∀ (l : List Nat) (a f w n p : Nat), numL l a f w = .ok (n, p) → a < p ∧ p ≤ a + l.length
  | [], _, _, _, _, _, h => nomatch h
  | o :: l, a, f, w, n, p, h => by
    rw [numL] at h
    rw [List.length_cons]
    split at h
    · have := numL_adv l _ _ _ _ _ h
      omega
    · split at h
      · exact nomatch h
      · cases h
        omega
theorem numR_adv {data : List Nat} {a n p : Nat} (ha : a ≤ data.length) (h : numR data a = .ok (n, p)) : a < p ∧ p ≤ data.length := by
  have := numL_adv _ _ _ _ _ _ h
  rw [List.length_drop] at this
  omega
theorem sigR_adv {data : List Nat} : ∀ (n a : Nat) (acc : List Nat) (d : D) (p : Nat), a ≤ data.length → sigR data n a acc = .ok (d, p) → a ≤ p ∧ p ≤ data.length ∧ NoL d
  | 0, a, acc, d, p, ha, h => by
    rw [sigR] at h
    cases h
    exact ⟨Nat.le_refl _, ha, by simp [NoL]⟩
  | n + 1, a, acc, d, p, ha, h => by
    rw [sigR] at h
    cases ho : data[a]? with
    | none => rw [ho] at h; exact nomatch h
    | some o =>
      rw [ho] at h
      simp only at h
      split at h
      · exact nomatch h
      · have hl := (List.getElem?_eq_some_iff.mp ho).1
        have := sigR_adv n (a + 1) _ d p (by omega) h
        exact ⟨by omega, this.2⟩
theorem tupR_adv {data : List Nat} {g : Nat → Except Nat (D × Nat)} (hg : ∀ a d p, a ≤ data.length → g a = .ok (d, p) → a < p ∧ p ≤ data.length ∧ NoL d) : ∀ (n a : Nat) (acc : List D) (d : D) (p : Nat), a ≤ data.length → NoLL acc → tupR g n a acc = .ok (d, p) → a ≤ p ∧ p ≤ data.length ∧ NoL d
  | 0, a, acc, d, p, ha, hn, h => by
    rw [tupR] at h
    cases h
    exact ⟨Nat.le_refl _, ha, by rw [NoL]; exact hn⟩
  | n + 1, a, acc, d, p, ha, hn, h => by
    rw [tupR] at h
    cases ho : g a with
    | error e => rw [ho] at h; exact nomatch h
    | ok x =>
      obtain ⟨d', p'⟩ := x
      rw [ho] at h
      obtain ⟨h1, h2, h3⟩ := hg a d' p' ha ho
      have := tupR_adv hg n p' _ d p h2 (nol_app hn (by rw [NoLL, NoLL]; exact ⟨h3, trivial⟩)) h
      exact ⟨by omega, this.2⟩
theorem valR_adv {data : List Nat} : ∀ (h t a : Nat) (d : D) (p : Nat), a ≤ data.length → valR data h t a = .ok (d, p) → a < p ∧ p ≤ data.length ∧ NoL d
  | 0, _, _, _, _, _, e => nomatch e
  | h + 1, t, a, d, p, ha, e => by
    rw [valR] at e
    cases ho : data[a]? with
    | none => rw [ho] at e; exact nomatch e
    | some k =>
      rw [ho] at e
      have hl := (List.getElem?_eq_some_iff.mp ho).1
      simp only at e
      by_cases c1 : (if t < 40 then 6 else 5) < k
      · rw [if_pos c1] at e
        exact nomatch e
      rw [if_neg c1] at e
      by_cases c2 : k < 3
      · rw [if_pos c2] at e
        cases e
        refine ⟨by omega, by omega, ?_⟩
        by_cases c3 : k = 0
        · rw [if_pos c3, NoL]
          · trivial
          all_goals (intros; contradiction)
        · rw [if_neg c3, NoL]
          · trivial
          all_goals (intros; contradiction)
      rw [if_neg c2] at e
      cases hnum : numR data (a + 1) with
      | error x => rw [hnum] at e; exact nomatch e
      | ok x =>
        obtain ⟨n, p1⟩ := x
        rw [hnum] at e
        have h1 := numR_adv (show a + 1 ≤ data.length by omega) hnum
        simp only at e
        by_cases c3 : k = 3
        · rw [if_pos c3] at e
          cases e
          exact ⟨by omega, h1.2, by simp [NoL]⟩
        rw [if_neg c3] at e
        by_cases c4 : k = 4
        · rw [if_pos c4] at e
          cases e
          exact ⟨by omega, h1.2, by simp [NoL]⟩
        rw [if_neg c4] at e
        by_cases c5 : k = 5
        · rw [if_pos c5] at e
          have := sigR_adv n p1 [] d p h1.2 e
          exact ⟨by omega, this.2⟩
        rw [if_neg c5] at e
        have := tupR_adv (data := data) (fun a d p => valR_adv h (t + 1) a d p) n p1 [] d p h1.2 (by rw [NoLL]; trivial) e
        exact ⟨by omega, this.2⟩
section
variable {P : Program} {w : World} {K : PySem.W.Frag} {mg : Str → Option Value} {base : Heap} {C Cm fm dm cm : Addr}
theorem r_asgE {i : Nat} {te : TE} {D : Ends} {σ : L2.St} {H : Hp} (h : te σ H fun v H1 => D.nx (σ.set i (some v)) H1) : tAsg te (gName i) D σ H := h
theorem Rz.frm {Cm r : Addr} {H H1 : Hp} {E : XK} {pl : Nat} (f : Frm r H H1) (h : Rz Cm r H E pl) : Rz Cm r H1 E pl := fun d H' hd g => h d H' hd (f.trans g)
abbrev s_Taker_number : Stmt := inClass (topS 12) 2
theorem sc_Taker_number : FnScope ["self", "found", "weight", "octet"] ["self"] (defScope s_Taker_number) := ⟨rfl, rfl, rfl, by decide +kernel, rfl, by decide +kernel, by decide +kernel⟩
/- 0 self, 1 found, 2 weight, 3 octet -/
def sp_num (C Cm : Addr) : Sp := fun vs H Q E => ∃ (r dl : Addr) (data : List Nat) (at_ : Nat), vs = [.ref r] ∧ TkS C H r dl data at_ ∧ (∀ x ∈ data, x < 256) ∧ (∀ n p, numR data at_ = .ok (n, p) → ∀ H', Frm r H H' → TkS C H' r dl data p → Q (.int (n : Int)) H') ∧ (∀ pl, numR data at_ = .error pl → Rz Cm r H E pl)
theorem fn_number {f : Addr} {fd : FuncData} {k : Nat} (F : Fun K "number" "Taker.number" s_Taker_number f fd) (N : Nb mg) (T : RT K mg C) (T_Misread : PySem.SupX.Sup1 P K mg "Misread" "Misread.__init__" Cm fm dm cm) (M_octet : MCalX P w K mg base k C "octet" ["self", "most"] (sp_oct C Cm)) : FnOk P w K mg base (L2.CX P w) (k + 1) f fd ["self"] (sp_num C Cm) := by
  refine F.okX sc_Taker_number (fun vs H Q E h => ?_) (fun cdv A outer s H vs Q E hr h => ?_)
  · obtain ⟨_, _, _, _, rfl, _⟩ := h
    rfl
  · obtain ⟨r, dl, data, at_, rfl, hT, h256, q, qe⟩ := h
    refine ⟨_, (pss_cons (ps_asg (pe_tup (pa_cons pe_int (pa_cons pe_int pa_nil))) (pg_tup rfl (pgs_cons (pg_name (i := 1) sc_Taker_number.nd rfl (Or.inl rfl)) (pgs_cons (pg_name (i := 2) sc_Taker_number.nd rfl (Or.inl rfl)) pgs_nil))))
      (pss_cons (ps_set (i := 3) sc_Taker_number.nd rfl (Or.inl rfl) (pe_mcalX T.cl M_octet hr (takes_of rfl rfl rfl rfl) (pv 0) (pa_cons pe_int pa_nil)))
      (pss_cons (ps_while (passes_of rfl) (pt_cmpR op_gt (pv 3) pe_int (nomark _)) (pss_cons (ps_set (i := 1) sc_Taker_number.nd rfl (Or.inl rfl) (pe_op op_add (pv 1) (pe_op op_mul (pv 2) (pe_op op_sub (pv 3) pe_int))))
      (pss_cons (ps_set (i := 2) sc_Taker_number.nd rfl (Or.inl rfl) (pe_op op_mul (pv 2) pe_int))
      (pss_one (ps_set (i := 3) sc_Taker_number.nd rfl (Or.inl rfl) (pe_mcalX T.cl M_octet hr (takes_of rfl rfl rfl rfl) (pv 0) (pa_cons pe_int pa_nil)))))))
      (pss_cons (ps_if (PW.pt (pw_and (pt_cmpR op_eq (pv 3) pe_int (nomark _)) (pw_and1 (pt_cmpR op_gt (pv 2) pe_int (nomark _))))) (pss_one (ps_raiseS1 rfl T_Misread hr (takes_of rfl rfl rfl rfl) (pa_cons (pe_op op_sub (pe_fld (pv 0) rfl) pe_int) pa_nil))) pss_nil)
      (pss_one (ps_ret (pe_op op_add (pv 1) (pe_op op_mul (pv 2) (pv 3))))))))), ?_⟩
    have none_of : ∀ {a : Nat}, (∀ o, data[a]? = some o → 255 < o) → data.drop a = [] := fun {a} h => by
      rw [List.drop_eq_nil_iff]
      refine Classical.byContradiction fun hlt => ?_
      have h1 : data[a]? = some (data[a]'(by omega)) := List.getElem?_eq_getElem (by omega)
      have := h _ h1
      have := h256 _ (List.mem_of_getElem? h1)
      omega
    have drop_of : ∀ {a o : Nat}, data[a]? = some o → data.drop a = o :: data.drop (a + 1) := fun {a o} h => by
      obtain ⟨hl, he⟩ := List.getElem?_eq_some_iff.mp h
      rw [List.drop_eq_getElem_cons hl, he]
    refine q_tupN (vs := [.int ((0 : Nat) : Int), .int ((1 : Nat) : Int)]) [1, 2] (eu_tup (ea_cons (ev_cn 0) (ea_cons (ev_cn 1) ea_nil)) (by show 2 ≤ 100000; decide)) rfl rfl fun H1 e1 => ?_
    have T1 := hT.ex e1
    obtain ⟨dx1, i1⟩ := T1.ins
    refine r_asg (r_methX (r_var (v := .ref r) rfl ⟨r, dx1, _, rfl, i1, fl_none (by decide) (by decide), r_cons (r_c (r_nil ⟨r, dl, data, at_, 255, rfl, T1, fun o ho _ H2 f2 T2 => ?_, fun hno => ?_⟩))⟩))
    rotate_left
    · refine Rz.frm (Frm.of e1) (qe at_ ?_)
      unfold numR
      rw [none_of hno, numL]
    refine q_while (fun m σ H' => ∃ a f w o, m = data.length - a ∧ a < data.length ∧ data[a]? = some o ∧ 1 ≤ w ∧ numL (data.drop a) a f w = numR data at_ ∧ Frm r H H' ∧ TkS C H' r dl data (a + 1) ∧ σ = [some (.ref r), some (.int (f : Int)), some (.int (w : Int)), some (.int (o : Int))]) (data.length - at_) ⟨at_, 0, 1, o, rfl, (List.getElem?_eq_some_iff.mp ho).1, ho, Nat.le_refl _, rfl, Frm.exL e1 f2, T2, rfl⟩ ?_
    rintro m σ H' ⟨a, f, w, o, hm, hal, ho, hw, hnum, fr, hTa, rfl⟩
    rw [drop_of ho, numL] at hnum
    refine ⟨decide (127 < o), et_is (et_test (ev_op (ev_v rfl) (ev_cn 127) rv_I0)) (decide_eq_decide.mpr (by omega)), fun hb H3 e3 => ⟨_, fun _ _ h => h, ?_⟩, fun hb H3 e3 => ?_⟩
    · have hb := of_decide_eq_true hb
      rw [if_pos hb] at hnum
      refine q_asg (v := .int ((f + w * (o - 128) : Nat) : Int)) (ev_op (ev_v rfl) (ev_op (ev_v rfl) (ev_op (ev_v rfl) (ev_cn 128) (rv_subN (by omega))) (rv_mulN (.inr (by have := h256 o (List.mem_of_getElem? ho); omega)))) rv_addN) fun H4 e4 => ?_
      refine q_asg (v := .int ((w * 128 : Nat) : Int)) (ev_op (ev_v rfl) (ev_cn 128) (rv_mulN (.inr (by decide)))) fun H5 e5 => ?_
      have E5 := (e3.trans e4).trans e5
      have T5 := hTa.ex E5
      obtain ⟨dx5, i5⟩ := T5.ins
      refine r_asgE (r_methX (r_var (v := .ref r) rfl ⟨r, dx5, _, rfl, i5, fl_none (by decide) (by decide), r_cons (r_c (r_nil ⟨r, dl, data, a + 1, 255, rfl, T5, fun o' ho' _ H6 f6 T6 => ?_, fun hno => ?_⟩))⟩))
      · exact ⟨data.length - (a + 1), by omega, a + 1, f + w * (o - 128), w * 128, o', rfl, (List.getElem?_eq_some_iff.mp ho').1, ho', by omega, hnum, (fr.exR E5).trans f6, T6, rfl⟩
      · refine Rz.frm (fr.exR E5) (qe (a + 1) ?_)
        rw [← hnum, none_of hno, numL]
    · have hb := of_decide_eq_false hb
      rw [if_neg hb] at hnum
      refine q_when (b := decide (o = 0) && decide (1 < w)) (et_and (et_is (et_test (ev_op (ev_v rfl) (ev_cn 0) (rv_eq rfl))) (decide_eq_decide.mpr ⟨fun h => by have := V.int.inj h; omega, fun h => by rw [h]⟩)) fun _ => et_is (et_test (ev_op (ev_v rfl) (ev_cn 1) rv_I0)) (decide_eq_decide.mpr (by omega))) (fun hz H4 e4 => ?_) fun hz H4 e4 => ?_
      · rw [Bool.and_eq_true, decide_eq_true_eq, decide_eq_true_eq] at hz
        rw [if_pos hz] at hnum
        have E4 := e3.trans e4
        refine r_raiseS1 (r_cons (r_ev (v := .int (a : Int)) (ev_is (ev_op (ev_at T rfl (hTa.ex E4)) (ev_cn 1) (rv_subN (a := a + 1) (b := 1) (by omega))) rfl) (Ex.refl _) fun H5 e5 => r_nil ⟨_, rfl, fun d hd => qe a hnum.symm d _ upd_same ((fr.exR (E4.trans e5)).exR (Ex.new hd))⟩))
      · have hz2 : ¬ (o = 0 ∧ 1 < w) := fun z => by
          rw [decide_eq_true z.1, decide_eq_true z.2] at hz
          exact nomatch hz
        rw [if_neg hz2] at hnum
        have E4 := e3.trans e4
        exact s_ret (v := .int ((f + w * o : Nat) : Int)) (ev_op (ev_v rfl) (ev_op (ev_v rfl) (ev_v rfl) (rv_mulN (.inr (by omega)))) rv_addN) fun H5 e5 => q _ _ hnum.symm H5 (fr.exR (E4.trans e5)) (hTa.ex (E4.trans e5))
end
end K00

set_option Elab.async false
set_option linter.all false
set_option maxRecDepth 100000
set_option maxHeartbeats 4000000
namespace K00
open PySem PySem.Spec PyProof.Rows L2 Evl My
theorem Frm.new {r q : Addr} {H H' : Hp} {o : HO} (f : Frm r H H') (hq : H q = none) : Frm r H (L2.upd H' q o) := fun a u n h => by
  have nq : a ≠ q := fun z => by rw [z, hq] at h; exact nomatch h
  rw [upd_ne nq]
  exact f a u n h
theorem TkS.upd {C : Addr} {H : Hp} {r dl q : Addr} {data : List Nat} {at_ : Nat} {o : HO} (h : TkS C H r dl data at_) (h1 : r ≠ q) (h2 : dl ≠ q) : TkS C (L2.upd H q o) r dl data at_ := by
  obtain ⟨⟨dx, i1⟩, i2⟩ := h
  exact ⟨⟨dx, by rw [upd_ne h1]; exact i1⟩, by rw [upd_ne h2]; exact i2⟩
section
variable {σ : L2.St} {H : Hp} {Q : VK} {to te : TE} {wi : TI} {g : TG} {tt : TT} {tx_ : L2.St → TE} {vs : List Nat}
theorem r_lcX (h : tLc wi g tt (tx_ σ) vs σ H Q) : tLcX wi g tt tx_ vs σ H Q := h
theorem r_m1 {r : V → List V → Hp → VK → Prop} (h : to σ H fun x H1 => (∃ a, x = .str a) ∧ te σ H1 fun y H2 => r x [y] H2 Q) : tM1 r to te σ H Q := h
end
/-- numbers that a range takes -/
def NumB (data : List Nat) : Prop := ∀ a n p, numR data a = .ok (n, p) → n < 2 ^ 62
section
variable {P : Program} {w : World} {K : PySem.W.Frag} {mg : Str → Option Value} {base : Heap} {C Cm fm dm cm : Addr}
abbrev s_Taker_value : Stmt := inClass (topS 12) 3
theorem sc_Taker_value : FnScope ["self", "tuples", "kind", "number", "_"] ["self", "tuples"] (defScope s_Taker_value) := ⟨rfl, rfl, rfl, by decide +kernel, rfl, by decide +kernel, by decide +kernel⟩
/- 0 self*, 1 tuples*, 2 kind, 3 number, 4 _ -/
def sp_val (C Cm : Addr) (h : Nat) : Sp := fun vs H Q E => ∃ (r dl : Addr) (data : List Nat) (t at_ : Nat), vs = [.ref r, .int (t : Int)] ∧ t ≤ 40 ∧ 41 ≤ t + h ∧ TkS C H r dl data at_ ∧ at_ ≤ data.length ∧ data.length ≤ 90000 ∧ (∀ x ∈ data, x < 256) ∧ NumB data ∧
  (∀ d p, valR data h t at_ = .ok (d, p) → ∀ v H', Rep H' v d → Frm r H H' → TkS C H' r dl data p → Q v H') ∧ (∀ pl, valR data h t at_ = .error pl → Rz Cm r H E pl)
theorem fn_value_ {f : Addr} {fd : FuncData} {k h : Nat} (F : Fun K "value" "Taker.value" s_Taker_value f fd) (N : Nb mg) (T : RT K mg C) (g_MOST_TUPLES : GI mg "MOST_TUPLES" 40) (g_SIGNS : GS mg "SIGNS" signsS) (M_octet : MCalX P w K mg base k C "octet" ["self", "most"] (sp_oct C Cm)) (M_number : MCalX P w K mg base k C "number" ["self"] (sp_num C Cm))
    (M_value : MCalX P w K mg base k C "value" ["self", "tuples"] (sp_val C Cm h)) : FnOk P w K mg base (L2.CX P w) (k + 1) f fd ["self", "tuples"] (sp_val C Cm (h + 1)) := by
  refine F.okX sc_Taker_value (fun vs H Q E h => ?_) (fun cdv A outer s H vs Q E hr h => ?_)
  · obtain ⟨_, _, _, _, _, rfl, _⟩ := h
    rfl
  · obtain ⟨r, dl, data, t, at_, rfl, ht40, hth, hT, hat, hdl, h256, hnb, q, qe⟩ := h
    refine ⟨_, (pss_cons (ps_set (i := 2) sc_Taker_value.nd rfl (Or.inl rfl) (pe_mcalX T.cl M_octet hr (takes_of rfl rfl rfl rfl) (pv 0) (pa_cons (pe_ifExp (pt_cmpR op_lt (pv 1) (pe_gi g_MOST_TUPLES) (nomark _)) pe_int pe_int) pa_nil)))
      (pss_cons (ps_if (pt_cmpR op_lt (pv 2) pe_int (nomark _)) (pss_one (ps_ret (pe_ifExp (pt_cmpR op_eq (pv 2) pe_int (nomark _)) pe_non (pe_cmpR op_eq (pv 2) pe_int (nomark _))))) pss_nil)
      (pss_cons (ps_set (i := 3) sc_Taker_value.nd rfl (Or.inl rfl) (pe_mcalX0 T.cl M_number hr (takes_of rfl rfl rfl rfl) (pv 0)))
      (pss_cons (ps_if (pt_cmpR op_eq (pv 2) pe_int (nomark _)) (pss_one (ps_ret (pv 3))) pss_nil)
      (pss_cons (ps_if (pt_cmpR op_eq (pv 2) pe_int (nomark _)) (pss_one (ps_ret (pe_op op_sub (pe_un un_neg (pv 3)) pe_int))) pss_nil)
      (pss_cons (ps_if (pt_cmpR op_eq (pv 2) pe_int (nomark _)) (pss_one (ps_ret (pe_join pe_str (pe_lcX (own := [("_", 4)]) (takes_of rfl rfl rfl rfl) rfl rfl (by rfl) sc_Taker_value.nd (pi_range1 rfl N.range (pa_cons (pv 3) pa_nil)) (blkOk_by (own := [("_", 4)]) (N := ["self", "tuples", "kind", "number", "_"]) (sc := defScope s_Taker_value) (by decide +kernel)) (fun _ _ _ _ _ => (pg_name (i := 4) sc_Taker_value.nd rfl (Or.inl rfl))) (fun _ _ _ _ _ => pts_nil) (fun _ _ _ _ _ _ tkb => (pe_ix ix_str (pe_gs g_SIGNS) (pe_mcalX T.cl M_octet hr tkb (pv 0) (pa_cons (pe_op op_sub (pe_callB call_len_str (by rfl) N.len PySem.boot_len (pa_cons (pe_gs g_SIGNS) pa_nil)) pe_int) pa_nil)) (fun _ _ => rfl))))))) pss_nil)
      (pss_one (ps_ret (pe_callTy call_tuple_of (by rfl) N.tuple PyProof.Rows.boot_tuple (pa_cons (pe_lcX (own := [("_", 4)]) (takes_of rfl rfl rfl rfl) rfl rfl (by rfl) sc_Taker_value.nd (pi_range1 rfl N.range (pa_cons (pv 3) pa_nil)) (blkOk_by (own := [("_", 4)]) (N := ["self", "tuples", "kind", "number", "_"]) (sc := defScope s_Taker_value) (by decide +kernel)) (fun _ _ _ _ _ => (pg_name (i := 4) sc_Taker_value.nd rfl (Or.inl rfl))) (fun _ _ _ _ _ => pts_nil) (fun _ _ _ _ _ _ tkb => (pe_mcalX T.cl M_value hr tkb (pv 0) (pa_cons (pe_op op_add (pv 1) pe_int) pa_nil)))) pa_nil)))))))))), ?_⟩
    have neN : ∀ {x y : Nat}, decide (V.int (x : Int) = V.int (y : Int)) = decide (x = y) := fun {x y} => decide_eq_decide.mpr ⟨fun h => by have := V.int.inj h; omega, fun h => by rw [h]⟩
    obtain ⟨dx0, i0⟩ := hT.ins
    obtain ⟨most, hmost⟩ : ∃ most : Nat, most = if t < 40 then 6 else 5 := ⟨_, rfl⟩
    refine r_asg (r_methX (r_var (v := .ref r) rfl ⟨r, dx0, _, rfl, i0, fl_none (by decide) (by decide), r_cons (r_ev (v := .int (most : Int)) (ev_if (b := decide (t < 40)) (et_is (et_test (ev_op (ev_v rfl) ev_c rv_I0)) (decide_eq_decide.mpr (by omega))) (fun hb => ev_is (ev_cn 6) (by rw [hmost, if_pos (of_decide_eq_true hb)])) fun hb => ev_is (ev_cn 5) (by rw [hmost, if_neg (of_decide_eq_false hb)])) (Ex.refl _) fun H1 e1 => r_nil ⟨r, dl, data, at_, most, rfl, hT.ex e1, fun o ho hom H2 f2 T2 => ?_, fun hno => ?_⟩)⟩))
    rotate_left
    · refine Rz.frm (Frm.of e1) (qe at_ ?_)
      rw [valR]
      cases ho : data[at_]? with
      | none => rfl
      | some o =>
        have := hno o ho
        simp only
        rw [if_pos (by rw [← hmost]; exact this)]
    have F2 := Frm.exL e1 f2
    clear e1 f2 i0
    have hlt : at_ < data.length := (List.getElem?_eq_some_iff.mp ho).1
    have hval : valR data (h + 1) t at_ = if o < 3 then .ok (if o = 0 then .non else .bl (decide (o = 2)), at_ + 1) else match numR data (at_ + 1) with
      | .error p => .error p
      | .ok (n, p) => if o = 3 then .ok (.int (n : Int), p) else if o = 4 then .ok (.int (-(n : Int) - 1), p) else if o = 5 then sigR data n p [] else tupR (valR data h (t + 1)) n p [] := by
      rw [valR, ho]
      simp only
      rw [if_neg (by rw [← hmost]; omega)]
      try rfl
    refine q_when (b := decide (o < 3)) (et_is (et_test (ev_op (ev_v rfl) (ev_cn 3) rv_I0)) (decide_eq_decide.mpr (by omega))) (fun hb H3 e3 => ?_) fun hb H3 e3 => ?_
    · rw [if_pos (of_decide_eq_true hb)] at hval
      by_cases o0 : o = 0
      · rw [if_pos o0] at hval
        exact s_ret (v := .non) (ev_if (b := true) (et_is (et_test (ev_op (ev_v rfl) (ev_cn 0) (rv_eq rfl))) (by rw [neN]; exact decide_eq_true o0)) (fun _ => ev_c) (fun z => nomatch z)) fun H4 e4 => q _ _ hval _ H4 .non (F2.exR (e3.trans e4)) (T2.ex (e3.trans e4))
      · rw [if_neg o0] at hval
        exact s_ret (v := .bl (decide (o = 2))) (ev_if (b := false) (et_is (et_test (ev_op (ev_v rfl) (ev_cn 0) (rv_eq rfl))) (by rw [neN]; exact decide_eq_false o0)) (fun z => nomatch z) fun _ => ev_is (ev_op (ev_v rfl) (ev_cn 2) (rv_eq rfl)) (by rw [neN])) fun H4 e4 => q _ _ hval _ H4 (.bl _) (F2.exR (e3.trans e4)) (T2.ex (e3.trans e4))
    have o3 := of_decide_eq_false hb
    rw [if_neg o3] at hval
    have F3 := F2.exR e3
    have T3 := T2.ex e3
    obtain ⟨dx3, i3⟩ := T3.ins
    refine r_asg (r_methX (r_var (v := .ref r) rfl ⟨r, dx3, _, rfl, i3, fl_none (by decide) (by decide), r_nil ⟨r, dl, data, at_ + 1, rfl, T3, h256, fun n p hn H4 f4 T4 => ?_, fun pl hpl => ?_⟩⟩))
    rotate_left
    · refine Rz.frm F3 (qe pl ?_)
      rw [hval, hpl]
    rw [hn] at hval
    simp only at hval
    have F4 := F3.trans f4
    have hpl := numR_adv (show at_ + 1 ≤ data.length by omega) hn
    have hn62 := hnb _ _ _ hn
    refine q_when (b := decide (o = 3)) (et_is (et_test (ev_op (ev_v rfl) (ev_cn 3) (rv_eq rfl))) neN) (fun hb H5 e5 => ?_) fun hb H5 e5 => ?_
    · rw [if_pos (of_decide_eq_true hb)] at hval
      exact s_ret (ev_v rfl) fun H6 e6 => q _ _ hval _ H6 (.int _) (F4.exR (e5.trans e6)) (T4.ex (e5.trans e6))
    have o3' := of_decide_eq_false hb
    rw [if_neg o3'] at hval
    refine q_when (b := decide (o = 4)) (et_is (et_test (ev_op (ev_v rfl) (ev_cn 4) (rv_eq rfl))) neN) (fun hb H6 e6 => ?_) fun hb H6 e6 => ?_
    · rw [if_pos (of_decide_eq_true hb)] at hval
      exact s_ret (v := .int (-(n : Int) - 1)) (ev_op (ev_un (ev_v rfl) ru_neg) (ev_cn 1) rv_I0) fun H7 e7 => q _ _ hval _ H7 (.int _) (F4.exR ((e5.trans e6).trans e7)) (T4.ex ((e5.trans e6).trans e7))
    have o4' := of_decide_eq_false hb
    rw [if_neg o4'] at hval
    refine q_when (b := decide (o = 5)) (et_is (et_test (ev_op (ev_v rfl) (ev_cn 5) (rv_eq rfl))) neN) (fun hb H7 e7 => ?_) fun hb H7 e7 => ?_
    · rw [if_pos (of_decide_eq_true hb)] at hval
      have E7 := (e5.trans e6).trans e7
      have F7 := F4.exR E7
      have T7 := T4.ex E7
      refine r_ret (r_m1 (r_c ⟨⟨_, rfl⟩, ?_⟩))
      refine r_lcX (r_lcR1 (r_cons (r_var rfl (r_nil ⟨(n : Int), rfl, by omega, by omega, fun Dl hD => ?_⟩))))
      rw [Int.toNat_natCast]
      have nr : r ≠ Dl := fun z => by obtain ⟨dx, i7⟩ := T7.ins; rw [z, hD] at i7; exact nomatch i7
      have nd : dl ≠ Dl := fun z => by have := T7.lst; rw [z, hD] at this; exact nomatch this
      refine ⟨fun i m H' => m = n - i ∧ i ≤ n ∧ p + i ≤ data.length ∧ Frm r H7 H' ∧ TkS C H' r dl data (p + i) ∧ ∃ acc : List Nat, H' Dl = some (.lst (acc.map fun c => .str (tx [c]))) ∧ acc.length = i ∧ sigR data (n - i) (p + i) acc = sigR data n p [], ⟨n, rfl, Nat.zero_le _, hpl.2, (Frm.of (Ex.refl H7)).new hD, T7.upd nr nd, [], upd_same, rfl, rfl⟩, ?_⟩
      rintro i m H' ⟨rfl, hi, hpi, fr, Ti, acc, hl, hlen, hsig⟩
      by_cases hlt2 : i < n
      · refine .inr ⟨hlt2, fun H' => p + (i + 1) ≤ data.length ∧ Frm r H7 H' ∧ TkS C H' r dl data (p + (i + 1)) ∧ ∃ acc : List Nat, H' Dl = some (.lst (acc.map fun c => .str (tx [c]))) ∧ acc.length = i + 1 ∧ sigR data (n - (i + 1)) (p + (i + 1)) acc = sigR data n p [], fun H2 pp => ⟨n - (i + 1), by omega, rfl, hlt2, pp⟩, fun x H2 y => ?_⟩
        obtain ⟨rfl, rfl⟩ := y
        refine ⟨rfl, tyes_ (iteT ?_)⟩
        obtain ⟨dxi, ii⟩ := Ti.ins
        have hsig2 : sigR data ((n - (i + 1)) + 1) (p + i) acc = sigR data n p [] := by rw [← hsig]; congr 1; omega
        rw [sigR] at hsig2
        refine r_op (r_c (r_methX (r_var (v := .ref r) rfl ⟨r, dxi, _, rfl, ii, fl_none (by decide) (by decide), r_cons (r_ev (v := .int ((94 : Nat) : Int)) (ev_is (ev_op (ev_lenS (l := sgns) (ev_cs sgns signs_eq) (by rw [sgns_len]; decide)) (ev_cn 1) (rv_subN (by rw [sgns_len]; decide))) (by rw [sgns_len])) (Ex.refl _) fun H8 e8 => r_nil ⟨r, dl, data, p + i, 94, rfl, Ti.ex e8, fun o' ho' hom' H9 f9 T9 => ?_, fun hno => ?_⟩)⟩)))
        · rw [ho'] at hsig2
          simp only at hsig2
          rw [if_neg (by omega)] at hsig2
          have hl94 : o' < sgns.length := by rw [sgns_len]; omega
          have hgo : sgns[o']? = some (sgns.getD o' 0) := by rw [List.getD_eq_getElem?_getD, List.getElem?_eq_getElem hl94]; rfl
          show rIxS (.str signsS) _ H9 _
          rw [signs_eq]
          refine (rv_ixSn (H := H9) (l := sgns) (by rw [sgns_len]; decide) hgo) H9 (Ex.refl _) _ fun H10 e10 => ?_
          have hl10 : H10 Dl = some (.lst (acc.map fun c => .str (tx [c]))) := e10 _ _ (f9 _ _ nr.symm (e8 _ _ hl))
          have hlo := (List.getElem?_eq_some_iff.mp ho').1
          refine ⟨acc.map fun c => .str (tx [c]), hl10, sz_lt (by rw [List.length_map]; omega), by omega, ((fr.exR e8).trans (f9.exR e10)).new hD, (T9.ex e10).upd nr nd, acc ++ [sgns.getD o' 0], by rw [upd_same, List.map_append]; try rfl, by rw [List.length_append, hlen, List.length_singleton], hsig2⟩
        · have hone : sigR data n p [] = .error (p + i) := by
            rw [← hsig2]
            cases ho' : data[p + i]? with
            | none => rfl
            | some o' =>
              simp only
              rw [if_pos (hno o' ho')]
          exact Rz.frm ((F7.trans fr).exR e8) (qe (p + i) (by rw [hval, hone]))
      · have e0 : i = n := by omega
        subst e0
        rw [Nat.sub_self, sigR] at hsig
        refine .inl ⟨Nat.le_refl _, ?_⟩
        refine ⟨Str.ofString "", Dl, acc.map fun c => tx [c], rfl, rfl, .inl (sq_of (by rw [hl, List.map_map]; rfl)), ?_, ?_⟩
        · rw [sum_ones, show (Str.ofString "").length = 0 by decide +kernel, Nat.mul_zero]
          omega
        · rw [join_no]
          exact q _ _ (hval.trans hsig.symm) _ H' (.str _) (F7.trans fr) Ti
    · have ho6 : o = 6 ∧ t < 40 := by
        have h5 := of_decide_eq_false hb
        by_cases c : t < 40
        · rw [if_pos c] at hmost
          exact ⟨by omega, c⟩
        · rw [if_neg c] at hmost
          omega
      rw [if_neg (of_decide_eq_false hb)] at hval
      have E7 := (e5.trans e6).trans e7
      have F7 := F4.exR E7
      have T7 := T4.ex E7
      refine r_ret (r_cb (r_cons ?_))
      refine r_lcX (r_lcR1 (r_cons (r_var rfl (r_nil ⟨(n : Int), rfl, by omega, by omega, fun Dl hD => ?_⟩))))
      rw [Int.toNat_natCast]
      have nr : r ≠ Dl := fun z => by obtain ⟨dx, i7⟩ := T7.ins; rw [z, hD] at i7; exact nomatch i7
      have nd : dl ≠ Dl := fun z => by have := T7.lst; rw [z, hD] at this; exact nomatch this
      refine ⟨fun i m H' => m = n - i ∧ i ≤ n ∧ Frm r H7 H' ∧ ∃ (a : Nat) (us : List V) (ds : List D), i ≤ a ∧ a ≤ data.length ∧ TkS C H' r dl data a ∧ H' Dl = some (.lst us) ∧ Reps H' us ds ∧ NoLL ds ∧ ds.length = i ∧ tupR (valR data h (t + 1)) (n - i) a ds = tupR (valR data h (t + 1)) n p [], ⟨n, rfl, Nat.zero_le _, (Frm.of (Ex.refl H7)).new hD, p, [], [], Nat.zero_le _, hpl.2, T7.upd nr nd, upd_same, .nil, by rw [NoLL]; trivial, rfl, rfl⟩, ?_⟩
      rintro i m H' ⟨rfl, hi, fr, a, us, ds, hia, hal, Ti, hl, hrs, hnl, hlen, htup⟩
      by_cases hlt2 : i < n
      · refine .inr ⟨hlt2, fun H' => Frm r H7 H' ∧ ∃ (a : Nat) (us : List V) (ds : List D), i + 1 ≤ a ∧ a ≤ data.length ∧ TkS C H' r dl data a ∧ H' Dl = some (.lst us) ∧ Reps H' us ds ∧ NoLL ds ∧ ds.length = i + 1 ∧ tupR (valR data h (t + 1)) (n - (i + 1)) a ds = tupR (valR data h (t + 1)) n p [], fun H2 pp => ⟨n - (i + 1), by omega, rfl, hlt2, pp⟩, fun x H2 y => ?_⟩
        obtain ⟨rfl, rfl⟩ := y
        refine ⟨rfl, tyes_ (iteT ?_)⟩
        obtain ⟨dxi, ii⟩ := Ti.ins
        have htup2 : tupR (valR data h (t + 1)) ((n - (i + 1)) + 1) a ds = tupR (valR data h (t + 1)) n p [] := by rw [← htup]; congr 1; omega
        rw [tupR] at htup2
        refine r_methX (r_var (v := .ref r) rfl ⟨r, dxi, _, rfl, ii, fl_none (by decide) (by decide), r_cons (r_ev (v := .int ((t + 1 : Nat) : Int)) (ev_op (ev_v rfl) (ev_cn 1) rv_addN) (Ex.refl _) fun H8 e8 => r_nil ⟨r, dl, data, t + 1, a, rfl, by omega, by omega, Ti.ex e8, hal, hdl, h256, hnb, fun d p' hd v H9 rv f9 T9 => ?_, fun pl hpl => ?_⟩)⟩)
        · rw [hd] at htup2
          simp only at htup2
          obtain ⟨g1, g2, g3⟩ := valR_adv _ _ _ _ _ hal hd
          have hl9 : H9 Dl = some (.lst us) := f9 _ _ nr.symm (e8 _ _ hl)
          have kt9 := Frm.kt (e8 _ _ ii) f9
          have ktu : ∀ c us', H9 c = some (.tup us') → (upd H9 Dl (.lst (us ++ [v]))) c = some (.tup us') := fun c us' hc => by
            rw [upd_ne (ne_kind hc hl9 (fun z => nomatch z))]
            exact hc
          have hul := hrs.len
          refine ⟨us, hl9, sz_lt (by omega), ((fr.exR e8).trans f9).new hD, p', us ++ [v], ds ++ [d], by omega, g2, T9.upd nr nd, upd_same, ?_, nol_app hnl (by rw [NoLL, NoLL]; exact ⟨g3, trivial⟩), by rw [List.length_append, hlen]; rfl, htup2⟩
          exact Reps.keepT ktu (nol_app hnl (by rw [NoLL, NoLL]; exact ⟨g3, trivial⟩)) ((Reps.keepT kt9 hnl (hrs.mono e8)).append (.cons rv .nil))
        · have hone : tupR (valR data h (t + 1)) n p [] = .error pl := by
            rw [← htup2, hpl]
          exact Rz.frm ((F7.trans fr).exR e8) (qe pl (by rw [hval, hone]))
      · have e0 : i = n := by omega
        subst e0
        rw [Nat.sub_self, tupR] at htup
        refine .inl ⟨Nat.le_refl _, ?_⟩
        refine r_nil ⟨Dl, us, rfl, .inl ⟨sq_of hl, fun l hl2 => ?_⟩⟩
        exact q _ _ (hval.trans htup.symm) _ _ (.tup upd_same (hrs.mono (Ex.new hl2))) ((F7.trans fr).exR (Ex.new hl2)) (Ti.ex (Ex.new hl2))
end
end K00

set_option Elab.async false
set_option linter.all false
set_option maxRecDepth 100000
set_option maxHeartbeats 4000000
namespace K00
open PySem PySem.Spec PyProof.Rows L2 Evl My
section
variable {P : Program} {w : World} {K : PySem.W.Frag} {mg : Str → Option Value} {base : Heap} {C Cm fm dm cm : Addr}
theorem cal_value_ {f : Addr} {fd : FuncData} {k : Nat} (F : Fun K "value" "Taker.value" s_Taker_value f fd) (hb : Binds K fd ["self", "tuples"] []) (hm : Meth K C "value" f) (N : Nb mg) (T : RT K mg C) (g_MOST_TUPLES : GI mg "MOST_TUPLES" 40) (g_SIGNS : GS mg "SIGNS" signsS) (M_octet : MCalX P w K mg base k C "octet" ["self", "most"] (sp_oct C Cm)) (M_number : MCalX P w K mg base k C "number" ["self"] (sp_num C Cm)) : ∀ h, MCalX P w K mg base (k + h) C "value" ["self", "tuples"] (sp_val C Cm h)
  | 0 => ⟨f, fd, ⟨fun vs H Q E h => by obtain ⟨_, _, _, t, _, _, h1, h2, _⟩ := h; omega, fun A outer s H args us vs Q E _ _ _ _ h => by obtain ⟨_, _, _, t, _, _, h1, h2, _⟩ := h; omega⟩, hb, hm⟩
  | h + 1 => ⟨f, fd, fn_value_ F N T g_MOST_TUPLES g_SIGNS (M_octet.mono (Nat.le_add_right k h)) (M_number.mono (Nat.le_add_right k h)) (cal_value_ F hb hm N T g_MOST_TUPLES g_SIGNS M_octet M_number h), hb, hm⟩
/-- the value that octets tell, or the first place that cannot stand -/
def readsR (data : List Nat) : Except Nat D := match valR data 41 0 0 with
  | .error p => .error p
  | .ok (d, p) => if p < data.length then .error p else .ok d
abbrev s_value_of : Stmt := topS 13
theorem sc_value_of : FnScope ["data", "taker", "found"] ["data"] (defScope s_value_of) := ⟨rfl, rfl, rfl, by decide +kernel, rfl, by decide +kernel, by decide +kernel⟩
/- 0 data, 1 taker, 2 found -/
def sp_vof (Cm : Addr) : Sp := fun vs H Q E => ∃ (a : Addr) (data : List Nat), vs = [.ref a] ∧ H a = some (.lst (nats data)) ∧ data.length ≤ 90000 ∧ (∀ x ∈ data, x < 256) ∧ NumB data ∧ (∀ d, readsR data = .ok d → ∀ v H', Rep H' v d → Ex H H' → Q v H') ∧
  (∀ pl, readsR data = .error pl → ∀ d H', H' d = some (.xd [(("place" : Str), .int (pl : Int))]) → Ex H H' → E (.ref Cm) (some d) H')
theorem fn_value_of {f : Addr} {fd : FuncData} {j k : Nat} (F : Fun K "value_of" "value_of" s_value_of f fd) (N : Nb mg) (T : RT K mg C) (T_Misread : PySem.SupX.Sup1 P K mg "Misread" "Misread.__init__" Cm fm dm cm) (M_new : MkC P w K mg base j "Taker" C ["self", "data"] (sp_init C)) (hk : j + 1 ≤ k) (M_value : MCalX P w K mg base k C "value" ["self", "tuples"] (sp_val C Cm 41)) : FnOk P w K mg base (L2.CX P w) (k + 1) f fd ["data"] (sp_vof Cm) := by
  refine F.okX sc_value_of (fun vs H Q E h => ?_) (fun cdv A outer s H vs Q E hr h => ?_)
  · obtain ⟨_, _, rfl, _⟩ := h
    rfl
  · obtain ⟨a, data, rfl, ha, hdl, h256, hnb, q, qe⟩ := h
    refine ⟨_, (pss_cons (ps_set (i := 1) sc_value_of.nd rfl (Or.inl rfl) (pe_mkc M_new hr (pa_cons (pe_callTy call_list_of (by rfl) N.list PyProof.Rows.boot_list (pa_cons (pv 0) pa_nil)) pa_nil)))
      (pss_cons (ps_set (i := 2) sc_value_of.nd rfl (Or.inl rfl) (pe_mcalX T.cl M_value hr (takes_of rfl rfl rfl rfl) (pv 1) (pa_cons pe_int pa_nil)))
      (pss_cons (ps_if (pt_cmpR op_lt (pe_fld (pv 1) rfl) (pe_callB call_len_seq (by rfl) N.len PySem.boot_len (pa_cons (pe_fld (pv 1) rfl) pa_nil)) (nomark _)) (pss_one (ps_raiseS1 rfl T_Misread hr (takes_of rfl rfl rfl rfl) (pa_cons (pe_fld (pv 1) rfl) pa_nil))) pss_nil)
      (pss_one (ps_ret (pv 2)))))), ?_⟩
    refine r_asg ?_
    refine r_cons ((el_listP (evl_k (ev_v rfl) ha)) H (Ex.refl _) _ fun dl H1 hdl0 e1 hl1 => r_nil ?_)
    intro r dx nr ndx nex
    have nrd : dl ≠ r := fun z => by rw [z, nr] at hl1; exact nomatch hl1
    have ndd : dl ≠ dx := fun z => by rw [z, ndx] at hl1; exact nomatch hl1
    have e2 : Ex H1 (upd (upd H1 dx (.own r)) r (.ins C dx [])) := ((Ex.refl H1).mut ndx).mut nr
    refine ⟨r, dl, dx, data, rfl, upd_same, by rw [upd_ne nrd, upd_ne ndd]; exact hl1, fun H3 f3 T3 => ⟨rfl, ?_⟩⟩
    have e3 : Ex H H3 := fun b o h => f3 b o (fun z => by have := e1 b o h; rw [z, nr] at this; exact nomatch this) (e2 b o (e1 b o h))
    have nr0 : H r = none := fresh_back e1 nr
    have exf : ∀ {H4 : Hp}, Frm r H3 H4 → Ex H H4 := fun f4 b o h => f4 b o (ne_of_none h nr0) (e3 b o h)
    obtain ⟨dx3, i3⟩ := T3.ins
    have rz : ∀ pl, readsR data = .error pl → Rz Cm r H3 E pl := fun pl hp d H4 hd f4 => qe pl hp d H4 hd (exf f4)
    refine r_asg (r_methX (r_var (v := .ref r) rfl ⟨r, dx3, _, rfl, i3, fl_none (by decide) (by decide), r_cons (r_c (r_nil ⟨r, dl, data, 0, 0, rfl, by omega, by omega, T3, Nat.zero_le _, hdl, h256, hnb, fun d p hd v H4 rv f4 T4 => ?_, fun pl hp => rz pl (by unfold readsR; rw [hp])⟩))⟩))
    obtain ⟨g1, g2, g3⟩ := valR_adv _ _ _ _ _ (Nat.zero_le _) hd
    refine q_when (b := decide (p < data.length)) (et_is (et_test (ev_op (ev_at T rfl T4) (ev_is (ev_len (ev_dat T rfl T4) (sq_of T4.lst)) (by rw [nats_len])) rv_I0)) (decide_eq_decide.mpr (by omega))) (fun hb H5 e5 => ?_) fun hb H5 e5 => ?_
    · refine r_raiseS1 (r_cons (r_ev (ev_at T rfl (T4.ex e5)) (Ex.refl _) fun H6 e6 => r_nil ⟨_, rfl, fun d0 hd0 => qe p ?_ d0 _ upd_same ((exf (f4.exR (e5.trans e6))).trans (Ex.new hd0))⟩))
      unfold readsR
      rw [hd]
      show (if p < data.length then Except.error p else .ok d) = _
      rw [if_pos (of_decide_eq_true hb)]
    · refine s_ret (ev_v rfl) fun H6 e6 => q d ?_ v H6 (rv.mono (e5.trans e6)) (exf (f4.exR (e5.trans e6)))
      unfold readsR
      rw [hd]
      show (if p < data.length then Except.error p else .ok d) = _
      rw [if_neg (of_decide_eq_false hb)]
end
end K00

set_option Elab.async false
set_option linter.all false
set_option maxRecDepth 100000
set_option maxHeartbeats 4000000
namespace K00
open PySem PySem.Spec PyProof.Rows L2 Evl My
section
variable {P : Program} {w : World} {K : PySem.W.Frag} {mg : Str → Option Value} {base : Heap}
abbrev s_law_mixed : Stmt := topS 15
theorem sc_law_mixed : FnScope ["number", "place", "first", "second", "third"] ["number", "place"] (defScope s_law_mixed) := ⟨rfl, rfl, rfl, by decide +kernel, rfl, by decide +kernel, by decide +kernel⟩
/- 0 number, 1 place, 2 first, 3 second, 4 third -/
def ok_mixed_ (vs : List V) (H : Hp) (z : V) : Prop := ∃ n p : Nat, vs = [.int (n : Int), .int (p : Int)] ∧ z = .int (mixF n p : Nat)
theorem fn_mixed_ {f : Addr} {fd : FuncData} {k : Nat} (F : Fun K "_law_mixed" "_law_mixed" s_law_mixed f fd) (N : Nb mg) : FnOk P w K mg base CX0 (k + 1) f fd ["number", "place"] (spV ok_mixed_) := by
  refine F.ok sc_law_mixed (fun vs H Q E h => ?_) (fun cdv A outer s H vs Q E hr h => ?_)
  · obtain ⟨_, ⟨_, _, rfl, _⟩, _⟩ := h
    rfl
  · obtain ⟨_, ⟨n, p, rfl, hz⟩, q⟩ := h
    rw [hz] at q
    refine ⟨_, (pss_cons (ps_set (i := 2) sc_law_mixed.nd rfl (Or.inl rfl) (pe_op op_mod (pe_callTy call_int1 (by rfl) N.int PyProof.Rows.boot_int (pa_cons (pe_op op_add (pe_op op_add (pe_op op_mul (pv 0) pe_int) (pe_op op_mul (pv 1) pe_int)) pe_int) pa_nil)) pe_int))
      (pss_cons (ps_set (i := 3) sc_law_mixed.nd rfl (Or.inl rfl) (pe_op op_mod (pe_callTy call_int1 (by rfl) N.int PyProof.Rows.boot_int (pa_cons (pe_op op_add (pe_op op_add (pe_op op_mulW (pv 2) (pv 2)) (pe_op op_mul pe_int (pv 2))) (pv 1)) pa_nil)) pe_int))
      (pss_cons (ps_set (i := 4) sc_law_mixed.nd rfl (Or.inl rfl) (pe_op op_mod (pe_callTy call_int1 (by rfl) N.int PyProof.Rows.boot_int (pa_cons (pe_op op_add (pe_op op_mulW (pv 3) (pv 3)) (pv 2)) pa_nil)) pe_int))
      (pss_one (ps_ret (pe_op op_add (pe_op op_mulW (pv 3) pe_int) (pv 4))))))), ?_⟩
    have l1 : (n * 48271 + p * 69621 + 11) % m89 < 2 ^ 89 := Nat.lt_trans (Nat.mod_lt _ (by decide)) (by decide)
    refine q_asg (v := .int (((n * 48271 + p * 69621 + 11) % m89 : Nat) : Int)) (ev_op (ev_int (ev_op (ev_op (ev_op (ev_v rfl) (ev_cn 48271) (rv_mulN (.inr (by decide)))) (ev_op (ev_v rfl) (ev_cn 69621) (rv_mulN (.inr (by decide)))) rv_addN) (ev_cn 11) rv_addN)) (ev_cn m89) (rv_modN (by decide))) fun H1 e1 => ?_
    unfold mixF at q
    generalize (n * 48271 + p * 69621 + 11) % m89 = a at l1 q ⊢
    have l2 : (a * a + 7 * a + p) % m107 < 2 ^ 107 := Nat.lt_trans (Nat.mod_lt _ (by decide)) (by decide)
    refine q_asg (v := .int (((a * a + 7 * a + p) % m107 : Nat) : Int)) (ev_op (ev_int (ev_op (ev_op (ev_op (ev_v rfl) (ev_v rfl) (rv_mulWN l1 l1 (by decide) (by decide) (by decide))) (ev_op (ev_cn 7) (ev_v rfl) (rv_mulN (.inl (by decide)))) rv_addN) (ev_v rfl) rv_addN)) (ev_cn m107) (rv_modN (by decide))) fun H2 e2 => ?_
    dsimp only at q
    generalize (a * a + 7 * a + p) % m107 = b at l2 q ⊢
    refine q_asg (v := .int (((b * b + a) % m89 : Nat) : Int)) (ev_op (ev_int (ev_op (ev_op (ev_v rfl) (ev_v rfl) (rv_mulWN l2 l2 (by decide) (by decide) (by decide))) (ev_v rfl) rv_addN)) (ev_cn m89) (rv_modN (by decide))) fun H3 e3 => ?_
    exact s_ret (ev_op (ev_op (ev_v rfl) (ev_cn m89) (rv_mulWN (m := 89) l2 (by decide) (by decide) (by decide) (by decide))) (ev_v rfl) rv_addN) fun H4 e4 => q H4 (((e1.trans e2).trans e3).trans e4)
abbrev s_law_rest : Stmt := topS 16
theorem sc_law_rest : FnScope ["script", "place", "fills", "number"] ["script", "place", "fills"] (defScope s_law_rest) := ⟨rfl, rfl, rfl, by decide +kernel, rfl, by decide +kernel, by decide +kernel⟩
/- 0 script, 1 place, 2 fills, 3 number -/
def ok_rest_ (K : PySem.W.Frag) (vs : List V) (H : Hp) (z : V) : Prop := ∃ (sc : Addr) (xs : List Int) (p f : Nat), vs = [.ref sc, .int (p : Int), .int (f : Int)] ∧ SqL K H sc (xs.map V.int) ∧ z = .int (restF xs p f : Nat)
theorem fn_rest_ {f : Addr} {fd : FuncData} {k : Nat} (F : Fun K "_law_rest" "_law_rest" s_law_rest f fd) (N : Nb mg) (C_law_mixed : Cal P w K mg base k "_law_mixed" ["number", "place"] (spV ok_mixed_)) : FnOk P w K mg base CX0 (k + 1) f fd ["script", "place", "fills"] (spV (ok_rest_ K)) := by
  refine F.ok sc_law_rest (fun vs H Q E h => ?_) (fun cdv A outer s H vs Q E hr h => ?_)
  · obtain ⟨_, ⟨_, _, _, _, rfl, _⟩, _⟩ := h
    rfl
  · obtain ⟨_, ⟨sc, xs, p, f, rfl, hS, hz⟩, q⟩ := h
    rw [hz] at q
    refine ⟨_, (pss_cons (ps_set (i := 3) sc_law_rest.nd rfl (Or.inl rfl) pe_int)
      (pss_cons (ps_if (pt_cmpR op_gt (pe_callB call_len_seq (by rfl) N.len PySem.boot_len (pa_cons (pv 0) pa_nil)) pe_int (nomark _)) (pss_one (ps_set (i := 3) sc_law_rest.nd rfl (Or.inl rfl) (pe_callTy call_int1 (by rfl) N.int PyProof.Rows.boot_int (pa_cons (pe_ix ix_list (pv 0) (pe_op op_mod (pe_callTy call_int1 (by rfl) N.int PyProof.Rows.boot_int (pa_cons (pv 1) pa_nil)) (pe_callB call_len_seq (by rfl) N.len PySem.boot_len (pa_cons (pv 0) pa_nil))) (fun _ _ => rfl)) pa_nil)))) pss_nil)
      (pss_cons (ps_if (pt_cmpR op_lt (pv 3) pe_int (nomark _)) (pss_one (ps_set (i := 3) sc_law_rest.nd rfl (Or.inl rfl) (pe_op op_sub pe_int (pe_op op_mul pe_int (pv 3))))) pss_nil)
      (pss_cons (ps_if (PW.pt (pw_and (pt_cmpR op_eq (pv 2) pe_int (nomark _)) (pw_and (pt_cmpR op_lt (pv 1) (pe_callB call_len_seq (by rfl) N.len PySem.boot_len (pa_cons (pv 0) pa_nil)) (nomark _)) (pw_and1 (pt_cmpR op_ge (pv 3) (pe_op op_pow pe_int pe_int) (nomark _)))))) (pss_one (ps_ret (pe_op op_sub (pv 3) (pe_op op_pow pe_int pe_int)))) pss_nil)
      (pss_one (ps_ret (pe_cal C_law_mixed hr (pa_cons (pe_op op_add (pv 3) (pe_op op_mul (pv 2) pe_int)) (pa_cons (pv 1) pa_nil))))))))), ?_⟩
    have hlen : ∀ σ' H', Ex H H' → σ'[0]? = some (some (.ref sc)) → Ev (tCB (rLenS K) (tCons (tVar 0) tNil)) σ' H' (.int (xs.length : Int)) := fun σ' H' e' s' => by
      have := ev_len (K := K) (ta := tVar 0) (ev_v s') (ex_l e' hS)
      rw [List.length_map] at this
      exact this
    obtain ⟨i0, hi0⟩ : ∃ i0 : Int, i0 = if 0 < xs.length then xs.getD (p % xs.length) 0 else 0 := ⟨_, rfl⟩
    have hn : (if 0 < xs.length then absF (xs.getD (p % xs.length) 0) else 0) = absF i0 := by
      rw [hi0]
      split <;> rfl
    unfold restF at q
    rw [hn] at q
    refine q_asg (ev_cn 0) fun H1 e1 => ?_
    refine q_ifAsg (v := .int i0) (b := decide ((0 : Int) < (xs.length : Int))) (et_test (ev_op (hlen _ _ e1 rfl) (ev_cn 0) rv_I0)) (fun hb => ?_) (fun hb => ?_) fun H2 e2 => ?_
    · have h0 : 0 < xs.length := by have := of_decide_eq_true hb; omega
      rw [if_pos h0] at hi0
      have hj : p % xs.length < xs.length := Nat.mod_lt _ h0
      exact ev_int (ev_op (ev_v rfl) (ev_op (ev_int (ev_v rfl)) (hlen _ _ e1 rfl) (rv_modN h0)) (rv_ixLn (ex_l e1 hS) (by
        rw [hi0, List.getElem?_map, List.getD_eq_getElem?_getD, List.getElem?_eq_getElem hj]
        rfl)))
    · have h0 : ¬ 0 < xs.length := by have := of_decide_eq_false hb; omega
      rw [if_neg h0] at hi0
      rw [hi0]
      rfl
    refine q_ifAsg (v := .int (absF i0 : Nat)) (b := decide (i0 < 0)) (et_test (ev_op (ev_v rfl) (ev_cn 0) rv_I0)) (fun hb => ?_) (fun hb => ?_) fun H3 e3 => ?_
    · have h0 := of_decide_eq_true hb
      refine ev_is (ev_op (ev_cn 1) (ev_op (ev_cn 2) (ev_v rfl) (rv_I (.inl ⟨by decide, by decide⟩))) rv_I0) ?_
      unfold absF
      rw [if_pos h0, Int.toNat_of_nonneg (by omega)]
      rfl
    · have h0 := of_decide_eq_false hb
      unfold absF
      rw [if_neg h0, Int.toNat_of_nonneg (by omega)]
      rfl
    have E3 := (e1.trans e2).trans e3
    generalize absF i0 = n at q ⊢
    have t18 : Ev (tOp (rI CPow fun i j => .int (i ^ j.toNat)) (tC (.int 10)) (tC (.int 18))) [some (.ref sc), some (.int (p : Int)), some (.int (f : Int)), some (.int (n : Int))] H3 (.int ((10 ^ 18 : Nat) : Int)) := ev_op (ev_cn 10) (ev_cn 18) (rv_I (by unfold CPow; decide))
    refine q_when (b := decide (f = 0) && (decide (p < xs.length) && decide (10 ^ 18 ≤ n))) (et_and (et_test (ev_is (ev_op (ev_v rfl) (ev_cn 0) (rv_eq rfl)) (congrArg V.bl (decide_eq_decide.mpr ⟨fun h => by have := V.int.inj h; omega, fun h => by rw [h]⟩)))) fun _ =>
      et_and (et_test (ev_is (ev_op (ev_v rfl) (hlen _ _ E3 rfl) rv_I0) (congrArg V.bl (decide_eq_decide.mpr (by omega))))) fun _ => et_test (ev_is (ev_op (ev_v rfl) t18 rv_I0) (congrArg V.bl (decide_eq_decide.mpr (by omega))))) (fun hb H4 e4 => ?_) fun hb H4 e4 => ?_
    · rw [Bool.and_eq_true, Bool.and_eq_true, decide_eq_true_eq, decide_eq_true_eq, decide_eq_true_eq] at hb
      rw [if_pos ⟨hb.1, hb.2.1, hb.2.2⟩] at q
      exact s_ret (ev_op (ev_v rfl) (t18.mono e4) (rv_subN hb.2.2)) fun H5 e5 => q H5 ((E3.trans e4).trans e5)
    · have hb' : ¬ (f = 0 ∧ p < xs.length ∧ 10 ^ 18 ≤ n) := fun h => by
        rw [decide_eq_true h.1, decide_eq_true h.2.1, decide_eq_true h.2.2] at hb
        exact nomatch hb
      rw [if_neg hb'] at q
      exact s_ret (ev_cal (ea_cons (ev_op (ev_v rfl) (ev_op (ev_v rfl) (ev_cn 1000003) (rv_mulN (.inr (by decide)))) rv_addN) (ea_cons (ev_v rfl) ea_nil)) fun _ _ => ⟨_, p, rfl, rfl⟩) fun H5 e5 => q H5 ((E3.trans e4).trans e5)
abbrev s_law_pool : Stmt := topS 17
theorem sc_law_pool : FnScope ["script"] ["script"] (defScope s_law_pool) := ⟨rfl, rfl, rfl, by decide +kernel, rfl, by decide +kernel, by decide +kernel⟩
def ok_pool_ (K : PySem.W.Frag) (vs : List V) (H : Hp) (z : List V) : Prop := ∃ (sc : Addr) (xs : List Int), vs = [.ref sc] ∧ SqL K H sc (xs.map V.int) ∧ z = [.ref sc, .int ((0 : Nat) : Int), .int (restF xs 0 0 : Nat), .int ((0 : Nat) : Int)]
theorem fn_pool_ {f : Addr} {fd : FuncData} {k : Nat} (F : Fun K "_law_pool" "_law_pool" s_law_pool f fd) (N : Nb mg) (C_law_rest : Cal P w K mg base k "_law_rest" ["script", "place", "fills"] (spV (ok_rest_ K))) : FnOk P w K mg base CX0 (k + 1) f fd ["script"] (spL (ok_pool_ K)) := by
  refine F.ok sc_law_pool (fun vs H Q E h => ?_) (fun cdv A outer s H vs Q E hr h => ?_)
  · obtain ⟨_, ⟨_, _, rfl, _⟩, _⟩ := h
    rfl
  · obtain ⟨_, ⟨sc, xs, rfl, hS, hz⟩, q⟩ := h
    rw [hz] at q
    refine ⟨_, (pss_one (ps_ret (pe_lst (pa_cons (pv 0) (pa_cons pe_int (pa_cons (pe_cal C_law_rest hr (pa_cons (pv 0) (pa_cons pe_int (pa_cons pe_int pa_nil)))) (pa_cons pe_int pa_nil))))))), ?_⟩
    exact s_retL (el_lst (ea_cons (ev_v rfl) (ea_cons (ev_cn 0) (ea_cons (ev_cal (ea_cons (ev_v rfl) (ea_cons (ev_cn 0) (ea_cons (ev_cn 0) ea_nil))) fun H1 e1 => ⟨sc, xs, 0, 0, rfl, ex_l e1 hS, rfl⟩) (ea_cons (ev_cn 0) ea_nil)))) (by show 4 ≤ 100000; decide)) fun p H1 hp e1 h1 => q p H1 hp e1 h1
abbrev s_law_draw : Stmt := topS 19
theorem sc_law_draw : FnScope ["pool", "limit", "value"] ["pool", "limit"] (defScope s_law_draw) := ⟨rfl, rfl, rfl, by decide +kernel, rfl, by decide +kernel, by decide +kernel⟩
/- 0 pool, 1 limit, 2 value -/
theorem fn_draw {f : Addr} {fd : FuncData} {k : Nat} (F : Fun K "_law_draw" "_law_draw" s_law_draw f fd) (N : Nb mg) (C_law_rest : Cal P w K mg base k "_law_rest" ["script", "place", "fills"] (spV (ok_rest_ K))) : FnOk P w K mg base CX0 (k + 1) f fd ["pool", "limit"] (sp_draw K) := by
  refine F.ok sc_law_draw (fun vs H Q E h => ?_) (fun cdv A outer s H vs Q E hr h => ?_)
  · obtain ⟨_, _, _, _, rfl, _⟩ := h
    rfl
  · obtain ⟨p, sc, xs, limit, rfl, hP, h0, hlim, q⟩ := h
    refine ⟨_, (pss_cut (ps_if (pt_cmpR op_le (pe_ix ix_list (pv 0) pe_int (fun _ _ => rfl)) pe_int (nomark _)) (pss_cons (ps_asg (pe_op op_add (pe_ix ix_list (pv 0) pe_int (fun _ _ => rfl)) pe_int) (pg_sub (pv 0) pe_int set_list))
      (pss_one (ps_asg (pe_cal C_law_rest hr (pa_cons (pe_ix ix_list (pv 0) pe_int (fun _ _ => rfl)) (pa_cons (pe_ix ix_list (pv 0) pe_int (fun _ _ => rfl)) (pa_cons (pe_ix ix_list (pv 0) pe_int (fun _ _ => rfl)) pa_nil)))) (pg_sub (pv 0) pe_int set_list)))) pss_nil)
      (pss_cons (ps_set (i := 2) sc_law_draw.nd rfl (Or.inl rfl) (pe_op op_mod (pe_callTy call_int1 (by rfl) N.int PyProof.Rows.boot_int (pa_cons (pe_ix ix_list (pv 0) pe_int (fun _ _ => rfl)) pa_nil)) (pv 1)))
      (pss_cons (ps_asg (pe_op op_fdivW (pe_callTy call_int1 (by rfl) N.int PyProof.Rows.boot_int (pa_cons (pe_ix ix_list (pv 0) pe_int (fun _ _ => rfl)) pa_nil)) (pv 1)) (pg_sub (pv 0) pe_int set_list))
      (pss_one (ps_ret (pv 2)))))), ?_⟩
    have hP0 := hP
    obtain ⟨pl, r, f, hp, hS⟩ := hP
    refine q_cut (M := fun σ' H' => σ' = [some (.ref p), some (.int (limit : Int)), none] ∧ Keep p H H' ∧ ∃ r f : Nat, H' p = some (.lst [.ref sc, .int (pl : Int), .int (r : Int), .int (f : Int)])) ?_ ?_
    · refine s_when (b := decide ((r : Int) ≤ ((1 : Nat) : Int))) (et_test (ev_op (ev_ixL (ev_v rfl) (ev_cn 2) (sq_of hp) rfl) (ev_cn 1) rv_I0)) (fun hb H1 e1 => ?_) fun hb H1 e1 => ⟨rfl, .of e1, r, f, e1 p _ hp⟩
      refine q_setL (j := 3) (v := .int ((f + 1 : Nat) : Int)) (e1 p _ hp) (ev_op (ev_ixL (ev_v rfl) (ev_cn 3) (sq_of (e1 p _ hp)) rfl) (ev_cn 1) rv_addN) (ev_v rfl) (ev_cn 3) (by show 3 < 4; decide) fun H2 e2 => ?_
      have E2 := e1.trans e2
      have k2 : Keep p H (upd H2 p (.lst [.ref sc, .int (pl : Int), .int (r : Int), .int ((f + 1 : Nat) : Int)])) := (Keep.of E2).trans .upd
      refine s_setL (j := 2) (v := .int (restF xs pl (f + 1) : Nat)) (xs := [.ref sc, .int (pl : Int), .int (r : Int), .int ((f + 1 : Nat) : Int)]) upd_same (ev_cal (ea_cons (ev_ixL (ev_v rfl) (ev_cn 0) (sq_of upd_same) rfl) (ea_cons (ev_ixL (ev_v rfl) (ev_cn 1) (sq_of upd_same) rfl) (ea_cons (ev_ixL (ev_v rfl) (ev_cn 3) (sq_of upd_same) rfl) ea_nil))) fun H3 e3 => ⟨sc, xs, pl, f + 1, rfl, ex_l e3 (sc_keep hp k2 hS), rfl⟩) (ev_v rfl) (ev_cn 2) (by show 2 < 4; decide) fun H3 e3 => ?_
      exact ⟨rfl, (k2.trans (.of e3)).trans .upd, _, _, upd_same⟩
    · rintro σ' H' ⟨rfl, hk, r', f', hp'⟩
      refine q_asg (v := .int ((r' % limit : Nat) : Int)) (ev_op (ev_int (ev_ixL (ev_v rfl) (ev_cn 2) (sq_of hp') rfl)) (ev_v rfl) (rv_modN h0)) fun H1 e1 => ?_
      refine q_setL (j := 2) (v := .int ((r' / limit : Nat) : Int)) (e1 p _ hp') (ev_op (ev_int (ev_ixL (ev_v rfl) (ev_cn 2) (sq_of (e1 p _ hp')) rfl)) (ev_v rfl) (rv_divWN (n := 63) h0 hlim (by decide) (by decide))) (ev_v rfl) (ev_cn 2) (by show 2 < 4; decide) fun H2 e2 => ?_
      have k3 : Keep p H (upd H2 p (.lst [.ref sc, .int (pl : Int), .int ((r' / limit : Nat) : Int), .int (f' : Int)])) := (hk.trans (.of (e1.trans e2))).trans .upd
      refine s_ret (ev_v rfl) fun H3 e3 => q (r' % limit) H3 (Nat.mod_lt _ h0) (G.exR ⟨k3, hP0.mk' (r := r' / limit) (f := f') k3 upd_same⟩ e3)
abbrev s_law_pick : Stmt := topS 20
theorem sc_law_pick : FnScope ["pool", "options"] ["pool", "options"] (defScope s_law_pick) := ⟨rfl, rfl, rfl, by decide +kernel, rfl, by decide +kernel, by decide +kernel⟩
/- 0 pool, 1 options -/
theorem fn_pick {f : Addr} {fd : FuncData} {k : Nat} (F : Fun K "_law_pick" "_law_pick" s_law_pick f fd) (N : Nb mg) (C_law_draw : Cal P w K mg base k "_law_draw" ["pool", "limit"] (sp_draw K)) : FnOk P w K mg base CX0 (k + 1) f fd ["pool", "options"] (sp_pick K) := by
  refine F.ok sc_law_pick (fun vs H Q E h => ?_) (fun cdv A outer s H vs Q E hr h => ?_)
  · obtain ⟨_, _, _, _, _, rfl, _⟩ := h
    rfl
  · obtain ⟨p, sc, ns, a, xs, rfl, hP, hS, hne, hx, hl, q⟩ := h
    refine ⟨_, (pss_one (ps_ret (pe_ix ix_list (pv 1) (pe_cal C_law_draw hr (pa_cons (pv 0) (pa_cons (pe_callB call_len_seq (by rfl) N.len PySem.boot_len (pa_cons (pv 1) pa_nil)) pa_nil))) (fun _ _ => rfl)))), ?_⟩
    have h0 : 0 < xs.length := List.length_pos_iff.mpr hx
    refine r_ret (r_op (r_var rfl (r_call (r_cons (r_var rfl (r_cons (r_ev (ev_len (K := K) (ev_v rfl) hS) (Ex.refl H) fun H3 e3 => r_nil ?_)))))))
    refine ⟨p, sc, ns, xs.length, rfl, hP.ex e3, h0, by omega, fun v H4 hv g => ?_⟩
    exact rv_ixLn (keep_l g.1 hne (ex_l e3 hS)) (List.getElem?_eq_getElem hv) H4 (Ex.refl H4) _ fun H5 e5 => q _ H5 (List.getElem_mem hv) ((G.exL e3 g).exR e5)
abbrev s_law_next : Stmt := topS 18
theorem sc_law_next : FnScope ["pool"] ["pool"] (defScope s_law_next) := ⟨rfl, rfl, rfl, by decide +kernel, rfl, by decide +kernel, by decide +kernel⟩
/- 0 pool -/
def sp_next (K : PySem.W.Frag) : Sp := fun vs H Q _ => ∃ (p sc : Addr) (ns : List Int), vs = [.ref p] ∧ Pool K H p sc ns ∧ ∀ H', G K p sc ns H H' → Q .non H'
theorem fn_next {f : Addr} {fd : FuncData} {k : Nat} (F : Fun K "_law_next" "_law_next" s_law_next f fd) (N : Nb mg) (C_law_rest : Cal P w K mg base k "_law_rest" ["script", "place", "fills"] (spV (ok_rest_ K))) : FnOk P w K mg base CX0 (k + 1) f fd ["pool"] (sp_next K) := by
  refine F.ok sc_law_next (fun vs H Q E h => ?_) (fun cdv A outer s H vs Q E hr h => ?_)
  · obtain ⟨_, _, _, rfl, _⟩ := h
    rfl
  · obtain ⟨p, sc, xs, rfl, hP, q⟩ := h
    refine ⟨_, (pss_cons (ps_asg (pe_op op_add (pe_ix ix_list (pv 0) pe_int (fun _ _ => rfl)) pe_int) (pg_sub (pv 0) pe_int set_list))
      (pss_cons (ps_asg (pe_cal C_law_rest hr (pa_cons (pe_ix ix_list (pv 0) pe_int (fun _ _ => rfl)) (pa_cons (pe_ix ix_list (pv 0) pe_int (fun _ _ => rfl)) (pa_cons pe_int pa_nil)))) (pg_sub (pv 0) pe_int set_list))
      (pss_one (ps_asg pe_int (pg_sub (pv 0) pe_int set_list))))), ?_⟩
    have hP0 := hP
    obtain ⟨pl, r, f, hp, hS⟩ := hP
    refine q_setL (j := 1) (v := .int ((pl + 1 : Nat) : Int)) hp (ev_op (ev_ixL (ev_v rfl) (ev_cn 1) (sq_of hp) rfl) (ev_cn 1) rv_addN) (ev_v rfl) (ev_cn 1) (by show 1 < 4; decide) fun H1 e1 => ?_
    have k1 : Keep p H (upd H1 p (.lst [.ref sc, .int ((pl + 1 : Nat) : Int), .int (r : Int), .int (f : Int)])) := (Keep.of e1).trans .upd
    refine q_setL (j := 2) (v := .int (restF xs (pl + 1) 0 : Nat)) (xs := [.ref sc, .int ((pl + 1 : Nat) : Int), .int (r : Int), .int (f : Int)]) upd_same (ev_cal (ea_cons (ev_ixL (ev_v rfl) (ev_cn 0) (sq_of upd_same) rfl) (ea_cons (ev_ixL (ev_v rfl) (ev_cn 1) (sq_of upd_same) rfl) (ea_cons (ev_cn 0) ea_nil))) fun H3 e3 => ⟨sc, xs, pl + 1, 0, rfl, ex_l e3 (sc_keep hp k1 hS), rfl⟩) (ev_v rfl) (ev_cn 2) (by show 2 < 4; decide) fun H2 e2 => ?_
    have k2 : Keep p H (upd H2 p (.lst [.ref sc, .int ((pl + 1 : Nat) : Int), .int (restF xs (pl + 1) 0 : Nat), .int (f : Int)])) := (k1.trans (.of e2)).trans .upd
    refine s_setL (j := 3) (v := .int ((0 : Nat) : Int)) (xs := [.ref sc, .int ((pl + 1 : Nat) : Int), .int (restF xs (pl + 1) 0 : Nat), .int (f : Int)]) upd_same (ev_cn 0) (ev_v rfl) (ev_cn 3) (by show 3 < 4; decide) fun H3 e3 => ?_
    have k3 : Keep p H (upd H3 p (.lst [.ref sc, .int ((pl + 1 : Nat) : Int), .int (restF xs (pl + 1) 0 : Nat), .int ((0 : Nat) : Int)])) := (k2.trans (.of e3)).trans .upd
    exact q _ ⟨k3, hP0.mk' k3 upd_same⟩
end
end K00

set_option Elab.async false
set_option linter.all false
set_option maxRecDepth 100000
set_option maxHeartbeats 4000000
namespace K00
open PySem PySem.Spec PyProof.Rows L2 Evl My
mutual
/-- a drawn value -/
def Sm : D → Prop
  | .non => True
  | .bl _ => True
  | .int i => i.natAbs ≤ 10 ^ 12
  | .str l => l.length ≤ 130 ∧ ∀ c ∈ l, c ∈ sgns
  | .tup ds => ds.length ≤ 3 ∧ SmL ds
  | .lst _ => False
def SmL : List D → Prop
  | [] => True
  | d :: ds => Sm d ∧ SmL ds
end
mutual
theorem Sm.pln : ∀ {d : D}, Sm d → Pln d
  | .non, _ => by rw [Pln]; trivial
  | .bl _, _ => by rw [Pln]; trivial
  | .int i, h => by rw [Sm] at h; rw [Pln]; exact Nat.lt_of_le_of_lt h (by decide)
  | .str l, h => by rw [Sm] at h; rw [Pln]; exact ⟨by omega, h.2⟩
  | .tup ds, h => by rw [Sm] at h; rw [Pln]; exact ⟨by omega, SmL.pln h.2⟩
  | .lst _, h => by rw [Sm] at h; exact h.elim
theorem SmL.pln : ∀ {ds : List D}, SmL ds → PlnL ds
  | [], _ => by rw [PlnL]; trivial
  | d :: ds, h => by rw [SmL] at h; rw [PlnL]; exact ⟨Sm.pln h.1, SmL.pln h.2⟩
end
def bnd (n : Nat) : Nat := 200 * 4 ^ n
def strs8 : List (List Nat) := [[], [97], [103, 111, 32, 49], [35, 126, 32, 10], [65, 92, 98], [34, 113, 34], List.replicate 130 120, [123, 125]]
theorem strs8_ok : ∀ l ∈ strs8, l.length ≤ 130 ∧ ∀ c ∈ l, c ∈ sgns := by decide +kernel
theorem bnd_pos (n : Nat) : 200 ≤ bnd n := by
  unfold bnd
  have : 0 < 4 ^ n := Nat.pow_pos (by decide)
  omega
theorem bnd_succ (n : Nat) : bnd (n + 1) = 4 * bnd n := by unfold bnd; rw [Nat.pow_succ]; omega
theorem int_fit {i : Int} (h : i.natAbs ≤ 10 ^ 12) : Sm (.int i) ∧ height (.int i) = 0 ∧ (octs (.int i)).length ≤ 11 := by
  refine ⟨by rw [Sm]; exact h, rfl, ?_⟩
  rw [octs]
  split
  · have := sev_len 9 i.toNat (by omega)
    rw [List.length_cons]
    omega
  · have := sev_len 9 (-i - 1).toNat (by omega)
    rw [List.length_cons]
    omega
theorem SmL_app : ∀ {a b : List D}, SmL a → SmL b → SmL (a ++ b)
  | [], _, _, h => h
  | d :: a, b, h, g => by rw [SmL] at h; rw [List.cons_append, SmL]; exact ⟨h.1, SmL_app h.2 g⟩
theorem heightL_app : ∀ {a b : List D}, heightL (a ++ b) = max (heightL a) (heightL b)
  | [], b => by rw [List.nil_append, heightL, Nat.zero_max]
  | d :: a, b => by rw [List.cons_append, heightL, heightL, heightL_app, Nat.max_assoc]
theorem rv_mulS {H : Hp} : RV rMulS (.str (tx [120])) (.int ((130 : Nat) : Int)) H (.str (tx (List.replicate 130 120))) := fun H1 _ Q q =>
  ⟨tx [120], ((130 : Nat) : Int), rfl, rfl, by unfold MulOk; decide, by rw [show Txt.mul (tx [120]) ((130 : Nat) : Int) = tx (List.replicate 130 120) by decide +kernel]; exact q H1 (Ex.refl H1)⟩
section
variable {P : Program} {w : World} {K : PySem.W.Frag} {mg : Str → Option Value} {base : Heap}
abbrev s_law_value : Stmt := topS 21
theorem sc_law_value : FnScope ["pool", "deep", "form", "number", "k"] ["pool", "deep"] (defScope s_law_value) := ⟨rfl, rfl, rfl, by decide +kernel, rfl, by decide +kernel, by decide +kernel⟩
/- 0 pool*, 1 deep*, 2 form, 3 number, 4 k -/
def sp_value (K : PySem.W.Frag) (h : Nat) : Sp := fun vs H Q _ => ∃ (p sc : Addr) (ns : List Int) (deep : Nat), vs = [.ref p, .int (deep : Int)] ∧ Pool K H p sc ns ∧ deep < h ∧ deep ≤ 10 ∧ ∀ v d H', Rep H' v d → Sm d → height d ≤ deep → (octs d).length ≤ bnd deep → G K p sc ns H H' → Q v H'
theorem fn_value {f : Addr} {fd : FuncData} {k h : Nat} (F : Fun K "_law_value" "_law_value" s_law_value f fd) (N : Nb mg) (C_law_draw : Cal P w K mg base k "_law_draw" ["pool", "limit"] (sp_draw K)) (C_law_pick : Cal P w K mg base k "_law_pick" ["pool", "options"] (sp_pick K))
    (C_law_value : Cal P w K mg base k "_law_value" ["pool", "deep"] (sp_value K h)) : FnOk P w K mg base CX0 (k + 1) f fd ["pool", "deep"] (sp_value K (h + 1)) := by
  refine F.ok sc_law_value (fun vs H Q E h => ?_) (fun cdv A outer s H vs Q E hr h => ?_)
  · obtain ⟨_, _, _, _, rfl, _⟩ := h
    rfl
  · obtain ⟨p, sc, ns, deep, rfl, hP, hh, hd, q⟩ := h
    refine ⟨_, (pss_cons (ps_set (i := 2) sc_law_value.nd rfl (Or.inl rfl) (pe_cal C_law_draw hr (pa_cons (pv 0) (pa_cons pe_int pa_nil))))
      (pss_cons (ps_if (pt_cmpR op_lt (pv 2) pe_int (nomark _)) (pss_one (ps_ret (pe_cal C_law_pick hr (pa_cons (pv 0) (pa_cons (pe_lst (pa_cons pe_non (pa_cons pe_bl (pa_cons pe_bl pa_nil)))) pa_nil))))) pss_nil)
      (pss_cons (ps_if (PW.pt (pw_or (pt_cmpR op_lt (pv 2) pe_int (nomark _)) (pw_or1 (pt_cmpR op_eq (pv 1) pe_int (nomark _))))) (pss_cons (ps_set (i := 3) sc_law_value.nd rfl (Or.inl rfl) (pe_cal C_law_draw hr (pa_cons (pv 0) (pa_cons (pe_cal C_law_pick hr (pa_cons (pv 0) (pa_cons (pe_lst (pa_cons pe_int (pa_cons pe_int (pa_cons pe_int (pa_cons (pe_op op_pow pe_int pe_int) pa_nil))))) pa_nil))) pa_nil))))
      (pss_one (ps_ret (pe_ifExp (pt_cmpR op_eq (pe_cal C_law_draw hr (pa_cons (pv 0) (pa_cons pe_int pa_nil))) pe_int (nomark _)) (pv 3) (pe_un un_neg (pv 3)))))) pss_nil)
      (pss_cons (ps_if (pt_cmpR op_lt (pv 2) pe_int (nomark _)) (pss_one (ps_ret (pe_cal C_law_pick hr (pa_cons (pv 0) (pa_cons (pe_lst (pa_cons pe_str (pa_cons pe_str (pa_cons pe_str (pa_cons pe_str (pa_cons pe_str (pa_cons pe_str (pa_cons (pe_op op_mulS pe_str pe_int) (pa_cons pe_str pa_nil))))))))) pa_nil))))) pss_nil)
      (pss_one (ps_ret (pe_callTy call_tuple_of (by rfl) N.tuple PyProof.Rows.boot_tuple (pa_cons (pe_lc (own := [("k", 4)]) (by rfl) sc_law_value.nd (pi_range1 rfl N.range (pa_cons (pe_cal C_law_draw hr (pa_cons (pv 0) (pa_cons pe_int pa_nil))) pa_nil)) (blkOk_by (own := [("k", 4)]) (N := ["pool", "deep", "form", "number", "k"]) (sc := defScope s_law_value) (by decide +kernel)) (fun _ _ _ _ _ => (pg_name (i := 4) sc_law_value.nd rfl (Or.inl rfl))) (fun _ _ _ _ _ => pts_nil) (fun _ _ _ _ _ => (pe_cal C_law_value hr (pa_cons (pv 0) (pa_cons (pe_op op_sub (pv 1) pe_int) pa_nil))))) pa_nil)))))))), ?_⟩
    have b0 := bnd_pos deep
    refine r_asg (r_draw (n := 9) hP (ea_cons (ev_v rfl) (ea_cons (ev_cn 9) ea_nil)) (by decide) (by decide) fun form H1 hf g1 => ?_)
    refine q_when (b := decide ((form : Int) < ((2 : Nat) : Int))) (et_test (ev_op (ev_v rfl) (ev_cn 2) rv_I0)) (fun _ H2 e2 => ?_) fun _ H2 e2 => ?_
    · have g2 := g1.exR e2
      refine r_ret (r_pick g2.2 (ev_v rfl) (el_lst (ea_cons ev_c (ea_cons ev_c (ea_cons ev_c ea_nil))) (by decide)) (fun z => nomatch z) (by decide) fun v H' hv g => ?_)
      have hv' : v = .non ∨ v = .bl true ∨ v = .bl false := by simpa using hv
      rcases hv' with rfl | rfl | rfl
      · exact q _ .non H' .non (by rw [Sm]; trivial) (Nat.zero_le _) (by show 1 ≤ _; omega) (g2.trans g)
      · exact q _ (.bl true) H' (.bl _) (by rw [Sm]; trivial) (Nat.zero_le _) (by show 1 ≤ _; omega) (g2.trans g)
      · exact q _ (.bl false) H' (.bl _) (by rw [Sm]; trivial) (Nat.zero_le _) (by show 1 ≤ _; omega) (g2.trans g)
    have g2 := g1.exR e2
    refine q_when (b := decide ((form : Int) < ((5 : Nat) : Int)) || decide (deep = 0)) (et_or (et_test (ev_op (ev_v rfl) (ev_cn 5) rv_I0)) fun _ => et_test (ev_is (ev_op (ev_v rfl) (ev_cn 0) (rv_eq rfl)) (congrArg V.bl (decide_eq_decide.mpr ⟨fun h => by have := V.int.inj h; omega, fun h => by rw [h]⟩)))) (fun _ H3 e3 => ?_) fun hb H3 e3 => ?_
    · have g3 := g2.exR e3
      refine r_asg (r_call (r_cons (r_var (v := .ref p) rfl (r_cons (r_pick (xs := [.int (3 : Nat), .int (130 : Nat), .int (70000 : Nat), .int (10 ^ 12 : Nat)]) g3.2 (ev_v rfl) (el_lst (ea_cons (ev_cn 3) (ea_cons (ev_cn 130) (ea_cons (ev_cn 70000) (ea_cons (ev_op (ev_cn 10) (ev_cn 12) (rv_I (by unfold CPow; decide))) ea_nil)))) (by decide)) (fun z => nomatch z) (by decide) fun v H4 hv g => r_nil ?_)))))
      have hv' : ∃ n : Nat, v = .int (n : Int) ∧ 0 < n ∧ n ≤ 10 ^ 12 := by
        have : v = .int (3 : Nat) ∨ v = .int (130 : Nat) ∨ v = .int (70000 : Nat) ∨ v = .int (10 ^ 12 : Nat) := by simpa using hv
        rcases this with rfl | rfl | rfl | rfl
        · exact ⟨3, rfl, by decide, by decide⟩
        · exact ⟨130, rfl, by decide, by decide⟩
        · exact ⟨70000, rfl, by decide, by decide⟩
        · exact ⟨10 ^ 12, rfl, by decide, by decide⟩
      obtain ⟨n, rfl, n0, n1⟩ := hv'
      have g4 := g3.trans g
      refine ⟨p, sc, ns, n, rfl, g4.2, n0, by omega, fun num H5 hnum g5 => ?_⟩
      have g5' := g4.trans g5
      refine r_ret (r_if (r_test (r_op (r_draw (n := 2) g5'.2 (ea_cons (ev_v rfl) (ea_cons (ev_cn 2) ea_nil)) (by decide) (by decide) fun b H6 hb g6 => r_c ⟨rfl, _, rfl, ?_⟩))))
      have g6' := g5'.trans g6
      split
      · obtain ⟨f1, f2, f3⟩ := int_fit (i := (num : Int)) (by omega)
        exact r_var rfl (q _ (.int num) H6 (.int _) f1 (by omega) (by omega) g6')
      · obtain ⟨f1, f2, f3⟩ := int_fit (i := -(num : Int)) (by omega)
        exact r_ev (ev_un (ev_v rfl) ru_neg) (Ex.refl H6) fun H7 e7 => q _ (.int (-(num : Int))) H7 (.int _) f1 (by omega) (by omega) (g6'.exR e7)
    have g3 := g2.exR e3
    have hd0 : deep ≠ 0 := fun e => by
      rw [decide_eq_true e, Bool.or_true] at hb
      exact nomatch hb
    refine q_when (b := decide ((form : Int) < ((7 : Nat) : Int))) (et_test (ev_op (ev_v rfl) (ev_cn 7) rv_I0)) (fun _ H4 e4 => ?_) fun _ H4 e4 => ?_
    · have g4 := g3.exR e4
      refine r_ret (r_pick (xs := strs8.map fun l => .str (tx l)) g4.2 (ev_v rfl) ?_ (fun z => nomatch z) (by decide) fun v H' hv g => ?_)
      · exact el_lst (ea_cons (ev_cs [] (by decide +kernel)) (ea_cons (ev_cs [97] (by decide +kernel)) (ea_cons (ev_cs [103, 111, 32, 49] (by decide +kernel)) (ea_cons (ev_cs [35, 126, 32, 10] (by decide +kernel)) (ea_cons (ev_cs [65, 92, 98] (by decide +kernel)) (ea_cons (ev_cs [34, 113, 34] (by decide +kernel))
          (ea_cons (ev_op (ev_cs [120] (by decide +kernel)) (ev_cn 130) rv_mulS) (ea_cons (ev_cs [123, 125] (by decide +kernel)) ea_nil)))))))) (by decide)
      · obtain ⟨l, hl, rfl⟩ := List.mem_map.mp hv
        obtain ⟨l1, l2⟩ := strs8_ok l hl
        have := sev_len 9 l.length (Nat.lt_of_le_of_lt l1 (by decide))
        refine q _ (.str l) H' (.str l) (by rw [Sm]; exact ⟨by omega, l2⟩) (Nat.zero_le _) ?_ (g4.trans g)
        rw [octs, List.length_cons, List.length_append, List.length_map]
        omega
    have g4 := g3.exR e4
    have hd1 : bnd deep = 4 * bnd (deep - 1) := by
      rw [← bnd_succ]
      congr 1
      omega
    have b1 := bnd_pos (deep - 1)
    refine r_ret (r_cb (r_cons ?_))
    refine r_lcR1 (r_cons (r_draw (n := 4) g4.2 (ea_cons (ev_v rfl) (ea_cons (ev_cn 4) ea_nil)) (by decide) (by decide) fun n H5 hn g5 => r_nil ?_))
    refine ⟨(n : Int), rfl, by omega, by omega, fun Dl hD => ?_⟩
    rw [Int.toNat_natCast]
    have P5 := g5.2
    have G5 := g4.trans g5
    refine ⟨fun i m H' => m = n - i ∧ i ≤ n ∧ G K p sc ns H5 H' ∧ ∃ vs ds, H' Dl = some (.lst vs) ∧ Reps H' vs ds ∧ SmL ds ∧ heightL ds ≤ deep - 1 ∧ ds.length = i ∧ (octsL ds).length ≤ i * bnd (deep - 1), ⟨n, rfl, Nat.zero_le _, G.new P5 (G.refl P5) hD, [], [], upd_same, .nil, by rw [SmL]; trivial, by rw [heightL]; omega, rfl, by rw [octsL]; exact Nat.zero_le _⟩, ?_⟩
    rintro i m H' ⟨rfl, hi, gg, us, ds, hl, hr', hp', hh', hlen, ho'⟩
    by_cases hlt : i < n
    · refine .inr ⟨hlt, fun H' => G K p sc ns H5 H' ∧ ∃ vs ds, H' Dl = some (.lst vs) ∧ Reps H' vs ds ∧ SmL ds ∧ heightL ds ≤ deep - 1 ∧ ds.length = i + 1 ∧ (octsL ds).length ≤ (i + 1) * bnd (deep - 1), fun H2 p => ⟨n - (i + 1), by omega, rfl, hlt, p⟩, fun x H2 y => ?_⟩
      obtain ⟨rfl, rfl⟩ := y
      refine ⟨rfl, tyes_ (iteT ?_)⟩
      refine r_call (r_cons (r_var (v := .ref p) rfl (r_cons (r_ev (ev_op (ev_v rfl) (ev_cn 1) (rv_subN (a := deep) (b := 1) (by omega))) (Ex.refl _) fun H6 e6 => r_nil ?_))))
      refine ⟨p, sc, ns, deep - 1, rfl, gg.2.ex e6, by omega, by omega, fun v d H7 rv pv hv ov g7 => ⟨us, ?_, ?_, ?_⟩⟩
      · exact g7.1 Dl _ (P5.ne hD) (e6 Dl _ hl)
      · have := hr'.len
        exact sz_lt (by omega)
      · have G7 := (gg.exR e6).trans g7
        have l7 : H7 Dl = some (.lst us) := g7.1 Dl _ (P5.ne hD) (e6 Dl _ hl)
        have no7 : ∀ ws, H7 Dl ≠ some (.tup ws) := fun ws e => by
          rw [l7] at e
          exact nomatch Option.some.inj e
        refine ⟨G.new P5 G7 hD, us ++ [v], ds ++ [d], upd_same, (Reps.off .upd no7 hp'.pln (Reps.g g7 (gg.2.ex e6) hp'.pln (Reps.mono e6 hr'))).append (.cons (Rep.off .upd no7 pv.pln rv) .nil), SmL_app hp' (by rw [SmL, SmL]; exact ⟨pv, trivial⟩), ?_, by rw [List.length_append, hlen]; rfl, ?_⟩
        · rw [heightL_app, heightL, heightL]
          omega
        · rw [octsL_app, List.length_append, octsL, octsL, List.append_nil, Nat.succ_mul]
          omega
    · have e0 : i = n := by omega
      subst e0
      refine .inl ⟨Nat.le_refl _, ?_⟩
      refine r_nil ⟨Dl, us, rfl, .inl ⟨sq_of hl, fun l hl2 => ?_⟩⟩
      have hsl := sev_len 9 ds.length (by omega)
      have h3 : ds.length * bnd (deep - 1) ≤ 3 * bnd (deep - 1) := Nat.mul_le_mul_right _ (by omega)
      refine q (.ref l) (.tup ds) _ (.tup upd_same (Reps.mono (Ex.new hl2) hr')) (by rw [Sm]; exact ⟨by omega, hp'⟩) (by rw [height]; omega) ?_ ((G5.trans gg).exR (Ex.new hl2))
      rw [octs, List.length_cons, List.length_append]
      rw [hlen] at h3
      omega
theorem cal_value {f : Addr} {fd : FuncData} {k : Nat} (F : Fun K "_law_value" "_law_value" s_law_value f fd) (hb : Binds K fd ["pool", "deep"] []) (hk : PySem.W.keepIn K (.ref f) = true) (hm : mg "_law_value" = some (.ref f)) (N : Nb mg)
    (C_law_draw : Cal P w K mg base k "_law_draw" ["pool", "limit"] (sp_draw K)) (C_law_pick : Cal P w K mg base k "_law_pick" ["pool", "options"] (sp_pick K)) : ∀ h, Cal P w K mg base (k + h) "_law_value" ["pool", "deep"] (sp_value K h)
  | 0 => ⟨f, fd, ⟨fun vs H Q E h => by obtain ⟨_, _, _, _, _, _, h, _⟩ := h; exact (Nat.not_lt_zero _ h).elim, fun A outer s H args us vs Q E _ _ _ _ h => by obtain ⟨_, _, _, _, _, _, h, _⟩ := h; exact (Nat.not_lt_zero _ h).elim⟩, hb, hk, hm⟩
  | h + 1 => ⟨f, fd, fn_value F N (C_law_draw.mono (Nat.le_add_right k h)) (C_law_pick.mono (Nat.le_add_right k h)) (cal_value F hb hk hm N C_law_draw C_law_pick h), hb, hk, hm⟩
end
end K00

set_option Elab.async false
set_option linter.all false
set_option maxRecDepth 100000
set_option maxHeartbeats 4000000
namespace K00
open PySem PySem.Spec PyProof.Rows L2 Evl My
mutual
def Wid : D → Prop
  | .tup ds => ds.length ≤ 90000 ∧ WidL ds
  | .lst ds => ds.length ≤ 90000 ∧ WidL ds
  | _ => True
def WidL : List D → Prop
  | [] => True
  | d :: ds => Wid d ∧ WidL ds
end
theorem WidL_get : ∀ {ds : List D} {i : Nat} {d : D}, WidL ds → ds[i]? = some d → Wid d
  | [], _, _, _, h => nomatch h
  | d :: ds, 0, _, p, h => by cases h; rw [WidL] at p; exact p.1
  | d :: ds, i + 1, _, p, h => by rw [WidL] at p; exact WidL_get (ds := ds) (i := i) p.2 h
theorem sameL_no : ∀ {a b : List D} {i : Nat} {x y : D}, a[i]? = some x → b[i]? = some y → sameD x y = false → sameL a b = false
  | [], _, _, _, _, h, _, _ => nomatch h
  | _ :: _, [], _, _, _, _, h, _ => nomatch h
  | a :: as, b :: bs, 0, x, y, h, g, e => by cases h; cases g; rw [sameL, e]; rfl
  | a :: as, b :: bs, i + 1, x, y, h, g, e => by rw [sameL, sameL_no (i := i) (a := as) (b := bs) h g e, Bool.and_false]
theorem sameL_len : ∀ {a b : List D}, a.length ≠ b.length → sameL a b = false
  | [], [], h => (h rfl).elim
  | [], _ :: _, _ => by rw [sameL] <;> (intros; first | contradiction | (intro; contradiction))
  | _ :: _, [], _ => by rw [sameL] <;> (intros; first | contradiction | (intro; contradiction))
  | a :: as, b :: bs, h => by
    rw [sameL, sameL_len (a := as) (b := bs) (fun e => h (congrArg Nat.succ e)), Bool.and_false]
theorem sameL_yes : ∀ {a b : List D}, a.length = b.length → (∀ (i : Nat) x y, a[i]? = some x → b[i]? = some y → sameD x y = true) → sameL a b = true
  | [], [], _, _ => by rw [sameL]
  | [], _ :: _, h, _ => nomatch h
  | _ :: _, [], h, _ => nomatch h
  | a :: as, b :: bs, h, g => by rw [sameL, g 0 a b rfl rfl, sameL_yes (a := as) (b := bs) (Nat.succ.inj h) fun i x y h1 h2 => g (i + 1) x y h1 h2]; rfl
def isTD : D → Bool
  | .tup _ => true
  | _ => false
def isLD : D → Bool
  | .lst _ => true
  | _ => false
def isSD : D → Bool
  | .str _ => true
  | _ => false
def isID : D → Bool
  | .int _ => true
  | .bl _ => true
  | _ => false
def isBD : D → Bool
  | .bl _ => true
  | _ => false
theorem kTD (d : D) : kitB (tyD d) "tuple" = some (isTD d) := by cases d <;> rfl
theorem kLD (d : D) : kitB (tyD d) "list" = some (isLD d) := by cases d <;> rfl
theorem kSD (d : D) : kitB (tyD d) "str" = some (isSD d) := by cases d <;> rfl
theorem kID (d : D) : kitB (tyD d) "int" = some (isID d) := by cases d <;> rfl
theorem kBD (d : D) : kitB (tyD d) "bool" = some (isBD d) := by cases d <;> rfl
theorem kDD (d : D) : kitB (tyD d) "dict" = some false := by cases d <;> rfl
section
variable {P : Program} {w : World} {K : PySem.W.Frag} {mg : Str → Option Value} {base : Heap}
theorem ev_isN {te : TE} {σ : L2.St} {H : Hp} {v : V} (h : Ev te σ H v) : Ev (tOp (fun x y H Q => y = .non ∧ Q (.bl (decide (x = .non))) H) te (tC .non)) σ H (.bl (decide (v = .non))) := fun H1 e Q q =>
  h H1 e _ fun H2 e2 => ⟨rfl, q H2 e2⟩
theorem ev_isBA {te : TE} {σ : L2.St} {H : Hp} {v : V} {b : Bool} (h : Ev te σ H v) : Ev (tOp rIsBA te (tC (.bl b))) σ H (.bl (decide (v = .bl b))) := fun H1 e Q q =>
  h H1 e _ fun H2 e2 => ⟨b, rfl, q H2 e2⟩
theorem ev_lenQ {σ : L2.St} {H : Hp} {ta : TE} {p : Addr} {xs : List V} (ha : Ev ta σ H (.ref p)) (h : SqL K H p xs ∨ SqT K H p xs) : Ev (tCB (rLenS K) (tCons ta tNil)) σ H (.int (xs.length : Int)) := by
  rcases h with h | h
  · exact ev_len ha h
  · exact ev_lenT ha h
theorem rv_ixQ {H : Hp} {p : Addr} {xs : List V} {i : Nat} {v : V} (h : SqL K H p xs ∨ SqT K H p xs) (ha : xs[i]? = some v) : RV (rIx K) (.ref p) (.int (i : Int)) H v := by
  rcases h with h | h
  · exact fun H1 e Q q => .inl (rv_ixLn h ha H1 e Q q)
  · exact fun H1 e Q q => .inr (.inl (rv_ixTn h ha H1 e Q q))
theorem ex_q {H H' : Hp} {p : Addr} {xs : List V} (e : Ex H H') (h : SqL K H p xs ∨ SqT K H p xs) : SqL K H' p xs ∨ SqT K H' p xs := h.imp (ex_l e) (ex_t e)
abbrev s_law_same : Stmt := topS 25
theorem sc_law_same : FnScope ["actual", "due", "key", "k"] ["actual", "due"] (defScope s_law_same) := ⟨rfl, rfl, rfl, by decide +kernel, rfl, by decide +kernel, by decide +kernel⟩
/- 0 actual, 1 due, 2 key, 3 k -/
def ok_same (h : Nat) (vs : List V) (H : Hp) (z : V) : Prop := ∃ (a b : V) (d1 d2 : D), vs = [a, b] ∧ Rep H a d1 ∧ Rep H b d2 ∧ Wid d2 ∧ height d2 < h ∧ z = .bl (sameD d1 d2)
theorem fn_same {f : Addr} {fd : FuncData} {k h : Nat} (F : Fun K "_law_same" "_law_same" s_law_same f fd) (N : Nb mg) (C_law_same : Cal P w K mg base k "_law_same" ["actual", "due"] (spV (ok_same h))) : FnOk P w K mg base CX0 (k + 1) f fd ["actual", "due"] (spV (ok_same (h + 1))) := by
  refine F.ok sc_law_same (fun vs H Q E h => ?_) (fun cdv A outer s H vs Q E hr h => ?_)
  · obtain ⟨_, ⟨_, _, _, _, rfl, _⟩, _⟩ := h
    rfl
  · obtain ⟨_, ⟨a, b, d1, d2, rfl, r1, r2, hw, hh, hz⟩, q⟩ := h
    rw [hz] at q
    refine ⟨_, (pss_cons (ps_if (pt_cmpR op_isN (pv 1) pe_non (nomark _)) (pss_one (ps_ret (pe_cmpR op_isN (pv 0) pe_non (nomark _)))) pss_nil)
      (pss_cons (ps_if (pt_cmpR op_isBA (pv 1) pe_bl (nomark _)) (pss_one (ps_ret (pe_cmpR op_isBA (pv 0) pe_bl (nomark _)))) pss_nil)
      (pss_cons (ps_if (pt_cmpR op_isBA (pv 1) pe_bl (nomark _)) (pss_one (ps_ret (pe_cmpR op_isBA (pv 0) pe_bl (nomark _)))) pss_nil)
      (pss_cons (ps_if (pt_val (pe_callB call_isi (by rfl) N.isinstance PyProof.Rows.boot_isinstance (pa_cons (pv 1) (pa_cons (pe_bltn (v := .ty "int") (by rfl) N.int PyProof.Rows.boot_int rfl) pa_nil)))) (pss_one (ps_ret (pe_and (pe_callB call_isi (by rfl) N.isinstance PyProof.Rows.boot_isinstance (pa_cons (pv 0) (pa_cons (pe_bltn (v := .ty "int") (by rfl) N.int PyProof.Rows.boot_int rfl) pa_nil))) (pe_and (pe_not (pe_callB call_isi (by rfl) N.isinstance PyProof.Rows.boot_isinstance (pa_cons (pv 0) (pa_cons (pe_bltn (v := .ty "bool") (by rfl) N.bool PyProof.Rows.boot_bool rfl) pa_nil)))) (pe_one (pe_cmpR op_eq (pv 0) (pv 1) (nomark _))))))) pss_nil)
      (pss_cons (ps_if (pt_val (pe_callB call_isi (by rfl) N.isinstance PyProof.Rows.boot_isinstance (pa_cons (pv 1) (pa_cons (pe_bltn (v := .ty "str") (by rfl) N.str PyProof.Rows.boot_str rfl) pa_nil)))) (pss_one (ps_ret (pe_and (pe_callB call_isi (by rfl) N.isinstance PyProof.Rows.boot_isinstance (pa_cons (pv 0) (pa_cons (pe_bltn (v := .ty "str") (by rfl) N.str PyProof.Rows.boot_str rfl) pa_nil))) (pe_one (pe_cmpR op_eq (pv 0) (pv 1) (nomark _)))))) pss_nil)
      (pss_cons (ps_if (pt_val (pe_callB call_isi (by rfl) N.isinstance PyProof.Rows.boot_isinstance (pa_cons (pv 1) (pa_cons (pe_bltn (v := .ty "dict") (by rfl) N.dict PyProof.Rows.boot_dict rfl) pa_nil)))) pss_never pss_nil)
      (pss_cons (ps_if (PW.pt (pw_or (pt_cmpR op_ne (pe_callB call_isi (by rfl) N.isinstance PyProof.Rows.boot_isinstance (pa_cons (pv 0) (pa_cons (pe_bltn (v := .ty "tuple") (by rfl) N.tuple PyProof.Rows.boot_tuple rfl) pa_nil))) (pe_callB call_isi (by rfl) N.isinstance PyProof.Rows.boot_isinstance (pa_cons (pv 1) (pa_cons (pe_bltn (v := .ty "tuple") (by rfl) N.tuple PyProof.Rows.boot_tuple rfl) pa_nil))) (nomark _)) (pw_or1 (pt_cmpR op_ne (pe_callB call_isi (by rfl) N.isinstance PyProof.Rows.boot_isinstance (pa_cons (pv 0) (pa_cons (pe_bltn (v := .ty "list") (by rfl) N.list PyProof.Rows.boot_list rfl) pa_nil))) (pe_callB call_isi (by rfl) N.isinstance PyProof.Rows.boot_isinstance (pa_cons (pv 1) (pa_cons (pe_bltn (v := .ty "list") (by rfl) N.list PyProof.Rows.boot_list rfl) pa_nil))) (nomark _))))) (pss_one (ps_ret pe_bl)) pss_nil)
      (pss_cons (ps_if (pt_cmpR op_ne (pe_callB call_len_seq (by rfl) N.len PySem.boot_len (pa_cons (pv 0) pa_nil)) (pe_callB call_len_seq (by rfl) N.len PySem.boot_len (pa_cons (pv 1) pa_nil)) (nomark _)) (pss_one (ps_ret pe_bl)) pss_nil)
      (pss_cons (ps_for PassesOwn.never rfl (pi_range1 rfl N.range (pa_cons (pe_callB call_len_seq (by rfl) N.len PySem.boot_len (pa_cons (pv 1) pa_nil)) pa_nil)) (pg_name (i := 3) sc_law_same.nd rfl (Or.inl rfl)) (pss_one (ps_if (pt_not (pt_val (pe_cal C_law_same hr (pa_cons (pe_ix ix_seq (pv 0) (pv 3) (fun _ _ => rfl)) (pa_cons (pe_ix ix_seq (pv 1) (pv 3) (fun _ _ => rfl)) pa_nil))))) (pss_one (ps_ret pe_bl)) pss_nil)))
      (pss_one (ps_ret pe_bl))))))))))), ?_⟩
    have isi0 : ∀ {T : String} {σ : L2.St} {H' : Hp} {c : Bool}, Ex H H' → σ[0]? = some (some a) → kitB (tyD d1) T = some c → Ev (tCB (rIsi K) (tCons (tVar 0) (tCons (tC (.ty T)) tNil))) σ H' (.bl c) := fun e hv hk => ev_isi (ev_v hv) (r1.mono e) hk
    have isi1 : ∀ {T : String} {σ : L2.St} {H' : Hp} {c : Bool}, Ex H H' → σ[1]? = some (some b) → kitB (tyD d2) T = some c → Ev (tCB (rIsi K) (tCons (tVar 1) (tCons (tC (.ty T)) tNil))) σ H' (.bl c) := fun e hv hk => ev_isi (ev_v hv) (r2.mono e) hk
    refine q_when (et_isN (ev_v rfl)) (fun hb H1 e1 => ?_) fun nN H1 e1 => ?_
    · have hv := of_decide_eq_true hb
      subst hv
      cases r2
      exact s_ret (ev_is (ev_isN (ev_v rfl)) (by cases r1 <;> rfl)) fun H2 e2 => q H2 (e1.trans e2)
    refine q_when (et_test (ev_isBA (b := true) (ev_v rfl))) (fun hb H2 e2 => ?_) fun nT H2 e2 => ?_
    · have hv := of_decide_eq_true hb
      subst hv
      cases r2
      exact s_ret (ev_is (ev_isBA (ev_v rfl)) (by cases r1 <;> first | rfl | (rename_i c; cases c <;> rfl))) fun H3 e3 => q H3 ((e1.trans e2).trans e3)
    refine q_when (et_test (ev_isBA (b := false) (ev_v rfl))) (fun hb H3 e3 => ?_) fun nF H3 e3 => ?_
    · have hv := of_decide_eq_true hb
      subst hv
      cases r2
      exact s_ret (ev_is (ev_isBA (ev_v rfl)) (by cases r1 <;> first | rfl | (rename_i c; cases c <;> rfl))) fun H4 e4 => q H4 (((e1.trans e2).trans e3).trans e4)
    have E3 := (e1.trans e2).trans e3
    have nb : isBD d2 = false := by
      cases r2 with
      | bl c =>
        cases c with
        | true => exact (of_decide_eq_false nT rfl).elim
        | false => exact (of_decide_eq_false nF rfl).elim
      | _ => rfl
    have nn : d2 ≠ .non := fun e => by
      subst e
      cases r2
      exact of_decide_eq_false nN rfl
    refine q_when (et_test (isi1 E3 rfl (kID d2))) (fun hb H4 e4 => ?_) fun nI H4 e4 => ?_
    · have E4 := E3.trans e4
      cases r2 with
      | int i =>
        refine s_ret (ev_is (ev_andV (isi0 E4 rfl (kID d1)) fun h1 => ev_andV (b := sameD d1 (.int i)) (ev_notV (isi0 E4 rfl (kBD d1))) fun h2 => ?_) ?_) fun H5 e5 => q H5 (E4.trans e5)
        · cases r1 with
          | int j =>
            refine ev_is (ev_op (ev_v rfl) (ev_v rfl) (rv_eq rfl)) (congrArg V.bl ?_)
            rw [sameD]
            exact decide_eq_decide.mpr ⟨fun h => V.int.inj h, fun h => by rw [h]⟩
          | bl c => exact nomatch h2
          | _ => exact nomatch h1
        · cases r1 with
          | int j => rfl
          | _ => rfl
      | bl c => exact nomatch nb
      | _ => exact nomatch hb
    have E4 := E3.trans e4
    refine q_when (et_test (isi1 E4 rfl (kSD d2))) (fun hb H5 e5 => ?_) fun nS H5 e5 => ?_
    · have E5 := E4.trans e5
      cases r2 with
      | str l =>
        refine s_ret (ev_is (ev_andV (b := sameD d1 (.str l)) (isi0 E5 rfl (kSD d1)) fun h1 => ?_) ?_) fun H6 e6 => q H6 (E5.trans e6)
        · cases r1 with
          | str j =>
            refine ev_is (ev_op (ev_v rfl) (ev_v rfl) (rv_eq rfl)) (congrArg V.bl ?_)
            rw [sameD]
            exact decide_eq_decide.mpr ⟨fun h => tx_inj (V.str.inj h), fun h => by rw [h]⟩
          | _ => exact nomatch h1
        · cases r1 with
          | str j => rfl
          | _ => rfl
      | _ => exact nomatch hb
    have E5 := E4.trans e5
    refine q_when (et_test (isi1 E5 rfl (kDD d2))) (fun z => nomatch z) fun _ H6 e6 => ?_
    have E6 := E5.trans e6
    refine q_when (et_or (et_test (ev_op (isi0 E6 rfl (kTD d1)) (isi1 E6 rfl (kTD d2)) (rv_ne rfl))) fun _ => et_test (ev_op (isi0 E6 rfl (kLD d1)) (isi1 E6 rfl (kLD d2)) (rv_ne rfl))) (fun hb H7 e7 => ?_) fun hb H7 e7 => ?_
    · refine s_ret ev_c fun H8 e8 => ?_
      have hs : sameD d1 d2 = false := by
        cases d1 <;> cases d2 <;> first | rfl | exact nomatch hb | exact (nn rfl).elim | exact nomatch nb | exact nomatch nI | exact nomatch nS
      rw [hs] at q
      exact q H8 ((E6.trans e7).trans e8)
    have E7 := E6.trans e7
    have core : ∃ (a1 b1 : Addr) (us ws : List V) (ds es : List D), a = .ref a1 ∧ b = .ref b1 ∧ (SqL K H a1 us ∨ SqT K H a1 us) ∧ (SqL K H b1 ws ∨ SqT K H b1 ws) ∧ Reps H us ds ∧ Reps H ws es ∧ sameD d1 d2 = sameL ds es ∧ es.length ≤ 90000 ∧ WidL es ∧ heightL es < h := by
      cases r2 with
      | tup e2 rs2 =>
        cases r1 with
        | tup e1 rs1 =>
          rw [Wid] at hw
          rw [height] at hh
          exact ⟨_, _, _, _, _, _, rfl, rfl, .inr (st_of e1), .inr (st_of e2), rs1, rs2, by rw [sameD], hw.1, hw.2, by omega⟩
        | _ => exact nomatch hb
      | lst e2 rs2 =>
        cases r1 with
        | lst e1 rs1 =>
          rw [Wid] at hw
          rw [height] at hh
          exact ⟨_, _, _, _, _, _, rfl, rfl, .inl (sq_of e1), .inl (sq_of e2), rs1, rs2, by rw [sameD], hw.1, hw.2, by omega⟩
        | _ => exact nomatch hb
      | non => exact (nn rfl).elim
      | bl c => exact nomatch nb
      | int i => exact nomatch nI
      | str l => exact nomatch nS
    obtain ⟨a1, b1, us, ws, ds, es, rfl, rfl, s1, s2, rs1, rs2, hs, hn, hW, hH⟩ := core
    rw [hs] at q
    have l1 := rs1.len
    have l2 := rs2.len
    refine q_when (et_test (ev_op (ev_lenQ (ev_v rfl) (ex_q E7 s1)) (ev_lenQ (ev_v rfl) (ex_q E7 s2)) (rv_ne rfl))) (fun hb H8 e8 => ?_) fun hb H8 e8 => ?_
    · refine s_ret ev_c fun H9 e9 => ?_
      have hne : ds.length ≠ es.length := fun e => by
        rw [l1, l2, e, decide_eq_true rfl] at hb
        exact nomatch hb
      rw [sameL_len hne] at q
      exact q H9 ((E7.trans e8).trans e9)
    have E8 := E7.trans e8
    have hlen : ds.length = es.length := by
      have : decide (V.int (us.length : Int) = V.int (ws.length : Int)) = true := by simpa using hb
      have := V.int.inj (of_decide_eq_true this)
      omega
    refine q_forR1N (n := es.length) (ea_cons (ev_is (ev_lenQ (ev_v rfl) (ex_q E8 s2)) (by rw [l2])) ea_nil) (by omega) (fun i σ H' => Ex H H' ∧ (∀ (j : Nat) x y, j < i → ds[j]? = some x → es[j]? = some y → sameD x y = true) ∧ ∃ y2 y3, σ = [some (.ref a1), some (.ref b1), y2, y3]) (fun H9 e9 => ⟨E8.trans e9, fun j x y hj => (Nat.not_lt_zero _ hj).elim, none, none, rfl⟩) ?_ ?_
    · rintro i σ H' hi ⟨e, hsm, y2, y3, rfl⟩
      obtain ⟨y, gy⟩ : ∃ y, es[i]? = some y := ⟨_, List.getElem?_eq_getElem hi⟩
      obtain ⟨x, gx⟩ : ∃ x, ds[i]? = some x := ⟨_, List.getElem?_eq_getElem (by omega)⟩
      obtain ⟨v2, hv2, rv2⟩ := rs2.get gy
      obtain ⟨v1, hv1, rv1⟩ := rs1.get gx
      have gh := heightL_get gy
      refine s_when (b := !sameD x y) (et_not (et_B (ev_cal (ea_cons (ev_op (ev_v rfl) (ev_v rfl) (rv_ixQ (ex_q e s1) hv1)) (ea_cons (ev_op (ev_v rfl) (ev_v rfl) (rv_ixQ (ex_q e s2) hv2)) ea_nil)) fun H9 e9 => ⟨v1, v2, x, y, rfl, rv1.mono (e.trans e9), rv2.mono (e.trans e9), WidL_get hW gy, by omega, rfl⟩))) (fun hb H9 e9 => ?_) fun hb H9 e9 => ?_
      · have hf : sameD x y = false := by simpa using hb
        rw [sameL_no gx gy hf] at q
        exact s_ret ev_c fun H10 e10 => q H10 ((e.trans e9).trans e10)
      · have ht : sameD x y = true := by simpa using hb
        refine ⟨e.trans e9, fun j x' y' hj h1 h2 => ?_, _, _, rfl⟩
        by_cases hji : j < i
        · exact hsm j x' y' hji h1 h2
        · have : j = i := by omega
          subst this
          rw [gx] at h1
          rw [gy] at h2
          cases h1
          cases h2
          exact ht
    · rintro σ H' ⟨e, hsm, y2, y3, rfl⟩
      rw [sameL_yes hlen fun i x y h1 h2 => hsm i x y (List.getElem?_eq_some_iff.mp h2).1 h1 h2] at q
      exact s_ret ev_c fun H9 e9 => q H9 (e.trans e9)
theorem cal_same {f : Addr} {fd : FuncData} {k : Nat} (F : Fun K "_law_same" "_law_same" s_law_same f fd) (hb : Binds K fd ["actual", "due"] []) (hk : PySem.W.keepIn K (.ref f) = true) (hm : mg "_law_same" = some (.ref f)) (N : Nb mg) : ∀ h, Cal P w K mg base (k + h) "_law_same" ["actual", "due"] (spV (ok_same h))
  | 0 => ⟨f, fd, ⟨fun vs H Q E h => by obtain ⟨_, ⟨_, _, _, _, _, _, _, _, h, _⟩, _⟩ := h; exact (Nat.not_lt_zero _ h).elim, fun A outer s H args us vs Q E _ _ _ _ h => by obtain ⟨_, ⟨_, _, _, _, _, _, _, _, h, _⟩, _⟩ := h; exact (Nat.not_lt_zero _ h).elim⟩, hb, hk, hm⟩
  | h + 1 => ⟨f, fd, fn_same F N (cal_same F hb hk hm N h), hb, hk, hm⟩
end
end K00

set_option Elab.async false
set_option linter.all false
set_option maxRecDepth 100000
set_option maxHeartbeats 4000000
namespace K00
open PySem PySem.Spec PyProof.Rows L2 Evl My
section
variable {P : Program} {w : World} {K : PySem.W.Frag} {mg : Str → Option Value} {base : Heap}
abbrev s_law_sevens : Stmt := topS 22
theorem sc_law_sevens : FnScope ["number", "found", "step"] ["number"] (defScope s_law_sevens) := ⟨rfl, rfl, rfl, by decide +kernel, rfl, by decide +kernel, by decide +kernel⟩
/- 0 number, 1 found, 2 step -/
theorem fn_sevens {f : Addr} {fd : FuncData} {k : Nat} (F : Fun K "_law_sevens" "_law_sevens" s_law_sevens f fd) (N : Nb mg) : FnOk P w K mg base CX0 (k + 1) f fd ["number"] (spL ok_number_told) := by
  refine F.ok sc_law_sevens (fun vs H Q E h => ?_) (fun cdv A outer s H vs Q E hr h => ?_)
  · obtain ⟨_, ⟨_, rfl, _⟩, _⟩ := h
    rfl
  · obtain ⟨_, ⟨n, rfl, hn, hz⟩, q⟩ := h
    rw [hz] at q
    have hsl : (sev n).length ≤ 10 := sev_len 9 n (Nat.lt_of_lt_of_le hn (by decide))
    refine ⟨_, (pss_cons (ps_set (i := 1) sc_law_sevens.nd rfl (Or.inl rfl) (pe_lst pa_nil))
      (pss_cut (ps_for PassesOwn.never rfl (pi_range1 rfl N.range (pa_cons pe_int pa_nil)) (pg_name (i := 2) sc_law_sevens.nd rfl (Or.inl rfl)) (pss_cons (ps_if (pt_cmpR op_lt (pv 0) pe_int (nomark _)) (pss_one ps_break) pss_nil)
      (pss_cons (ps_expr (pe_bm PySem.F.plainAttrs_list PySem.F.slot_list_append PySem.F.type_list_append mt_append (pv 1) (pa_cons (pe_op op_add pe_int (pe_callTy call_int1 (by rfl) N.int PyProof.Rows.boot_int (pa_cons (pe_op op_mod (pv 0) pe_int) pa_nil))) pa_nil)))
      (pss_one (ps_set (i := 0) sc_law_sevens.nd rfl (Or.inl rfl) (pe_op op_fdiv (pv 0) pe_int))))))
      (pss_one (ps_ret (pe_op op_cat (pv 1) (pe_lst (pa_cons (pv 0) pa_nil))))))), ?_⟩
    refine q_asgL (el_lst ea_nil (by decide)) fun p H1 hp e1 h1 => ?_
    refine q_cut (M := fun σ H' => Ex H H' ∧ ∃ (m : Nat) (pre : List Nat) (y : Option V), m < 128 ∧ H' p = some (.lst (nats pre)) ∧ pre ++ [m] = sev n ∧ σ = [some (.int (m : Int)), some (.ref p), y])
      (s_forR1N (n := 200) (ea_cons (ev_cn 200) ea_nil) (by decide) (fun i σ H' => Ex H H' ∧ ∃ (m : Nat) (pre : List Nat) (y : Option V), m < 128 ^ (201 - i) ∧ H' p = some (.lst (nats pre)) ∧ pre ++ sev m = sev n ∧ σ = [some (.int (m : Int)), some (.ref p), y])
        (fun H3 e3 => ⟨e1.trans e3, n, [], none, Nat.lt_of_lt_of_le hn (by decide), e3 _ _ h1, rfl, rfl⟩) ?_ ?_) ?_
    · rintro i σ H' hi ⟨e, m, pre, y, hm, hP, hs, rfl⟩
      have hl : pre.length ≤ 10 := by
        have := congrArg List.length hs
        rw [List.length_append] at this
        omega
      refine q_when (b := decide (m < 128)) (et_is (et_test (ev_op (ev_v rfl) (ev_cn 128) rv_I0)) (decide_eq_decide.mpr (by omega))) (fun hb H3 e3 => ?_) fun hb H3 e3 => ?_
      · have hb := of_decide_eq_true hb
        rw [sev_lt hb] at hs
        exact ⟨e.trans e3, m, pre, _, hb, e3 _ _ hP, hs, rfl⟩
      · have hb := of_decide_eq_false hb
        refine q_app (e3 p _ hP) (ev_v rfl) (ev_op (ev_cn 128) (ev_int (ev_op (ev_v rfl) (ev_cn 128) (rv_modN (by decide)))) rv_addN) (by rw [nats_len]; omega) fun H4 e4 => ?_
        refine s_asg (ev_op (ev_v rfl) (ev_cn 128) (rv_divN (by decide) (by decide))) fun H5 e5 => ?_
        refine ⟨(((e.trans e3).trans e4).mut hp).trans e5, m / 128, pre ++ [128 + m % 128], _, ?_, ?_, ?_, rfl⟩
        · rw [Nat.div_lt_iff_lt_mul (by decide), ← Nat.pow_succ, show (201 - (i + 1)).succ = 201 - i by omega]
          exact hm
        · rw [nats_app]
          exact e5 p _ upd_same
        · rw [List.append_assoc]
          rw [sev_ge hb] at hs
          exact hs
    · rintro σ H' ⟨e, m, pre, y, hm, hP, hs, rfl⟩
      have hm : m < 128 := hm
      rw [sev_lt hm] at hs
      exact ⟨e, m, pre, _, hm, hP, hs, rfl⟩
    · rintro σ H' ⟨e, m, pre, y, hm, hP, hs, rfl⟩
      have hl : pre.length ≤ 10 := by
        have := congrArg List.length hs
        rw [List.length_append] at this
        omega
      refine s_retL (xs := nats (sev n)) ?_ fun p2 H3 hp2 e3 h3 => q p2 H3 (fresh_back e hp2) (e.trans e3) h3
      rw [← hs, nats_app]
      exact el_cat (evl_k (ev_v rfl) hP) (evl_n (el_lst (ea_cons (ev_v rfl) ea_nil) (by show 1 ≤ 100000; decide))) (by rw [nats_len, nats_len, List.length_singleton]; omega)
abbrev s_law_signs : Stmt := topS 23
theorem sc_law_signs : FnScope ["found"] [] (defScope s_law_signs) := ⟨rfl, rfl, rfl, by decide +kernel, rfl, by decide +kernel, by decide +kernel⟩
/- 0 found -/
def ok_signs (vs : List V) (_ : Hp) (z : V) : Prop := vs = [] ∧ z = .str signsS
theorem fn_signs {f : Addr} {fd : FuncData} {k : Nat} (F : Fun K "_law_signs" "_law_signs" s_law_signs f fd) (N : Nb mg) : FnOk P w K mg base CX0 (k + 1) f fd [] (spV ok_signs) := by
  refine F.ok sc_law_signs (fun vs H Q E h => ?_) (fun cdv A outer s H vs Q E hr h => ?_)
  · obtain ⟨_, ⟨rfl, _⟩, _⟩ := h
    rfl
  · obtain ⟨_, ⟨rfl, rfl⟩, q⟩ := h
    refine ⟨_, (pss_cons (ps_set (i := 0) sc_law_signs.nd rfl (Or.inl rfl) (pe_op op_add_str (pe_op op_add_str (pe_op op_add_str (pe_op op_add_str pe_str pe_str) pe_str) pe_str) pe_str))
      (pss_one (ps_ret (pe_op op_add_str (pv 0) pe_str)))), ?_⟩
    refine q_asg (ev_op (ev_op (ev_op (ev_op (ev_cs [32, 33] (by decide +kernel)) (ev_cs [34] (by decide +kernel)) (rv_addS (by decide))) (ev_cs (((List.range 57).map (· + 35)).filter fun c => c != 37) (by decide +kernel)) (rv_addS (by decide))) (ev_cs [92] (by decide +kernel)) (rv_addS (by decide))) (ev_cs ((List.range 34).map (· + 93)) (by decide +kernel)) (rv_addS (by decide))) fun H1 e1 => ?_
    refine s_ret (ev_is (ev_op (ev_v rfl) (ev_cs [10] (by decide +kernel)) (rv_addS (by decide))) ?_) fun H2 e2 => q H2 (e1.trans e2)
    decide +kernel
end
end K00

set_option Elab.async false
set_option linter.all false
set_option maxRecDepth 100000
set_option maxHeartbeats 4000000
namespace K00
open PySem PySem.Spec PyProof.Rows L2 Evl My
section
variable {P : Program} {w : World} {K : PySem.W.Frag} {mg : Str → Option Value} {base : Heap}
abbrev s_law_octets : Stmt := topS 24
theorem sc_law_octets : FnScope ["value", "sign", "found", "one"] ["value"] (defScope s_law_octets) := ⟨rfl, rfl, rfl, by decide +kernel, rfl, by decide +kernel, by decide +kernel⟩
/- 0 value, 1 sign, 2 found, 3 one -/
def ok_octets (h : Nat) (vs : List V) (H : Hp) (z : List V) : Prop := ∃ (v : V) (d : D), vs = [v] ∧ Rep H v d ∧ Pln d ∧ height d < h ∧ (octs d).length ≤ 20000 ∧ z = nats (octs d)
theorem fn_octets {f : Addr} {fd : FuncData} {k h : Nat} (F : Fun K "_law_octets" "_law_octets" s_law_octets f fd) (N : Nb mg) (C_law_sevens : Cal P w K mg base k "_law_sevens" ["number"] (spL ok_number_told)) (C_law_signs : Cal P w K mg base k "_law_signs" [] (spV ok_signs))
    (C_law_octets : Cal P w K mg base k "_law_octets" ["value"] (spL (ok_octets h))) : FnOk P w K mg base CX0 (k + 1) f fd ["value"] (spL (ok_octets (h + 1))) := by
  refine F.ok sc_law_octets (fun vs H Q E h => ?_) (fun cdv A outer s H vs Q E hr h => ?_)
  · obtain ⟨_, ⟨_, _, rfl, _⟩, _⟩ := h
    rfl
  · obtain ⟨_, ⟨v, d, rfl, hR, hp, hh, ho, rfl⟩, q⟩ := h
    refine ⟨_, (pss_cons (ps_if (pt_cmpR op_isN (pv 0) pe_non (nomark _)) (pss_one (ps_ret (pe_lst (pa_cons pe_int pa_nil)))) pss_nil)
      (pss_cons (ps_if (pt_val (pe_callB call_isi (by rfl) N.isinstance PyProof.Rows.boot_isinstance (pa_cons (pv 0) (pa_cons (pe_bltn (v := .ty "bool") (by rfl) N.bool PyProof.Rows.boot_bool rfl) pa_nil)))) (pss_one (ps_ret (pe_lst (pa_cons (pe_ifExp (pt_val (pv 0)) pe_int pe_int) pa_nil)))) pss_nil)
      (pss_cons (ps_if (pt_val (pe_callB call_isi (by rfl) N.isinstance PyProof.Rows.boot_isinstance (pa_cons (pv 0) (pa_cons (pe_bltn (v := .ty "int") (by rfl) N.int PyProof.Rows.boot_int rfl) pa_nil)))) (pss_one (ps_ret (pe_ifExp (pt_cmpR op_ge (pv 0) pe_int (nomark _)) (pe_op op_cat (pe_lst (pa_cons pe_int pa_nil)) (pe_cal C_law_sevens hr (pa_cons (pv 0) pa_nil))) (pe_op op_cat (pe_lst (pa_cons pe_int pa_nil)) (pe_cal C_law_sevens hr (pa_cons (pe_op op_sub (pe_un un_neg pe_int) (pv 0)) pa_nil)))))) pss_nil)
      (pss_cons (ps_if (pt_val (pe_callB call_isi (by rfl) N.isinstance PyProof.Rows.boot_isinstance (pa_cons (pv 0) (pa_cons (pe_bltn (v := .ty "str") (by rfl) N.str PyProof.Rows.boot_str rfl) pa_nil)))) (pss_one (ps_ret (pe_op op_cat (pe_op op_cat (pe_lst (pa_cons pe_int pa_nil)) (pe_cal C_law_sevens hr (pa_cons (pe_callB call_len_str (by rfl) N.len PySem.boot_len (pa_cons (pv 0) pa_nil)) pa_nil))) (pe_lc (own := [("sign", 1)]) (by rfl) sc_law_octets.nd (pi_str (pv 0)) (blkOk_by (own := [("sign", 1)]) (N := ["value", "sign", "found", "one"]) (sc := defScope s_law_octets) (by decide +kernel)) (fun _ _ _ _ _ => (pg_name (i := 1) sc_law_octets.nd rfl (Or.inl rfl))) (fun _ _ _ _ _ => pts_nil) (fun _ _ _ _ _ => (show PE _ _ (tBM K "str" (fun x xs H Q => ∃ a b i rest, x = .str a ∧ xs = [.str b] ∧ Builtin.Str.occurrences a b 0 a.length 1 = i :: rest ∧ Q (.int (i : Nat)) H) _ _) from (pe_bm PySem.F.plainAttrs_str PySem.F.slot_str_index PySem.F.type_str_index mt_sindex (pe_cal0 C_law_signs hr) (pa_cons (pv 1) pa_nil)))))))) pss_nil)
      (pss_cons (ps_set (i := 2) sc_law_octets.nd rfl (Or.inl rfl) (pe_op op_cat (pe_lst (pa_cons pe_int pa_nil)) (pe_cal C_law_sevens hr (pa_cons (pe_callB call_len_seq (by rfl) N.len PySem.boot_len (pa_cons (pv 0) pa_nil)) pa_nil))))
      (pss_cons (ps_for PassesOwn.never rfl (pi_tup (pv 0)) (pg_name (i := 3) sc_law_octets.nd rfl (Or.inl rfl)) (pss_one (ps_set (i := 2) sc_law_octets.nd rfl (Or.inl rfl) (pe_op op_cat (pv 2) (pe_cal C_law_octets hr (pa_cons (pv 3) pa_nil))))))
      (pss_one (ps_ret (pv 2))))))))), ?_⟩
    have isi : ∀ {v : V} {d : D} {T : String} {σ : L2.St} {H' : Hp} {b : Bool}, Ex H H' → Rep H v d → σ[0]? = some (some v) → kitB (tyD d) T = some b → EvT (tTest (tCB (rIsi K) (tCons (tVar 0) (tCons (tC (.ty T)) tNil)))) σ H' b := fun e r hv hk => et_test (ev_isi (ev_v hv) (r.mono e) hk)
    refine q_when (et_isN (ev_v rfl)) (fun hb H1 e1 => ?_) fun hb H1 e1 => ?_
    · have hv := of_decide_eq_true hb
      subst hv
      cases hR
      exact s_retL (xs := nats [0]) (el_lst (ea_cons (ev_cn 0) ea_nil) (by decide)) fun p2 H3 hp2 e3 h3 => q p2 H3 (fresh_back e1 hp2) (e1.trans e3) h3
    cases hR with
    | non => exact (of_decide_eq_false hb rfl).elim
    | bl b =>
      refine q_when (isi e1 (.bl b) rfl (b := true) (by rfl)) (fun _ H2 e2 => ?_) (fun z => nomatch z)
      refine s_retL (xs := nats (octs (.bl b))) (el_lst (ea_cons (ev_if (b := b) (et_B (ev_v rfl)) (fun hb => by subst hb; exact ev_cn 2) (fun hb => by subst hb; exact ev_cn 1)) ea_nil) (by show 1 ≤ 100000; decide)) fun p2 H3 hp2 e3 h3 => q p2 H3 (fresh_back (e1.trans e2) hp2) ((e1.trans e2).trans e3) h3
    | int i =>
      refine q_when (isi e1 (.int i) rfl (b := false) (by rfl)) (fun z => nomatch z) fun _ H2 e2 => ?_
      refine q_when (isi (e1.trans e2) (.int i) rfl (b := true) (by rfl)) (fun _ H3 e3 => ?_) (fun z => nomatch z)
      have E3 := (e1.trans e2).trans e3
      rw [Pln] at hp
      refine s_retL (xs := nats (octs (.int i))) ?_ fun p2 H3 hp2 e3 h3 => q p2 H3 (fresh_back E3 hp2) (E3.trans e3) h3
      refine el_if (b := decide (0 ≤ i)) (et_test (ev_op (ev_v rfl) (ev_cn 0) rv_I0)) (fun hb => ?_) fun hb => ?_
      · have h0 := of_decide_eq_true hb
        rw [octs, if_pos h0]
        exact el_pre (c := 3) (n := i.toNat) (ev_is (ev_v (v := .int i) rfl) (by rw [Int.toNat_of_nonneg h0])) (by omega)
      · have h0 := of_decide_eq_false hb
        rw [octs, if_neg h0]
        exact el_pre (c := 4) (n := (-i - 1).toNat) (ev_is (ev_op (ev_un (ev_cn 1) ru_neg) (ev_v (v := .int i) rfl) rv_I0) (congrArg V.int (by rw [Int.toNat_of_nonneg (by omega)]; omega))) (by omega)
    | str l =>
      refine q_when (isi e1 (.str l) rfl (b := false) (by rfl)) (fun z => nomatch z) fun _ H2 e2 => ?_
      refine q_when (isi (e1.trans e2) (.str l) rfl (b := false) (by rfl)) (fun z => nomatch z) fun _ H3 e3 => ?_
      refine q_when (isi ((e1.trans e2).trans e3) (.str l) rfl (b := true) (by rfl)) (fun _ H4 e4 => ?_) (fun z => nomatch z)
      have E4 := ((e1.trans e2).trans e3).trans e4
      rw [Pln] at hp
      have hsl : (sev l.length).length ≤ 10 := sev_len 9 _ (Nat.lt_of_le_of_lt hp.1 (by decide))
      refine s_retL (xs := nats (octs (.str l))) ?_ fun p2 H3 hp2 e3 h3 => q p2 H3 (fresh_back E4 hp2) (E4.trans e3) h3
      rw [octs, show (5 :: (sev l.length ++ l.map sgn)) = (5 :: sev l.length) ++ l.map sgn from rfl, nats_app, show nats (l.map sgn) = l.map fun c => V.int ((sgn c : Nat) : Int) by unfold nats; rw [List.map_map]; rfl]
      refine el_cat (evl_n (el_pre (c := 5) (n := l.length) (ev_is (ev_lenS (ev_v rfl) (by omega)) rfl) (by omega))) (evl_n (el_lcS (fun c => V.int ((sgn c : Nat) : Int)) (ev_v rfl) (by omega) (fun _ => rfl) fun c H5 e5 hc => ?_)) (by rw [nats_len, List.length_map, List.length_cons]; omega)
      obtain ⟨r, hoc⟩ := signs_at c (hp.2 c hc)
      exact ev_sidx (i := sgn c) (r := r) (a := signsS) (ev_cal (z := .str signsS) ea_nil fun H6 e6 => ⟨rfl, rfl⟩) (ev_v rfl) (by rw [signs_eq]; exact hoc)
    | @lst a vs ds e r => rw [Pln] at hp; exact hp.elim
    | @tup a vs ds e r =>
      have R : Rep H (.ref a) (.tup ds) := .tup e r
      refine q_when (isi e1 R rfl (b := false) (by rfl)) (fun z => nomatch z) fun _ H2 e2 => ?_
      refine q_when (isi (e1.trans e2) R rfl (b := false) (by rfl)) (fun z => nomatch z) fun _ H3 e3 => ?_
      refine q_when (isi ((e1.trans e2).trans e3) R rfl (b := false) (by rfl)) (fun z => nomatch z) fun _ H4 e4 => ?_
      have E4 := ((e1.trans e2).trans e3).trans e4
      rw [Pln] at hp
      have hh4 : heightL ds < h := by rw [height] at hh; omega
      have hl := r.len
      have ho2 : (sev ds.length).length + (octsL ds).length ≤ 19999 := by
        rw [octs, List.length_cons, List.length_append] at ho
        omega
      refine q_asgL (xs := nats (6 :: sev ds.length)) (el_pre (c := 6) (n := ds.length) (ev_is (ev_lenT (ev_v rfl) (st_of (E4 a _ e))) (by rw [hl])) (by omega)) fun p H6 hp6 e6 h6 => ?_
      have hp0 := fresh_back E4 hp6
      refine q_forT (K := K) (xs := vs) (ev_v rfl) (st_of (e6 a _ (E4 a _ e))) (fun i σ H' => Ex H H' ∧ ∃ (p : Addr) (y : Option V), H p = none ∧ H' p = some (.lst (nats (6 :: (sev ds.length ++ octsL (ds.take i))))) ∧ σ = [some (.ref a), none, some (.ref p), y]) (fun H7 e7 => ⟨(E4.trans e6).trans e7, p, none, hp0, ?_, rfl⟩) (fun i σ' H' _ ⟨e', _⟩ => st_of (e' a _ e)) ?_ ?_
      · rw [List.take_zero, octsL, List.append_nil]
        exact e7 p _ h6
      · rintro i x σ H' hx ⟨e', p, y, hp0, hP, rfl⟩
        obtain ⟨d, hd, rd⟩ := r.get' hx
        have g1 := heightL_get hd
        have g2 := octsL_part hd
        refine s_asgL (xs := nats (6 :: (sev ds.length ++ octsL (ds.take (i + 1))))) ?_ fun p2 H8 hp8 e8 h8 => ⟨e'.trans e8, p2, _, fresh_back e' hp8, h8, rfl⟩
        rw [octsL_take hd, ← List.append_assoc, ← List.cons_append, nats_app]
        exact el_cat (evl_k (ev_v rfl) hP) (evl_n (el_cal (ea_cons (ev_v rfl) ea_nil) fun H9 e9 => ⟨x, d, rfl, rd.mono (e'.trans e9), PlnL_get hp.2 hd, by omega, by omega, rfl⟩)) (by rw [nats_len, nats_len, List.length_cons, List.length_append]; omega)
      · rintro σ H' ⟨e', p, y, hp0, hP, rfl⟩
        rw [List.take_of_length_le (by omega)] at hP
        refine s_ret (ev_v rfl) fun H9 e9 => q p H9 hp0 (e'.trans e9) (e9 p _ hP)
theorem cal_octets {f : Addr} {fd : FuncData} {k : Nat} (F : Fun K "_law_octets" "_law_octets" s_law_octets f fd) (hb : Binds K fd ["value"] []) (hk : PySem.W.keepIn K (.ref f) = true) (hm : mg "_law_octets" = some (.ref f)) (N : Nb mg)
    (C_law_sevens : Cal P w K mg base k "_law_sevens" ["number"] (spL ok_number_told)) (C_law_signs : Cal P w K mg base k "_law_signs" [] (spV ok_signs)) : ∀ h, Cal P w K mg base (k + h) "_law_octets" ["value"] (spL (ok_octets h))
  | 0 => ⟨f, fd, ⟨fun vs H Q E h => by obtain ⟨_, ⟨_, _, _, _, _, h, _⟩, _⟩ := h; exact (Nat.not_lt_zero _ h).elim, fun A outer s H args us vs Q E _ _ _ _ h => by obtain ⟨_, ⟨_, _, _, _, _, h, _⟩, _⟩ := h; exact (Nat.not_lt_zero _ h).elim⟩, hb, hk, hm⟩
  | h + 1 => ⟨f, fd, fn_octets F N (C_law_sevens.mono (Nat.le_add_right k h)) (C_law_signs.mono (Nat.le_add_right k h)) (cal_octets F hb hk hm N C_law_sevens C_law_signs h), hb, hk, hm⟩
end
end K00

set_option Elab.async false
set_option linter.all false
set_option maxRecDepth 100000
set_option maxHeartbeats 4000000
namespace K00
open PySem PySem.Spec PyProof.Rows L2 Evl My
section
variable {K : PySem.W.Frag} {σ : L2.St} {H H' : Hp} {te : TE} {vs : List V} {D0 : Ends} {tu tz : TS}
theorem s_forR1B {ta : TA} {j n : Nat} (h : EvA ta σ H [.int (n : Int)]) (hn : n < 2 ^ 62) (Pv : Nat → L2.St → Hp → Prop) (h0 : ∀ H1, Ex H H1 → Pv 0 σ H1)
    (hs : ∀ (i : Nat) σ' H', i < n → Pv i σ' H' → tu { D0 with nx := Pv (i + 1), ct := Pv (i + 1), bk := D0.nx } (σ'.set j (some (.int (i : Int)))) H') (hd : ∀ σ' H', Pv n σ' H' → D0.nx σ' H') : tFor (iRng1 ta) (gName j) tu D0 σ H :=
  h H (Ex.refl H) _ fun H1 e => ⟨(n : Int), rfl, by omega, by omega, by
    rw [Int.toNat_natCast]
    exact for_range (lo := 0) (n := n) Pv (h0 H1 e) (fun i σ' H' hi p => by
      have e0 : (0 : Int) + (i : Int) = (i : Int) := Int.zero_add _
      show tu { D0 with nx := Pv (i + 1), ct := Pv (i + 1), bk := D0.nx } (σ'.set j (some (.int ((0 : Int) + (i : Int))))) H'
      rw [e0]
      exact hs i σ' H' hi p) hd⟩
theorem q_forR1B {ta : TA} {j n : Nat} (h : EvA ta σ H [.int (n : Int)]) (hn : n < 2 ^ 62) (Pv : Nat → L2.St → Hp → Prop) (h0 : ∀ H1, Ex H H1 → Pv 0 σ H1)
    (hs : ∀ (i : Nat) σ' H', i < n → Pv i σ' H' → tu { D0 with nx := Pv (i + 1), ct := Pv (i + 1), bk := tz D0 } (σ'.set j (some (.int (i : Int)))) H') (hd : ∀ σ' H', Pv n σ' H' → tz D0 σ' H') : tSeq (tFor (iRng1 ta) (gName j) tu) tz D0 σ H :=
  s_forR1B (D0 := { D0 with nx := tz D0 }) h hn Pv h0 hs hd
theorem q_untP {n : Nat} (is : List Nat) (h : EvP te σ H fun v H' => ∃ a, v = .ref a ∧ H' a = some (.tup vs)) (hn : vs.length = n) (hl : vs.length = is.length) (k : ∀ H1, Ex H H1 → tz D0 (setN σ is vs) H1) : tSeq (tAsg te (gTup K n (gNs is))) tz D0 σ H :=
  h H (Ex.refl H) _ fun v H1 e ⟨a, hv, ha⟩ => ⟨a, vs, hv, st_of ha, hn, gNs_run hl (k H1 e)⟩
theorem pair_of {g : Bool} {p : Int} {v : V} (h : Rep H v (.tup [.bl g, .int p])) : ∃ a, v = .ref a ∧ H a = some (.tup [.bl g, .int p]) := by
  cases h with
  | tup e r =>
    cases r with
    | cons r1 r =>
      cases r with
      | cons r2 r =>
        cases r
        cases r1
        cases r2
        exact ⟨_, rfl, e⟩
end
/-- good or not, and the place -/
def flat : Except Nat (D × Nat) → Bool × Nat
  | .ok (_, p) => (true, p)
  | .error p => (false, p)
def pairD (r : Bool × Nat) : D := .tup [.bl r.1, .int (r.2 : Int)]
section
variable {P : Program} {w : World} {K : PySem.W.Frag} {mg : Str → Option Value} {base : Heap} {Cm fm dm cm : Addr}
theorem edK {σ : L2.St} {H : Hp} {te : TE} {v : V} {d : D} (h : Ev te σ H v) (r : ∀ H', Rep H' v d) : EvD te σ H d := fun H1 e Q q => h H1 e Q fun H2 e2 => q v H2 e2 (r H2)
theorem s_retP {σ : L2.St} {H : Hp} {te tf : TE} {Q : VK} {nx ct bk : L2.St → Hp → Prop} {g : Bool} {p : Nat} (hg : Ev te σ H (.bl g)) (hp : Ev tf σ H (.int (p : Int))) (q : ∀ v H', Ex H H' → Rep H' v (pairD (g, p)) → Q v H') : tRet (tTup (tCons te (tCons tf tNil))) { nx := nx, rt := Q, ct := ct, bk := bk } σ H :=
  (ed_tup (er_cons (edK hg fun _ => .bl g) (er_cons (edK hp fun _ => .int p) er_nil)) (by show 2 ≤ 100000; decide)) H (Ex.refl H) _ q
abbrev s_law_read : Stmt := topS 26
theorem sc_law_read : FnScope ["data", "at", "around", "kind", "spot", "number", "weight", "step", "octet", "k", "good"] ["data", "at", "around"] (defScope s_law_read) := ⟨rfl, rfl, rfl, by decide +kernel, rfl, by decide +kernel, by decide +kernel⟩
/- 0 data, 1 at, 2 around, 3 kind, 4 spot, 5 number, 6 weight, 7 step, 8 octet, 9 k, 10 good -/
def ok_read (h : Nat) (vs : List V) (H : Hp) (z : D) : Prop := ∃ (a : Addr) (data : List Nat) (t at_ : Nat), vs = [.ref a, .int (at_ : Int), .int (t : Int)] ∧ H a = some (.lst (nats data)) ∧ t ≤ 40 ∧ 41 ≤ t + h ∧ at_ ≤ data.length ∧ data.length ≤ 90000 ∧ (∀ x ∈ data, x < 256) ∧ NumB data ∧ z = pairD (flat (valR data h t at_))
theorem fn_read {f : Addr} {fd : FuncData} {k h : Nat} (F : Fun K "_law_read" "_law_read" s_law_read f fd) (N : Nb mg) (C_law_read : Cal P w K mg base k "_law_read" ["data", "at", "around"] (spD (ok_read h))) : FnOk P w K mg base CX0 (k + 1) f fd ["data", "at", "around"] (spD (ok_read (h + 1))) := by
  refine F.ok sc_law_read (fun vs H Q E h => ?_) (fun cdv A outer s H vs Q E hr h => ?_)
  · obtain ⟨_, ⟨_, _, _, _, rfl, _⟩, _⟩ := h
    rfl
  · obtain ⟨_, ⟨a, data, t, at_, rfl, ha, ht40, hth, hat, hdl, h256, hnb, rfl⟩, q⟩ := h
    refine ⟨_, (pss_cons (ps_if (PW.pt (pw_or (pt_cmpR op_ge (pv 1) (pe_callB call_len_seq (by rfl) N.len PySem.boot_len (pa_cons (pv 0) pa_nil)) (nomark _)) (pw_or1 (pt_cmpR op_gt (pe_ix ix_list (pv 0) (pv 1) (fun _ _ => rfl)) (pe_ifExp (pt_cmpR op_lt (pv 2) pe_int (nomark _)) pe_int pe_int) (nomark _))))) (pss_one (ps_ret (pe_tup (pa_cons pe_bl (pa_cons (pv 1) pa_nil))))) pss_nil)
      (pss_cons (ps_set (i := 3) sc_law_read.nd rfl (Or.inl rfl) (pe_ix ix_list (pv 0) (pv 1) (fun _ _ => rfl)))
      (pss_cons (ps_if (pt_cmpR op_lt (pv 3) pe_int (nomark _)) (pss_one (ps_ret (pe_tup (pa_cons pe_bl (pa_cons (pe_op op_add (pv 1) pe_int) pa_nil))))) pss_nil)
      (pss_cons (ps_set (i := 4) sc_law_read.nd rfl (Or.inl rfl) (pe_op op_add (pv 1) pe_int))
      (pss_cons (ps_set (i := 5) sc_law_read.nd rfl (Or.inl rfl) pe_int)
      (pss_cons (ps_set (i := 6) sc_law_read.nd rfl (Or.inl rfl) pe_int)
      (pss_cut (ps_for PassesOwn.never rfl (pi_range1 rfl N.range (pa_cons (pe_op op_add (pe_callB call_len_seq (by rfl) N.len PySem.boot_len (pa_cons (pv 0) pa_nil)) pe_int) pa_nil)) (pg_name (i := 7) sc_law_read.nd rfl (Or.inl rfl)) (pss_cons (ps_if (pt_cmpR op_ge (pv 4) (pe_callB call_len_seq (by rfl) N.len PySem.boot_len (pa_cons (pv 0) pa_nil)) (nomark _)) (pss_one (ps_ret (pe_tup (pa_cons pe_bl (pa_cons (pv 4) pa_nil))))) pss_nil)
      (pss_cons (ps_set (i := 8) sc_law_read.nd rfl (Or.inl rfl) (pe_ix ix_list (pv 0) (pv 4) (fun _ _ => rfl)))
      (pss_cons (ps_set (i := 5) sc_law_read.nd rfl (Or.inl rfl) (pe_op op_add (pv 5) (pe_op op_mul (pv 6) (pe_callTy call_int1 (by rfl) N.int PyProof.Rows.boot_int (pa_cons (pe_op op_mod (pv 8) pe_int) pa_nil)))))
      (pss_cons (ps_set (i := 6) sc_law_read.nd rfl (Or.inl rfl) (pe_op op_mul (pv 6) pe_int))
      (pss_cons (ps_set (i := 4) sc_law_read.nd rfl (Or.inl rfl) (pe_op op_add (pv 4) pe_int))
      (pss_one (ps_if (pt_cmpR op_lt (pv 8) pe_int (nomark _)) (pss_cons (ps_if (PW.pt (pw_and (pt_cmpR op_eq (pv 8) pe_int (nomark _)) (pw_and1 (pt_cmpR op_gt (pv 6) pe_int (nomark _))))) (pss_one (ps_ret (pe_tup (pa_cons pe_bl (pa_cons (pe_op op_sub (pv 4) pe_int) pa_nil))))) pss_nil)
      (pss_one ps_break)) pss_nil))))))))
      (pss_cons (ps_if (pt_cmpR op_lt (pv 3) pe_int (nomark _)) (pss_one (ps_ret (pe_tup (pa_cons pe_bl (pa_cons (pv 4) pa_nil))))) pss_nil)
      (pss_cons (ps_for PassesOwn.never rfl (pi_range1 rfl N.range (pa_cons (pv 5) pa_nil)) (pg_name (i := 9) sc_law_read.nd rfl (Or.inl rfl)) (pss_one (ps_if (pt_cmpR op_eq (pv 3) pe_int (nomark _)) (pss_cons (ps_if (PW.pt (pw_or (pt_cmpR op_ge (pv 4) (pe_callB call_len_seq (by rfl) N.len PySem.boot_len (pa_cons (pv 0) pa_nil)) (nomark _)) (pw_or1 (pt_cmpR op_gt (pe_ix ix_list (pv 0) (pv 4) (fun _ _ => rfl)) pe_int (nomark _))))) (pss_one (ps_ret (pe_tup (pa_cons pe_bl (pa_cons (pv 4) pa_nil))))) pss_nil)
      (pss_one (ps_set (i := 4) sc_law_read.nd rfl (Or.inl rfl) (pe_op op_add (pv 4) pe_int)))) (pss_cons (ps_asg (pe_cal C_law_read hr (pa_cons (pv 0) (pa_cons (pv 4) (pa_cons (pe_op op_add (pv 2) pe_int) pa_nil)))) (pg_tup rfl (pgs_cons (pg_name (i := 10) sc_law_read.nd rfl (Or.inl rfl)) (pgs_cons (pg_name (i := 4) sc_law_read.nd rfl (Or.inl rfl)) pgs_nil))))
      (pss_one (ps_if (pt_not (pt_val (pv 10))) (pss_one (ps_ret (pe_tup (pa_cons pe_bl (pa_cons (pv 4) pa_nil))))) pss_nil))))))
      (pss_one (ps_ret (pe_tup (pa_cons pe_bl (pa_cons (pv 4) pa_nil)))))))))))))), ?_⟩
    have neN : ∀ {x y : Nat}, decide (V.int (x : Int) = V.int (y : Int)) = decide (x = y) := fun {x y} => decide_eq_decide.mpr ⟨fun h => by have := V.int.inj h; omega, fun h => by rw [h]⟩
    have drop_of : ∀ {a o : Nat}, data[a]? = some o → data.drop a = o :: data.drop (a + 1) := fun {a o} h => by
      obtain ⟨hl, he⟩ := List.getElem?_eq_some_iff.mp h
      rw [List.drop_eq_getElem_cons hl, he]
    have lenE : ∀ {σ : L2.St} {H' : Hp}, σ[0]? = some (some (.ref a)) → Ex H H' → Ev (tCB (rLenS K) (tCons (tVar 0) tNil)) σ H' (.int (data.length : Int)) := fun hv e => ev_is (ev_len (ev_v hv) (sq_of (e _ _ ha))) (by rw [nats_len])
    obtain ⟨most, hmost⟩ : ∃ most : Nat, most = if t < 40 then 6 else 5 := ⟨_, rfl⟩
    cases ho : data[at_]? with
    | none =>
      have hl : data.length ≤ at_ := List.getElem?_eq_none_iff.mp ho
      refine q_when (b := true) (et_or (a := true) (b := false) (et_is (et_test (ev_op (ev_v rfl) (lenE rfl (Ex.refl _)) rv_I0)) (decide_eq_true (by omega))) fun z => nomatch z) (fun _ H1 e1 => ?_) (fun z => nomatch z)
      refine s_retP ev_c (ev_v rfl) fun v H2 e2 r2 => q v H2 (e1.trans e2) ?_
      rw [valR, ho]
      exact r2
    | some o =>
    have hl : at_ < data.length := (List.getElem?_eq_some_iff.mp ho).1
    have ixE : ∀ {σ : L2.St} {H' : Hp} {i a2 c : Nat}, σ[0]? = some (some (.ref a)) → σ[i]? = some (some (.int (a2 : Int))) → data[a2]? = some c → Ex H H' → Ev (tOp (rIxL K) (tVar 0) (tVar i)) σ H' (.int (c : Int)) := fun hv hi hc e => ev_ixL (ev_v hv) (ev_v hi) (sq_of (e _ _ ha)) (nats_get? hc)
    refine q_when (b := decide (most < o)) (et_or (a := false) (b := decide (most < o)) (et_is (et_test (ev_op (ev_v rfl) (lenE rfl (Ex.refl _)) rv_I0)) (decide_eq_false (by omega))) fun _ => et_is (et_test (ev_op (ixE rfl rfl ho (Ex.refl _)) (ev_if (v := .int (most : Int)) (b := decide (t < 40)) (et_is (et_test (ev_op (ev_v rfl) ev_c rv_I0)) (decide_eq_decide.mpr (by omega))) (fun hb => ev_is (ev_cn 6) (by rw [hmost, if_pos (of_decide_eq_true hb)])) fun hb => ev_is (ev_cn 5) (by rw [hmost, if_neg (of_decide_eq_false hb)])) rv_I0)) (decide_eq_decide.mpr (by omega))) (fun hb H1 e1 => ?_) fun hb H1 e1 => ?_
    · refine s_retP ev_c (ev_v rfl) fun v H2 e2 r2 => q v H2 (e1.trans e2) ?_
      rw [valR, ho]
      show Rep H2 v (pairD (flat (if (if t < 40 then 6 else 5) < o then _ else _)))
      rw [if_pos (by rw [← hmost]; exact of_decide_eq_true hb)]
      exact r2
    have hom := of_decide_eq_false hb
    have hval : valR data (h + 1) t at_ = if o < 3 then .ok (if o = 0 then .non else .bl (decide (o = 2)), at_ + 1) else match numR data (at_ + 1) with
      | .error p => .error p
      | .ok (n, p) => if o = 3 then .ok (.int (n : Int), p) else if o = 4 then .ok (.int (-(n : Int) - 1), p) else if o = 5 then sigR data n p [] else tupR (valR data h (t + 1)) n p [] := by
      rw [valR, ho]
      simp only
      rw [if_neg (by rw [← hmost]; omega)]
      try rfl
    refine q_asg (ixE rfl rfl ho e1) fun H2 e2 => ?_
    refine q_when (b := decide (o < 3)) (et_is (et_test (ev_op (ev_v rfl) (ev_cn 3) rv_I0)) (decide_eq_decide.mpr (by omega))) (fun hb H3 e3 => ?_) fun hb H3 e3 => ?_
    · rw [if_pos (of_decide_eq_true hb)] at hval
      refine s_retP (p := at_ + 1) ev_c (ev_op (ev_v rfl) (ev_cn 1) rv_addN) fun v H4 e4 r4 => q v H4 (((e1.trans e2).trans e3).trans e4) ?_
      rw [hval]
      exact r4
    have o3 := of_decide_eq_false hb
    rw [if_neg o3] at hval
    have E3 := (e1.trans e2).trans e3
    clear e1 e2 e3
    refine q_asg (v := .int ((at_ + 1 : Nat) : Int)) (ev_op (ev_v rfl) (ev_cn 1) rv_addN) fun H4 e4 => ?_
    refine q_asg (ev_cn 0) fun H5 e5 => ?_
    refine q_asg (ev_cn 1) fun H6 e6 => ?_
    have E6 := ((E3.trans e4).trans e5).trans e6
    clear e4 e5 e6 E3
    refine q_cut (M := fun σ' H' => Ex H H' ∧ ∃ (n p : Nat) (y6 y7 y8 : Option V), numR data (at_ + 1) = .ok (n, p) ∧ σ' = [some (.ref a), some (.int (at_ : Int)), some (.int (t : Int)), some (.int (o : Int)), some (.int (p : Int)), some (.int (n : Int)), y6, y7, y8, none, none])
      (s_forR1N (n := data.length + 1) (ea_cons (ev_op (lenE rfl E6) (ev_cn 1) rv_addN) ea_nil) (by omega) (fun i σ' H' => Ex H H' ∧ ∃ (f w : Nat) (y7 y8 : Option V), at_ + 1 + i ≤ data.length ∧ 1 ≤ w ∧ numL (data.drop (at_ + 1 + i)) (at_ + 1 + i) f w = numR data (at_ + 1) ∧ σ' = [some (.ref a), some (.int (at_ : Int)), some (.int (t : Int)), some (.int (o : Int)), some (.int ((at_ + 1 + i : Nat) : Int)), some (.int (f : Int)), some (.int (w : Int)), y7, y8, none, none])
        (fun H7 e7 => ⟨E6.trans e7, 0, 1, none, none, by omega, Nat.le_refl _, rfl, rfl⟩) ?_ ?_) ?_
    · rintro i σ' H' hi ⟨e, f, w, y7, y8, hai, hw, hnum, rfl⟩
      refine q_when (b := decide (data.length ≤ at_ + 1 + i)) (et_is (et_test (ev_op (ev_v rfl) (lenE rfl e) rv_I0)) (decide_eq_decide.mpr (by omega))) (fun hb H7 e7 => ?_) fun hb H7 e7 => ?_
      · have hb := of_decide_eq_true hb
        refine s_retP ev_c (ev_v rfl) fun v H8 e8 r8 => q v H8 ((e.trans e7).trans e8) ?_
        rw [List.drop_eq_nil_of_le hb, numL] at hnum
        rw [hval, ← hnum]
        exact r8
      have hb := of_decide_eq_false hb
      obtain ⟨c, hc⟩ : ∃ c, data[at_ + 1 + i]? = some c := ⟨_, List.getElem?_eq_getElem (by omega)⟩
      have c256 := h256 c (List.mem_of_getElem? hc)
      rw [drop_of hc, numL] at hnum
      refine q_asg (ixE rfl rfl hc (e.trans e7)) fun H8 e8 => ?_
      refine q_asg (v := .int ((f + w * (c % 128) : Nat) : Int)) (ev_op (ev_v rfl) (ev_op (ev_v rfl) (ev_int (ev_op (ev_v rfl) (ev_cn 128) (rv_modN (by decide)))) (rv_mulN (.inr (by omega)))) rv_addN) fun H9 e9 => ?_
      refine q_asg (v := .int ((w * 128 : Nat) : Int)) (ev_op (ev_v rfl) (ev_cn 128) (rv_mulN (.inr (by decide)))) fun H10 e10 => ?_
      refine q_asg (v := .int ((at_ + 1 + (i + 1) : Nat) : Int)) (ev_op (ev_v rfl) (ev_cn 1) rv_addN) fun H11 e11 => ?_
      have E11 := ((((e.trans e7).trans e8).trans e9).trans e10).trans e11
      refine s_when (b := decide (c < 128)) (et_is (et_test (ev_op (ev_v rfl) (ev_cn 128) rv_I0)) (decide_eq_decide.mpr (by omega))) (fun hcb H12 e12 => ?_) fun hcb H12 e12 => ?_
      · have hcb := of_decide_eq_true hcb
        rw [if_neg (by omega)] at hnum
        refine q_when (b := decide (c = 0) && decide (1 < w)) (et_and (et_is (et_test (ev_op (ev_v rfl) (ev_cn 0) (rv_eq rfl))) neN) fun _ => et_is (et_test (ev_op (ev_v rfl) (ev_cn 128) rv_I0)) (decide_eq_decide.mpr (by omega))) (fun hz H13 e13 => ?_) fun hz H13 e13 => ?_
        · rw [Bool.and_eq_true, decide_eq_true_eq, decide_eq_true_eq] at hz
          rw [if_pos hz] at hnum
          refine s_retP (p := at_ + 1 + i) ev_c (ev_is (ev_op (ev_v rfl) (ev_cn 1) (rv_subN (a := at_ + 1 + (i + 1)) (b := 1) (by omega))) rfl) fun v H14 e14 r14 => q v H14 (((E11.trans e12).trans e13).trans e14) ?_
          rw [hval, ← hnum]
          exact r14
        · have hz2 : ¬ (c = 0 ∧ 1 < w) := fun z => by
            rw [decide_eq_true z.1, decide_eq_true z.2] at hz
            exact nomatch hz
          rw [if_neg hz2] at hnum
          rw [Nat.mod_eq_of_lt hcb]
          exact ⟨(E11.trans e12).trans e13, f + w * c, at_ + 1 + (i + 1), _, _, _, hnum.symm, rfl⟩
      · have hcb := of_decide_eq_false hcb
        rw [if_pos (by omega)] at hnum
        rw [show c % 128 = c - 128 by omega]
        exact ⟨E11.trans e12, f + w * (c - 128), w * 128, _, _, by omega, by omega, hnum, rfl⟩
    · rintro σ' H' ⟨e, f, w, y7, y8, hai, _⟩
      omega
    rintro σ' H' ⟨e, n, p, y6, y7, y8, hn, rfl⟩
    rw [hn] at hval
    simp only at hval
    have hpl := numR_adv (show at_ + 1 ≤ data.length by omega) hn
    have hn62 := hnb _ _ _ hn
    refine q_when (b := decide (o < 5)) (et_is (et_test (ev_op (ev_v rfl) (ev_cn 5) rv_I0)) (decide_eq_decide.mpr (by omega))) (fun hb H7 e7 => ?_) fun hb H7 e7 => ?_
    · have hb := of_decide_eq_true hb
      refine s_retP ev_c (ev_v rfl) fun v H8 e8 r8 => q v H8 ((e.trans e7).trans e8) ?_
      rw [hval]
      by_cases o3' : o = 3
      · rw [if_pos o3']
        exact r8
      · rw [if_neg o3', if_pos (by omega)]
        exact r8
    have hb := of_decide_eq_false hb
    rw [if_neg (by omega), if_neg (by omega)] at hval
    have E7 := e.trans e7
    refine q_forR1B (n := n) (ea_cons (ev_v rfl) ea_nil) hn62 (fun i σ' H' => Ex H H' ∧ ∃ (b : Nat) (y8 y9 y10 : Option V), b ≤ data.length ∧ (o = 5 → ∃ acc, sigR data (n - i) b acc = sigR data n p []) ∧ (o ≠ 5 → ∃ ds, tupR (valR data h (t + 1)) (n - i) b ds = tupR (valR data h (t + 1)) n p []) ∧ σ' = [some (.ref a), some (.int (at_ : Int)), some (.int (t : Int)), some (.int (o : Int)), some (.int (b : Int)), some (.int (n : Int)), y6, y7, y8, y9, y10]) (fun H8 e8 => ⟨E7.trans e8, p, _, _, _, hpl.2, fun _ => ⟨[], rfl⟩, fun _ => ⟨[], rfl⟩, rfl⟩) ?_ ?_
    · rintro i σ' H' hi ⟨e, b, y8, y9, y10, hbl, h5, h6, rfl⟩
      have en : n - i = (n - (i + 1)) + 1 := by omega
      refine s_if (b := decide (o = 5)) (et_is (et_test (ev_op (ev_v rfl) (ev_cn 5) (rv_eq rfl))) neN) (fun ob H9 e9 => ?_) fun ob H9 e9 => ?_
      · have ob := of_decide_eq_true ob
        obtain ⟨acc, hacc⟩ := h5 ob
        rw [if_pos ob, ← hacc] at hval
        rw [en, sigR] at hval hacc
        cases hc : data[b]? with
        | none =>
          have hl : data.length ≤ b := List.getElem?_eq_none_iff.mp hc
          rw [hc] at hval
          refine q_when (b := true) (et_or (a := true) (b := false) (et_is (et_test (ev_op (ev_v rfl) (lenE rfl (e.trans e9)) rv_I0)) (decide_eq_true (by omega))) fun z => nomatch z) (fun _ H10 e10 => ?_) (fun z => nomatch z)
          refine s_retP ev_c (ev_v rfl) fun v H11 e11 r11 => q v H11 (((e.trans e9).trans e10).trans e11) ?_
          rw [hval]
          exact r11
        | some c =>
          have hl : b < data.length := (List.getElem?_eq_some_iff.mp hc).1
          rw [hc] at hval hacc
          simp only at hval hacc
          refine q_when (b := decide (94 < c)) (et_or (a := false) (b := decide (94 < c)) (et_is (et_test (ev_op (ev_v rfl) (lenE rfl (e.trans e9)) rv_I0)) (decide_eq_false (by omega))) fun _ => et_is (et_test (ev_op (ixE rfl rfl hc (e.trans e9)) (ev_cn 94) rv_I0)) (decide_eq_decide.mpr (by omega))) (fun hb H10 e10 => ?_) fun hb H10 e10 => ?_
          · rw [if_pos (of_decide_eq_true hb)] at hval
            refine s_retP ev_c (ev_v rfl) fun v H11 e11 r11 => q v H11 (((e.trans e9).trans e10).trans e11) ?_
            rw [hval]
            exact r11
          · rw [if_neg (of_decide_eq_false hb)] at hacc
            refine s_asg (v := .int ((b + 1 : Nat) : Int)) (ev_op (ev_v rfl) (ev_cn 1) rv_addN) fun H11 e11 => ?_
            exact ⟨((e.trans e9).trans e10).trans e11, b + 1, _, _, _, by omega, fun _ => ⟨_, hacc⟩, fun z => (z ob).elim, rfl⟩
      · have ob := of_decide_eq_false ob
        obtain ⟨ds, hds⟩ := h6 ob
        rw [if_neg ob, ← hds] at hval
        rw [en, tupR] at hval hds
        have ho6 : o = 6 ∧ t < 40 := by
          by_cases c : t < 40
          · rw [if_pos c] at hmost
            exact ⟨by omega, c⟩
          · rw [if_neg c] at hmost
            omega
        refine q_untP (vs := [.bl (flat (valR data h (t + 1) b)).1, .int ((flat (valR data h (t + 1) b)).2 : Int)]) [10, 4] (fun H10 e10 Q' q' => (ed_cal (ea_cons (ev_v rfl) (ea_cons (ev_v rfl) (ea_cons (x := .int ((t + 1 : Nat) : Int)) (ev_op (ev_v rfl) (ev_cn 1) rv_addN) ea_nil))) fun H11 e11 => ⟨a, data, t + 1, b, rfl, (e.trans e9).trans e11 _ _ ha, by omega, by omega, hbl, hdl, h256, hnb, rfl⟩) H10 e10 Q' fun v H12 e12 r12 => q' v H12 e12 (pair_of r12)) rfl rfl fun H10 e10 => ?_
        cases hv : valR data h (t + 1) b with
        | error pl =>
          rw [hv] at hval
          refine s_when (b := true) (et_not (et_B (b := false) (ev_v rfl))) (fun _ H11 e11 => ?_) fun z => nomatch z
          refine s_retP ev_c (ev_v rfl) fun v H12 e12 r12 => q v H12 ((((e.trans e9).trans e10).trans e11).trans e12) ?_
          rw [hval]
          exact r12
        | ok dp =>
          obtain ⟨d, p'⟩ := dp
          rw [hv] at hds
          obtain ⟨g1, g2, g3⟩ := valR_adv _ _ _ _ _ hbl hv
          refine s_when (b := false) (et_not (et_B (b := true) (ev_v rfl))) (fun z => nomatch z) fun _ H11 e11 => ?_
          exact ⟨((e.trans e9).trans e10).trans e11, p', _, _, _, g2, fun z => (ob z).elim, fun _ => ⟨_, hds⟩, rfl⟩
    · rintro σ' H' ⟨e, b, y8, y9, y10, hbl, h5, h6, rfl⟩
      rw [Nat.sub_self] at h5 h6
      refine s_retP ev_c (ev_v rfl) fun v H8 e8 r8 => q v H8 (e.trans e8) ?_
      by_cases ob : o = 5
      · obtain ⟨acc, hacc⟩ := h5 ob
        rw [if_pos ob, ← hacc, sigR] at hval
        rw [hval]
        exact r8
      · obtain ⟨ds, hds⟩ := h6 ob
        rw [if_neg ob, ← hds, tupR] at hval
        rw [hval]
        exact r8
end
end K00

set_option Elab.async false
set_option linter.all false
set_option maxRecDepth 100000
set_option maxHeartbeats 4000000
namespace K00
open PySem PySem.Spec PyProof.Rows L2 Evl My
/-- where the octets cannot stand -/
def misV (data : List Nat) : V := match readsR data with
  | .ok _ => .non
  | .error p => .int (p : Int)
def nestD : Nat → D → D
  | 0, d => d
  | n + 1, d => .tup [nestD n d]
section
variable {P : Program} {w : World} {K : PySem.W.Frag} {mg : Str → Option Value} {base : Heap} {Cm fm dm cm : Addr}
theorem cal_read {f : Addr} {fd : FuncData} {k : Nat} (F : Fun K "_law_read" "_law_read" s_law_read f fd) (hb : Binds K fd ["data", "at", "around"] []) (hk : PySem.W.keepIn K (.ref f) = true) (hm : mg "_law_read" = some (.ref f)) (N : Nb mg) : ∀ h, Cal P w K mg base (k + h) "_law_read" ["data", "at", "around"] (spD (ok_read h))
  | 0 => ⟨f, fd, ⟨fun vs H Q E h => by obtain ⟨_, ⟨_, _, t, _, _, _, h1, h2, _⟩, _⟩ := h; omega, fun A outer s H args us vs Q E _ _ _ _ h => by obtain ⟨_, ⟨_, _, t, _, _, _, h1, h2, _⟩, _⟩ := h; omega⟩, hb, hk, hm⟩
  | h + 1 => ⟨f, fd, fn_read F N (cal_read F hb hk hm N h), hb, hk, hm⟩
abbrev s_law_misread : Stmt := topS 27
theorem sc_law_misread : FnScope ["data", "good", "spot"] ["data"] (defScope s_law_misread) := ⟨rfl, rfl, rfl, by decide +kernel, rfl, by decide +kernel, by decide +kernel⟩
/- 0 data, 1 good, 2 spot -/
def ok_mis (vs : List V) (H : Hp) (z : V) : Prop := ∃ (a : Addr) (data : List Nat), vs = [.ref a] ∧ H a = some (.lst (nats data)) ∧ data.length ≤ 90000 ∧ (∀ x ∈ data, x < 256) ∧ NumB data ∧ z = misV data
theorem fn_misread {f : Addr} {fd : FuncData} {k : Nat} (F : Fun K "_law_misread" "_law_misread" s_law_misread f fd) (N : Nb mg) (C_law_read : Cal P w K mg base k "_law_read" ["data", "at", "around"] (spD (ok_read 41))) : FnOk P w K mg base CX0 (k + 1) f fd ["data"] (spV ok_mis) := by
  refine F.ok sc_law_misread (fun vs H Q E h => ?_) (fun cdv A outer s H vs Q E hr h => ?_)
  · obtain ⟨_, ⟨_, _, rfl, _⟩, _⟩ := h
    rfl
  · obtain ⟨_, ⟨a, data, rfl, ha, hdl, h256, hnb, rfl⟩, q⟩ := h
    refine ⟨_, (pss_cons (ps_asg (pe_cal C_law_read hr (pa_cons (pv 0) (pa_cons pe_int (pa_cons pe_int pa_nil)))) (pg_tup rfl (pgs_cons (pg_name (i := 1) sc_law_misread.nd rfl (Or.inl rfl)) (pgs_cons (pg_name (i := 2) sc_law_misread.nd rfl (Or.inl rfl)) pgs_nil))))
      (pss_one (ps_ret (pe_ifExp (PW.pt (pw_and (pt_val (pv 1)) (pw_and1 (pt_cmpR op_eq (pv 2) (pe_callB call_len_seq (by rfl) N.len PySem.boot_len (pa_cons (pv 0) pa_nil)) (nomark _))))) pe_non (pv 2))))), ?_⟩
    refine q_untP (vs := [.bl (flat (valR data 41 0 0)).1, .int ((flat (valR data 41 0 0)).2 : Int)]) [1, 2] (fun H10 e10 Q' q' => (ed_cal (ea_cons (ev_v rfl) (ea_cons (ev_cn 0) (ea_cons (ev_cn 0) ea_nil))) fun H11 e11 => ⟨a, data, 0, 0, rfl, e11 _ _ ha, by omega, by omega, Nat.zero_le _, hdl, h256, hnb, rfl⟩) H10 e10 Q' fun v H12 e12 r12 => q' v H12 e12 (pair_of r12)) rfl rfl fun H1 e1 => ?_
    cases hv : valR data 41 0 0 with
    | error pl =>
      have hm : misV data = .int (pl : Int) := by unfold misV readsR; rw [hv]
      rw [hm] at q
      exact s_ret (ev_if (b := false) (et_and (a := false) (b := false) (et_B (ev_v rfl)) fun z => nomatch z) (fun z => nomatch z) fun _ => ev_v rfl) fun H2 e2 => q H2 (e1.trans e2)
    | ok dp =>
      obtain ⟨d, p⟩ := dp
      obtain ⟨g1, g2, g3⟩ := valR_adv _ _ _ _ _ (Nat.zero_le _) hv
      have hfl : (flat (Except.ok (d, p) : Except Nat (D × Nat))).2 = p := rfl
      have hm : misV data = if p = data.length then .non else .int (p : Int) := by
        unfold misV readsR
        rw [hv]
        by_cases hp : p = data.length
        · rw [if_pos hp]
          show (match (if p < data.length then Except.error p else .ok d : Except Nat D) with | .ok _ => V.non | .error p => V.int (p : Int)) = _
          rw [if_neg (by omega)]
        · rw [if_neg hp]
          show (match (if p < data.length then Except.error p else .ok d : Except Nat D) with | .ok _ => V.non | .error p => V.int (p : Int)) = _
          rw [if_pos (by omega)]
      rw [hm] at q
      refine s_ret (v := if p = data.length then .non else .int (p : Int)) (ev_if (b := decide (p = data.length)) (et_and (a := true) (et_B (ev_v rfl)) fun _ => et_is (et_test (ev_op (ev_v rfl) (ev_is (ev_len (ev_v rfl) (sq_of (e1 _ _ ha))) (by rw [nats_len])) (rv_eq rfl))) (decide_eq_decide.mpr ⟨fun h => by have := V.int.inj h; omega, fun h => by rw [h]; rfl⟩)) (fun hb => ev_is ev_c (by rw [if_pos (of_decide_eq_true hb)])) fun hb => ev_is (ev_v rfl) (by rw [if_neg (of_decide_eq_false hb)]; rfl)) fun H2 e2 => q H2 (e1.trans e2)
abbrev s_law_reads : Stmt := topS 28
theorem sc_law_reads : FnScope ["data", "refusal"] ["data"] (defScope s_law_reads) := ⟨rfl, rfl, rfl, by decide +kernel, rfl, by decide +kernel, by decide +kernel⟩
theorem fn_reads {f : Addr} {fd : FuncData} {k : Nat} (F : Fun K "_law_reads" "_law_reads" s_law_reads f fd) (N : Nb mg) (T_Misread : PySem.SupX.Sup1 P K mg "Misread" "Misread.__init__" Cm fm dm cm) (C_value_of : CalX P w K mg base k "value_of" ["data"] (sp_vof Cm)) : FnOk P w K mg base CX0 (k + 1) f fd ["data"] (spV ok_mis) := by
  refine F.ok sc_law_reads (fun vs H Q E h => ?_) (fun cdv A outer s H vs Q E hr h => ?_)
  · obtain ⟨_, ⟨_, _, rfl, _⟩, _⟩ := h
    rfl
  · obtain ⟨_, ⟨a, data, rfl, ha, hdl, h256, hnb, rfl⟩, q⟩ := h
    refine ⟨_, (pss_one (ps_try_as (i := 1) rfl rfl sc_law_reads.nd rfl rfl ⟨rfl, by decide, .inl T_Misread.gC⟩ takesN (fun W pn xe tk po => (pss_cons (ps_expr (pe_calX C_value_of hr tk (pa_cons (pe_callTy (r := rListS K) call_list_of (by rfl) N.list PyProof.Rows.boot_list (pa_cons (pv 0) pa_nil)) pa_nil)))
      (pss_one (ps_ret pe_non)))) (fun a oe cls d pn hz hf => (pss_one (ps_ret (pe_byPlace T_Misread hz hf (pv 1))))))), ?_⟩
    refine r_dropE (r_callX (r_cons ((el_listP (evl_k (ev_v rfl) ha)) H (Ex.refl _) _ fun dl H1 hdl0 e1 hl1 => r_nil ⟨dl, data, rfl, hl1, hdl, h256, hnb, fun d hd v H2 rv e2 => ?_, fun pl hp d H2 hd2 e2 => ⟨true, T_Misread.te, fun _ a' ha' => ?_, fun z => nomatch z⟩⟩)))
    · have hm : misV data = .non := by unfold misV; rw [hd]
      rw [hm] at q
      show tRet (tC .non) { nx := fun _ H' => Q V.non H', rt := Q } [some (.ref a), none] H2
      exact s_ret ev_c fun H3 e3 => q H3 ((e1.trans e2).trans e3)
    · have hm : misV data = .int (pl : Int) := by unfold misV; rw [hp]
      rw [hm] at q
      exact r_ret (r_var (v := .ref a') rfl ⟨rfl, rfl, d, _, rfl, hd2, q H2 (e1.trans e2)⟩)
abbrev s_law_nested : Stmt := topS 29
theorem sc_law_nested : FnScope ["many", "inner", "found", "step"] ["many", "inner"] (defScope s_law_nested) := ⟨rfl, rfl, rfl, by decide +kernel, rfl, by decide +kernel, by decide +kernel⟩
/- 0 many, 1 inner, 2 found, 3 step -/
def ok_nested (vs : List V) (H : Hp) (z : D) : Prop := ∃ (n : Nat) (v : V) (d : D), vs = [.int (n : Int), v] ∧ n ≤ 1000 ∧ Rep H v d ∧ z = nestD n d
theorem fn_nested {f : Addr} {fd : FuncData} {k : Nat} (F : Fun K "_law_nested" "_law_nested" s_law_nested f fd) (N : Nb mg) : FnOk P w K mg base CX0 (k + 1) f fd ["many", "inner"] (spD ok_nested) := by
  refine F.ok sc_law_nested (fun vs H Q E h => ?_) (fun cdv A outer s H vs Q E hr h => ?_)
  · obtain ⟨_, ⟨_, _, _, rfl, _⟩, _⟩ := h
    rfl
  · obtain ⟨_, ⟨n, v, d, rfl, hn, hR, rfl⟩, q⟩ := h
    refine ⟨_, (pss_cons (ps_set (i := 2) sc_law_nested.nd rfl (Or.inl rfl) (pv 1))
      (pss_cons (ps_for PassesOwn.never rfl (pi_range1 rfl N.range (pa_cons (pv 0) pa_nil)) (pg_name (i := 3) sc_law_nested.nd rfl (Or.inl rfl)) (pss_one (ps_set (i := 2) sc_law_nested.nd rfl (Or.inl rfl) (pe_tup (pa_cons (pv 2) pa_nil)))))
      (pss_one (ps_ret (pv 2))))), ?_⟩
    refine q_asg (ev_v rfl) fun H1 e1 => ?_
    refine q_forR1N (n := n) (ea_cons (ev_v rfl) ea_nil) (by omega) (fun i σ' H' => Ex H H' ∧ ∃ (u : V) (y : Option V), Rep H' u (nestD i d) ∧ σ' = [some (.int (n : Int)), some v, some u, y]) (fun H2 e2 => ⟨e1.trans e2, v, none, hR.mono (e1.trans e2), rfl⟩) ?_ ?_
    · rintro i σ' H' hi ⟨e, u, y, rU, rfl⟩
      exact (ed_tup (er_cons (fun H2 e2 Q' q' => (ev_v rfl) H2 e2 Q' fun H3 e3 => q' u H3 e3 (rU.mono (e2.trans e3))) er_nil) (by show 1 ≤ 100000; decide)) H' (Ex.refl _) _ fun v2 H2 e2 r2 => ⟨e.trans e2, v2, _, r2, rfl⟩
    · rintro σ' H' ⟨e, u, y, rU, rfl⟩
      exact s_ret (ev_v rfl) fun H2 e2 => q u H2 (e.trans e2) (rU.mono e2)
end
end K00

set_option Elab.async false
set_option linter.all false
set_option maxRecDepth 100000
set_option maxHeartbeats 4000000
namespace K00
open PySem PySem.Spec PyProof.Rows L2 Evl My
/-! what is told is read back -/
theorem drop_hd {data r : List Nat} {a x : Nat} (h : data.drop a = x :: r) : data[a]? = some x ∧ data.drop (a + 1) = r := by
  constructor
  · have := congrArg (fun l => l[0]?) h
    simpa [List.getElem?_drop] using this
  · have := congrArg List.tail h
    simpa [List.tail_drop] using this
theorem drop_ap {data p r : List Nat} {a : Nat} (h : data.drop a = p ++ r) : data.drop (a + p.length) = r := by
  rw [← List.drop_drop, h, List.drop_left]
theorem num_rt (n : Nat) : ∀ (rest : List Nat) (a f w : Nat), (0 < n ∨ w ≤ 1) → numL (sev n ++ rest) a f w = .ok (f + w * n, a + (sev n).length) := by
  induction n using Nat.strongRecOn with
  | ind n ih =>
    intro rest a f w hw
    by_cases hn : n < 128
    · rw [sev_lt hn]
      show numL (n :: rest) a f w = _
      rw [numL, if_neg (by omega), if_neg (by omega)]
      rfl
    · rw [sev_ge hn]
      show numL ((128 + n % 128) :: (sev (n / 128) ++ rest)) a f w = _
      rw [numL, if_pos (by omega), ih (n / 128) (by omega) _ _ _ _ (.inl (by omega)), List.length_cons]
      have e : f + w * (128 + n % 128 - 128) + w * 128 * (n / 128) = f + w * n := by
        rw [Nat.mul_assoc, Nat.add_assoc, ← Nat.mul_add]
        congr 2
        omega
      rw [e]
      congr 2
      omega
theorem numR_rt {data rest : List Nat} {a n : Nat} (h : data.drop a = sev n ++ rest) : numR data a = .ok (n, a + (sev n).length) := by
  unfold numR
  rw [h, num_rt n _ _ _ _ (.inr (Nat.le_refl _)), Nat.zero_add, Nat.one_mul]
theorem sgn_back : ∀ c ∈ sgns, sgn c ≤ 94 ∧ sgns.getD (sgn c) 0 = c := by decide +kernel
theorem sig_rt {data rest : List Nat} : ∀ (l acc : List Nat) (a : Nat), data.drop a = l.map sgn ++ rest → (∀ c ∈ l, c ∈ sgns) → sigR data l.length a acc = .ok (.str (acc ++ l), a + l.length)
  | [], acc, a, _, _ => by
    rw [List.length_nil, sigR, List.append_nil]
    rfl
  | c :: l, acc, a, h, hs => by
    obtain ⟨h1, h2⟩ := drop_hd h
    obtain ⟨s1, s2⟩ := sgn_back c (hs c List.mem_cons_self)
    rw [List.length_cons, sigR, h1]
    simp only
    rw [if_neg (by omega), sig_rt l _ _ h2 fun x hx => hs x (List.mem_cons_of_mem _ hx), s2, List.append_assoc]
    congr 2
    omega
mutual
theorem val_rt {data : List Nat} : ∀ (d : D) (h t a : Nat) (rest : List Nat), Pln d → height d < h → t + height d ≤ 40 → data.drop a = octs d ++ rest → valR data h t a = .ok (d, a + (octs d).length)
  | _, 0, _, _, _, _, hh, _, _ => (Nat.not_lt_zero _ hh).elim
  | .non, h + 1, t, a, rest, hp, hh, ht, e => by
    rw [octs] at e
    obtain ⟨h1, h2⟩ := drop_hd e
    rw [valR, h1]
    simp only
    rw [if_neg (by split <;> omega), if_pos (by omega), if_pos trivial, octs]
    rfl
  | .bl b, h + 1, t, a, rest, hp, hh, ht, e => by
    rw [octs] at e
    obtain ⟨h1, h2⟩ := drop_hd e
    rw [valR, h1]
    simp only
    rw [if_neg (by cases b <;> split <;> simp_all), if_pos (by cases b <;> decide), if_neg (by cases b <;> decide), octs]
    cases b <;> rfl
  | .int i, h + 1, t, a, rest, hp, hh, ht, e => by
    rw [octs] at e
    by_cases h0 : 0 ≤ i
    · rw [if_pos h0] at e
      obtain ⟨h1, h2⟩ := drop_hd e
      rw [valR, h1]
      simp only
      rw [if_neg (by split <;> omega), if_neg (by omega), numR_rt h2]
      simp only
      rw [if_pos trivial, octs, if_pos h0, List.length_cons, Int.toNat_of_nonneg h0]
      congr 2
      omega
    · rw [if_neg h0] at e
      obtain ⟨h1, h2⟩ := drop_hd e
      rw [valR, h1]
      simp only
      rw [if_neg (by split <;> omega), if_neg (by omega), numR_rt h2]
      simp only
      rw [if_neg (by omega), if_pos trivial, octs, if_neg h0, List.length_cons, Int.toNat_of_nonneg (by omega), show -(-i - 1) - 1 = i by omega]
      congr 2
      omega
  | .str l, h + 1, t, a, rest, hp, hh, ht, e => by
    rw [octs, List.cons_append, List.append_assoc] at e
    rw [Pln] at hp
    obtain ⟨h1, h2⟩ := drop_hd e
    have h3 := drop_ap h2
    rw [valR, h1]
    simp only
    rw [if_neg (by split <;> omega), if_neg (by omega), numR_rt h2]
    simp only
    rw [if_neg (by omega), if_neg (by omega), if_pos trivial, sig_rt l [] _ h3 hp.2, octs, List.nil_append, List.length_cons, List.length_append, List.length_map]
    congr 2
    omega
  | .tup ds, h + 1, t, a, rest, hp, hh, ht, e => by
    rw [octs, List.cons_append, List.append_assoc] at e
    rw [Pln] at hp
    rw [height] at hh ht
    obtain ⟨h1, h2⟩ := drop_hd e
    have h3 := drop_ap h2
    rw [valR, h1]
    simp only
    rw [if_neg (by rw [if_pos (show t < 40 by omega)]; omega), if_neg (by omega), numR_rt h2]
    simp only
    rw [if_neg (by omega), if_neg (by omega), if_neg (by omega), valL_rt ds h (t + 1) _ [] rest hp.2 (by omega) (by omega) h3, octs, List.nil_append, List.length_cons, List.length_append]
    congr 2
    omega
  | .lst _, h + 1, t, a, rest, hp, _, _, _ => by rw [Pln] at hp; exact hp.elim
theorem valL_rt {data : List Nat} : ∀ (ds : List D) (h t a : Nat) (acc : List D) (rest : List Nat), PlnL ds → heightL ds < h → t + heightL ds ≤ 40 → data.drop a = octsL ds ++ rest → tupR (valR data h t) ds.length a acc = .ok (.tup (acc ++ ds), a + (octsL ds).length)
  | [], h, t, a, acc, rest, _, _, _, _ => by
    rw [List.length_nil, tupR, octsL, List.append_nil]
    rfl
  | d :: ds, h, t, a, acc, rest, hp, hh, ht, e => by
    rw [octsL, List.append_assoc] at e
    rw [PlnL] at hp
    rw [heightL] at hh ht
    rw [List.length_cons, tupR, val_rt d h t a _ hp.1 (by omega) (by omega) e]
    simp only
    rw [valL_rt ds h t _ _ rest hp.2 (by omega) (by omega) (drop_ap e), octsL, List.append_assoc, List.length_append]
    congr 2
    omega
end
theorem reads_rt {d : D} (hp : Pln d) (hh : height d ≤ 40) : readsR (octs d) = .ok d := by
  unfold readsR
  rw [val_rt d 41 0 0 [] hp (by omega) (by omega) (by rw [List.append_nil]; rfl)]
  simp only
  rw [if_neg (by omega)]
/-! plain values are good -/
mutual
theorem good_of : ∀ (d : D) (t : Nat), Pln d → t + height d ≤ 40 → goodT t d = true
  | .non, t, _, _ => by rw [goodT] <;> intros <;> contradiction
  | .bl _, t, _, _ => by rw [goodT] <;> intros <;> contradiction
  | .int _, t, _, _ => by rw [goodT] <;> intros <;> contradiction
  | .str l, t, hp, _ => by
    rw [Pln] at hp
    rw [goodT, List.all_eq_true]
    exact fun c hc => decide_eq_true (hp.2 c hc)
  | .tup ds, t, hp, hh => by
    rw [Pln] at hp
    rw [height] at hh
    rw [goodT, decide_eq_true (by omega), goodL_of ds (t + 1) hp.2 (by omega)]
    rfl
  | .lst _, t, hp, _ => by rw [Pln] at hp; exact hp.elim
theorem goodL_of : ∀ (ds : List D) (t : Nat), PlnL ds → t + heightL ds ≤ 40 → goodL t ds = true
  | [], t, _, _ => by rw [goodL]
  | d :: ds, t, hp, hh => by
    rw [PlnL] at hp
    rw [heightL] at hh
    rw [goodL, good_of d t hp.1 (by omega), goodL_of ds t hp.2 (by omega)]
    rfl
end
mutual
theorem fit_of : ∀ (d : D), Pln d → FitD d
  | .non, _ => by rw [FitD] <;> first | trivial | (intros; contradiction)
  | .bl _, _ => by rw [FitD] <;> first | trivial | (intros; contradiction)
  | .int _, h => by rw [Pln] at h; rw [FitD]; exact h
  | .str l, h => by rw [Pln] at h; rw [FitD]; exact h.1
  | .tup ds, h => by rw [Pln] at h; rw [FitD]; exact ⟨by omega, fitL_of ds h.2⟩
  | .lst _, h => by rw [Pln] at h; exact h.elim
theorem fitL_of : ∀ (ds : List D), PlnL ds → FitL ds
  | [], _ => by rw [FitL]; trivial
  | d :: ds, h => by rw [PlnL] at h; rw [FitL]; exact ⟨fit_of d h.1, fitL_of ds h.2⟩
end
mutual
theorem wid_of : ∀ (d : D), Pln d → Wid d
  | .non, _ => by rw [Wid] <;> first | trivial | (intros; contradiction)
  | .bl _, _ => by rw [Wid] <;> first | trivial | (intros; contradiction)
  | .int _, _ => by rw [Wid] <;> first | trivial | (intros; contradiction)
  | .str l, _ => by rw [Wid] <;> first | trivial | (intros; contradiction)
  | .tup ds, h => by rw [Pln] at h; rw [Wid]; exact ⟨by omega, widL_of ds h.2⟩
  | .lst _, h => by rw [Pln] at h; exact h.elim
theorem widL_of : ∀ (ds : List D), PlnL ds → WidL ds
  | [], _ => by rw [WidL]; trivial
  | d :: ds, h => by rw [PlnL] at h; rw [WidL]; exact ⟨wid_of d h.1, widL_of ds h.2⟩
end
end K00

set_option Elab.async false
set_option linter.all false
set_option maxRecDepth 100000
set_option maxHeartbeats 4000000
namespace K00
open PySem PySem.Spec PyProof.Rows L2 Evl My
/-! ### runs of octets above 127 -/
/-- r octets above 127 in a row are behind us; never more than k -/
def Run (k : Nat) : Nat → List Nat → Prop
  | _, [] => True
  | r, o :: l => if o < 128 then Run k 0 l else r + 1 ≤ k ∧ Run k (r + 1) l
theorem Run.le {k : Nat} : ∀ {l : List Nat} {r r' : Nat}, r' ≤ r → Run k r l → Run k r' l
  | [], _, _, _, _ => by rw [Run]; trivial
  | o :: l, r, r', h, g => by
    rw [Run] at g ⊢
    split
    · rename_i c
      rw [if_pos c] at g
      exact g
    · rename_i c
      rw [if_neg c] at g
      exact ⟨by omega, Run.le (l := l) (by omega) g.2⟩
theorem Run.drop {k : Nat} : ∀ {l : List Nat} {r : Nat} (a : Nat), Run k r l → Run k 0 (l.drop a)
  | l, r, 0, g => Run.le (Nat.zero_le _) g
  | [], r, a + 1, g => by rw [List.drop_nil, Run]; trivial
  | o :: l, r, a + 1, g => by
    rw [Run] at g
    rw [List.drop_succ_cons]
    split at g
    · exact Run.drop a g
    · exact Run.drop a g.2
theorem numL_bound {k : Nat} : ∀ (l : List Nat) (r a f w n p : Nat), (∀ x ∈ l, x < 256) → r ≤ k → Run k r l → numL l a f w = .ok (n, p) → n + w ≤ f + w * 128 ^ (k + 1 - r)
  | [], _, _, _, _, _, _, _, _, _, h => nomatch h
  | o :: l, r, a, f, w, n, p, h256, hr, g, h => by
    have ho := h256 o List.mem_cons_self
    rw [Run] at g
    rw [numL] at h
    by_cases c : o < 128
    · rw [if_neg (by omega)] at h
      split at h
      · exact nomatch h
      · have h1 : f + w * o = n := by
          have := Except.ok.inj h
          exact congrArg Prod.fst this
        have h2 : 128 ≤ 128 ^ (k + 1 - r) := by
          have := Nat.pow_le_pow_right (n := 128) (by decide) (show 1 ≤ k + 1 - r by omega)
          rwa [Nat.pow_one] at this
        have h3 : w * o + w ≤ w * 128 ^ (k + 1 - r) := by
          rw [← Nat.mul_succ]
          exact Nat.mul_le_mul_left _ (by omega)
        omega
    · rw [if_pos (by omega)] at h
      rw [if_neg c] at g
      have := numL_bound (k := k) l (r + 1) _ _ _ n p (fun x hx => h256 x (List.mem_cons_of_mem _ hx)) g.1 g.2 h
      have e : k + 1 - r = (k + 1 - (r + 1)) + 1 := by omega
      rw [e, Nat.pow_succ]
      have e2 : w * (128 ^ (k + 1 - (r + 1)) * 128) = w * 128 * 128 ^ (k + 1 - (r + 1)) := by
        rw [Nat.mul_assoc, Nat.mul_comm 128]
      rw [e2]
      have h4 : w * (o - 128) + w ≤ w * 128 := by
        rw [← Nat.mul_succ]
        exact Nat.mul_le_mul_left _ (by omega)
      omega
theorem NumB.of {data : List Nat} (h256 : ∀ x ∈ data, x < 256) (g : Run 6 0 data) : NumB data := fun a n p h => by
  unfold numR at h
  have := numL_bound (k := 6) (data.drop a) 0 a 0 1 n p (fun x hx => h256 x (List.mem_of_mem_drop hx)) (by decide) (g.drop a) h
  have e : (128 : Nat) ^ (6 + 1 - 0) = 562949953421312 := by decide
  rw [e] at this
  omega
/-- the runs of what is told: at most five octets, two octets below 128 between two runs -/
def Aut : Nat → Nat → List Nat → Prop
  | _, _, [] => True
  | r, b, o :: l => if o < 128 then Aut 0 (if r = 0 then b + 1 else 1) l else (r + 1 ≤ 5 ∧ (r = 0 → 2 ≤ b)) ∧ Aut (r + 1) 0 l
theorem Aut.run : ∀ {l : List Nat} {r b r' : Nat}, r' ≤ r + 1 → Aut r b l → Run 6 r' l
  | [], _, _, _, _, _ => by rw [Run]; trivial
  | o :: l, r, b, r', h, g => by
    rw [Aut] at g
    rw [Run]
    split at g
    · rename_i c
      rw [if_pos c]
      exact Aut.run (Nat.zero_le _) g
    · rename_i c
      rw [if_neg c]
      exact ⟨by omega, Aut.run (by omega) g.2⟩
theorem Aut.run1 {l : List Nat} {r' : Nat} (g : Aut 0 1 l) : Run 6 r' l := by
  cases l with
  | nil => rw [Run]; trivial
  | cons o l =>
    rw [Aut] at g
    rw [Run]
    split at g
    · rename_i c
      rw [if_pos c]
      exact Aut.run (Nat.zero_le _) g
    · have := g.1.2 rfl
      omega
theorem sev_aut (j : Nat) : ∀ (n r b : Nat) (tail : List Nat), n < 128 ^ (j + 1) → r + j ≤ 5 → (r = 0 → 2 ≤ b) → (∀ b', 1 ≤ b' → Aut 0 b' tail) → Aut r b (sev n ++ tail) := by
  induction j with
  | zero =>
    intro n r b tail hn hr hb ht
    have hn : n < 128 := by simpa using hn
    rw [sev_lt hn]
    show Aut r b (n :: tail)
    rw [Aut, if_pos hn]
    exact ht _ (by split <;> omega)
  | succ j ih =>
    intro n r b tail hn hr hb ht
    by_cases h1 : n < 128
    · rw [sev_lt h1]
      show Aut r b (n :: tail)
      rw [Aut, if_pos h1]
      exact ht _ (by split <;> omega)
    · rw [sev_ge h1]
      show Aut r b ((128 + n % 128) :: (sev (n / 128) ++ tail))
      rw [Aut, if_neg (by omega)]
      exact ⟨⟨by omega, hb⟩, ih (n / 128) (r + 1) 0 tail (by rw [Nat.div_lt_iff_lt_mul (by decide), ← Nat.pow_succ]; exact hn) (by omega) (fun z => absurd z (by omega)) ht⟩
theorem low_aut : ∀ (l : List Nat) (b : Nat) (tail : List Nat), 1 ≤ b → (∀ c ∈ l, c < 128) → (∀ b', 1 ≤ b' → Aut 0 b' tail) → Aut 0 b (l ++ tail)
  | [], b, tail, hb, _, ht => ht b hb
  | c :: l, b, tail, hb, h, ht => by
    rw [List.cons_append, Aut, if_pos (h c List.mem_cons_self), if_pos rfl]
    exact low_aut l (b + 1) tail (by omega) (fun x hx => h x (List.mem_cons_of_mem _ hx)) ht
theorem kind_aut {c n b : Nat} {tail : List Nat} (hc : c < 128) (hn : n < 128 ^ 6) (hb : 1 ≤ b) (ht : ∀ b', 1 ≤ b' → Aut 0 b' tail) : Aut 0 b (c :: (sev n ++ tail)) := by
  rw [Aut, if_pos hc, if_pos rfl]
  exact sev_aut 5 n 0 (b + 1) tail hn (by decide) (fun _ => by omega) ht
mutual
theorem octs_aut : ∀ (d : D) (b : Nat) (tail : List Nat), Sm d → 1 ≤ b → (∀ b', 1 ≤ b' → Aut 0 b' tail) → Aut 0 b (octs d ++ tail)
  | .non, b, tail, _, hb, ht => by rw [octs]; exact low_aut [0] b tail hb (by decide) ht
  | .bl x, b, tail, _, hb, ht => by rw [octs]; exact low_aut _ b tail hb (by cases x <;> decide) ht
  | .int i, b, tail, hs, hb, ht => by
    rw [Sm] at hs
    have e : (128 : Nat) ^ 6 = 4398046511104 := by decide
    have e2 : (10 : Nat) ^ 12 = 1000000000000 := by decide
    rw [e2] at hs
    rw [octs]
    split
    · exact kind_aut (by decide) (by rw [e]; omega) hb ht
    · exact kind_aut (by decide) (by rw [e]; omega) hb ht
  | .str l, b, tail, hs, hb, ht => by
    rw [Sm] at hs
    rw [octs, List.cons_append, List.append_assoc]
    exact kind_aut (by decide) (Nat.lt_of_le_of_lt hs.1 (by decide)) hb fun b' hb' => low_aut _ b' tail hb' (fun c hc => by
      obtain ⟨x, hx, rfl⟩ := List.mem_map.mp hc
      have := (sgn_back x (hs.2 x hx)).1
      omega) ht
  | .tup ds, b, tail, hs, hb, ht => by
    rw [Sm] at hs
    rw [octs, List.cons_append, List.append_assoc]
    exact kind_aut (by decide) (Nat.lt_of_le_of_lt hs.1 (by decide)) hb fun b' hb' => octsL_aut ds b' tail hs.2 hb' ht
  | .lst _, b, tail, hs, _, _ => by rw [Sm] at hs; exact hs.elim
theorem octsL_aut : ∀ (ds : List D) (b : Nat) (tail : List Nat), SmL ds → 1 ≤ b → (∀ b', 1 ≤ b' → Aut 0 b' tail) → Aut 0 b (octsL ds ++ tail)
  | [], b, tail, _, hb, ht => by rw [octsL]; exact ht b hb
  | d :: ds, b, tail, hs, hb, ht => by
    rw [SmL] at hs
    rw [octsL, List.append_assoc]
    exact octs_aut d b _ hs.1 hb fun b' hb' => octsL_aut ds b' tail hs.2 hb' ht
end
theorem aut_octs {d : D} (h : Sm d) : Aut 0 1 (octs d) := by
  have := octs_aut d 1 [] h (Nat.le_refl _) fun b' _ => by rw [Aut]; trivial
  rwa [List.append_nil] at this
/-! one octet other, more or less -/
theorem Run.cons {k r o : Nat} {l : List Nat} : Run k r (o :: l) ↔ if o < 128 then Run k 0 l else r + 1 ≤ k ∧ Run k (r + 1) l := by rw [Run]
theorem aut_rep (x : Nat) : ∀ (s : Nat) (l : List Nat) (r b : Nat), r ≤ 5 → Aut r b l → Run 6 r (l.take s ++ x :: l.drop (s + 1))
  | 0, [], r, b, hr, _ => by
    show Run 6 r [x]
    rw [Run]
    split
    · rw [Run]; trivial
    · exact ⟨by omega, by rw [Run]; trivial⟩
  | s + 1, [], r, b, hr, _ => by
    show Run 6 r [x]
    rw [Run]
    split
    · rw [Run]; trivial
    · exact ⟨by omega, by rw [Run]; trivial⟩
  | 0, o :: l, r, b, hr, g => by
    show Run 6 r (x :: l)
    rw [Aut] at g
    rw [Run]
    split at g
    · split
      · exact Aut.run (Nat.zero_le _) g
      · refine ⟨by omega, ?_⟩
        by_cases h0 : r = 0
        · subst h0
          exact Aut.run (by omega) g
        · rw [if_neg h0] at g
          exact Aut.run1 g
    · split
      · exact Aut.run (Nat.zero_le _) g.2
      · exact ⟨by omega, Aut.run (by omega) g.2⟩
  | s + 1, o :: l, r, b, hr, g => by
    show Run 6 r (o :: (l.take s ++ x :: l.drop (s + 1)))
    rw [Aut] at g
    rw [Run]
    split at g
    · rename_i c
      rw [if_pos c]
      exact aut_rep x s l _ _ (by omega) g
    · rename_i c
      rw [if_neg c]
      exact ⟨by omega, aut_rep x s l _ _ (by omega) g.2⟩
theorem aut_ins (x : Nat) : ∀ (s : Nat) (l : List Nat) (r b : Nat), r ≤ 5 → Aut r b l → Run 6 r (l.take s ++ x :: l.drop s)
  | 0, l, r, b, hr, g => by
    show Run 6 r (x :: l)
    rw [Run]
    split
    · exact Aut.run (Nat.zero_le _) g
    · exact ⟨by omega, Aut.run (by omega) g⟩
  | s + 1, [], r, b, hr, _ => by
    show Run 6 r [x]
    rw [Run]
    split
    · rw [Run]; trivial
    · exact ⟨by omega, by rw [Run]; trivial⟩
  | s + 1, o :: l, r, b, hr, g => by
    show Run 6 r (o :: (l.take s ++ x :: l.drop s))
    rw [Aut] at g
    rw [Run]
    split at g
    · rename_i c
      rw [if_pos c]
      exact aut_ins x s l _ _ (by omega) g
    · rename_i c
      rw [if_neg c]
      exact ⟨by omega, aut_ins x s l _ _ (by omega) g.2⟩
theorem aut_out : ∀ (s : Nat) (l : List Nat) (r b : Nat), r ≤ 5 → Aut r b l → Run 6 r (l.take s ++ l.drop (s + 1))
  | 0, [], r, b, hr, _ => by show Run 6 r []; rw [Run]; trivial
  | s + 1, [], r, b, hr, _ => by show Run 6 r []; rw [Run]; trivial
  | 0, o :: l, r, b, hr, g => by
    show Run 6 r l
    rw [Aut] at g
    split at g
    · by_cases h0 : r = 0
      · subst h0
        exact Aut.run (by omega) g
      · rw [if_neg h0] at g
        exact Aut.run1 g
    · exact Aut.run (by omega) g.2
  | s + 1, o :: l, r, b, hr, g => by
    show Run 6 r (o :: (l.take s ++ l.drop (s + 1)))
    rw [Aut] at g
    rw [Run]
    split at g
    · rename_i c
      rw [if_pos c]
      exact aut_out s l _ _ (by omega) g
    · rename_i c
      rw [if_neg c]
      exact ⟨by omega, aut_out s l _ _ (by omega) g.2⟩
theorem aut_cut : ∀ (s : Nat) (l : List Nat) (r b : Nat), r ≤ 5 → Aut r b l → Run 6 r (l.take s)
  | 0, l, r, b, hr, _ => by rw [List.take_zero, Run]; trivial
  | s + 1, [], r, b, hr, _ => by rw [List.take_nil, Run]; trivial
  | s + 1, o :: l, r, b, hr, g => by
    show Run 6 r (o :: l.take s)
    rw [Aut] at g
    rw [Run]
    split at g
    · rename_i c
      rw [if_pos c]
      exact aut_cut s l _ _ (by omega) g
    · rename_i c
      rw [if_neg c]
      exact ⟨by omega, aut_cut s l _ _ (by omega) g.2⟩
/-! ### octets as a list of bytes -/
theorem sev_256 (n : Nat) : ∀ x ∈ sev n, x < 256 := by
  induction n using Nat.strongRecOn with
  | ind n ih =>
    intro x hx
    by_cases h : n < 128
    · rw [sev_lt h] at hx
      have := List.mem_singleton.mp hx
      omega
    · rw [sev_ge h] at hx
      rcases List.mem_cons.mp hx with h1 | h1
      · omega
      · exact ih (n / 128) (by omega) x h1
mutual
theorem octs_256 : ∀ (d : D), Pln d → ∀ x ∈ octs d, x < 256
  | .non, _, x, hx => by rw [octs] at hx; have := List.mem_singleton.mp hx; omega
  | .bl b, _, x, hx => by rw [octs] at hx; have := List.mem_singleton.mp hx; cases b <;> simp_all
  | .int i, _, x, hx => by
    rw [octs] at hx
    split at hx <;> rcases List.mem_cons.mp hx with h1 | h1 <;> first | omega | exact sev_256 _ x h1
  | .str l, hp, x, hx => by
    rw [Pln] at hp
    rw [octs] at hx
    rcases List.mem_cons.mp hx with h1 | h1
    · omega
    rcases List.mem_append.mp h1 with h2 | h2
    · exact sev_256 _ x h2
    · obtain ⟨c, hc, rfl⟩ := List.mem_map.mp h2
      have := (sgn_back c (hp.2 c hc)).1
      omega
  | .tup ds, hp, x, hx => by
    rw [Pln] at hp
    rw [octs] at hx
    rcases List.mem_cons.mp hx with h1 | h1
    · omega
    rcases List.mem_append.mp h1 with h2 | h2
    · exact sev_256 _ x h2
    · exact octsL_256 ds hp.2 x h2
  | .lst _, hp, _, _ => by rw [Pln] at hp; exact hp.elim
theorem octsL_256 : ∀ (ds : List D), PlnL ds → ∀ x ∈ octsL ds, x < 256
  | [], _, x, hx => by rw [octsL] at hx; exact nomatch hx
  | d :: ds, hp, x, hx => by
    rw [PlnL] at hp
    rw [octsL] at hx
    rcases List.mem_append.mp hx with h1 | h1
    · exact octs_256 d hp.1 x h1
    · exact octsL_256 ds hp.2 x h1
end
theorem octs_pos {d : D} (h : Pln d) : 0 < (octs d).length := by
  cases d with
  | int i => rw [octs]; split <;> exact Nat.succ_pos _
  | lst _ => rw [Pln] at h; exact h.elim
  | _ => rw [octs]; exact Nat.succ_pos _
/-- the five bent rows -/
def bents (l : List Nat) (s x : Nat) : List (List Nat) := [l.take s ++ [x] ++ l.drop (s + 1), l.take s ++ [x] ++ l.drop s, l.take s ++ l.drop (s + 1), l.take s, l ++ [x]]
theorem bents_ok {d : D} (h : Sm d) {s x : Nat} (hx : x < 256) : ∀ b ∈ bents (octs d) s x, b.length ≤ (octs d).length + 1 ∧ (∀ y ∈ b, y < 256) ∧ NumB b := by
  have h256 := octs_256 d h.pln
  have ha := aut_octs h
  have e : ∀ {l : List Nat}, l.length ≤ (octs d).length + 1 → (∀ y ∈ l, y ∈ octs d ∨ y = x) → Run 6 0 l → l.length ≤ (octs d).length + 1 ∧ (∀ y ∈ l, y < 256) ∧ NumB l := fun {l} hl hm hr => by
    have : ∀ y ∈ l, y < 256 := fun y hy => by
      rcases hm y hy with h1 | h1
      · exact h256 y h1
      · omega
    exact ⟨hl, this, .of this hr⟩
  intro b hb
  rcases List.mem_cons.mp hb with rfl | hb
  · refine e ?_ (fun y hy => ?_) ?_
    · rw [List.length_append, List.length_append, List.length_take, List.length_drop, List.length_singleton]; omega
    · rcases List.mem_append.mp hy with hy | hy
      · rcases List.mem_append.mp hy with hy | hy
        · exact .inl (List.mem_of_mem_take hy)
        · exact .inr (List.mem_singleton.mp hy)
      · exact .inl (List.mem_of_mem_drop hy)
    · rw [List.append_assoc]
      exact aut_rep x s _ 0 1 (by decide) ha
  rcases List.mem_cons.mp hb with rfl | hb
  · refine e ?_ (fun y hy => ?_) ?_
    · rw [List.length_append, List.length_append, List.length_take, List.length_drop, List.length_singleton]; omega
    · rcases List.mem_append.mp hy with hy | hy
      · rcases List.mem_append.mp hy with hy | hy
        · exact .inl (List.mem_of_mem_take hy)
        · exact .inr (List.mem_singleton.mp hy)
      · exact .inl (List.mem_of_mem_drop hy)
    · rw [List.append_assoc]
      exact aut_ins x s _ 0 1 (by decide) ha
  rcases List.mem_cons.mp hb with rfl | hb
  · refine e ?_ (fun y hy => ?_) (aut_out s _ 0 1 (by decide) ha)
    · rw [List.length_append, List.length_take, List.length_drop]; omega
    · rcases List.mem_append.mp hy with hy | hy
      · exact .inl (List.mem_of_mem_take hy)
      · exact .inl (List.mem_of_mem_drop hy)
  rcases List.mem_cons.mp hb with rfl | hb
  · refine e ?_ (fun y hy => .inl (List.mem_of_mem_take hy)) (aut_cut s _ 0 1 (by decide) ha)
    rw [List.length_take]; omega
  · have := List.mem_singleton.mp hb
    subst this
    refine e ?_ (fun y hy => ?_) ?_
    · rw [List.length_append, List.length_singleton]; exact Nat.le_refl _
    · rcases List.mem_append.mp hy with hy | hy
      · exact .inl hy
      · exact .inr (List.mem_singleton.mp hy)
    · have := aut_ins x (octs d).length _ 0 1 (by decide) ha
      rwa [List.take_length, List.drop_length] at this
end K00

set_option Elab.async false
set_option linter.all false
set_option maxRecDepth 100000
set_option maxHeartbeats 4000000
namespace K00
open PySem PySem.Spec PyProof.Rows L2 Evl My
/-! ### lists of numbers as data -/
def numsD (l : List Nat) : D := .lst (l.map fun n : Nat => .int (n : Int))
theorem reps_nats (H : Hp) : ∀ l : List Nat, Reps H (nats l) (l.map fun n : Nat => .int (n : Int))
  | [] => .nil
  | n :: l => .cons (.int _) (reps_nats H l)
theorem wid_nums {l : List Nat} (h : l.length ≤ 90000) : Wid (numsD l) ∧ height (numsD l) = 1 := by
  have h1 : ∀ l : List Nat, WidL (l.map fun n : Nat => D.int (n : Int)) ∧ heightL (l.map fun n : Nat => D.int (n : Int)) = 0 := fun l => by
    induction l with
    | nil => exact ⟨by rw [List.map_nil, WidL]; trivial, rfl⟩
    | cons n l ih => rw [List.map_cons, WidL, heightL, ih.2]; exact ⟨⟨by rw [Wid] <;> (first | trivial | (intros; contradiction)), ih.1⟩, rfl⟩
  unfold numsD
  rw [Wid, height, (h1 l).2]
  exact ⟨⟨by rw [List.length_map]; exact h, (h1 l).1⟩, rfl⟩
section
variable {P : Program} {w : World} {K : PySem.W.Frag} {mg : Str → Option Value} {base : Heap} {Cv Cm : Addr}
variable {σ : L2.St} {H : Hp} {ta tr : TA} {te tl tb : TE} {d d1 d2 : D} {E : XK} {Q : VK} {D0 : Ends} {tu tz : TS}
theorem edL {l : List Nat} (h : EvP te σ H (IsL (nats l))) : EvD te σ H (numsD l) := fun H1 e Q q => h H1 e _ fun v H2 e2 ⟨p, hv, hp⟩ => q v H2 e2 (by rw [hv]; exact .lst hp (reps_nats H2 l))
theorem ed_var {i : Nat} {v : V} (h : σ[i]? = some (some v)) (r : Rep H v d) : EvD (tVar i) σ H d := fun H1 e Q q => (ev_v h) H1 e _ fun H2 e2 => q v H2 e2 (r.mono (e.trans e2))
theorem ev_same2 {h : Nat} {b : Bool} (h1 : EvD te σ H d1) (h2 : EvD tb σ H d2) (hw : Wid d2) (hh : height d2 < h) (hb : sameD d1 d2 = b) : Ev (tCall (spV (ok_same h)) [] E0 (tCons te (tCons tb tNil))) σ H (.bl b) := fun H1 e Q q =>
  h1 H1 e _ fun v1 H2 e2 r1 => h2 H2 (e.trans e2) _ fun v2 H3 e3 r2 => ⟨.bl b, ⟨v1, v2, d1, d2, rfl, r1.mono e3, r2, hw, hh, by rw [hb]⟩, fun H4 e4 => q H4 ((e2.trans e3).trans e4)⟩
theorem evp_told (h : EvD te σ H d) (hp : Pln d) (hh : height d ≤ 40) (ho : (octs d).length ≤ 20000) : EvP (tCall (sp_told Cv) [] E0 (tCons te tNil)) σ H (IsL (nats (octs d))) := fun H1 e Q q =>
  h H1 e _ fun v H2 e2 r2 => ⟨v, rfl, .inl ⟨d, r2, fit_of d hp, by omega, ho, fun _ p H3 _ e3 h3 => q _ H3 (e2.trans e3) ⟨p, rfl, h3⟩, fun hg => by
    rw [good_of d 0 hp (by omega)] at hg
    exact nomatch hg⟩⟩
theorem ed_vof {data : List Nat} (h : EvP te σ H (IsL (nats data))) (hl : data.length ≤ 90000) (h256 : ∀ x ∈ data, x < 256) (hn : NumB data) (hr : readsR data = .ok d) : EvD (tCall (sp_vof Cm) [] E0 (tCons te tNil)) σ H d := fun H1 e Q q =>
  h H1 e _ fun v H2 e2 ⟨p, hv, hp⟩ => ⟨p, data, by rw [hv]; rfl, hp, hl, h256, hn, fun d' hd v' H3 r3 e3 => by
    rw [hr] at hd
    cases hd
    exact q v' H3 (e2.trans e3) r3, fun pl hpl => by
    rw [hr] at hpl
    exact nomatch hpl⟩
theorem ev_mis {data : List Nat} (h : EvP te σ H (IsL (nats data))) (hl : data.length ≤ 90000) (h256 : ∀ x ∈ data, x < 256) (hn : NumB data) : Ev (tCall (spV ok_mis) [] E0 (tCons te tNil)) σ H (misV data) := fun H1 e Q q =>
  h H1 e _ fun v H2 e2 ⟨p, hv, hp⟩ => ⟨misV data, ⟨p, data, by rw [hv]; rfl, hp, hl, h256, hn, rfl⟩, fun H3 e3 => q H3 (e2.trans e3)⟩
/-- what is asked of a value that is plain or is not -/
def PlT (b : Bool) (v : V) (H : Hp) : Prop := (∃ d, Rep H v d ∧ FitD d ∧ height d < 43 ∧ (octs d).length ≤ 20000 ∧ goodT 0 d = b) ∨ b = false ∧ ∃ a kvs, v = .ref a ∧ H a = some (.dK kvs)
theorem PlT.mono {b : Bool} {v : V} {H H' : Hp} (e : Ex H H') (h : PlT b v H) : PlT b v H' := by
  rcases h with ⟨d, r, h⟩ | ⟨hb, a, kvs, hv, ha⟩
  · exact .inl ⟨d, r.mono e, h⟩
  · exact .inr ⟨hb, a, kvs, hv, e _ _ ha⟩
theorem ev_plain {v : V} {b : Bool} (h : Ev te σ H v) (hp : PlT b v H) : Ev (tCall sp_plain [] E0 (tCons te tNil)) σ H (.bl b) := fun H1 e Q q =>
  h H1 e _ fun H2 e2 => ⟨v, rfl, by
    rcases hp.mono (e.trans e2) with ⟨d, r, h1, h2, h3, h4⟩ | ⟨hb, a, kvs, hv, ha⟩
    · exact .inl ⟨d, r, h1, h2, h3, fun H3 e3 => by rw [h4]; exact q H3 (e2.trans e3)⟩
    · exact .inr ⟨a, kvs, hv, ha, fun H3 e3 => by rw [← hb]; exact q H3 (e2.trans e3)⟩⟩
/-- refused -/
theorem tells_no {v : V} {Q : VK} {E : XK} (hp : PlT false v H) (q : ∀ H', Ex H H' → E (.ref Cv) none H') : TellsAt Cv 43 0 v H Q E := by
  rcases hp with ⟨d, r, h1, h2, h3, h4⟩ | ⟨hb, a, kvs, hv, ha⟩
  · exact .inl ⟨d, r, h1, h2, h3, (fun hg => by rw [h4] at hg; exact nomatch hg), fun _ => q⟩
  · exact .inr ⟨a, kvs, hv, ha, q⟩
/-! ### a new list of things of which R is known -/
def AllR (R : V → Hp → Prop) (n : Nat) : List V → Hp → Prop := fun vs H => vs.length = n ∧ ∀ x ∈ vs, R x H
theorem eq_nil {R : V → Hp → Prop} : EvAP tNil σ H (AllR R 0) := fun H1 _ Q q => q [] H1 (Ex.refl H1) ⟨rfl, fun _ h => nomatch h⟩
theorem eq_cons {R : V → Hp → Prop} {n : Nat} (mono : ∀ {v H H'}, Ex H H' → R v H → R v H') (h : EvP te σ H R) (hr : EvAP tr σ H (AllR R n)) : EvAP (tCons te tr) σ H (AllR R (n + 1)) := fun H1 e Q q =>
  h H1 e _ fun v H2 e2 r => hr H2 (e.trans e2) _ fun vs H3 e3 rs => q _ H3 (e2.trans e3) ⟨congrArg Nat.succ rs.1, fun x hx => by
    rcases List.mem_cons.mp hx with rfl | hx
    · exact mono e3 r
    · exact rs.2 x hx⟩
def LstR (R : V → Hp → Prop) : V → Hp → Prop := fun v H => ∃ (a : Addr) (xs : List V), v = .ref a ∧ H a = some (.lst xs) ∧ ∀ x ∈ xs, R x H
theorem el_R {R : V → Hp → Prop} {n : Nat} (mono : ∀ {v H H'}, Ex H H' → R v H → R v H') (h : EvAP ta σ H (AllR R n)) (hn : n ≤ 100000) : EvP (tLst ta) σ H (LstR R) := fun H1 e Q q =>
  h H1 e _ fun vs H2 e2 rs => ⟨sz_of (by rw [rs.1]; exact hn), fun p hp => q (.ref p) _ (e2.trans (Ex.new hp)) ⟨p, vs, rfl, upd_same, fun x hx => mono (Ex.new hp) (rs.2 x hx)⟩⟩
theorem s_forR {R : V → Hp → Prop} {j : Nat} (mono : ∀ {v H H'}, Ex H H' → R v H → R v H') (h : EvP tl σ H (LstR R)) (Pv : Hp → L2.St → Hp → Prop) (h0 : ∀ H1, Ex H H1 → Pv H1 σ H1) (hk : ∀ H1 σ' H', Pv H1 σ' H' → Ex H1 H')
    (hs : ∀ H1 x σ' H', Ex H H1 → R x H' → Pv H1 σ' H' → tu { D0 with nx := Pv H1, ct := Pv H1, bk := D0.nx } (σ'.set j (some x)) H') (hd : ∀ H1 σ' H', Ex H H1 → Pv H1 σ' H' → D0.nx σ' H') : tFor (iList K tl) (gName j) tu D0 σ H := by
  refine h H (Ex.refl H) _ fun v H1 e ⟨a, xs, hv, ha, hR⟩ => ?_
  refine ⟨a, hv, ⟨xs, sq_of ha⟩, for_list (fun _ => Pv H1) (h0 H1 e) (fun i σ' H' _ p => sq_of (hk _ _ _ p _ _ ha)) (fun i x σ' H' hx p => ?_) (fun σ' H' p => hd H1 σ' H' e p)⟩
  exact hs H1 x σ' H' e (mono (hk _ _ _ p) (hR x (List.mem_of_getElem? hx))) p
theorem q_forR {R : V → Hp → Prop} {j : Nat} (mono : ∀ {v H H'}, Ex H H' → R v H → R v H') (h : EvP tl σ H (LstR R)) (Pv : Hp → L2.St → Hp → Prop) (h0 : ∀ H1, Ex H H1 → Pv H1 σ H1) (hk : ∀ H1 σ' H', Pv H1 σ' H' → Ex H1 H')
    (hs : ∀ H1 x σ' H', Ex H H1 → R x H' → Pv H1 σ' H' → tu { D0 with nx := Pv H1, ct := Pv H1, bk := tz D0 } (σ'.set j (some x)) H') (hd : ∀ H1 σ' H', Ex H H1 → Pv H1 σ' H' → tz D0 σ' H') : tSeq (tFor (iList K tl) (gName j) tu) tz D0 σ H :=
  s_forR (R := R) (D0 := { D0 with nx := tz D0 }) mono h Pv h0 hk hs hd
end
/-! ### the values that the law gives -/
theorem nest_sm {d : D} (h : Sm d) : ∀ n, Sm (nestD n d)
  | 0 => h
  | n + 1 => by rw [nestD, Sm, SmL, SmL]; exact ⟨by show 1 ≤ 3; decide, nest_sm h n, trivial⟩
theorem nest_h (d : D) : ∀ n, height (nestD n d) = n + height d
  | 0 => by rw [nestD, Nat.zero_add]
  | n + 1 => by rw [nestD, height, heightL, heightL, nest_h d n]; omega
theorem nest_o (d : D) : ∀ n, (octs (nestD n d)).length = 2 * n + (octs d).length
  | 0 => by rw [nestD, Nat.mul_zero, Nat.zero_add]
  | n + 1 => by
    rw [nestD, octs, octsL, octsL, List.append_nil, List.length_cons, List.length_append, nest_o d n, show [nestD n d].length = 1 from rfl, sev_lt (by decide)]
    show (1 + (2 * n + _)) + 1 = _
    omega
theorem nest_f {d : D} (h : FitD d) : ∀ n, FitD (nestD n d)
  | 0 => h
  | n + 1 => by rw [nestD, FitD, FitL, FitL]; exact ⟨by show 1 < 2 ^ 60; decide, nest_f h n, trivial⟩
theorem nest_no {d : D} : ∀ (n t : Nat), t ≤ 40 → (40 < t + n ∨ goodT (t + n) d = false) → goodT t (nestD n d) = false
  | 0, t, ht, h => by
    rcases h with h | h
    · omega
    · exact h
  | n + 1, t, ht, h => by
    rw [nestD, goodT, goodL, goodL]
    by_cases h40 : t = 40
    · rw [decide_eq_false (fun z => z h40), Bool.false_and]
    · rw [nest_no n (t + 1) (by omega) (by
        rcases h with h2 | h2
        · exact .inl (by omega)
        · exact .inr (by rw [show t + 1 + n = t + (n + 1) by omega]; exact h2)), Bool.false_and, Bool.and_false]
theorem run_numB {d : D} (h : Sm d) : NumB (octs d) := .of (octs_256 d h.pln) (Aut.run (Nat.zero_le _) (aut_octs h))
theorem wid_sm {d : D} (h : Sm d) : Wid d := wid_of d h.pln
end K00

set_option Elab.async false
set_option linter.all false
set_option maxRecDepth 100000
set_option maxHeartbeats 4000000
namespace K00
open PySem PySem.Spec PyProof.Rows L2 Evl My
theorem scal_mis (l : List Nat) : scal (misV l) (misV l) = true := by unfold misV; split <;> rfl
theorem low_run : ∀ (l : List Nat) (k r : Nat), (∀ c ∈ l, c < 128) → Run k r l
  | [], k, r, _ => by rw [Run]; trivial
  | c :: l, k, r, h => by
    rw [Run, if_pos (h c List.mem_cons_self)]
    exact low_run l k 0 fun x hx => h x (List.mem_cons_of_mem _ hx)
def deepL : List Nat := (List.replicate 41 [6, 1]).flatten ++ [0]
theorem mis_deep : misV deepL = .int ((80 : Nat) : Int) := by decide +kernel
theorem mis_nil : misV [] = .int ((0 : Nat) : Int) := by decide +kernel
theorem mis_zero : misV [3, 128, 0] = .int ((2 : Nat) : Int) := by decide +kernel
theorem mis_seven : misV [7] = .int ((0 : Nat) : Int) := by decide +kernel
theorem deep_low : ∀ c ∈ deepL, c < 128 := by decide +kernel
section
variable {P : Program} {w : World} {K : PySem.W.Frag} {mg : Str → Option Value} {base : Heap} {Cv fv dv cv Cm fm dm cm : Addr} {txv : Str}
variable {σ : L2.St} {H : Hp} {te tb : TE} {d : D}
theorem ed_nest {n : Nat} (h1 : Ev te σ H (.int (n : Int))) (h2 : EvD tb σ H d) (hn : n ≤ 1000) : EvD (tCall (spD ok_nested) [] E0 (tCons te (tCons tb tNil))) σ H (nestD n d) := fun H1 e Q q =>
  h1 H1 e _ fun H2 e2 => h2 H2 (e.trans e2) _ fun v H3 e3 r => ⟨nestD n d, ⟨n, v, d, rfl, hn, r, rfl⟩, fun v' H4 e4 r4 => q v' H4 ((e2.trans e3).trans e4) r4⟩
theorem evp_pl {b : Bool} (h : EvD te σ H d) (h1 : FitD d) (h2 : height d < 43) (h3 : (octs d).length ≤ 20000) (h4 : goodT 0 d = b) : EvP te σ H (PlT b) := fun H1 e Q q => h H1 e _ fun v H2 e2 r => q v H2 e2 (.inl ⟨d, r, h1, h2, h3, h4⟩)
def SmR (v : V) (H : Hp) : Prop := ∃ d, Rep H v d ∧ Sm d ∧ height d ≤ 40 ∧ (octs d).length ≤ 20000
theorem SmR.mono {v : V} {H H' : Hp} (e : Ex H H') (h : SmR v H) : SmR v H' := by
  obtain ⟨d, r, h⟩ := h
  exact ⟨d, r.mono e, h⟩
theorem evp_sm (h : EvD te σ H d) (h1 : Sm d) (h2 : height d ≤ 40) (h3 : (octs d).length ≤ 20000) : EvP te σ H SmR := fun H1 e Q q => h H1 e _ fun v H2 e2 r => q v H2 e2 ⟨d, r, h1, h2, h3⟩
def BenR (l : List Nat) (s x : Nat) (v : V) (H : Hp) : Prop := ∃ b ∈ bents l s x, ∃ a, v = .ref a ∧ H a = some (.lst (nats b))
theorem BenR.mono {l : List Nat} {s x : Nat} {v : V} {H H' : Hp} (e : Ex H H') (h : BenR l s x v H) : BenR l s x v H' := by
  obtain ⟨b, hb, a, hv, ha⟩ := h
  exact ⟨b, hb, a, hv, e _ _ ha⟩
theorem evp_ben {l : List Nat} {s x : Nat} (b : List Nat) (h : EvL te σ H (nats b)) (hb : b ∈ bents l s x) : EvP te σ H (BenR l s x) := fun H1 e Q q => h H1 e _ fun p H2 _ e2 h2 => q _ H2 e2 ⟨b, hb, p, rfl, h2⟩
theorem ev_rd {data : List Nat} {n : Nat} (h : EvP te σ H (IsL (nats data))) (hl : data.length ≤ 90000) (h256 : ∀ x ∈ data, x < 256) (hr : Run 6 0 data) (hm : misV data = .int (n : Int)) : Ev (tOp rEq (tCall (spV ok_mis) [] E0 (tCons te tNil)) (tC (.int (n : Int)))) σ H (.bl true) :=
  ev_is (ev_op (ev_is (ev_mis h hl h256 (.of h256 hr)) hm) (ev_cn n) (rv_eq rfl)) (by rw [decide_eq_true rfl])
abbrev s_law : Stmt := topS 30
theorem sc_law : FnScope ["script", "pool", "turn", "value", "data", "spot", "octet", "bent"] ["script"] (defScope s_law) := ⟨rfl, rfl, rfl, by decide +kernel, rfl, by decide +kernel, by decide +kernel⟩
/- 0 script, 1 pool, 2 turn, 3 value, 4 data, 5 spot, 6 octet, 7 bent -/
def sp_law (K : PySem.W.Frag) : Sp := fun vs H Q _ => ∃ (a : Addr) (ns : List Int), vs = [.ref a] ∧ SqL K H a (ns.map V.int) ∧ ∀ H', Q (.bl true) H'
theorem fn_law {f : Addr} {fd : FuncData} {k : Nat} (F : Fun K "law" "law" s_law f fd) (N : Nb mg) (T_Misvalued : PySem.SupX.Sup0 P K mg "Misvalued" "Misvalued.__init__" txv Cv fv dv cv) (C_law_pool : Cal P w K mg base k "_law_pool" ["script"] (spL (ok_pool_ K))) (C_law_next : Cal P w K mg base k "_law_next" ["pool"] (sp_next K)) (C_law_draw : Cal P w K mg base k "_law_draw" ["pool", "limit"] (sp_draw K))
    (C_law_value : Cal P w K mg base k "_law_value" ["pool", "deep"] (sp_value K 4)) (C_law_octets : Cal P w K mg base k "_law_octets" ["value"] (spL (ok_octets 43))) (C_law_same : Cal P w K mg base k "_law_same" ["actual", "due"] (spV (ok_same 43))) (C_told : CalX P w K mg base k "told" ["value"] (sp_told Cv)) (C_value_of : CalX P w K mg base k "value_of" ["data"] (sp_vof Cm))
    (C_is_plain : Cal P w K mg base k "is_plain" ["value"] sp_plain) (C_law_reads : Cal P w K mg base k "_law_reads" ["data"] (spV ok_mis)) (C_law_misread : Cal P w K mg base k "_law_misread" ["data"] (spV ok_mis)) (C_law_nested : Cal P w K mg base k "_law_nested" ["many", "inner"] (spD ok_nested)) : FnOk P w K mg base CX0 (k + 1) f fd ["script"] (sp_law K) := by
  refine F.ok sc_law (fun vs H Q E h => ?_) (fun cdv A outer s H vs Q E hr h => ?_)
  · obtain ⟨_, _, rfl, _⟩ := h
    rfl
  · obtain ⟨a, ns, rfl, hS, q⟩ := h
    refine ⟨_, (pss_cons (ps_set (i := 1) sc_law.nd rfl (Or.inl rfl) (pe_cal C_law_pool hr (pa_cons (pv 0) pa_nil)))
      (pss_cons (ps_for PassesOwn.never rfl (pi_range1 rfl N.range (pa_cons pe_int pa_nil)) (pg_name (i := 2) sc_law.nd rfl (Or.inl rfl)) (pss_cons (ps_expr (pe_cal C_law_next hr (pa_cons (pv 1) pa_nil)))
      (pss_cons (ps_set (i := 3) sc_law.nd rfl (Or.inl rfl) (pe_cal C_law_value hr (pa_cons (pv 1) (pa_cons pe_int pa_nil))))
      (pss_cons (ps_set (i := 4) sc_law.nd rfl (Or.inl rfl) (pe_cal C_law_octets hr (pa_cons (pv 3) pa_nil)))
      (pss_cons (ps_if (PW.pt (pw_or (pt_not (pt_val (pe_cal C_law_same hr (pa_cons (pe_calN C_told hr (pa_cons (pv 3) pa_nil)) (pa_cons (pv 4) pa_nil))))) (pw_or (pt_not (pt_val (pe_cal C_law_same hr (pa_cons (pe_calN C_value_of hr (pa_cons (pe_callTy call_list_of (by rfl) N.list PyProof.Rows.boot_list (pa_cons (pv 4) pa_nil)) pa_nil)) (pa_cons (pv 3) pa_nil))))) (pw_or1 (pt_cmpR op_notBl (pe_cal C_is_plain hr (pa_cons (pv 3) pa_nil)) pe_bl (nomark _)))))) (pss_one (ps_ret pe_bl)) pss_nil)
      (pss_cons (ps_set (i := 5) sc_law.nd rfl (Or.inl rfl) (pe_cal C_law_draw hr (pa_cons (pv 1) (pa_cons (pe_callB call_len_seq (by rfl) N.len PySem.boot_len (pa_cons (pv 4) pa_nil)) pa_nil))))
      (pss_cons (ps_set (i := 6) sc_law.nd rfl (Or.inl rfl) (pe_cal C_law_draw hr (pa_cons (pv 1) (pa_cons pe_int pa_nil))))
      (pss_one (ps_for PassesOwn.never rfl (pi_list (pe_lst (pa_cons (pe_op op_cat (pe_op op_cat (pe_slice sl_list (pv 4) po_none (po_some (pv 5))) (pe_lst (pa_cons (pv 6) pa_nil))) (pe_slice sl_list (pv 4) (po_some (pe_op op_add (pv 5) pe_int)) po_none)) (pa_cons (pe_op op_cat (pe_op op_cat (pe_slice sl_list (pv 4) po_none (po_some (pv 5))) (pe_lst (pa_cons (pv 6) pa_nil))) (pe_slice sl_list (pv 4) (po_some (pv 5)) po_none)) (pa_cons (pe_op op_cat (pe_slice sl_list (pv 4) po_none (po_some (pv 5))) (pe_slice sl_list (pv 4) (po_some (pe_op op_add (pv 5) pe_int)) po_none)) (pa_cons (pe_slice sl_list (pv 4) po_none (po_some (pv 5))) (pa_cons (pe_op op_cat (pv 4) (pe_lst (pa_cons (pv 6) pa_nil))) pa_nil))))))) (pg_name (i := 7) sc_law.nd rfl (Or.inl rfl)) (pss_one (ps_if (pt_cmpR op_ne (pe_cal C_law_reads hr (pa_cons (pv 7) pa_nil)) (pe_cal C_law_misread hr (pa_cons (pv 7) pa_nil)) (nomark _)) (pss_one (ps_ret pe_bl)) pss_nil)))))))))))
      (pss_cons (ps_for PassesOwn.never rfl (pi_list (pe_lst (pa_cons (pe_lst pa_nil) (pa_cons pe_dnewK (pa_cons pe_str (pa_cons (pe_tup (pa_cons pe_int (pa_cons (pe_lst (pa_cons pe_int pa_nil)) pa_nil))) (pa_cons (pe_cal C_law_nested hr (pa_cons pe_int (pa_cons pe_int pa_nil))) (pa_cons (pe_cal C_law_nested hr (pa_cons pe_int (pa_cons (pe_tup pa_nil) pa_nil))) pa_nil)))))))) (pg_name (i := 3) sc_law.nd rfl (Or.inl rfl)) (pss_cons (ps_if (pt_cmpR op_notBl (pe_cal C_is_plain hr (pa_cons (pv 3) pa_nil)) pe_bl (nomark _)) (pss_one (ps_ret pe_bl)) pss_nil)
      (pss_one (ps_try_only rfl rfl ⟨rfl, by decide, .inl T_Misvalued.gC⟩ takesN (fun W pn xe tk po => (pss_cons (ps_expr (pe_calX C_told hr tk (pa_cons (pv 3) pa_nil)))
      (pss_one (ps_ret pe_bl)))) (fun a oe cls d pn _ _ => (pss_one ps_pass))))))
      (pss_cons (ps_for PassesOwn.never rfl (pi_list (pe_lst (pa_cons (pe_cal C_law_nested hr (pa_cons pe_int (pa_cons pe_non pa_nil))) (pa_cons (pe_cal C_law_nested hr (pa_cons pe_int (pa_cons (pe_tup pa_nil) pa_nil))) (pa_cons (pe_cal C_law_nested hr (pa_cons pe_int (pa_cons pe_str pa_nil))) pa_nil))))) (pg_name (i := 3) sc_law.nd rfl (Or.inl rfl)) (pss_cons (ps_set (i := 4) sc_law.nd rfl (Or.inl rfl) (pe_cal C_law_octets hr (pa_cons (pv 3) pa_nil)))
      (pss_one (ps_if (PW.pt (pw_or (pt_not (pt_val (pe_cal C_law_same hr (pa_cons (pe_calN C_told hr (pa_cons (pv 3) pa_nil)) (pa_cons (pv 4) pa_nil))))) (pw_or1 (pt_not (pt_val (pe_cal C_law_same hr (pa_cons (pe_calN C_value_of hr (pa_cons (pv 4) pa_nil)) (pa_cons (pv 3) pa_nil)))))))) (pss_one (ps_ret pe_bl)) pss_nil))))
      (pss_one (ps_ret (pe_and (pe_cmpR op_eq (pe_cal C_law_reads hr (pa_cons (pe_op op_cat (pe_op op_rep (pe_lst (pa_cons pe_int (pa_cons pe_int pa_nil))) pe_int) (pe_lst (pa_cons pe_int pa_nil))) pa_nil)) pe_int (nomark _)) (pe_and (pe_cmpR op_eq (pe_cal C_law_reads hr (pa_cons (pe_lst pa_nil) pa_nil)) pe_int (nomark _)) (pe_and (pe_cmpR op_eq (pe_cal C_law_reads hr (pa_cons (pe_lst (pa_cons pe_int (pa_cons pe_int (pa_cons pe_int pa_nil)))) pa_nil)) pe_int (nomark _)) (pe_one (pe_cmpR op_eq (pe_cal C_law_reads hr (pa_cons (pe_lst (pa_cons pe_int pa_nil)) pa_nil)) pe_int (nomark _)))))))))))), ?_⟩
    refine q_asgL (el_cal (ea_cons (ev_v rfl) ea_nil) fun H1 e1 => ⟨a, ns, rfl, ex_l e1 hS, rfl⟩) fun p H1 hp e1 h1 => ?_
    have P1 : Pool K H1 p a ns := ⟨0, _, 0, h1, ex_l e1 hS⟩
    refine q_forR1N (n := 4) (ea_cons (ev_cn 4) ea_nil) (by decide) (fun i σ' H' => Pool K H' p a ns ∧ ∃ y2 y3 y4 y5 y6 y7 : Option V, σ' = [some (.ref a), some (.ref p), y2, y3, y4, y5, y6, y7]) (fun H2 e2 => ⟨P1.ex e2, none, none, none, none, none, none, rfl⟩) ?_ ?_
    · rintro i σ' H' hi ⟨hP, y2, y3, y4, y5, y6, y7, rfl⟩
      refine r_dropE (r_call (r_cons (r_var (v := .ref p) rfl (r_nil ⟨p, a, ns, rfl, hP, fun H2 g2 => ?_⟩))))
      refine r_asg (r_call (r_cons (r_var (v := .ref p) rfl (r_cons (r_c (r_nil ⟨p, a, ns, 3, rfl, g2.2, by decide, by decide, fun v d H3 rv sm hh ho g3 => ?_⟩))))))
      have ho' : (octs d).length ≤ 12800 := ho
      have hpl := sm.pln
      have h256 := octs_256 d hpl
      refine q_asgL (el_cal (ea_cons (ev_v rfl) ea_nil) fun H4 e4 => ⟨v, d, rfl, rv.mono e4, hpl, by omega, by omega, rfl⟩) fun dl H4 hdl e4 h4 => ?_
      have rv4 := rv.mono e4
      have ndp : dl ≠ p := g3.2.ne hdl
      have wn := wid_nums (l := octs d) (by omega)
      refine q_when (b := false) (et_or (a := false) (b := false) (et_not (a := true) (et_B (ev_same2 (d1 := numsD (octs d)) (edL (evp_told (ed_var rfl rv4) hpl (by omega) (by omega))) (edL (evl_k (ev_v rfl) h4)) wn.1 (by rw [wn.2]; decide) (sameD_refl _)))) fun _ => et_or (a := false) (b := false) (et_not (a := true) (et_B (ev_same2 (d1 := d) (ed_vof (evl_n (el_listP (evl_k (ev_v rfl) h4))) (by omega) h256 (run_numB sm) (reads_rt hpl (by omega))) (ed_var rfl rv4) (wid_sm sm) (by omega) (sameD_refl _)))) fun _ => et_test (ev_op (ev_plain (b := true) (ev_v rfl) (.inl ⟨d, rv4, fit_of d hpl, by omega, by omega, good_of d 0 hpl (by omega)⟩)) ev_c (rv_val fun H7 e7 Q q => ⟨true, true, rfl, rfl, q⟩))) (fun z => nomatch z) fun _ H5 e5 => ?_
      have P5 := (g3.exR (e4.trans e5)).2
      refine r_asg (r_draw (n := (octs d).length) P5 (ea_cons (ev_v rfl) (ea_cons (ev_is (ev_len (ev_v rfl) (sq_of (e5 _ _ h4))) (by rw [nats_len])) ea_nil)) (octs_pos hpl) (by omega) fun s H6 hs g6 => ?_)
      refine r_asg (r_draw (n := 256) g6.2 (ea_cons (ev_v rfl) (ea_cons (ev_cn 256) ea_nil)) (by decide) (by decide) fun x H7 hx g7 => ?_)
      have h7 : H7 dl = some (.lst (nats (octs d))) := g7.1 dl _ ndp (g6.1 dl _ ndp (e5 _ _ h4))
      have bo := bents_ok sm (s := s) hx
      have tk : ∀ {σ : L2.St}, σ[4]? = some (some (.ref dl)) → σ[5]? = some (some (.int (s : Int))) → EvL (tSl (rSlL K) (tVar 4) tNoPart (tPart (tVar 5))) σ H7 (nats ((octs d).take s)) := fun h4' h5' => by
        rw [nats_take, ← cutV_take]
        exact el_sl (ev_v h4') eo_none (eo_some (ev_v h5')) (sq_of h7)
      have dr : ∀ {σ : L2.St} {te : TE} (m : Nat), σ[4]? = some (some (.ref dl)) → Ev te σ H7 (.int (m : Int)) → EvL (tSl (rSlL K) (tVar 4) (tPart te) tNoPart) σ H7 (nats ((octs d).drop m)) := fun m h4' h5' => by
        rw [nats_drop, ← cutV_drop]
        exact el_sl (ev_v h4') (eo_some h5') eo_none (sq_of h7)
      have on : ∀ {σ : L2.St}, σ[6]? = some (some (.int (x : Int))) → EvL (tLst (tCons (tVar 6) tNil)) σ H7 (nats [x]) := fun h6' => el_lst (ea_cons (ev_v h6') ea_nil) (by show 1 ≤ 100000; decide)
      have ct : ∀ {σ : L2.St} {ta tb : TE} {l1 l2 : List Nat}, EvP ta σ H7 (IsL (nats l1)) → EvL tb σ H7 (nats l2) → l1.length ≤ 20000 → l2.length ≤ 20000 → EvL (tOp rCat ta tb) σ H7 (nats (l1 ++ l2)) := fun h1 h2 h3 h4 => by
        rw [nats_app]
        exact el_cat h1 (evl_n h2) (by rw [nats_len, nats_len]; omega)
      have lt : ((octs d).take s).length ≤ 12800 := by rw [List.length_take]; omega
      have ld : ∀ m, ((octs d).drop m).length ≤ 12800 := fun m => by rw [List.length_drop]; omega
      have l1 : ((octs d).take s ++ [x]).length ≤ 20000 := by rw [List.length_append, List.length_singleton]; omega
      refine s_forR (R := BenR (octs d) s x) BenR.mono (el_R (n := 5) BenR.mono (eq_cons BenR.mono (evp_ben _ (ct (evl_n (ct (evl_n (tk rfl rfl)) (on rfl) (by omega) (by show 1 ≤ 20000; decide))) (dr (s + 1) rfl (ev_op (ev_v rfl) (ev_cn 1) rv_addN)) l1 (by have := ld (s + 1); omega)) (by unfold bents; simp)) (eq_cons BenR.mono (evp_ben _ (ct (evl_n (ct (evl_n (tk rfl rfl)) (on rfl) (by omega) (by show 1 ≤ 20000; decide))) (dr s rfl (ev_v rfl)) l1 (by have := ld s; omega)) (by unfold bents; simp))
        (eq_cons BenR.mono (evp_ben _ (ct (evl_n (tk rfl rfl)) (dr (s + 1) rfl (ev_op (ev_v rfl) (ev_cn 1) rv_addN)) (by omega) (by have := ld (s + 1); omega)) (by unfold bents; simp)) (eq_cons BenR.mono (evp_ben _ (tk rfl rfl) (by unfold bents; simp)) (eq_cons BenR.mono (evp_ben _ (ct (evl_k (ev_v rfl) h7) (on rfl) (by omega) (by show 1 ≤ 20000; decide)) (by unfold bents; simp)) eq_nil))))) (by decide))
        (fun H1 σ' H' => Ex H1 H' ∧ ∃ y7 : Option V, σ' = [some (.ref a), some (.ref p), some (.int (i : Int)), some v, some (.ref dl), some (.int (s : Int)), some (.int (x : Int)), y7]) (fun H8 e8 => ⟨Ex.refl _, _, rfl⟩) (fun _ _ _ h => h.1) ?_ ?_
      · rintro H8 u σ' H9 e8 ⟨b, hb, bl, rfl, hbl⟩ ⟨e9, y7, rfl⟩
        obtain ⟨b1, b2, b3⟩ := bo b hb
        exact s_when (b := false) (et_is (et_test (ev_op (ev_mis (evl_k (ev_v rfl) hbl) (by omega) b2 b3) (ev_mis (evl_k (ev_v rfl) hbl) (by omega) b2 b3) (rv_ne (scal_mis b)))) (by rw [decide_eq_true rfl]; rfl)) (fun z => nomatch z) fun _ H10 e10 => ⟨e9.trans e10, _, rfl⟩
      · rintro H8 σ' H9 e8 ⟨e9, y7, rfl⟩
        exact ⟨g7.2.ex (e8.trans e9), _, _, _, _, _, _, rfl⟩
    rintro σ' H' ⟨hP, y2, y3, y4, y5, y6, y7, rfl⟩
    refine q_forR (R := PlT false) PlT.mono (el_R (n := 6) PlT.mono (eq_cons PlT.mono (evp_pl (d := .lst []) (ed_lst er_nil (by decide)) (by rw [FitD] <;> first | trivial | (intros; contradiction)) (by decide) (by rw [octs]; decide) (by rw [goodT])) (eq_cons PlT.mono (fun H1 e Q q p hp => q _ _ (Ex.new hp) (.inr ⟨rfl, p, [], rfl, upd_same⟩)) (eq_cons PlT.mono (evp_pl (edK (ev_cs [53, 48, 9] (by decide +kernel)) fun _ => .str _) (by rw [FitD]; decide) (by decide) (by rw [octs, sev_lt (by decide)]; decide) (by rw [goodT]; decide +kernel))
      (eq_cons PlT.mono (evp_pl (d := .tup [.int ((1 : Nat) : Int), .lst [.int ((2 : Nat) : Int)]]) (ed_tup (er_cons (edK (ev_cn 1) fun _ => .int _) (er_cons (ed_lst (er_cons (edK (ev_cn 2) fun _ => .int _) er_nil) (by show 1 ≤ 100000; decide)) er_nil)) (by show 2 ≤ 100000; decide)) ?_ (by decide) ?_ ?_) (eq_cons PlT.mono (evp_pl (ed_nest (n := 41) (d := .int ((0 : Nat) : Int)) (ev_cn 41) (edK (ev_cn 0) fun _ => .int _) (by decide)) ?_ ?_ ?_ ?_) (eq_cons PlT.mono (evp_pl (ed_nest (n := 40) (d := .tup []) (ev_cn 40) (ed_tup er_nil (by decide)) (by decide)) ?_ ?_ ?_ ?_) eq_nil)))))) (by decide))
      (fun H1 σ' H' => Ex H1 H' ∧ ∃ y3 : Option V, σ' = [some (.ref a), some (.ref p), y2, y3, y4, y5, y6, y7]) (fun H8 e8 => ⟨Ex.refl _, _, rfl⟩) (fun _ _ _ h => h.1) ?_ ?_
    · rw [FitD, FitL, FitL, FitL, FitD, FitD] <;> first | exact ⟨by show 2 < 2 ^ 60; decide, by decide, trivial, trivial⟩ | (intros; contradiction)
    · rw [octs, octsL, octsL, octsL, octs, octs, if_pos (by decide), sev_lt (by decide), sev_lt (by decide)]
      decide
    · rw [goodT, goodL, goodL, goodL, goodT] <;> first | rfl | (intros; contradiction)
    · exact nest_f (by rw [FitD]; decide) 41
    · rw [nest_h]; decide
    · rw [nest_o, octs, if_pos (by decide), sev_lt (by decide)]
      decide
    · exact nest_no 41 0 (by decide) (.inl (by decide))
    · exact nest_f (by rw [FitD, FitL]; exact ⟨by decide, trivial⟩) 40
    · rw [nest_h]; decide
    · rw [nest_o, octs, octsL, sev_lt (by decide)]
      decide
    · exact nest_no 40 0 (by decide) (.inr (by rw [goodT]; rfl))
    · rintro H1 u σ' H2 e1 hu ⟨e2, y3, rfl⟩
      refine q_when (b := false) (et_test (ev_op (ev_plain (ev_v rfl) hu) ev_c (rv_val fun H7 e7 Q q => ⟨false, false, rfl, rfl, q⟩))) (fun z => nomatch z) fun _ H3 e3 => ?_
      exact r_dropE (r_callX (r_cons (r_var rfl (r_nil ⟨u, rfl, tells_no (hu.mono e3) fun H4 e4 => ⟨true, T_Misvalued.te, fun _ a' ha' => ⟨(e2.trans e3).trans e4, _, rfl⟩, fun z => nomatch z⟩⟩))))
    rintro H1 σ' H2 e1 ⟨e2, y3, rfl⟩
    refine q_forR (R := SmR) SmR.mono (el_R (n := 3) SmR.mono (eq_cons SmR.mono (evp_sm (ed_nest (n := 40) (d := .non) (ev_cn 40) (edK ev_c fun _ => .non) (by decide)) (nest_sm (by rw [Sm]; trivial) 40) (by rw [nest_h]; decide) ?_) (eq_cons SmR.mono (evp_sm (ed_nest (n := 39) (d := .tup []) (ev_cn 39) (ed_tup er_nil (by decide)) (by decide)) (nest_sm (by rw [Sm, SmL]; exact ⟨by decide, trivial⟩) 39) (by rw [nest_h]; decide) ?_) (eq_cons SmR.mono (evp_sm (ed_nest (n := 40) (d := .str [97]) (ev_cn 40) (edK (ev_cs [97] (by decide +kernel)) fun _ => .str _) (by decide)) (nest_sm (by rw [Sm]; exact ⟨by decide, by decide +kernel⟩) 40) (by rw [nest_h]; decide) ?_) eq_nil))) (by decide))
      (fun H1 σ' H' => Ex H1 H' ∧ ∃ y3 y4 : Option V, σ' = [some (.ref a), some (.ref p), y2, y3, y4, y5, y6, y7]) (fun H8 e8 => ⟨Ex.refl _, _, _, rfl⟩) (fun _ _ _ h => h.1) ?_ ?_
    · rw [nest_o, octs]; decide
    · rw [nest_o, octs, octsL, sev_lt (by decide)]; decide
    · rw [nest_o, octs, sev_lt (by decide)]; decide
    · rintro H3 v σ' H4 e3 ⟨d, rv, sm, hh, ho⟩ ⟨e4, y3, y4, rfl⟩
      have hpl := sm.pln
      have h256 := octs_256 d hpl
      refine q_asgL (el_cal (ea_cons (ev_v rfl) ea_nil) fun H5 e5 => ⟨v, d, rfl, rv.mono e5, hpl, by omega, by omega, rfl⟩) fun dl H5 hdl e5 h5 => ?_
      have rv5 := rv.mono e5
      have wn := wid_nums (l := octs d) (by omega)
      exact s_when (b := false) (et_or (a := false) (b := false) (et_not (a := true) (et_B (ev_same2 (d1 := numsD (octs d)) (edL (evp_told (ed_var rfl rv5) hpl (by omega) (by omega))) (edL (evl_k (ev_v rfl) h5)) wn.1 (by rw [wn.2]; decide) (sameD_refl _)))) fun _ => et_not (a := true) (et_B (ev_same2 (d1 := d) (ed_vof (evl_k (ev_v rfl) h5) (by omega) h256 (run_numB sm) (reads_rt hpl (by omega))) (ed_var rfl rv5) (wid_sm sm) (by omega) (sameD_refl _)))) (fun z => nomatch z) fun _ H6 e6 => ⟨(e4.trans e5).trans e6, _, _, rfl⟩
    rintro H3 σ' H4 e3 ⟨e4, y3, y4, rfl⟩
    refine s_ret (ev_is (ev_andV (a := true) (ev_rd (data := deepL) ?_ (by decide +kernel) (fun c hc => Nat.lt_trans (deep_low c hc) (by decide)) (low_run _ 6 0 deep_low) mis_deep) fun _ => ev_andV (a := true) (ev_rd (data := []) (evl_n (el_lst ea_nil (by decide))) (by decide) (by decide) (by rw [Run]; trivial) mis_nil) fun _ => ev_andV (a := true) (b := true) (ev_rd (data := [3, 128, 0]) (evl_n (el_lst (ea_cons (ev_cn 3) (ea_cons (ev_cn 128) (ea_cons (ev_cn 0) ea_nil))) (by show 3 ≤ 100000; decide))) (by decide) (by decide) (by simp [Run]) mis_zero) fun _ => ev_rd (data := [7]) (evl_n (el_lst (ea_cons (ev_cn 7) ea_nil) (by show 1 ≤ 100000; decide))) (by decide) (by decide) (by simp [Run]) mis_seven) rfl) fun H5 e5 => q H5
    unfold deepL
    rw [nats_app]
    exact evl_n (el_cat (evl_n (by
      have := el_rep (xs := nats [6, 1]) (σ := [some (V.ref a), some (.ref p), y2, y3, y4, y5, y6, y7]) (H := H4) (k := 41) (evl_n (el_lst (ea_cons (ev_cn 6) (ea_cons (ev_cn 1) ea_nil)) (by show 2 ≤ 100000; decide))) (ev_cn 41) (by decide) (by decide)
      exact this)) (evl_n (el_lst (ea_cons (ev_cn 0) ea_nil) (by show 1 ≤ 100000; decide))) (by decide +kernel))
end
end K00

set_option Elab.async false
set_option linter.all false
set_option maxRecDepth 100000
set_option maxHeartbeats 4000000
namespace K00
open PySem PySem.Spec PyProof.Rows L2 Evl My
theorem all_mk {l : PySem.W.OpenLaw} {w : World} {K : PySem.W.Frag} {h : Heap} {mg : Str → Option Value} {fa C Cv Cm : Addr} {tx_Misvalued : Str} (X : K.In h) (G : h.Ns mainGlobals mg) (hfa : mg "law" = some (.ref fa))
    (aC : PySem.W.nsIn K mainGlobals "Taker" = some (some (.ref C))) (pg : PySem.W.plainGet K C Str.empty = true) (hd : PySem.W.hasDictIn K C = true) (po : PySem.W.plainOver K C = true) (sa : PySem.W.findIn K (.ref C) "__setattr__" = some (some (.builtin "object.__setattr__"))) (mk : PySem.W.makesIn K C = true) (kc : PySem.W.keepIn K (.ref C) = true)
    (n_data : PySem.W.findIn K (.ref C) "data" = some none)
    (n_at : PySem.W.findIn K (.ref C) "at" = some none)
    (h_law_mixed : HasF K "_law_mixed" s_law_mixed)
    (h_law_rest : HasF K "_law_rest" s_law_rest)
    (h_law_pool : HasF K "_law_pool" s_law_pool)
    (h_law_next : HasF K "_law_next" s_law_next)
    (h_law_draw : HasF K "_law_draw" s_law_draw)
    (h_law_pick : HasF K "_law_pick" s_law_pick)
    (h_law_value : HasF K "_law_value" s_law_value)
    (h_law_sevens : HasF K "_law_sevens" s_law_sevens)
    (h_law_signs : HasF K "_law_signs" s_law_signs)
    (h_law_octets : HasF K "_law_octets" s_law_octets)
    (h_law_same : HasF K "_law_same" s_law_same)
    (h_number_told : HasF K "number_told" s_number_told)
    (h_text_told : HasF K "text_told" s_text_told)
    (h_told_at : HasF K "told_at" s_told_at)
    (h_told : HasF K "told" s_told)
    (h_Taker_octet : HasM K C "octet" "Taker.octet" s_Taker_octet)
    (h_Taker_number : HasM K C "number" "Taker.number" s_Taker_number)
    (h_Taker_value : HasM K C "value" "Taker.value" s_Taker_value)
    (h_Taker___init__ : HasM K C "__init__" "Taker.__init__" s_Taker___init__)
    (h_value_of : HasF K "value_of" s_value_of)
    (h_is_plain : HasF K "is_plain" s_is_plain)
    (h_law_reads : HasF K "_law_reads" s_law_reads)
    (h_law_read : HasF K "_law_read" s_law_read)
    (h_law_misread : HasF K "_law_misread" s_law_misread)
    (h_law_nested : HasF K "_law_nested" s_law_nested)
    (h_law : HasF K "law" s_law)
    (z_len : PySem.W.nsIn K mainGlobals "len" = some none)
    (z_list : PySem.W.nsIn K mainGlobals "list" = some none)
    (z_int : PySem.W.nsIn K mainGlobals "int" = some none)
    (z_isinstance : PySem.W.nsIn K mainGlobals "isinstance" = some none)
    (z_range : PySem.W.nsIn K mainGlobals "range" = some none)
    (z_zip : PySem.W.nsIn K mainGlobals "zip" = some none)
    (z_all : PySem.W.nsIn K mainGlobals "all" = some none)
    (z_any : PySem.W.nsIn K mainGlobals "any" = some none)
    (z_tuple : PySem.W.nsIn K mainGlobals "tuple" = some none)
    (z_str : PySem.W.nsIn K mainGlobals "str" = some none)
    (z_dict : PySem.W.nsIn K mainGlobals "dict" = some none)
    (z_bool : PySem.W.nsIn K mainGlobals "bool" = some none)
    (z_sorted : PySem.W.nsIn K mainGlobals "sorted" = some none)
    (z_min : PySem.W.nsIn K mainGlobals "min" = some none)
    (z_max : PySem.W.nsIn K mainGlobals "max" = some none)
    (z_set : PySem.W.nsIn K mainGlobals "set" = some none)
    (z_enumerate : PySem.W.nsIn K mainGlobals "enumerate" = some none)
    (z_sum : PySem.W.nsIn K mainGlobals "sum" = some none)
    (i_MOST_TUPLES : HasI K "MOST_TUPLES" 40)
    (s_SIGNS : HasS K "SIGNS" signsS)
    (u_Misvalued : HasS0 l.prog K "Misvalued" "Misvalued.__init__" tx_Misvalued Cv)
    (u_Misread : HasS1 l.prog K "Misread" "Misread.__init__" Cm) :
    ∃ fd : FuncData, (∀ (s : Shared) (v : Value), BindsTo s fd ⟨[v], []⟩ [("script", v)]) ∧ ∀ base : Heap, K.In base → base.Ns mainGlobals mg → FnOk l.prog w K mg base CX0 48 fa fd ["script"] (sp_law K) := by
  have N : Nb mg := ⟨PySem.W.mg_none_of X G z_len, PySem.W.mg_none_of X G z_list, PySem.W.mg_none_of X G z_int, PySem.W.mg_none_of X G z_isinstance, PySem.W.mg_none_of X G z_range, PySem.W.mg_none_of X G z_zip, PySem.W.mg_none_of X G z_all, PySem.W.mg_none_of X G z_any, PySem.W.mg_none_of X G z_tuple, PySem.W.mg_none_of X G z_str, PySem.W.mg_none_of X G z_dict, PySem.W.mg_none_of X G z_bool, PySem.W.mg_none_of X G z_sorted, PySem.W.mg_none_of X G z_min, PySem.W.mg_none_of X G z_max, PySem.W.mg_none_of X G z_set, PySem.W.mg_none_of X G z_enumerate, PySem.W.mg_none_of X G z_sum⟩
  have g_MOST_TUPLES := i_MOST_TUPLES.gi X G
  have g_SIGNS := s_SIGNS.gs X G
  obtain ⟨a_Misvalued, b_Misvalued, mk_Misvalued⟩ := u_Misvalued
  obtain ⟨fi_Misvalued, cd_Misvalued, ce_Misvalued, T_Misvalued⟩ := mk_Misvalued mg (PySem.W.mg_of X G a_Misvalued) (PySem.W.mg_none_of X G b_Misvalued)
  obtain ⟨a_Misread, b_Misread, mk_Misread⟩ := u_Misread
  obtain ⟨fi_Misread, cd_Misread, ce_Misread, T_Misread⟩ := mk_Misread mg (PySem.W.mg_of X G a_Misread) (PySem.W.mg_none_of X G b_Misread)
  have T : RT K mg C := ⟨⟨pg, hd, po, sa⟩, n_data, n_at⟩
  obtain ⟨f_law_mixed, fd_law_mixed, F_law_mixed, m_law_mixed⟩ := h_law_mixed.get X G
  obtain ⟨f_law_rest, fd_law_rest, F_law_rest, m_law_rest⟩ := h_law_rest.get X G
  obtain ⟨f_law_pool, fd_law_pool, F_law_pool, m_law_pool⟩ := h_law_pool.get X G
  obtain ⟨f_law_next, fd_law_next, F_law_next, m_law_next⟩ := h_law_next.get X G
  obtain ⟨f_law_draw, fd_law_draw, F_law_draw, m_law_draw⟩ := h_law_draw.get X G
  obtain ⟨f_law_pick, fd_law_pick, F_law_pick, m_law_pick⟩ := h_law_pick.get X G
  obtain ⟨f_law_value, fd_law_value, F_law_value, m_law_value⟩ := h_law_value.get X G
  obtain ⟨f_law_sevens, fd_law_sevens, F_law_sevens, m_law_sevens⟩ := h_law_sevens.get X G
  obtain ⟨f_law_signs, fd_law_signs, F_law_signs, m_law_signs⟩ := h_law_signs.get X G
  obtain ⟨f_law_octets, fd_law_octets, F_law_octets, m_law_octets⟩ := h_law_octets.get X G
  obtain ⟨f_law_same, fd_law_same, F_law_same, m_law_same⟩ := h_law_same.get X G
  obtain ⟨f_number_told, fd_number_told, F_number_told, m_number_told⟩ := h_number_told.get X G
  obtain ⟨f_text_told, fd_text_told, F_text_told, m_text_told⟩ := h_text_told.get X G
  obtain ⟨f_told_at, fd_told_at, F_told_at, m_told_at⟩ := h_told_at.get X G
  obtain ⟨f_told, fd_told, F_told, m_told⟩ := h_told.get X G
  obtain ⟨f_Taker_octet, fd_Taker_octet, F_Taker_octet, m_Taker_octet⟩ := h_Taker_octet.get
  obtain ⟨f_Taker_number, fd_Taker_number, F_Taker_number, m_Taker_number⟩ := h_Taker_number.get
  obtain ⟨f_Taker_value, fd_Taker_value, F_Taker_value, m_Taker_value⟩ := h_Taker_value.get
  obtain ⟨f_Taker___init__, fd_Taker___init__, F_Taker___init__, m_Taker___init__⟩ := h_Taker___init__.get
  obtain ⟨f_value_of, fd_value_of, F_value_of, m_value_of⟩ := h_value_of.get X G
  obtain ⟨f_is_plain, fd_is_plain, F_is_plain, m_is_plain⟩ := h_is_plain.get X G
  obtain ⟨f_law_reads, fd_law_reads, F_law_reads, m_law_reads⟩ := h_law_reads.get X G
  obtain ⟨f_law_read, fd_law_read, F_law_read, m_law_read⟩ := h_law_read.get X G
  obtain ⟨f_law_misread, fd_law_misread, F_law_misread, m_law_misread⟩ := h_law_misread.get X G
  obtain ⟨f_law_nested, fd_law_nested, F_law_nested, m_law_nested⟩ := h_law_nested.get X G
  obtain ⟨f0, oc, od, kV, dc, pm, an, cd, ct, sl, a0, l0, c0, k0⟩ := h_law
  have e := hfa.symm.trans (PySem.W.mg_of X G a0)
  cases e
  have F_law := fun_mk (st := s_law) l0 c0 k0
  refine ⟨PySem.W.fnOf "law" "law" (defArgs s_law) (defBody s_law) (defScope s_law) .none kV dc pm an cd ct, fun s v => .of_eq rfl, fun base _ _ => ?_⟩
  have C_law_mixed : Cal l.prog w K mg base 1 "_law_mixed" ["number", "place"] (spV ok_mixed_) := ⟨f_law_mixed, fd_law_mixed, fn_mixed_ (k := 0) F_law_mixed N, F_law_mixed.binds (ps := ["number", "place"]) (fun _ _ _ _ _ _ us hl => match us, hl with | [_, _], _ => rfl), F_law_mixed.kp, m_law_mixed⟩
  have C_law_rest : Cal l.prog w K mg base 2 "_law_rest" ["script", "place", "fills"] (spV (ok_rest_ K)) := ⟨f_law_rest, fd_law_rest, fn_rest_ (k := 1) F_law_rest N C_law_mixed, F_law_rest.binds (ps := ["script", "place", "fills"]) (fun _ _ _ _ _ _ us hl => match us, hl with | [_, _, _], _ => rfl), F_law_rest.kp, m_law_rest⟩
  have C_law_pool : Cal l.prog w K mg base 3 "_law_pool" ["script"] (spL (ok_pool_ K)) := ⟨f_law_pool, fd_law_pool, fn_pool_ (k := 2) F_law_pool N C_law_rest, F_law_pool.binds (ps := ["script"]) (fun _ _ _ _ _ _ us hl => match us, hl with | [_], _ => rfl), F_law_pool.kp, m_law_pool⟩
  have C_law_next : Cal l.prog w K mg base 3 "_law_next" ["pool"] (sp_next K) := ⟨f_law_next, fd_law_next, fn_next (k := 2) F_law_next N C_law_rest, F_law_next.binds (ps := ["pool"]) (fun _ _ _ _ _ _ us hl => match us, hl with | [_], _ => rfl), F_law_next.kp, m_law_next⟩
  have C_law_draw : Cal l.prog w K mg base 3 "_law_draw" ["pool", "limit"] (sp_draw K) := ⟨f_law_draw, fd_law_draw, fn_draw (k := 2) F_law_draw N C_law_rest, F_law_draw.binds (ps := ["pool", "limit"]) (fun _ _ _ _ _ _ us hl => match us, hl with | [_, _], _ => rfl), F_law_draw.kp, m_law_draw⟩
  have C_law_pick : Cal l.prog w K mg base 4 "_law_pick" ["pool", "options"] (sp_pick K) := ⟨f_law_pick, fd_law_pick, fn_pick (k := 3) F_law_pick N C_law_draw, F_law_pick.binds (ps := ["pool", "options"]) (fun _ _ _ _ _ _ us hl => match us, hl with | [_, _], _ => rfl), F_law_pick.kp, m_law_pick⟩
  have C_law_value := cal_value (P := l.prog) (w := w) (base := base) (k := 4) F_law_value (F_law_value.binds (ps := ["pool", "deep"]) (fun _ _ _ _ _ _ us hl => match us, hl with | [_, _], _ => rfl)) F_law_value.kp m_law_value N (C_law_draw.mono (by decide)) C_law_pick 4
  have C_law_sevens : Cal l.prog w K mg base 1 "_law_sevens" ["number"] (spL ok_number_told) := ⟨f_law_sevens, fd_law_sevens, fn_sevens (k := 0) F_law_sevens N, F_law_sevens.binds (ps := ["number"]) (fun _ _ _ _ _ _ us hl => match us, hl with | [_], _ => rfl), F_law_sevens.kp, m_law_sevens⟩
  have C_law_signs : Cal l.prog w K mg base 1 "_law_signs" [] (spV ok_signs) := ⟨f_law_signs, fd_law_signs, fn_signs (k := 0) F_law_signs N, F_law_signs.binds (ps := []) (fun _ _ _ _ _ _ us hl => match us, hl with | [], _ => rfl), F_law_signs.kp, m_law_signs⟩
  have C_law_octets := cal_octets (P := l.prog) (w := w) (base := base) (k := 1) F_law_octets (F_law_octets.binds (ps := ["value"]) (fun _ _ _ _ _ _ us hl => match us, hl with | [_], _ => rfl)) F_law_octets.kp m_law_octets N C_law_sevens C_law_signs 43
  have C_law_same := cal_same (P := l.prog) (w := w) (base := base) (k := 0) F_law_same (F_law_same.binds (ps := ["actual", "due"]) (fun _ _ _ _ _ _ us hl => match us, hl with | [_, _], _ => rfl)) F_law_same.kp m_law_same N 43
  have C_number_told : Cal l.prog w K mg base 1 "number_told" ["number"] (spL ok_number_told) := ⟨f_number_told, fd_number_told, fn_number_told (k := 0) F_number_told N, F_number_told.binds (ps := ["number"]) (fun _ _ _ _ _ _ us hl => match us, hl with | [_], _ => rfl), F_number_told.kp, m_number_told⟩
  have C_text_told : CalX l.prog w K mg base 2 "text_told" ["text"] (sp_text_told Cv) := ⟨f_text_told, fd_text_told, fn_text_told (k := 1) F_text_told N T_Misvalued g_SIGNS C_number_told, F_text_told.binds (ps := ["text"]) (fun _ _ _ _ _ _ us hl => match us, hl with | [_], _ => rfl), F_text_told.kp, m_text_told⟩
  have C_told_at := cal_told_at (P := l.prog) (w := w) (base := base) (k := 2) F_told_at (F_told_at.binds (ps := ["value", "tuples"]) (fun _ _ _ _ _ _ us hl => match us, hl with | [_, _], _ => rfl)) F_told_at.kp m_told_at N T_Misvalued g_MOST_TUPLES (C_number_told.mono (by decide)) C_text_told 43
  have C_told : CalX l.prog w K mg base 46 "told" ["value"] (sp_told Cv) := ⟨f_told, fd_told, fn_told (k := 45) F_told N C_told_at, F_told.binds (ps := ["value"]) (fun _ _ _ _ _ _ us hl => match us, hl with | [_], _ => rfl), F_told.kp, m_told⟩
  have M_Taker_octet : MCalX l.prog w K mg base 1 C "octet" ["self", "most"] (sp_oct C Cm) := ⟨f_Taker_octet, fd_Taker_octet, fn_octet (k := 0) F_Taker_octet N T T_Misread, F_Taker_octet.binds (ps := ["self", "most"]) (fun _ _ _ _ _ _ us hl => match us, hl with | [_, _], _ => rfl), m_Taker_octet⟩
  have M_Taker_number : MCalX l.prog w K mg base 2 C "number" ["self"] (sp_num C Cm) := ⟨f_Taker_number, fd_Taker_number, fn_number (k := 1) F_Taker_number N T T_Misread M_Taker_octet, F_Taker_number.binds (ps := ["self"]) (fun _ _ _ _ _ _ us hl => match us, hl with | [_], _ => rfl), m_Taker_number⟩
  have M_Taker_value := cal_value_ (P := l.prog) (w := w) (base := base) (k := 2) F_Taker_value (F_Taker_value.binds (ps := ["self", "tuples"]) (fun _ _ _ _ _ _ us hl => match us, hl with | [_, _], _ => rfl)) m_Taker_value N T g_MOST_TUPLES g_SIGNS (M_Taker_octet.mono (by decide)) M_Taker_number 41
  have M_new : MkC l.prog w K mg base 1 "Taker" C ["self", "data"] (sp_init C) := ⟨f_Taker___init__, fd_Taker___init__, fn_init (k := 0) F_Taker___init__ N T, F_Taker___init__.binds (ps := ["self", "data"]) (fun _ _ _ _ _ _ us hl => match us, hl with | [_, _], _ => rfl), ⟨mk, m_Taker___init__.at_, m_Taker___init__.fn, kc⟩, PySem.W.mg_of X G aC⟩
  have C_value_of : CalX l.prog w K mg base 44 "value_of" ["data"] (sp_vof Cm) := ⟨f_value_of, fd_value_of, fn_value_of (k := 43) F_value_of N T T_Misread M_new (by decide) M_Taker_value, F_value_of.binds (ps := ["data"]) (fun _ _ _ _ _ _ us hl => match us, hl with | [_], _ => rfl), F_value_of.kp, m_value_of⟩
  have C_is_plain : Cal l.prog w K mg base 47 "is_plain" ["value"] sp_plain := ⟨f_is_plain, fd_is_plain, fn_plain (k := 46) F_is_plain N T_Misvalued C_told, F_is_plain.binds (ps := ["value"]) (fun _ _ _ _ _ _ us hl => match us, hl with | [_], _ => rfl), F_is_plain.kp, m_is_plain⟩
  have C_law_reads : Cal l.prog w K mg base 45 "_law_reads" ["data"] (spV ok_mis) := ⟨f_law_reads, fd_law_reads, fn_reads (k := 44) F_law_reads N T_Misread C_value_of, F_law_reads.binds (ps := ["data"]) (fun _ _ _ _ _ _ us hl => match us, hl with | [_], _ => rfl), F_law_reads.kp, m_law_reads⟩
  have C_law_read := cal_read (P := l.prog) (w := w) (base := base) (k := 0) F_law_read (F_law_read.binds (ps := ["data", "at", "around"]) (fun _ _ _ _ _ _ us hl => match us, hl with | [_, _, _], _ => rfl)) F_law_read.kp m_law_read N 41
  have C_law_misread : Cal l.prog w K mg base 42 "_law_misread" ["data"] (spV ok_mis) := ⟨f_law_misread, fd_law_misread, fn_misread (k := 41) F_law_misread N C_law_read, F_law_misread.binds (ps := ["data"]) (fun _ _ _ _ _ _ us hl => match us, hl with | [_], _ => rfl), F_law_misread.kp, m_law_misread⟩
  have C_law_nested : Cal l.prog w K mg base 1 "_law_nested" ["many", "inner"] (spD ok_nested) := ⟨f_law_nested, fd_law_nested, fn_nested (k := 0) F_law_nested N, F_law_nested.binds (ps := ["many", "inner"]) (fun _ _ _ _ _ _ us hl => match us, hl with | [_, _], _ => rfl), F_law_nested.kp, m_law_nested⟩
  exact fn_law (k := 47) F_law N T_Misvalued (C_law_pool.mono (by decide)) (C_law_next.mono (by decide)) (C_law_draw.mono (by decide)) (C_law_value.mono (by decide)) (C_law_octets.mono (by decide)) (C_law_same.mono (by decide)) (C_told.mono (by decide)) (C_value_of.mono (by decide)) C_is_plain (C_law_reads.mono (by decide)) (C_law_misread.mono (by decide)) (C_law_nested.mono (by decide))
end K00
open PySem PySem.W PyProof.Rows
set_option maxHeartbeats 0 in
theorem PySem.Challenge.cw_lineage_k00_whole_values_and_octets_holds : PySem.Challenge.rw_lineage_k00_whole_values_and_octets.Holds := by
  w_on; o_law; k_head; (case hw => w_witness2)
  k_fill
  refine L2.walk_of (l := PySem.Challenge.rw_lineage_k00_whole_values_and_octets) (n := 63) (k := 48) (x := "script") (CX := fun _ => L2.CX0) (sp := fun w => K00.sp_law _) rfl (by decide) rfl ⟨rfl, by decide, by decide⟩ (fun w h Y => PySem.W.kIn_of Y) ?F (fun _ _ a ns hl _ hS => ⟨a, ns, rfl, hS, fun _ => rfl⟩) (fun _ _ _ _ _ h => h)
  case F =>
    intro w mg fa h KX G hmg
    refine' K00.all_mk KX G hmg ?q0 ?q1 ?q2 ?q3 ?q4 ?q5 ?q6 ?q7 ?q8 ?q9 ?q10 ?q11 ?q12 ?q13 ?q14 ?q15 ?q16 ?q17 ?q18 ?q19 ?q20 ?q21 ?q22 ?q23 ?q24 ?q25 ?q26 ?q27 ?q28 ?q29 ?q30 ?q31 ?q32 ?q33 ?q34 ?q35 ?q36 ?q37 ?q38 ?q39 ?q40 ?q41 ?q42 ?q43 ?q44 ?q45 ?q46 ?q47 ?q48 ?q49 ?q50 ?q51 ?q52 ?q53 ?q54 ?q55 ?q56
    case q0 => k_is
    case q1 => k_is
    case q2 => k_is
    case q3 => k_is
    case q4 => k_is
    case q5 => k_is
    case q6 => k_is
    case q7 => k_is
    case q8 => k_is
    case q9 => (refine' My.HasF.mk' ?a ?l ?c ?k; (case a => k_is); (case l => k_is); (case c => k_is); (case k => k_is))
    case q10 => (refine' My.HasF.mk' ?a ?l ?c ?k; (case a => k_is); (case l => k_is); (case c => k_is); (case k => k_is))
    case q11 => (refine' My.HasF.mk' ?a ?l ?c ?k; (case a => k_is); (case l => k_is); (case c => k_is); (case k => k_is))
    case q12 => (refine' My.HasF.mk' ?a ?l ?c ?k; (case a => k_is); (case l => k_is); (case c => k_is); (case k => k_is))
    case q13 => (refine' My.HasF.mk' ?a ?l ?c ?k; (case a => k_is); (case l => k_is); (case c => k_is); (case k => k_is))
    case q14 => (refine' My.HasF.mk' ?a ?l ?c ?k; (case a => k_is); (case l => k_is); (case c => k_is); (case k => k_is))
    case q15 => (refine' My.HasF.mk' ?a ?l ?c ?k; (case a => k_is); (case l => k_is); (case c => k_is); (case k => k_is))
    case q16 => (refine' My.HasF.mk' ?a ?l ?c ?k; (case a => k_is); (case l => k_is); (case c => k_is); (case k => k_is))
    case q17 => (refine' My.HasF.mk' ?a ?l ?c ?k; (case a => k_is); (case l => k_is); (case c => k_is); (case k => k_is))
    case q18 => (refine' My.HasF.mk' ?a ?l ?c ?k; (case a => k_is); (case l => k_is); (case c => k_is); (case k => k_is))
    case q19 => (refine' My.HasF.mk' ?a ?l ?c ?k; (case a => k_is); (case l => k_is); (case c => k_is); (case k => k_is))
    case q20 => (refine' My.HasF.mk' ?a ?l ?c ?k; (case a => k_is); (case l => k_is); (case c => k_is); (case k => k_is))
    case q21 => (refine' My.HasF.mk' ?a ?l ?c ?k; (case a => k_is); (case l => k_is); (case c => k_is); (case k => k_is))
    case q22 => (refine' My.HasF.mk' ?a ?l ?c ?k; (case a => k_is); (case l => k_is); (case c => k_is); (case k => k_is))
    case q23 => (refine' My.HasF.mk' ?a ?l ?c ?k; (case a => k_is); (case l => k_is); (case c => k_is); (case k => k_is))
    case q24 => (refine' My.HasM.mk' ?a ?i ?l ?c ?k; (case a => k_is); (case i => k_is); (case l => k_is); (case c => k_is); (case k => k_is))
    case q25 => (refine' My.HasM.mk' ?a ?i ?l ?c ?k; (case a => k_is); (case i => k_is); (case l => k_is); (case c => k_is); (case k => k_is))
    case q26 => (refine' My.HasM.mk' ?a ?i ?l ?c ?k; (case a => k_is); (case i => k_is); (case l => k_is); (case c => k_is); (case k => k_is))
    case q27 => (refine' My.HasM.mk' ?a ?i ?l ?c ?k; (case a => k_is); (case i => k_is); (case l => k_is); (case c => k_is); (case k => k_is))
    case q28 => (refine' My.HasF.mk' ?a ?l ?c ?k; (case a => k_is); (case l => k_is); (case c => k_is); (case k => k_is))
    case q29 => (refine' My.HasF.mk' ?a ?l ?c ?k; (case a => k_is); (case l => k_is); (case c => k_is); (case k => k_is))
    case q30 => (refine' My.HasF.mk' ?a ?l ?c ?k; (case a => k_is); (case l => k_is); (case c => k_is); (case k => k_is))
    case q31 => (refine' My.HasF.mk' ?a ?l ?c ?k; (case a => k_is); (case l => k_is); (case c => k_is); (case k => k_is))
    case q32 => (refine' My.HasF.mk' ?a ?l ?c ?k; (case a => k_is); (case l => k_is); (case c => k_is); (case k => k_is))
    case q33 => (refine' My.HasF.mk' ?a ?l ?c ?k; (case a => k_is); (case l => k_is); (case c => k_is); (case k => k_is))
    case q34 => (refine' My.HasF.mk' ?a ?l ?c ?k; (case a => k_is); (case l => k_is); (case c => k_is); (case k => k_is))
    case q35 => k_is
    case q36 => k_is
    case q37 => k_is
    case q38 => k_is
    case q39 => k_is
    case q40 => k_is
    case q41 => k_is
    case q42 => k_is
    case q43 => k_is
    case q44 => k_is
    case q45 => k_is
    case q46 => k_is
    case q47 => k_is
    case q48 => k_is
    case q49 => k_is
    case q50 => k_is
    case q51 => k_is
    case q52 => k_is
    case q53 => (refine' My.HasI.mk' ?a; (case a => k_is))
    case q54 => (refine' My.HasS.mk' ?a; (case a => k_is))
    case q55 => (refine' My.HasS0.mk' ?a ?s ?c1 ?c2 ?sa ?ga ?gg ?iC ?f1 ?f2 ?f3 ?tC ?kC ?exC ?tyC ?hdC ?te ?sup ?subV ?own ?thp ?e1 ?d1 ?d2 ?d3 ?top; (case a => k_is); (case s => k_is); (case c1 => k_is); (case c2 => rfl); (case sa => k_is); (case ga => k_is); (case gg => k_is); (case iC => k_is); (case f1 => k_is); (case f2 => k_is); (case f3 => rfl); (case tC => k_is); (case kC => k_is); (case exC => k_is); (case tyC => k_is); (case hdC => k_is); (case te => kernel_rfl); (case sup => kernel_rfl); (case subV => k_is); (case own => k_is); (case thp => k_is); (case e1 => k_is); (case d1 => k_is); (case d2 => rfl); (case d3 => decide +kernel); (case top => decide +kernel))
    case q56 => (refine' My.HasS1.mk' ?a ?s ?c1 ?c2 ?sa ?ga ?gg ?iC ?f1 ?f2 ?f3 ?tC ?kC ?exC ?tyC ?hdC ?te ?sup ?subV ?own ?thp ?e1 ?d1 ?d2 ?d3 ?top ?noN; (case a => k_is); (case s => k_is); (case c1 => k_is); (case c2 => rfl); (case sa => k_is); (case ga => k_is); (case gg => k_is); (case iC => k_is); (case f1 => k_is); (case f2 => k_is); (case f3 => rfl); (case tC => k_is); (case kC => k_is); (case exC => k_is); (case tyC => k_is); (case hdC => k_is); (case te => kernel_rfl); (case sup => kernel_rfl); (case subV => k_is); (case own => k_is); (case thp => k_is); (case e1 => k_is); (case d1 => k_is); (case d2 => rfl); (case d3 => decide +kernel); (case top => decide +kernel); (case noN => k_is))

