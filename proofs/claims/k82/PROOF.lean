import PyProof.Rows.All
import Wide.All
import OpenK.AllK
import Wide.FinOn
import HandS.ForMost
import HandS.Evl
import HandS.Wide
import HandS.IsInst
import HandS.NoneIn
import HandS.Style
import HandS.Replace
import KE.GoesZip
import KE.GoesMore
import KE.GoesEnumKw
import HandS.More
import PyProof.Rows.SortShellAny
import HandS.Iter
import PyProof.Rows.StrMeet
import PyProof.NeData
import PyProof.P3Eq
import HandS.SortOrd
import HandS.Conv
import KE.KSortTupAny
import HandS.DictComp
import HandS.HeadHook3
import KE.KDictOf
import HandS.TupAny
import HandS.Zip
import KE.KDictDisplayH
import HandS.SetKeys
import HandS.TryOnly
import KE.KDictLaws
import HandS.WordsDict
import PySem.Challenge.RW_lineage_k82_whole_bundles
set_option Elab.async false
set_option linter.all false
set_option maxRecDepth 100000
/-! My own layer over HandS: callable defs bundled, globals bundled, readings at Nat. -/
namespace My
open PySem PySem.Spec PyProof.Rows L2 Evl

/-- a def that the module's name x holds, with its promise, at level k -/
structure Cal (P : Program) (w : World) (K : PySem.W.Frag) (mg : Str → Option Value) (base : Heap) (k : Nat) (x : Str) (ps : List Str) (sp : Sp) : Prop where
  ex : ∃ f fd, FnOk P w K mg base CX0 k f fd ps sp ∧ Binds K fd ps [] ∧ PySem.W.keepIn K (.ref f) = true ∧ mg x = some (.ref f)
theorem Cal.mono {P : Program} {w : World} {K : PySem.W.Frag} {mg : Str → Option Value} {base : Heap} {j k : Nat} {x : Str} {ps : List Str} {sp : Sp} (C : Cal P w K mg base j x ps sp) (h : j ≤ k) : Cal P w K mg base k x ps sp := by
  obtain ⟨f, fd, F, b, kp, m⟩ := C.ex
  exact ⟨f, fd, F.mono h, b, kp, m⟩
theorem Cal.imp {P : Program} {w : World} {K : PySem.W.Frag} {mg : Str → Option Value} {base : Heap} {k : Nat} {x : Str} {ps : List Str} {sp sp' : Sp} (C : Cal P w K mg base k x ps sp)
    (h : ∀ vs H Q E, sp' vs H Q E → sp vs H Q E) : Cal P w K mg base k x ps sp' := by
  obtain ⟨f, fd, F, b, kp, m⟩ := C.ex
  exact ⟨f, fd, F.imp h, b, kp, m⟩
theorem pe_cal {X : Cx} {k j : Nat} {x : Str} {ps : List Str} {sp : Sp} {e : Expr} {es : List Expr} {t : TA} {p pos : Pos} (C : Cal X.prog X.w X.K X.mg X.base k x ps sp) (hr : Room j X.A) (ha : PA X (e :: es) t) (hle : k ≤ j := by first | exact Nat.le_refl _ | decide | omega) (hg : Gl X x := by rfl)
    (hdb : (x == ("__debug__" : Str)) = false := by decide) (hs : starEach (e :: es) X.env = (false, eval e X.env) :: starEach es X.env := by rfl) (hplain : (backTo pos (starEach es X.env)).any (·.1) = false := by rfl) :
    PE X (.Call (.Name x p) (e :: es) [] pos) (tCall sp [] E0 t) := by
  obtain ⟨f, fd, F, b, kp, m⟩ := C.ex
  exact pe_call F (hr.mono hle) hg m kp b .nil pass0 ha hdb hs hplain
theorem pe_cal0 {X : Cx} {k j : Nat} {x : Str} {ps : List Str} {sp : Sp} {p pos : Pos} (C : Cal X.prog X.w X.K X.mg X.base k x ps sp) (hr : Room j X.A) (hle : k ≤ j := by first | exact Nat.le_refl _ | decide | omega) (hg : Gl X x := by rfl) (hdb : (x == ("__debug__" : Str)) = false := by decide) :
    PE X (.Call (.Name x p) [] [] pos) (tCall sp [] E0 tNil) := by
  obtain ⟨f, fd, F, b, kp, m⟩ := C.ex
  exact pe_call0 F (hr.mono hle) hg m kp b .nil pass0 hdb

/-- globals -/
def GI (mg : Str → Option Value) (x : Str) (n : Int) : Prop := ∃ t, mg x = some (.int n t)
def GS (mg : Str → Option Value) (x : Str) (z : Str) : Prop := ∃ t, mg x = some (.str z t)
/-- a tuple of the module's top -/
def GT (K : PySem.W.Frag) (mg : Str → Option Value) (x : Str) (xs : List V) : Prop := ∃ a, mg x = some (.ref a) ∧ ∀ H, SqT K H a xs
theorem pe_gi {X : Cx} {x : Str} {n : Int} {pos : Pos} (g : GI X.mg x n) (hg : Gl X x := by rfl) (hd : (x == ("__debug__" : Str)) = false := by decide) : PE X (.Name x pos) (tC (.int n)) := by
  obtain ⟨t, m⟩ := g
  exact pe_glob hg m ⟨t, rfl⟩ hd
theorem pe_gs {X : Cx} {x : Str} {z : Str} {pos : Pos} (g : GS X.mg x z) (hg : Gl X x := by rfl) (hd : (x == ("__debug__" : Str)) = false := by decide) : PE X (.Name x pos) (tC (.str z)) := by
  obtain ⟨t, m⟩ := g
  exact pe_glob hg m ⟨t, rfl⟩ hd
def tGT (K : PySem.W.Frag) (xs : List V) : TE := fun _ H Q => ∀ a, (∀ H', SqT K H' a xs) → Q (.ref a) H
theorem pe_gt {X : Cx} {x : Str} {xs : List V} {pos : Pos} (g : GT X.K X.mg x xs) (hg : Gl X x := by rfl) (hd : (x == ("__debug__" : Str)) = false := by decide) : PE X (.Name x pos) (tGT X.K xs) := by
  obtain ⟨a, m, h⟩ := g
  exact ⟨fun pins s σ H Q I q => (pe_glob (v := .ref a) hg m rfl hd).run pins s σ H Q I (q a h)⟩

/-- the built-in names that the program leaves as they are -/
structure Nb (mg : Str → Option Value) : Prop where
  len : mg "len" = none
  list : mg "list" = none
  int : mg "int" = none
  isinstance : mg "isinstance" = none
  range : mg "range" = none
  zip : mg "zip" = none
  all : mg "all" = none
  any : mg "any" = none
  tuple : mg "tuple" = none
  str : mg "str" = none
  dict : mg "dict" = none
  bool : mg "bool" = none
  sorted : mg "sorted" = none
  min : mg "min" = none
  max : mg "max" = none
  set : mg "set" = none
  enumerate : mg "enumerate" = none
  sum : mg "sum" = none

/-! ### promises in two shapes -/
/-- hands back z, all that stood stands -/
def spV (ok : List V → Hp → V → Prop) : Sp := fun vs H Q _ => ∃ z, ok vs H z ∧ ∀ H', Ex H H' → Q z H'
/-- hands back a new list -/
def spL (ok : List V → Hp → List V → Prop) : Sp := fun vs H Q _ => ∃ xs, ok vs H xs ∧ RetL xs H Q
section
variable {σ : L2.St} {H : Hp} {ta : TA} {te : TE} {vs xs : List V} {z v : V}
theorem ev_cal {ok : List V → Hp → V → Prop} (h : EvA ta σ H vs) (hk : ∀ H1, Ex H H1 → ok vs H1 z) : Ev (tCall (spV ok) [] E0 ta) σ H z :=
  ev_call h fun H1 e Q q E => ⟨z, by rw [List.append_nil]; exact hk H1 e, fun H2 e2 => q H2 e2⟩
theorem el_cal {ok : List V → Hp → List V → Prop} (h : EvA ta σ H vs) (hk : ∀ H1, Ex H H1 → ok vs H1 xs) : EvL (tCall (spL ok) [] E0 ta) σ H xs :=
  el_call h fun H1 e Q q E => ⟨xs, by rw [List.append_nil]; exact hk H1 e, fun p H2 hp e2 h2 => q p H2 hp e2 h2⟩
/-- a global tuple -/
theorem ev_gt {K : PySem.W.Frag} {ys : List V} {Q : VK} {H : Hp} (q : ∀ a, (∀ H', SqT K H' a ys) → Q (.ref a) H) : tGT K ys σ H Q := q
/-- natural numbers -/
theorem ev_cn (n : Nat) : Ev (tC (.int (n : Int))) σ H (.int (n : Int)) := ev_c
theorem ev_v {i : Nat} (h : σ[i]? = some (some v)) : Ev (tVar i) σ H v := ev_var h
theorem rv_is {r : R2} {x y z z' : V} {H : Hp} (h : RV r x y H z) (e : z = z') : RV r x y H z' := by
  rw [← e]
  exact h
theorem rv_addN {a b : Nat} : RV (rI0 fun i j => .int (i + j)) (.int (a : Int)) (.int (b : Int)) H (.int ((a + b : Nat) : Int)) := rv_is rv_I0 (congrArg V.int (Int.natCast_add a b).symm)
theorem rv_subN {a b : Nat} (h : b ≤ a) : RV (rI0 fun i j => .int (i - j)) (.int (a : Int)) (.int (b : Int)) H (.int ((a - b : Nat) : Int)) := rv_is rv_I0 (congrArg V.int (Int.ofNat_sub h).symm)
theorem toNatOr (a b : Nat) : Builtin.bitOr (a : Int) (b : Int) = ((a ||| b : Nat) : Int) := Bits.bitOr_pp (Int.natCast_nonneg _) (Int.natCast_nonneg _)
theorem bitAndN (a b : Nat) : Builtin.bitAnd (a : Int) (b : Int) = ((a &&& b : Nat) : Int) := by
  rw [bitAnd_pp (Int.natCast_nonneg _) (Int.natCast_nonneg _), Int.toNat_natCast, Int.toNat_natCast]
theorem bitOrN (a b : Nat) : Builtin.bitOr (a : Int) (b : Int) = ((a ||| b : Nat) : Int) := toNatOr a b
theorem bitXorN (a b : Nat) : Builtin.bitXor (a : Int) (b : Int) = ((a ^^^ b : Nat) : Int) := Bits.bitXor_pp (Int.natCast_nonneg _) (Int.natCast_nonneg _)
theorem rv_andN {a b : Nat} : RV (rI0 fun i j => .int (Builtin.bitAnd i j)) (.int (a : Int)) (.int (b : Int)) H (.int ((a &&& b : Nat) : Int)) := rv_is rv_I0 (congrArg V.int (bitAndN a b))
theorem rv_orN {a b : Nat} : RV (rI0 fun i j => .int (Builtin.bitOr i j)) (.int (a : Int)) (.int (b : Int)) H (.int ((a ||| b : Nat) : Int)) := rv_is rv_I0 (congrArg V.int (bitOrN a b))
theorem rv_xorN {a b : Nat} : RV (rI0 fun i j => .int (Builtin.bitXor i j)) (.int (a : Int)) (.int (b : Int)) H (.int ((a ^^^ b : Nat) : Int)) := rv_is rv_I0 (congrArg V.int (bitXorN a b))
theorem shlN (a b : Nat) : (a : Int) * 2 ^ (b : Int).toNat = ((a <<< b : Nat) : Int) := by
  rw [Int.toNat_natCast, Nat.shiftLeft_eq, Int.natCast_mul, Int.natCast_pow]; rfl
theorem shrN (a b : Nat) : (a : Int) / 2 ^ (b : Int).toNat = ((a >>> b : Nat) : Int) := by
  rw [Int.toNat_natCast, Nat.shiftRight_eq_div_pow, Int.natCast_ediv, Int.natCast_pow]; rfl
theorem rv_shlN {a b : Nat} (ha : a < 2 ^ 64) (hb : b ≤ 1000000) : RV (rI CPow fun i j => .int (i * 2 ^ j.toNat)) (.int (a : Int)) (.int (b : Int)) H (.int ((a <<< b : Nat) : Int)) :=
  rv_is (rv_I ⟨Int.natCast_nonneg _, by omega, by rw [Int.natAbs_natCast]; exact ha⟩) (congrArg V.int (shlN a b))
theorem rv_shrN {a b : Nat} : RV (rI (fun _ j => 0 ≤ j) fun i j => .int (i / 2 ^ j.toNat)) (.int (a : Int)) (.int (b : Int)) H (.int ((a >>> b : Nat) : Int)) :=
  rv_is (rv_I (Int.natCast_nonneg _)) (congrArg V.int (shrN a b))
theorem cmulN {a b : Nat} (h : a < 2 ^ 64 ∨ b < 2 ^ 64) : CMul (a : Int) (b : Int) := by
  unfold CMul
  have t : ((2 : Int) ^ 64) = ((2 ^ 64 : Nat) : Int) := by rfl
  rcases h with h | h
  · left; rw [t]; constructor <;> omega
  · right; rw [t]; constructor <;> omega
theorem rv_mulN {a b : Nat} (h : a < 2 ^ 64 ∨ b < 2 ^ 64) : RV (rI CMul fun i j => .int (i * j)) (.int (a : Int)) (.int (b : Int)) H (.int ((a * b : Nat) : Int)) := rv_is (rv_I (cmulN h)) (congrArg V.int (Int.natCast_mul a b).symm)
theorem rv_modN {a b : Nat} (h : 0 < b) : RV (rI (fun _ j => 0 < j) fun i j => .int (i % j)) (.int (a : Int)) (.int (b : Int)) H (.int ((a % b : Nat) : Int)) := rv_is (rv_I (show (0:Int) < (b:Int) by omega)) (congrArg V.int (Int.natCast_emod a b).symm)
theorem rv_divN {a b : Nat} (h : 0 < b) (hb : b < 1073741824) : RV (rI CDiv fun i j => .int (i / j)) (.int (a : Int)) (.int (b : Int)) H (.int ((a / b : Nat) : Int)) := rv_is (rv_I ⟨by omega, by omega⟩) (congrArg V.int (Int.natCast_ediv a b).symm)
theorem rv_divWN {a b n : Nat} (h : 0 < b) (hb : b < 2 ^ n) (h0 : 0 < n) (h9 : n ≤ 9000) : RV (rI CDivW fun i j => .int (i / j)) (.int (a : Int)) (.int (b : Int)) H (.int ((a / b : Nat) : Int)) :=
  rv_is (rv_I (wide_div (by omega) (by rw [Int.natAbs_natCast]; exact hb) h0 h9)) (congrArg V.int (Int.natCast_ediv a b).symm)
theorem rv_mulWN {a b n m : Nat} (ha : a < 2 ^ n) (hb : b < 2 ^ m) (h0 : 0 < n) (h1 : 0 < m) (h : n + m ≤ 1000000) : RV (rI CMulW fun i j => .int (i * j)) (.int (a : Int)) (.int (b : Int)) H (.int ((a * b : Nat) : Int)) :=
  rv_is (rv_I (wide_mul (by rw [Int.natAbs_natCast]; exact ha) (by rw [Int.natAbs_natCast]; exact hb) h0 h1 h)) (congrArg V.int (Int.natCast_mul a b).symm)
/-- an item of a list that is known -/
theorem rv_ixLn {K : PySem.W.Frag} {p : Addr} {xs : List V} {i : Nat} (h : SqL K H p xs) (ha : xs[i]? = some v) : RV (rIxL K) (.ref p) (.int (i : Int)) H v := rv_ixL h (atI_nat ha)
theorem rv_ixTn {K : PySem.W.Frag} {p : Addr} {xs : List V} {i : Nat} (h : SqT K H p xs) (ha : xs[i]? = some v) : RV (rIxT K) (.ref p) (.int (i : Int)) H v := rv_ixT h (atI_nat ha)
end
/-- int(x) of an int -/
theorem ev_int {σ : L2.St} {H : Hp} {te : TE} {i : Int} (h : Ev te σ H (.int i)) : Ev (tCB (fun xs H Q => (∃ i, xs = [.int i] ∧ Q (.int i) H) ∨ ∃ k, xs = [.bl k] ∧ Q (.int (if k then 1 else 0)) H) (tCons te tNil)) σ H (.int i) := fun H1 e Q q =>
  h H1 e _ fun H2 e2 => .inl ⟨i, rfl, q H2 e2⟩

/-! ### evaluating to something of which P is known (P stays as the heap grows) -/
def EvP (te : TE) (σ : L2.St) (H : Hp) (P : V → Hp → Prop) : Prop := ∀ H1, Ex H H1 → ∀ Q : VK, (∀ v H2, Ex H1 H2 → P v H2 → Q v H2) → te σ H1 Q
def EvAP (ta : TA) (σ : L2.St) (H : Hp) (P : List V → Hp → Prop) : Prop := ∀ H1, Ex H H1 → ∀ Q : List V → Hp → Prop, (∀ vs H2, Ex H1 H2 → P vs H2 → Q vs H2) → ta σ H1 Q
section
variable {σ : L2.St} {H H' : Hp} {ta tr : TA} {te : TE} {xs : List V} {x z v : V} {P : List V → Hp → Prop}
theorem EvP.mono {P : V → Hp → Prop} (e : Ex H H') (h : EvP te σ H P) : EvP te σ H' P := fun H1 a Q q => h H1 (e.trans a) Q q
theorem EvAP.mono (e : Ex H H') (h : EvAP ta σ H P) : EvAP ta σ H' P := fun H1 a Q q => h H1 (e.trans a) Q q
theorem evp_v (h : Ev te σ H v) : EvP te σ H (fun u _ => u = v) := fun H1 e Q q => h H1 e Q fun H2 e2 => q v H2 e2 rfl
theorem evp_l (h : EvL te σ H xs) : EvP te σ H (fun u H' => ∃ p, u = .ref p ∧ H' p = some (.lst xs)) := fun H1 e Q q => h H1 e Q fun p H2 _ e2 hp => q _ H2 e2 ⟨p, rfl, hp⟩
theorem evp_u (h : EvU te σ H xs) : EvP te σ H (fun u H' => ∃ p, u = .ref p ∧ H' p = some (.tup xs)) := fun H1 e Q q => h H1 e Q fun p H2 _ e2 hp => q _ H2 e2 ⟨p, rfl, hp⟩
theorem evp_gt {K : PySem.W.Frag} : EvP (tGT K xs) σ H (fun u _ => ∃ a, u = .ref a ∧ ∀ H', SqT K H' a xs) := fun H1 e Q q => fun a h => q _ H1 (Ex.refl H1) ⟨a, rfl, h⟩
theorem eap_nil : EvAP tNil σ H (fun vs _ => vs = []) := fun H1 _ Q q => q [] H1 (Ex.refl H1) rfl
theorem eap_v (h : Ev te σ H x) (hr : EvAP tr σ H P) : EvAP (tCons te tr) σ H (fun vs H' => ∃ r, vs = x :: r ∧ P r H') := fun H1 e Q q =>
  h H1 e _ fun H2 e2 => hr H2 (e.trans e2) _ fun r H3 e3 p => q _ H3 (e2.trans e3) ⟨r, rfl, p⟩
theorem eap_l (h : EvL te σ H xs) (hr : EvAP tr σ H P) : EvAP (tCons te tr) σ H (fun vs H' => ∃ a r, vs = .ref a :: r ∧ H' a = some (.lst xs) ∧ P r H') := fun H1 e Q q =>
  h H1 e _ fun a H2 _ e2 ha => hr H2 (e.trans e2) _ fun r H3 e3 p => q _ H3 (e2.trans e3) ⟨a, r, rfl, e3 a _ ha, p⟩
theorem eap_u (h : EvU te σ H xs) (hr : EvAP tr σ H P) : EvAP (tCons te tr) σ H (fun vs H' => ∃ a r, vs = .ref a :: r ∧ H' a = some (.tup xs) ∧ P r H') := fun H1 e Q q =>
  h H1 e _ fun a H2 _ e2 ha => hr H2 (e.trans e2) _ fun r H3 e3 p => q _ H3 (e2.trans e3) ⟨a, r, rfl, e3 a _ ha, p⟩
theorem ev_calP {ok : List V → Hp → V → Prop} (h : EvAP ta σ H P) (hk : ∀ vs H1, Ex H H1 → P vs H1 → ok vs H1 z) : Ev (tCall (spV ok) [] E0 ta) σ H z := fun H1 e Q q =>
  h H1 e _ fun vs H2 e2 p => ⟨z, by rw [List.append_nil]; exact hk vs H2 (e.trans e2) p, fun H3 e3 => q H3 (e2.trans e3)⟩
theorem el_calP {ok : List V → Hp → List V → Prop} (h : EvAP ta σ H P) (hk : ∀ vs H1, Ex H H1 → P vs H1 → ok vs H1 xs) : EvL (tCall (spL ok) [] E0 ta) σ H xs := fun H1 e Q q =>
  h H1 e _ fun vs H2 e2 p => ⟨xs, by rw [List.append_nil]; exact hk vs H2 (e.trans e2) p, fun a H3 ha e3 h3 => q a H3 (fresh_back e2 ha) (e2.trans e3) h3⟩
end

/-! ### lists of natural numbers; ranges in natural numbers; lists joined -/
def nats (xs : List Nat) : List V := xs.map fun n : Nat => V.int (n : Int)
theorem nats_len (xs : List Nat) : (nats xs).length = xs.length := List.length_map _
theorem nats_get {xs : List Nat} {i : Nat} (h : i < xs.length) : (nats xs)[i]? = some (.int ((xs.getD i 0 : Nat) : Int)) := by
  unfold nats
  rw [List.getElem?_map, List.getElem?_eq_getElem h, List.getD_eq_getElem?_getD, List.getElem?_eq_getElem h]
  rfl
theorem nats_app (xs ys : List Nat) : nats (xs ++ ys) = nats xs ++ nats ys := List.map_append
section
variable {K : PySem.W.Frag} {σ : L2.St} {H H' : Hp} {ta tb te : TE} {xs ys : List V} {x z v : V} {p : Addr} {D : Ends} {tu tz : TS}
theorem ev_ixL {j : Nat} (ha : Ev ta σ H (.ref p)) (hb : Ev tb σ H (.int (j : Int))) (hS : SqL K H p xs) (hx : xs[j]? = some v) : Ev (tOp (rIxL K) ta tb) σ H v := ev_op ha hb (rv_ixLn hS hx)
theorem ev_ixT {j : Nat} (ha : Ev ta σ H (.ref p)) (hb : Ev tb σ H (.int (j : Int))) (hS : SqT K H p xs) (hx : xs[j]? = some v) : Ev (tOp (rIxT K) ta tb) σ H v := ev_op ha hb (rv_ixTn hS hx)
theorem s_forR1N {ta : TA} {j n : Nat} (h : EvA ta σ H [.int (n : Int)]) (hn : n ≤ 100000) (Pv : Nat → L2.St → Hp → Prop) (h0 : ∀ H1, Ex H H1 → Pv 0 σ H1)
    (hs : ∀ (i : Nat) σ' H', i < n → Pv i σ' H' → tu { D with nx := Pv (i + 1), ct := Pv (i + 1), bk := D.nx } (σ'.set j (some (.int (i : Int)))) H') (hd : ∀ σ' H', Pv n σ' H' → D.nx σ' H') : tFor (iRng1 ta) (gName j) tu D σ H :=
  s_forR1 h (by omega) Pv h0 (fun i σ' H' hi => hs i σ' H' (by omega)) (by rw [Int.toNat_natCast]; exact hd)
theorem q_forR1N {ta : TA} {j n : Nat} (h : EvA ta σ H [.int (n : Int)]) (hn : n ≤ 100000) (Pv : Nat → L2.St → Hp → Prop) (h0 : ∀ H1, Ex H H1 → Pv 0 σ H1)
    (hs : ∀ (i : Nat) σ' H', i < n → Pv i σ' H' → tu { D with nx := Pv (i + 1), ct := Pv (i + 1), bk := tz D } (σ'.set j (some (.int (i : Int)))) H') (hd : ∀ σ' H', Pv n σ' H' → tz D σ' H') : tSeq (tFor (iRng1 ta) (gName j) tu) tz D σ H :=
  s_forR1N (D := { D with nx := tz D }) h hn Pv h0 hs hd
theorem s_forR2N {ta : TA} {j lo n : Nat} (h : EvA ta σ H [.int (lo : Int), .int (n : Int)]) (hn : lo ≤ 100000 ∧ n ≤ 100000) (Pv : Nat → L2.St → Hp → Prop) (h0 : ∀ H1, Ex H H1 → Pv 0 σ H1)
    (hs : ∀ (i : Nat) σ' H', lo + i < n → Pv i σ' H' → tu { D with nx := Pv (i + 1), ct := Pv (i + 1), bk := D.nx } (σ'.set j (some (.int ((lo + i : Nat) : Int)))) H') (hd : ∀ σ' H', Pv (n - lo) σ' H' → D.nx σ' H') : tFor (iRng2 ta) (gName j) tu D σ H :=
  s_forR2 h (by omega) Pv h0 (fun i σ' H' hi p => by
    have e := hs i σ' H' (by omega) p
    rw [Int.natCast_add] at e
    exact e) (by rw [show ((n : Int) - (lo : Int)).toNat = n - lo by omega]; exact hd)
theorem q_forR2N {ta : TA} {j lo n : Nat} (h : EvA ta σ H [.int (lo : Int), .int (n : Int)]) (hn : lo ≤ 100000 ∧ n ≤ 100000) (Pv : Nat → L2.St → Hp → Prop) (h0 : ∀ H1, Ex H H1 → Pv 0 σ H1)
    (hs : ∀ (i : Nat) σ' H', lo + i < n → Pv i σ' H' → tu { D with nx := Pv (i + 1), ct := Pv (i + 1), bk := tz D } (σ'.set j (some (.int ((lo + i : Nat) : Int)))) H') (hd : ∀ σ' H', Pv (n - lo) σ' H' → tz D σ' H') : tSeq (tFor (iRng2 ta) (gName j) tu) tz D σ H :=
  s_forR2N (D := { D with nx := tz D }) h hn Pv h0 hs hd
/-- a list that stands, or a new one -/
def IsL (xs : List V) : V → Hp → Prop := fun u H' => ∃ p, u = .ref p ∧ H' p = some (.lst xs)
theorem evl_n (h : EvL te σ H xs) : EvP te σ H (IsL xs) := evp_l h
theorem evl_k (h : Ev te σ H (.ref p)) (hp : H p = some (.lst xs)) : EvP te σ H (IsL xs) := fun H1 e Q q => h H1 e Q fun H2 e2 => q _ H2 e2 ⟨p, rfl, e2 p _ (e p _ hp)⟩
theorem el_cat (ha : EvP ta σ H (IsL xs)) (hb : EvP tb σ H (IsL ys)) (hz : xs.length + ys.length ≤ 100000) : EvL (tOp rCat ta tb) σ H (xs ++ ys) := fun H1 e Q q =>
  ha H1 e _ fun u H2 e2 ⟨p, hu, hp⟩ => hb H2 (e.trans e2) _ fun u2 H3 e3 ⟨p2, hu2, hp2⟩ => ⟨p, p2, xs, ys, hu, hu2, e3 p _ hp, hp2, sz_of hz, fun l hl =>
    q l _ (fresh_back (e2.trans e3) hl) ((e2.trans e3).trans (Ex.new hl)) upd_same⟩
theorem el_rep {k : Nat} (ha : EvP ta σ H (IsL xs)) (hb : Ev tb σ H (.int (k : Int))) (hk : k ≤ 100000) (hz : xs.length * k ≤ 100000) : EvL (tOp rRep ta tb) σ H (List.replicate k xs).flatten := fun H1 e Q q =>
  ha H1 e _ fun u H2 e2 ⟨p, hu, hp⟩ => hb H2 (e.trans e2) _ fun H3 e3 => ⟨p, k, xs, hu, rfl, e3 p _ hp, by omega, by omega, by rw [Int.toNat_natCast]; exact sz_of hz, fun l hl => by
    rw [Int.toNat_natCast]
    exact q l _ (fresh_back (e2.trans e3) hl) ((e2.trans e3).trans (Ex.new hl)) upd_same⟩
theorem el_listP (ha : EvP ta σ H (IsL xs)) : EvL (tCB (rListS K) (tCons ta tNil)) σ H xs := fun H1 e Q q =>
  ha H1 e _ fun u H2 e2 ⟨p, hu, hp⟩ => ⟨p, xs, by rw [hu], Or.inl (sq_of hp), fun l hl => q l _ (fresh_back e2 hl) (e2.trans (Ex.new hl)) upd_same⟩
end

/-! ### slices -/
theorem cutV_take (xs : List V) (n : Nat) : cutV xs none (some (n : Int)) = xs.take n := by
  unfold cutV
  rw [HT.sIx_nat, HT.sIx_none, List.drop_zero, Nat.sub_zero]
  by_cases h : n ≤ xs.length
  · rw [Nat.min_eq_left h]
  · rw [Nat.min_eq_right (by omega), List.take_of_length_le (Nat.le_refl _), List.take_of_length_le (by omega)]
theorem cutV_drop (xs : List V) (n : Nat) : cutV xs (some (n : Int)) none = xs.drop n := by
  unfold cutV
  rw [HT.sIx_nat, HT.sIx_none]
  by_cases h : n ≤ xs.length
  · rw [Nat.min_eq_left h, List.take_of_length_le (by rw [List.length_drop]; omega)]
  · rw [Nat.min_eq_right (by omega), List.drop_of_length_le (Nat.le_refl _), List.drop_of_length_le (show xs.length ≤ n by omega), List.take_nil]
theorem cutV_mid (xs : List V) (n m : Nat) (h : n ≤ xs.length) : cutV xs (some (n : Int)) (some (m : Int)) = (xs.drop n).take (m - n) := by
  unfold cutV
  rw [HT.sIx_nat, HT.sIx_nat, Nat.min_eq_left h]
  by_cases h2 : m ≤ xs.length
  · rw [Nat.min_eq_left h2]
  · rw [Nat.min_eq_right (by omega), List.take_of_length_le (by rw [List.length_drop]; omega), List.take_of_length_le (by rw [List.length_drop]; omega)]
theorem nats_take (xs : List Nat) (n : Nat) : nats (xs.take n) = (nats xs).take n := by unfold nats; rw [List.map_take]
theorem nats_drop (xs : List Nat) (n : Nat) : nats (xs.drop n) = (nats xs).drop n := by unfold nats; rw [List.map_drop]

/-! ### texts by their codes -/
def tx (l : List Nat) : Str := ⟨l.toArray⟩
theorem tx_app (a b : List Nat) : tx a ++ tx b = tx (a ++ b) := by
  show (⟨a.toArray ++ b.toArray⟩ : Str) = _
  unfold tx
  rw [List.append_toArray]
theorem tx_len (a : List Nat) : (tx a).length = a.length := List.size_toArray
theorem tx_list (a : List Nat) : (tx a).cps.toList = a := rfl
theorem tx_of (z : Str) : z = tx z.cps.toList := rfl
theorem tx_inj {a b : List Nat} (h : tx a = tx b) : a = b := by
  have := congrArg (fun z : Str => z.cps.toList) h
  exact this
section
variable {σ : L2.St} {H H' : Hp} {ta tb te : TE} {xs ys : List V} {x z v : V} {p : Addr} {D : Ends} {tu tz : TS}
theorem ev_cs {s : Str} (l : List Nat) (h : s = tx l) : Ev (tC (.str s)) σ H (.str (tx l)) := ev_is ev_c (by rw [h])
theorem rv_addS {a b : List Nat} (h : a.length + b.length ≤ 100000) : RV (fun x y H Q => ∃ i j, x = .str i ∧ y = .str j ∧ i.length + j.length ≤ sizeLine ∧ Q (.str (i ++ j)) H) (.str (tx a)) (.str (tx b)) H (.str (tx (a ++ b))) := fun H1 _ _ q =>
  ⟨tx a, tx b, rfl, rfl, by rw [tx_len, tx_len]; exact sz_of h, by rw [tx_app]; exact q H1 (Ex.refl H1)⟩
theorem rv_ixSn {l : List Nat} {i c : Nat} (h : l.length ≤ 100000) (hi : l[i]? = some c) : RV rIxS (.str (tx l)) (.int (i : Int)) H (.str (tx [c])) := rv_ixS (by rw [tx_len]; exact h) (atI_nat (by rw [tx_list]; exact hi))
theorem range_map {α β : Type} (xs : List α) (d : α) (g : α → β) : (List.range xs.length).map (fun i => g (xs.getD i d)) = xs.map g := by
  refine List.ext_getElem? fun i => ?_
  rw [List.getElem?_map, List.getElem?_map]
  by_cases h : i < xs.length
  · rw [List.getElem?_range h, List.getElem?_eq_getElem h]
    simp [List.getD_eq_getElem?_getD, List.getElem?_eq_getElem h]
  · rw [List.getElem?_eq_none (by rw [List.length_range]; omega), List.getElem?_eq_none (by omega)]
    rfl
theorem given_all (n : Nat) (v : Nat → V) : given n (fun _ => true) v = (List.range n).map v := by
  unfold given
  rw [List.filter_eq_self.mpr fun _ _ => rfl]
theorem given_nats (xs : List Nat) (g : Nat → Nat) : given xs.length (fun _ => true) (fun i => .int (g (xs.getD i 0) : Nat)) = nats (xs.map g) := by
  rw [given_all]
  unfold nats
  rw [List.map_map]
  exact range_map xs 0 fun n => V.int (g n : Nat)
theorem et_yes : EvT tYes σ H true := fun H1 _ Q q => q H1 (Ex.refl H1)
theorem rep_one (k n : Nat) : (List.replicate k (nats [n])).flatten = nats (List.replicate k n) := by
  induction k with
  | zero => rfl
  | succ k ih =>
    rw [List.replicate_succ, List.flatten_cons, ih, List.replicate_succ]
    rfl
theorem getD_of {xs : List Nat} {i : Nat} {x : V} (h : (nats xs)[i]? = some x) : x = .int ((xs.getD i 0 : Nat) : Int) ∧ i < xs.length := by
  have hi : i < xs.length := by
    have := (List.getElem?_eq_some_iff.mp h).1
    rw [nats_len] at this
    exact this
  rw [nats_get hi] at h
  exact ⟨(Option.some.inj h).symm, hi⟩
theorem getD_mem {xs : List Nat} {i : Nat} (h : i < xs.length) : xs.getD i 0 ∈ xs := by
  rw [List.getD_eq_getElem?_getD, List.getElem?_eq_getElem h]
  exact List.getElem_mem h
/-- an argument that is a list that stands or a new one -/
theorem eap_p {te : TE} {tr : TA} {P1 : V → Hp → Prop} {P : List V → Hp → Prop} (h : EvP te σ H P1) (hm : ∀ v H1 H2, Ex H1 H2 → P1 v H1 → P1 v H2) (hr : EvAP tr σ H P) : EvAP (tCons te tr) σ H (fun vs H' => ∃ v r, vs = v :: r ∧ P1 v H' ∧ P r H') := fun H1 e Q q =>
  h H1 e _ fun v H2 e2 p1 => hr H2 (e.trans e2) _ fun r H3 e3 p => q _ H3 (e2.trans e3) ⟨v, r, rfl, hm _ _ _ e3 p1, p⟩
theorem IsL.mono {v : V} {H1 H2 : Hp} (e : Ex H1 H2) (h : IsL xs v H1) : IsL xs v H2 := by
  obtain ⟨p, rfl, hp⟩ := h
  exact ⟨p, rfl, e p _ hp⟩
end
end My

set_option Elab.async false
set_option linter.all false
set_option maxRecDepth 100000
set_option maxHeartbeats 1000000
/-! zip(v1, v2, strict=True) over two of one length: made, drawn, ended. -/
namespace My
open PySem PySem.Spec PyProof.Rows L2 Evl Builtin.SmallTypes
section
variable {prog : Program} {w : World} {A : Around} {E : Value → Shared → Prop} {s : Shared} {it : Addr} {fp : List Addr} {n i : Nat} {P : Nat → Value → Prop} {St : Nat → Heap → Prop}
theorem orEnd_item {Q : Option Value → Shared → Prop} (D : Draws prog w A it fp n P St) (hi : i < n) (st : St i s.heap)
    (h : ∀ x h' tk, P i x → St (i + 1) h' → Heap.SameBut it s.heap h' → Q (some x) { s with heap := h', toks := tk }) : wpAny (model prog w) A (nextOrEnd (.ref it)) Q E s := by
  unfold nextOrEnd
  exact wpAny_bind (wpAny_attempt (D.item i s _ _ hi st fun x h' tk p q b => wpAny_pure (h x h' tk p q b)))
theorem orEnd_done {Q : Option Value → Shared → Prop} (D : Draws prog w A it fp n P St) (st : St n s.heap)
    (h : ∀ h', Heap.ExtBut it s.heap h' → Q none { s with heap := h' }) : wpAny (model prog w) A (nextOrEnd (.ref it)) Q E s := by
  unfold nextOrEnd
  refine wpAny_bind (wpAny_attempt (D.done s _ _ st fun h' e x y => ?_))
  obtain ⟨o, ho, hc⟩ := y
  exact wpAny_bind (wpAny_isInstance (T := "StopIteration") (b := true) ⟨o, ho, hc⟩ isSubtype_stop (wpAny_pure (h h' x)))
end
/-- a strict zip object -/
abbrev IsZipS (h : Heap) (z TI TO : Addr) (f0 : Value) : Prop :=
  h.get? z = some { cls := .type "zip", dict := none, data := .fields #[f0, .bool false, .bool true, .ref TI, .ref TO], slots := #[] }

section
variable {prog : Program} {w : World} {A : Around} {E : Value → Shared → Prop} {s : Shared} {z TI TO i1 i2 : Addr} {fp1 fp2 : List Addr} {n i : Nat} {P1 P2 : Nat → Value → Prop} {St1 St2 : Nat → Heap → Prop} {a1 a2 : Value}
/-- one draw from both -/
theorem zs_item {Q : Value → Shared → Prop} (S : ZipSep2 z TI TO i1 i2 fp1 fp2) (D1 : Draws prog w A i1 fp1 n P1 St1) (D2 : Draws prog w A i2 fp2 n P2 St2)
    (hz : IsZipS s.heap z TI TO .none) (hTI : IsTupOf2 s.heap TI (.ref i1) (.ref i2)) (hTO : IsTupOf2 s.heap TO a1 a2) (st1 : St1 i s.heap) (st2 : St2 i s.heap) (hlt : i < n)
    (hQ : ∀ x1 x2 h' tk, P1 i x1 → P2 i x2 → IsZipS h' z TI TO (rawInt s.heap.objs.size) → IsTupOf2 h' TO x1 x2 → St1 (i + 1) h' → St2 (i + 1) h' → IsTupOf2 h' s.heap.objs.size x1 x2 → h'.objs.size = s.heap.objs.size + 1 →
      (∀ c o, c ≠ z → c ≠ TO → c ≠ i1 → c ≠ i2 → s.heap.get? c = some o → h'.get? c = some o) → Q (.ref s.heap.objs.size) { s with heap := h', toks := tk }) :
    wpAny (model prog w) A (Builtin.«zip.__next__» ⟨[.ref z], []⟩) (fun fin s' => ∃ v, fin = .done (.ret v) ∧ Q v s') E s := by
  obtain ⟨hp, gs, dr, tk0, os⟩ := s
  show wpAny _ _ (field (.ref z) 2 >>= _) _ _ _
  refine wpAny_bind (wpAny_field hz rfl (x := .bool true) rfl ?_)
  show wpAny _ _ (field (.ref z) 3 >>= _) _ _ _
  refine wpAny_bind (wpAny_field hz rfl (x := .ref TI) rfl (wpAny_bind (wpAny_seqItems hTI rfl ?_)))
  show wpAny _ _ (ownedTupleIsFree (.ref z) >>= _) _ _ _
  refine wpAny_bind ?_
  unfold ownedTupleIsFree
  refine wpAny_bind (wpAny_field hz rfl (x := .none) rfl (wpAny_pure ?_))
  simp only [if_true]
  refine wpAny_bind (wpAny_rule (wpAny_bind (wpAny_field hz rfl (x := .ref TO) rfl (wpAny_bind (wpAny_setField_rec hz (by simp) fun g0 hz0 hs0 => ?_)))))
  replace hz0 : IsZipS g0 z TI TO .ellipsis := hz0
  replace hs0 : Heap.SameBut z hp g0 := hs0
  refine wpAny_bind ?_
  simp only [List.zipIdx_cons, List.zipIdx_nil, List.forIn_cons, List.forIn_nil]
  refine wpAny_bind (wpAny_bind (wpAny_onRaise ?_))
  show wpAny _ _ (nextOrEnd (.ref i1)) _ _ ⟨g0, gs, dr, tk0, os⟩
  refine orEnd_item D1 hlt (D1.over st1 hs0 S.zf1) fun x1 p1 tk1 hx1 sn1 hp1 => ?_
  replace hp1 : Heap.SameBut i1 g0 p1 := hp1
  have u1 : IsTupOf2 p1 TO a1 a2 := hp1.extBut _ _ S.Ti1 (hs0.extBut _ _ S.TOz hTO)
  refine wpAny_bind (wpAny_seqItems (s := ⟨p1, gs, dr, tk1, os⟩) u1 rfl (wpAny_bind (updateSeq_IsTupOf2 (s := ⟨p1, gs, dr, tk1, os⟩) u1 fun g1 t1 hs1 => ?_)))
  replace t1 : IsTupOf2 g1 TO x1 a2 := t1
  replace hs1 : Heap.SameBut TO p1 g1 := hs1
  refine wpAny_bind (wpAny_letGo (wpAny_pure (wpAny_bind (wpAny_bind (wpAny_onRaise ?_)))))
  show wpAny _ _ (nextOrEnd (.ref i2)) _ _ ⟨g1, gs, dr, tk1, os⟩
  refine orEnd_item D2 hlt (D2.over (D2.over (D2.over st2 hs0 S.zf2) hp1 S.sep1_2) hs1 S.Tf2) fun x2 p2 tk2 hx2 sn2 hp2 => ?_
  replace hp2 : Heap.SameBut i2 g1 p2 := hp2
  have u2 : IsTupOf2 p2 TO x1 a2 := hp2.extBut _ _ S.Ti2 t1
  refine wpAny_bind (wpAny_seqItems (s := ⟨p2, gs, dr, tk2, os⟩) u2 rfl (wpAny_bind (updateSeq_IsTupOf2 (s := ⟨p2, gs, dr, tk2, os⟩) u2 fun g2 t2 hs2 => ?_)))
  replace t2 : IsTupOf2 g2 TO x1 x2 := t2
  replace hs2 : Heap.SameBut TO p2 g2 := hs2
  refine wpAny_bind (wpAny_letGo (wpAny_pure (wpAny_pure (wpAny_bind (wpAny_seqItems (s := ⟨g2, gs, dr, tk2, os⟩) t2 rfl (wpAny_bind (wpAny_newTuple ?_)))))))
  have sz : g2.objs.size = hp.objs.size := by rw [hs2.1, hp2.1, hs1.1, hp1.1, hs0.1]
  have hzz : IsZipS g2 z TI TO .ellipsis := hs2.extBut _ _ S.TOz.symm (hp2.extBut _ _ S.zi2 (hs1.extBut _ _ S.TOz.symm (hp1.extBut _ _ S.zi1 hz0)))
  have kk : ∀ c o, c ≠ z → c ≠ TO → c ≠ i1 → c ≠ i2 → hp.get? c = some o → g2.get? c = some o := fun c o cz cT c1 c2 e => hs2.extBut _ _ cT (hp2.extBut _ _ c2 (hs1.extBut _ _ cT (hp1.extBut _ _ c1 (hs0.extBut _ _ cz e))))
  have j1 : St1 (i + 1) g2 := D1.over (D1.over (D1.over sn1 hs1 S.Tf1) hp2 S.sep2_1) hs2 S.Tf1
  have j2 : St2 (i + 1) g2 := D2.over sn2 hs2 S.Tf2
  have zlt : z < g2.objs.size := Heap.lt_size hzz
  show wpAny _ _ (ownedTupleHandOut (.ref z) (.ref g2.objs.size) >>= _) _ _ ⟨g2.push { cls := .type "tuple", data := .seq #[x1, x2] }, gs, dr, tk2, os⟩
  generalize ht : ({ cls := .type "tuple", data := .seq #[x1, x2] } : Obj) = ob
  refine wpAny_bind ?_
  unfold ownedTupleHandOut
  refine wpAny_bind (wpAny_setField_rec (Heap.get?_push_of_some ob hzz) (by simp) fun h7 hz7 hs7 => ?_)
  replace hz7 : IsZipS h7 z TI TO (rawInt g2.objs.size) := hz7
  replace hs7 : Heap.SameBut z (g2.push ob) h7 := hs7
  refine wpAny_setField_rec hz7 (by simp) fun h8 hz8 hs8 => ?_
  replace hz8 : IsZipS h8 z TI TO (rawInt g2.objs.size) := hz8
  replace hs8 : Heap.SameBut z h7 h8 := hs8
  have up : ∀ c o, c ≠ z → g2.get? c = some o → h8.get? c = some o := fun c o c1 e => hs8.extBut _ _ c1 (hs7.extBut _ _ c1 (Heap.get?_push_of_some _ e))
  have t8 : h8.get? g2.objs.size = some ob := hs8.extBut _ _ (Nat.ne_of_gt zlt) (hs7.extBut _ _ (Nat.ne_of_gt zlt) (Heap.get?_push_size _ (by rw [← ht]; rfl)))
  have s8 : h8.objs.size = g2.objs.size + 1 := by rw [hs8.1, hs7.1, Heap.size_push]
  rw [sz] at hz8 t8 s8
  rw [← ht] at t8
  refine wpAny_pure ⟨_, rfl, ?_⟩
  show Q (.ref g2.objs.size) ⟨h8, gs, dr, tk2, os⟩
  rw [sz]
  exact hQ x1 x2 h8 tk2 hx1 hx2 hz8 (up _ _ S.TOz t2) (D1.frame _ _ _ j1 fun b hb o e => up b o (fun q => S.zf1 (q ▸ hb)) e) (D2.frame _ _ _ j2 fun b hb o e => up b o (fun q => S.zf2 (q ▸ hb)) e) t8 s8 fun c o cz cT c1 c2 e => up c o cz (kk c o cz cT c1 c2 e)
/-- both are at their ends -/
theorem zs_end {Q : Fin → Shared → Prop} (hh : A.handled = none) (S : ZipSep2 z TI TO i1 i2 fp1 fp2) (D1 : Draws prog w A i1 fp1 n P1 St1) (D2 : Draws prog w A i2 fp2 n P2 St2)
    (hz : IsZipS s.heap z TI TO .none) (hTI : IsTupOf2 s.heap TI (.ref i1) (.ref i2)) (hTO : IsTupOf2 s.heap TO a1 a2) (st1 : St1 n s.heap) (st2 : St2 n s.heap)
    (hE : ∀ h' e, (∀ c o, c ≠ z → c ≠ TO → c ≠ i1 → c ≠ i2 → s.heap.get? c = some o → h'.get? c = some o) → (∃ o, h'.get? e = some o ∧ o.cls = .type "StopIteration") → E (.ref e) { s with heap := h' }) :
    wpAny (model prog w) A (Builtin.«zip.__next__» ⟨[.ref z], []⟩) Q E s := by
  obtain ⟨hp, gs, dr, tk0, os⟩ := s
  show wpAny _ _ (field (.ref z) 2 >>= _) _ _ _
  refine wpAny_bind (wpAny_field hz rfl (x := .bool true) rfl ?_)
  show wpAny _ _ (field (.ref z) 3 >>= _) _ _ _
  refine wpAny_bind (wpAny_field hz rfl (x := .ref TI) rfl (wpAny_bind (wpAny_seqItems hTI rfl ?_)))
  show wpAny _ _ (ownedTupleIsFree (.ref z) >>= _) _ _ _
  refine wpAny_bind ?_
  unfold ownedTupleIsFree
  refine wpAny_bind (wpAny_field hz rfl (x := .none) rfl (wpAny_pure ?_))
  simp only [if_true]
  refine wpAny_bind (wpAny_rule (wpAny_bind (wpAny_field hz rfl (x := .ref TO) rfl (wpAny_bind (wpAny_setField_rec hz (by simp) fun g0 hz0 hs0 => ?_)))))
  replace hz0 : IsZipS g0 z TI TO .ellipsis := hz0
  replace hs0 : Heap.SameBut z hp g0 := hs0
  refine wpAny_bind ?_
  simp only [List.zipIdx_cons, List.zipIdx_nil, List.forIn_cons, List.forIn_nil]
  refine wpAny_bind (wpAny_bind (wpAny_onRaise ?_))
  show wpAny _ _ (nextOrEnd (.ref i1)) _ _ ⟨g0, gs, dr, tk0, os⟩
  refine orEnd_done D1 (D1.over st1 hs0 S.zf1) fun p1 hp1 => ?_
  replace hp1 : Heap.ExtBut i1 g0 p1 := hp1
  have hz1 : IsZipS p1 z TI TO .ellipsis := hp1 _ _ S.zi1 hz0
  refine wpAny_bind (wpAny_setField_rec hz1 (by simp) fun g1 hz2 hs1 => ?_)
  replace hs1 : Heap.SameBut z p1 g1 := hs1
  refine wpAny_bind (wpAny_bind (wpAny_bind ?_))
  show wpAny _ _ (nextOrEnd (.ref i2) >>= _) _ _ ⟨g1, gs, dr, tk0, os⟩
  refine wpAny_bind (orEnd_done D2 (D2.over (D2.frame _ _ _ (D2.over st2 hs0 S.zf2) fun b hb o e => hp1 b o (fun q => S.sep1_2 (q ▸ hb)) e) hs1 S.zf2) fun p2 hp2 => ?_)
  replace hp2 : Heap.ExtBut i2 g1 p2 := hp2
  simp only [Option.isSome_none, Bool.false_eq_true, if_false]
  refine wpAny_pure (wpAny_pure (wpAny_bind (wpAny_rule ?_)))
  show wpAny _ _ (newExc (.type "StopIteration") [] >>= _) _ _ _
  refine wpAny_bind ?_
  simp only [newExc, newTuple]
  refine wpAny_bind (wpAny_newObj_type ?_ (by size_fits))
  refine wpAny_bind (m := firstArgMember _ _) (wpAny_of_eq (a := Value.none) (by first | rfl | (simp only [firstArgMember]; rfl)) ?_)
  refine wpAny_newObj_type ?_ (by size_fits)
  simp only [raiseNew]
  refine wpAny_bind (wpAny_handled ?_)
  rw [hh]
  refine wpAny_bind (wpAny_pure (wpAny_throw ?_))
  exact hE _ _ (fun c o cz cT c1 c2 e => Heap.get?_push_of_some _ (Heap.get?_push_of_some _ (hp2 _ _ c2 (hs1.extBut _ _ cz (hp1 _ _ c1 (hs0.extBut _ _ cz e)))))) ⟨_, Heap.get?_push_size _ rfl, rfl⟩
end

/-! ### sources: a list or a tuple -/
def SqB (K : PySem.W.Frag) (t : Bool) (H : Hp) (a : Addr) (xs : List V) : Prop := match t with | true => SqT K H a xs | false => SqL K H a xs
def ItB (t : Bool) (h : Heap) (it a : Addr) (i : Nat) : Prop := match t with | true => h.IsTupleIter it a i | false => h.IsListIter it a i
def SeB (t : Bool) (h : Heap) (a : Addr) (its : Array Value) : Prop := match t with | true => h.IsTuple a its | false => h.IsList a its
def oB (t : Bool) (a : Addr) : Obj := match t with | true => { cls := .type "tuple_iterator", data := .fields #[.ref a, .int 0 0] } | false => { cls := .type "list_iterator", data := .fields #[.ref a, .int 0 0] }
theorem beginsB (t : Bool) (a : Addr) (its : Array Value) : Begins (.ref a) (oB t a) fun h => SeB t h a its := by
  cases t
  · exact begins_list a its
  · exact begins_tuple a its
theorem oB_it (t : Bool) {h : Heap} {it a : Addr} (e : h.get? it = some (oB t a)) : ItB t h it a 0 := by
  cases t
  · exact ⟨_, e, rfl, rfl⟩
  · exact ⟨_, e, rfl, rfl⟩
theorem ItB.at {t : Bool} {h h' : Heap} {it a : Addr} {i : Nat} (x : ItB t h it a i) (k : ∀ o, h.get? it = some o → h'.get? it = some o) : ItB t h' it a i := by
  cases t
  · exact Heap.IsListIter.at x k
  · exact Heap.IsTupleIter.at x k
theorem ItB.obj {t : Bool} {h : Heap} {it a : Addr} {i : Nat} (x : ItB t h it a i) : ∃ o, h.get? it = some o ∧ ∀ v, o.data ≠ .cell v := by
  cases t
  · obtain ⟨o, e, _, d⟩ := x
    exact ⟨o, e, fun v q => by rw [d] at q; cases q⟩
  · obtain ⟨o, e, _, d⟩ := x
    exact ⟨o, e, fun v q => by rw [d] at q; cases q⟩
section
variable {prog : Program} {w : World} {A : Around}
theorem drawsB (hh : A.handled = none) (t : Bool) (it a : Addr) (ne : a ≠ it) (its : Array Value) : Draws prog w A it [it, a] its.size (fun i v => its[i]? = some v) (fun i h => ItB t h it a i ∧ SeB t h a its) := by
  cases t
  · exact Draws.list hh it a ne its
  · exact Draws.tuple hh it a ne its
end
section
variable {X : Cx} {pins : List (Addr × Obj)} {σ : L2.St} {H : Hp} {s : Shared} {a : Addr} {xs ys : List V} {t : Bool}
theorem sqB_inv (I : Inv X pins σ H s) (h : SqB X.K t H a xs) : ∃ its : List Value, Vals xs its ∧ SeB t s.heap a its.toArray ∧ a < s.heap.objs.size := by
  cases t
  · obtain ⟨its, r, p, _⟩ := I.list h
    exact ⟨its, r, p.isList, p.lt⟩
  · obtain ⟨its, r, p, _⟩ := I.tuple h
    exact ⟨its, r, p, p.lt⟩
theorem sqB_inj (I : Inv X pins σ H s) (h : SqB X.K t H a xs) (h' : SqB X.K t H a ys) : xs = ys := by
  cases t
  · exact I.list_inj h h'
  · exact I.tuple_inj h h'
end
/-- both sources as they stand at each turn, of one length -/
def Itzs (K : PySem.W.Frag) (t1 t2 : Bool) (a b : Addr) : It :=
  ⟨fun i H => ∃ (xs ys : List V) (x y : V), SqB K t1 H a xs ∧ SqB K t2 H b ys ∧ xs.length = ys.length ∧ xs[i]? = some x ∧ ys[i]? = some y,
    fun i H v H' => ∃ T x y, v = .ref T ∧ H T = none ∧ H' = upd H T (.tup [x, y]) ∧ (∀ xs, SqB K t1 H a xs → xs[i]? = some x) ∧ ∀ ys, SqB K t2 H b ys → ys[i]? = some y,
    fun i H => ∃ xs ys : List V, SqB K t1 H a xs ∧ SqB K t2 H b ys ∧ xs.length = i ∧ ys.length = i⟩
section
variable {prog : Program} {w : World} {A : Around} {E : Value → Shared → Prop} {s : Shared}
theorem zs_iter {z TI TO : Addr} {f0 : Value} {Q : Value → Shared → Prop} (hz : IsZipS s.heap z TI TO f0) (h : Q (.ref z) s) : wpAny (model prog w) A (pyIter (.ref z)) Q E s := by
  have hT : s.TypeIs (.ref z) "zip" := ⟨_, hz, rfl⟩
  refine wpAny_pyIter_slot hT F.slot_zip_iter (wpAny_call_entry F.slot_zip_iter hT F.entry_zip_iter ?_ (F.args_zip_iter_1 _))
  show wpAny _ _ (ret (.ref z)) _ _ s
  exact wpAny_pure ⟨_, rfl, "zip", _, hT, F.slot_zip_next.lookup, h⟩
theorem zs_go {elts : List Expr} {x1} {pos : Pos} {z TI TO T : Addr} {Q : Unit → Shared → Prop} (hz : IsZipS s.heap z TI TO (rawInt T)) (hQ : ∀ h', IsZipS h' z TI TO .none → Heap.SameBut z s.heap h' → Q () { s with heap := h' }) :
    wpAny (model prog w) A (letOwnedTupleGo (.Tuple elts x1 pos) (.ref z) (.ref T)) Q E s := by
  unfold letOwnedTupleGo
  refine wpAny_bind (wpAny_load hz ?_)
  show wpAny _ _ (if (["enumerate", "zip", "dict_itemiterator", "dict_reverseitemiterator", "odict_iterator", "itertools.zip_longest", "itertools.pairwise"].contains "zip" &&
      (#[rawInt T, .bool false, .bool true, .ref TI, .ref TO] : Array Value)[0]? == some (rawInt T)) = true then _ else _) Q E s
  rw [if_pos (by simp)]
  refine wpAny_bind (wpAny_rule ?_)
  show wpAny _ _ (setField (.ref z) 0 .none) Q E s
  exact wpAny_setField_rec hz (by simp) fun h' hz' hs' => hQ h' hz' hs'
end
theorem turn_zs {P : Program} {w : World} {K : PySem.W.Frag} {elts : List Expr} {kk : Nat} {tpos : Pos} {a b z TI TO i1 i2 : Addr} (t1 t2 : Bool) (S : ZipSep2 z TI TO i1 i2 [i1, a] [i2, b]) (ne1 : a ≠ i1) (ne2 : b ≠ i2) :
    Turn P w K (.Tuple elts kk tpos) (Itzs K t1 t2 a b) [z, TI, TO, i1, i2] z (fun i h => IsZipS h z TI TO .none ∧ IsTupOf2 h TI (.ref i1) (.ref i2) ∧ (∃ x y, IsTupOf2 h TO x y) ∧ ItB t1 h i1 a i ∧ ItB t2 h i2 b i) := by
  have five : ∀ {c}, c ∈ [z, TI, TO, i1, i2] → c = z ∨ c = TI ∨ c = TO ∨ c = i1 ∨ c = i2 := fun h => by simpa using h
  have nofive : ∀ {c}, c ∉ [z, TI, TO, i1, i2] → c ≠ z ∧ c ≠ TI ∧ c ≠ TO ∧ c ≠ i1 ∧ c ≠ i2 := fun h => by simpa using h
  refine
  { mem := by simp
    obj := fun i h st c hc => ?_
    keep := fun i h h' st k => ?_
    item := ?_
    done := ?_
    self := fun A i s Q E st h => zs_iter st.1 h }
  · obtain ⟨hz, hTI, ⟨x, y, hTO⟩, h1, h2⟩ := st
    rcases five hc with rfl | rfl | rfl | rfl | rfl
    · exact ⟨_, hz, fun v q => by cases q⟩
    · exact ⟨_, hTI, fun v q => by cases q⟩
    · exact ⟨_, hTO, fun v q => by cases q⟩
    · exact h1.obj
    · exact h2.obj
  · obtain ⟨hz, hTI, ⟨x, y, hTO⟩, h1, h2⟩ := st
    exact ⟨k z (by simp) _ hz, k TI (by simp) _ hTI, ⟨x, y, k TO (by simp) _ hTO⟩, h1.at fun o q => k i1 (by simp) o q, h2.at fun o q => k i2 (by simp) o q⟩
  · intro X hP hw hK hc i pins s σ H E I hf st hg
    subst hP hw hK
    obtain ⟨hz, hTI, ⟨x0, y0, hTO⟩, h1, h2⟩ := st
    obtain ⟨xs, ys, x, y, hqx, hqy, hl, hx, hy⟩ := hg
    obtain ⟨its, rv, p1, _⟩ := sqB_inv I hqx
    obtain ⟨its2, rv2, p2, _⟩ := sqB_inv I hqy
    obtain ⟨u, hu, ru⟩ := rv.get hx
    obtain ⟨u2, hu2, ru2⟩ := rv2.get hy
    have hh := I.ok.hd hc
    have hzl : z < s.heap.objs.size := Heap.lt_size hz
    have il : i < its.toArray.size := by
      have := (List.getElem?_eq_some_iff.mp hu).1
      simpa using this
    have D1 := drawsB (prog := X.prog) (w := X.w) (A := X.A.in1) hh t1 i1 a ne1 its.toArray
    have D2 := drawsB (prog := X.prog) (w := X.w) (A := X.A.in1) hh t2 i2 b ne2 its2.toArray
    have le : its2.toArray.size = its.toArray.size := by
      have l1 := rv.length
      have l2 := rv2.length
      simp only [List.size_toArray]
      omega
    rw [le] at D2
    have hT : s.TypeIs (.ref z) "zip" := ⟨_, hz, rfl⟩
    unfold pyNext
    refine wpAny_bind (wpAny_attempt (wpAny_callSpecial?_slot (name := Str.ofString "__next__") hT F.slot_zip_next (wpAny_call_entry F.slot_zip_next hT F.entry_zip_next
      (zs_item S D1 D2 hz hTI hTO ⟨h1, p1⟩ ⟨h2, p2⟩ il fun v1 v2 h' tk hv1 hv2 z' TO' n1 n2 hT' hsz hk => ?_) (F.args_zip_next_1 _))))
    have e1 : v1 = u := by
      have hv1 : its[i]? = some v1 := by simpa using hv1
      rw [hu] at hv1
      exact (Option.some.inj hv1).symm
    have e2 : v2 = u2 := by
      have hv2 : its2[i]? = some v2 := by simpa using hv2
      rw [hu2] at hv2
      exact (Option.some.inj hv2).symm
    subst e1 e2
    refine wpAny_pure ⟨_, rfl, zs_go (s := { s with heap := h', toks := tk }) z' fun h'' z'' sb => ?_⟩
    replace sb : Heap.SameBut z h' h'' := sb
    have hT2 : h''.get? s.heap.objs.size = some { cls := .type "tuple", data := .seq #[v1, v2] } := (sb.2 _ (Nat.ne_of_gt hzl)).trans hT'
    have new : ObjOk X.prog X.w (upd H s.heap.objs.size (.tup [x, y])) h'' s.heap.objs.size (.tup [x, y]) := ⟨by show 2 ≤ sizeLine; decide, [v1, v2], .cons ru (.cons ru2 .nil), ⟨_, hT2, rfl, _, rfl⟩⟩
    have I1 : Inv X pins σ (upd H s.heap.objs.size (.tup [x, y])) { s with heap := h'', toks := tk } :=
      I.turnedNew (t' := tk) (ch := [z, TI, TO, i1, i2]) (fun c o hb q => by
        obtain ⟨c1, c2, c3, c4, c5⟩ := nofive hb
        exact (sb.2 c c1).trans (hk c o c1 c3 c4 c5 q)) hf (Nat.le_refl _) new
    refine ⟨.ref s.heap.objs.size, _, I1, rfl, ⟨_, x, y, rfl, I.hok.fresh (Nat.le_refl _), rfl, fun l hl => by rw [sqB_inj I hl hqx]; exact hx, fun l hl => by rw [sqB_inj I hl hqy]; exact hy⟩, ⟨z'', ?_, ⟨v1, v2, ?_⟩, ?_, ?_⟩, fun c hcm => ?_⟩
    · exact (sb.2 _ S.TIz).trans (hk _ _ S.TIz S.TITO S.TIi1 S.TIi2 hTI)
    · exact (sb.2 _ S.TOz).trans TO'
    · exact n1.1.at fun o q => (sb.2 _ S.zi1.symm).trans q
    · exact n2.1.at fun o q => (sb.2 _ S.zi2.symm).trans q
    · have hlt : c < s.heap.objs.size := by
        rcases five hcm with q | q | q | q | q
        · rw [q]; exact hzl
        · rw [q]; exact Heap.lt_size hTI
        · rw [q]; exact Heap.lt_size hTO
        · rw [q]; obtain ⟨_, e1, _⟩ := h1.obj; exact Heap.lt_size e1
        · rw [q]; obtain ⟨_, e2, _⟩ := h2.obj; exact Heap.lt_size e2
      rw [upd_ne (Nat.ne_of_lt hlt)]
      exact (hf c hcm).1
  · intro X hP hw hK hc i pins s σ H E I hf st hg
    subst hP hw hK
    obtain ⟨hz, hTI, ⟨x0, y0, hTO⟩, h1, h2⟩ := st
    obtain ⟨xs, ys, hqx, hqy, l1, l2⟩ := hg
    obtain ⟨its, rv, p1, _⟩ := sqB_inv I hqx
    obtain ⟨its2, rv2, p2, _⟩ := sqB_inv I hqy
    have hh := I.ok.hd hc
    have z1 : its.toArray.size = i := by rw [List.size_toArray, ← rv.length, l1]
    have z2 : its2.toArray.size = i := by rw [List.size_toArray, ← rv2.length, l2]
    have D1 := drawsB (prog := X.prog) (w := X.w) (A := X.A.in1) hh t1 i1 a ne1 its.toArray
    have D2 := drawsB (prog := X.prog) (w := X.w) (A := X.A.in1) hh t2 i2 b ne2 its2.toArray
    rw [z1] at D1
    rw [z2] at D2
    have hT : s.TypeIs (.ref z) "zip" := ⟨_, hz, rfl⟩
    unfold pyNext
    refine wpAny_bind (wpAny_attempt (wpAny_callSpecial?_slot (name := Str.ofString "__next__") hT F.slot_zip_next (wpAny_call_entry F.slot_zip_next hT F.entry_zip_next
      (zs_end (by exact hh) S D1 D2 hz hTI hTO ⟨h1, p1⟩ ⟨h2, p2⟩ fun h' e hk he => ?_) (F.args_zip_next_1 _))))
    obtain ⟨o, ho, hc'⟩ := he
    refine wpAny_bind (wpAny_isInstance (T := "StopIteration") (b := true) ⟨o, ho, hc'⟩ isSubtype_stop (wpAny_pure ⟨rfl, ?_⟩))
    exact I.turnedL (t' := s.toks) (ch := [z, TI, TO, i1, i2]) (fun c o hb q => by
      obtain ⟨c1, c2, c3, c4, c5⟩ := nofive hb
      exact hk c o c1 c3 c4 c5 q) hf
/-! ### the call -/
theorem typeCall_zs (a b : Value) : checkTypeCall "zip" ⟨[a, b], [(Str.ofString "strict", .bool true)]⟩ = pure () := by kernel_rfl
theorem newCall_zs (a b : Value) : checkBuiltinCall "zip.__new__" ⟨[.type "zip", a, b], [(Str.ofString "strict", .bool true)]⟩ = pure () := by kernel_rfl
theorem init_zs (obj a b : Value) : argsOk "object.__init__" ⟨[obj, a, b], [(Str.ofString "strict", .bool true)]⟩ := by unfold argsOk; kernel_rfl
abbrev zsZ (h : Heap) (o1 o2 : Obj) : Heap := (gzO2 h o1 o2).push { cls := .type "zip", data := .fields #[.none, .bool false, .bool true, .ref ((h.push o1).push o2).objs.size, .ref (gzT2 h o1 o2).objs.size] }
theorem meets_zs {v1 v2 : Value} {o1 o2 : Obj} {H1 H2 : Heap → Prop} (B1 : Begins v1 o1 H1) (B2 : Begins v2 o2 H2) :
    Meets (Builtin.«zip.__new__» ⟨[.type "zip", v1, v2], [(Str.ofString "strict", .bool true)]⟩) (fun _ R s => (H1 s.heap ∧ H2 s.heap) ∧ R (.ok (.ret (.ref (gzO2 s.heap o1 o2).objs.size))) { s with heap := zsZ s.heap o1 o2 }) :=
  .of_wp fun prog w A R s h => by
    obtain ⟨hp, g, d, tk, os⟩ := s; obtain ⟨⟨h1, h2⟩, h⟩ := h
    have hsub := sub_zip
    have q1 : ∀ {A' : Around} {E : Value → Shared → Prop} {Q : Value → Shared → Prop}, Q (.ref hp.objs.size) ⟨(hp.push o1), g, d, tk, os⟩ → wpAny (model prog w) A' (pyIter v1) Q E ⟨hp, g, d, tk, os⟩ :=
      fun q => B1.iter prog w _ _ ⟨hp, g, d, tk, os⟩ _ (B1.keeps _ _ h1 fun b o' e => e) q
    have q2 : ∀ {A' : Around} {E : Value → Shared → Prop} {Q : Value → Shared → Prop}, Q (.ref (hp.push o1).objs.size) ⟨((hp.push o1).push o2), g, d, tk, os⟩ → wpAny (model prog w) A' (pyIter v2) Q E ⟨(hp.push o1), g, d, tk, os⟩ :=
      fun q => B2.iter prog w _ _ ⟨(hp.push o1), g, d, tk, os⟩ _ (B2.keeps _ _ h2 fun b o' e => (Heap.get?_push_of_some _ e)) q
    have e1 : (Str.ofString "strict" != ("strict" : Str)) = false := by decide +kernel
    wp_walk using q1, q2
    exact ⟨_, rfl, h⟩
end My

set_option Elab.async false
set_option linter.all false
set_option maxRecDepth 100000
set_option maxHeartbeats 1000000
namespace My
open PySem PySem.Spec PyProof.Rows L2 Evl Builtin.SmallTypes
/-- a built-in class called with keywords -/
theorem callTy_kw {M : Model} {A : Around} {E : Value → Shared → Prop} {s : Shared} {env : Env} {pos : Pos} {T : String} {e : Expr} {rest : List Expr} {kws : List Keyword} {Q : Value → Shared → Prop}
    (h : wpAny M A (spliced (backTo pos (starEach (e :: rest) env))) (fun vs s1 => wpAny M A (evalAll ((backToKw pos (keywordEach kws env)).map (·.2)))
      (fun ks s2 => wpAny M A (call (.type T) vs (((backToKw pos (keywordEach kws env)).filterMap (·.1)).zip ks)) Q E s2) E s1) E s)
    (he : backTo pos (starEach (e :: rest) env) = (false, eval e env) :: backTo pos (starEach rest env)) (h1 : (backTo pos (starEach (e :: rest) env)).any (·.1) = false)
    (h2 : (backToKw pos (keywordEach kws env)).all (·.1.isSome) = true) (h3 : (backToKw pos (keywordEach kws env)).any (·.1.isNone) = false) :
    wpAny M A (callWith pos (.type T) [] (backTo pos (starEach (e :: rest) env)) (backToKw pos (keywordEach kws env))) Q E s := by
  have a : wpAny M A (evalArgs (.type T) true (backTo pos (starEach (e :: rest) env)) (backToKw pos (keywordEach kws env))) (fun a s1 => wpAny M A (call (.type T) ([] ++ a.pos) a.kw) Q E s1) E s := by
    rw [he] at h ⊢
    exact PyProof.Rows.evalArgs_kwB h2 h
  unfold callWith
  refine wpAny_bind (wpAny_holding (wpAny_mono a (fun a s1 q => wpAny_bind (wpAny_standAt ?_)) fun _ _ x => x))
  simp only [h1, h3, Bool.or_false]
  refine wpAny_bind (wpAny_pure (wpAny_bind (wpAny_mono q (fun r s2 hr => ?_) fun _ _ x => x)))
  exact wpAny_bind (wpAny_holding (wpAny_point (wpAny_pure hr)))
theorem sep_zs {n a b : Nat} (ha : a < n) (hb : b < n) : ZipSep2 (n + 4) (n + 2) (n + 3) n (n + 1) [n, a] [n + 1, b] := by
  refine ⟨?_, ?_, ?_, ?_, ?_, ?_, ?_, ?_, ?_, ?_, ?_, ?_, ?_⟩ <;> (try simp only [List.mem_cons, List.not_mem_nil, or_false, not_or, ne_eq]) <;> (try unfold Addr at *) <;> (first | omega | exact .inl rfl | exact .inl trivial)
def iZs (K : PySem.W.Frag) (t1 t2 : Bool) (ta : TA) : TI := fun σ H R => ta σ H fun vs H1 => ∃ a b xs ys, vs = [.ref a, .ref b] ∧ SqB K t1 H1 a xs ∧ SqB K t2 H1 b ys ∧ R (Itzs K t1 t2 a b) H1
theorem pi_zs {X : Cx} {e : Expr} {es : List Expr} {ta : TA} {p pos tpos : Pos} {kws : List Keyword} {elts : List Expr} {kk : Nat} (t1 t2 : Bool) (hg : Gl X "zip") (hm : X.mg "zip" = none) (ha : PA X (e :: es) ta) (hk : PK X kws (tCons (tC (.bl true)) tNil))
    (he : backTo pos (starEach (e :: es) X.env) = (false, eval e X.env) :: backTo pos (starEach es X.env) := by rfl) (hpl : (backTo pos (starEach (e :: es) X.env)).any (·.1) = false := by rfl)
    (hks : (backToKw pos (keywordEach kws X.env)).filterMap (·.1) = [Str.ofString "strict"] := by rfl)
    (hall : (backToKw pos (keywordEach kws X.env)).all (·.1.isSome) = true := by rfl) (hnone : (backToKw pos (keywordEach kws X.env)).any (·.1.isNone) = false := by rfl) :
    PI X (.Tuple elts kk tpos) (.Call (.Name "zip" p) (e :: es) kws pos) (iZs X.K t1 t2 ta) := by
  refine ⟨fun pins s σ H R I h => ?_⟩
  refine wpAny_Call_Name_kw (ld_blt I hg hm PyProof.Rows.boot_zip ?_)
  refine callTy_kw (thn (ha.run pos pins s σ H _ I h) fun us s1 h1 => ?_) he hpl hall hnone
  obtain ⟨vs, H1, I1, r1, q1⟩ := h1
  refine thn (hk.run pos pins s1 σ H1 (fun zs H2 => zs = [.bl true] ∧ H2 = H1) I1 ⟨rfl, rfl⟩) fun ws s2 h2 => ?_
  obtain ⟨zs, H2, I2, r2, ez, eh⟩ := h2
  subst ez
  subst eh
  obtain ⟨a, b, xs, ys, rfl, hqx, hqy, q⟩ := q1
  have ew : ws = [.bool true] := by
    cases r2 with
    | cons r rr =>
      cases rr
      rw [show _ = Value.bool true from r]
  obtain ⟨u1, u2, rfl, ra, rb⟩ := vals2 r1
  cases (show u1 = Value.ref a from ra)
  cases (show u2 = Value.ref b from rb)
  rw [hks, ew]
  obtain ⟨its, rv, p1, la⟩ := sqB_inv I2 hqx
  obtain ⟨its2, rv2, p2, lb⟩ := sqB_inv I2 hqy
  refine callType_newKw F.called_zip (by decide) (typeCall_zs _ _) (newCall_zs _ _) (fun obj => init_zs obj _ _) F.entry_zip_new (meets_zs (beginsB t1 a its.toArray) (beginsB t2 b its2.toArray)) ⟨⟨p1, p2⟩, ?_⟩
  have z1 : (s2.heap.push (oB t1 a)).objs.size = s2.heap.objs.size + 1 := by rw [Heap.size_push]
  have z2 : ((s2.heap.push (oB t1 a)).push (oB t2 b)).objs.size = s2.heap.objs.size + 2 := by rw [Heap.size_push, z1]
  have zT : (gzT2 s2.heap (oB t1 a) (oB t2 b)).objs.size = s2.heap.objs.size + 3 := by rw [Heap.size_push, z2]
  have zO : (gzO2 s2.heap (oB t1 a) (oB t2 b)).objs.size = s2.heap.objs.size + 4 := by rw [Heap.size_push, zT]
  have f1 := (beginsB t1 a its.toArray).free
  have f2 := (beginsB t2 b its2.toArray).free
  have gZ : (zsZ s2.heap (oB t1 a) (oB t2 b)).get? (gzO2 s2.heap (oB t1 a) (oB t2 b)).objs.size = some _ := Heap.get?_push_size _ rfl
  have gO : (zsZ s2.heap (oB t1 a) (oB t2 b)).get? (gzT2 s2.heap (oB t1 a) (oB t2 b)).objs.size = some _ := Heap.get?_push_of_some _ (Heap.get?_push_size _ rfl)
  have gT : (zsZ s2.heap (oB t1 a) (oB t2 b)).get? ((s2.heap.push (oB t1 a)).push (oB t2 b)).objs.size = some _ := Heap.get?_push_of_some _ (Heap.get?_push_of_some _ (Heap.get?_push_size _ rfl))
  have g1 : (zsZ s2.heap (oB t1 a) (oB t2 b)).get? s2.heap.objs.size = some (oB t1 a) := Heap.get?_push_of_some _ (Heap.get?_push_of_some _ (Heap.get?_push_of_some _ (Heap.get?_push_of_some _ (Heap.get?_push_size _ f1))))
  have g2 : (zsZ s2.heap (oB t1 a) (oB t2 b)).get? (s2.heap.push (oB t1 a)).objs.size = some (oB t2 b) := Heap.get?_push_of_some _ (Heap.get?_push_of_some _ (Heap.get?_push_of_some _ (Heap.get?_push_size _ f2)))
  have keep : ∀ c o, s2.heap.get? c = some o → (zsZ s2.heap (oB t1 a) (oB t2 b)).get? c = some o := fun c o e => Heap.get?_push_of_some _ (Heap.get?_push_of_some _ (Heap.get?_push_of_some _ (Heap.get?_push_of_some _ (Heap.get?_push_of_some _ e))))
  rw [zO, zT, z2] at gZ
  rw [zT] at gO
  rw [z2, z1] at gT
  rw [z1] at g2
  generalize zsZ s2.heap (oB t1 a) (oB t2 b) = h' at gZ gO gT g1 g2 keep
  show _ ∧ _
  rw [zO]
  refine ⟨⟨_, gZ, rfl⟩, zs_iter gZ ?_⟩
  have I3 : Inv X pins σ H2 { s2 with heap := h' } := I2.kept (t' := s2.toks) keep
  refine ⟨s2.heap.objs.size + 4, [s2.heap.objs.size + 4, s2.heap.objs.size + 2, s2.heap.objs.size + 3, s2.heap.objs.size, s2.heap.objs.size + 1], _, _, H2, rfl, I3, turn_zs t1 t2 (sep_zs la lb) (Nat.ne_of_lt la) (Nat.ne_of_lt (Nat.lt_succ_of_lt lb)), ⟨gZ, gT, ⟨_, _, gO⟩, oB_it t1 g1, oB_it t2 g2⟩, fun c hcm => ?_, q⟩
  have e' : c = s2.heap.objs.size + 4 ∨ c = s2.heap.objs.size + 2 ∨ c = s2.heap.objs.size + 3 ∨ c = s2.heap.objs.size ∨ c = s2.heap.objs.size + 1 := by simpa using hcm
  have hle : s2.heap.objs.size ≤ c := by
    rcases e' with z | z | z | z | z
    · rw [z]; exact Nat.le_add_right _ _
    · rw [z]; exact Nat.le_add_right _ _
    · rw [z]; exact Nat.le_add_right _ _
    · rw [z]; exact Nat.le_refl _
    · rw [z]; exact Nat.le_add_right _ _
  exact I2.fpOk hle (I2.hok.fresh hle)
end My

set_option Elab.async false
set_option linter.all false
set_option maxRecDepth 100000
set_option maxHeartbeats 1000000
/-! loops and comprehensions over ranges with a step; two clauses. -/
namespace My
open PySem PySem.Spec PyProof.Rows L2 Evl
theorem rgC_up {n c : Nat} (hn : n < 2 ^ 60) (hc : 0 < c) (hc2 : c < 1073741824) : RgC 0 (n : Int) (c : Int) ((n + c - 1) / c) := by
  have e : Builtin.Range.rangeSize 0 (n : Int) (c : Int) = (((n + c - 1) / c : Nat) : Int) := by
    unfold Builtin.Range.rangeSize
    rw [if_pos (by omega)]
    by_cases h : 0 < n
    · rw [if_pos (by omega), show (n : Int) - 0 - 1 = ((n - 1 : Nat) : Int) by omega, ← Int.natCast_ediv, show n + c - 1 = (n - 1) + c by omega, Nat.add_div_right _ hc]
      rfl
    · rw [if_neg (by omega), show n = 0 by omega, Nat.zero_add, Nat.div_eq_of_lt (by omega)]
      rfl
  refine ⟨by omega, by omega, ?_, e⟩
  unfold Builtin.Range.small
  rw [e]
  have b : (n + c - 1) / c ≤ n := by
    by_cases h : 0 < n
    · rw [show n + c - 1 = (n - 1) + c by omega, Nat.add_div_right _ hc]
      have := Nat.div_le_self (n - 1) c
      omega
    · rw [show n = 0 by omega, Nat.zero_add, Nat.div_eq_of_lt (by omega)]
      exact Nat.le_refl _
  have m : (n + c - 1) / c * c ≤ n + c - 1 := Nat.div_mul_le_self _ _
  generalize (n + c - 1) / c = d at b m
  have m2 : (d : Int) * (c : Int) ≤ (n : Int) + (c : Int) - 1 := by
    rw [← Int.natCast_mul]
    omega
  simp only [Builtin.Range.rangeFitsLong, Bool.and_eq_true, Bool.or_eq_true, decide_eq_true_eq, beq_iff_eq]
  refine ⟨⟨⟨⟨⟨by omega, by omega⟩, by omega, by omega⟩, by omega, by omega⟩, by omega, by omega⟩, .inr ?_⟩
  rw [if_pos (by omega), Bool.and_eq_true, decide_eq_true_eq, decide_eq_true_eq]
  exact ⟨by omega, by omega⟩
section
variable {K : PySem.W.Frag} {σ : L2.St} {H H' : Hp} {ta : TA} {tb te tl : TE} {xs ys : List V} {x z v : V} {p : Addr} {D : Ends} {tu tz : TS} {g : TG}
theorem s_forR3 {j n : Nat} {lo hi c : Int} (h : EvA ta σ H [.int lo, .int hi, .int c]) (hn : RgC lo hi c n) (Pv : Nat → L2.St → Hp → Prop) (h0 : ∀ H1, Ex H H1 → Pv 0 σ H1)
    (hs : ∀ (i : Nat) σ' H', i < n → Pv i σ' H' → tu { D with nx := Pv (i + 1), ct := Pv (i + 1), bk := D.nx } (σ'.set j (some (.int (lo + (i : Nat) * c)))) H') (hd : ∀ σ' H', Pv n σ' H' → D.nx σ' H') : tFor (iRng3 ta) (gName j) tu D σ H :=
  h H (Ex.refl H) _ fun H1 e => ⟨lo, hi, c, n, rfl, hn, for_rangeC Pv (h0 H1 e) (fun i σ' H' hi p => hs i σ' H' hi p) hd⟩
theorem q_forR3 {j n : Nat} {lo hi c : Int} (h : EvA ta σ H [.int lo, .int hi, .int c]) (hn : RgC lo hi c n) (Pv : Nat → L2.St → Hp → Prop) (h0 : ∀ H1, Ex H H1 → Pv 0 σ H1)
    (hs : ∀ (i : Nat) σ' H', i < n → Pv i σ' H' → tu { D with nx := Pv (i + 1), ct := Pv (i + 1), bk := tz D } (σ'.set j (some (.int (lo + (i : Nat) * c)))) H') (hd : ∀ σ' H', Pv n σ' H' → tz D σ' H') : tSeq (tFor (iRng3 ta) (gName j) tu) tz D σ H :=
  s_forR3 (D := { D with nx := tz D }) h hn Pv h0 hs hd
theorem tyes_ {F : Bool → Hp → Prop} (h : F true H) : tYes σ H F := h
/-- a comprehension over a range with a step, no test -/
theorem el_lcR3 {j n : Nat} {vs : List Nat} {lo hi c : Int} (v : Nat → V) (h : EvA ta σ H [.int lo, .int hi, .int c]) (hn : RgC lo hi c n) (hz : n ≤ 40000) (hw : ∀ x, wipe ((wipe σ vs).set j (some x)) vs = wipe σ vs)
    (he : ∀ (i : Nat) H1, Ex H H1 → i < n → Ev te ((wipe σ vs).set j (some (.int (lo + (i : Nat) * c)))) H1 (v i)) : EvL (tLc (iRng3 ta) (gName j) tYes te vs) σ H ((List.range n).map v) := by
  intro H0 e Q q
  refine h H0 e _ fun H1 e1 => ⟨lo, hi, c, n, rfl, hn, fun Dl hD => ?_⟩
  refine ⟨fun i m H' => m = n - i ∧ i ≤ n ∧ Ex H1 H' ∧ H' Dl = some (.lst ((List.range i).map v)), ⟨n, rfl, Nat.zero_le _, Ex.new hD, upd_same⟩, ?_⟩
  rintro i m H' ⟨rfl, hi, ex, hl⟩
  by_cases hlt : i < n
  · refine .inr ⟨hlt, fun H' => Ex H1 H' ∧ H' Dl = some (.lst ((List.range (i + 1)).map v)), fun H2 p => ⟨n - (i + 1), by omega, rfl, hlt, p⟩, fun x H2 y => ?_⟩
    obtain ⟨rfl, rfl⟩ := y
    refine ⟨hw _, ?_⟩
    refine tyes_ ?_
    refine iteT (he i H1 (e.trans e1) hlt H2 ex _ fun H3 e3 => ⟨_, e3 Dl _ hl, sz_lt (by rw [List.length_map, List.length_range]; omega), (ex.trans e3).mut hD, ?_⟩)
    rw [upd_same, List.range_succ, List.map_append]
    rfl
  · have e0 : i = n := by omega
    subst e0
    exact .inl ⟨Nat.le_refl _, q Dl H' (fresh_back e1 hD) (e1.trans ex) hl⟩
/-- the items of two clauses: a list that stands, then a range with a step -/
def flat2 (n : Nat) (v : Nat → Nat → V) : Nat → List V
  | 0 => []
  | i + 1 => flat2 n v i ++ (List.range n).map (v i)
theorem flat2_len (n : Nat) (v : Nat → Nat → V) : ∀ i, (flat2 n v i).length = i * n
  | 0 => by simp [flat2]
  | i + 1 => by rw [flat2, List.length_append, flat2_len n v i, List.length_map, List.length_range, Nat.succ_mul]
theorem el_lc2 {a : Addr} {j1 j2 n : Nat} {vs vs1 : List Nat} {lo hi c : Int} (v : Nat → Nat → V) (h : Ev tl σ H (.ref a)) (hx : SqL K H a xs) (hn : RgC lo hi c n) (hz : xs.length * n ≤ 40000)
    (hw : ∀ x, wipe ((wipe σ vs).set j1 (some x)) vs = wipe σ vs) (hw1 : ∀ x y, wipe ((wipe ((wipe σ vs).set j1 (some x)) vs1).set j2 (some y)) vs1 = wipe ((wipe σ vs).set j1 (some x)) vs1)
    (ha : ∀ (i : Nat) (x : V) H1, Ex H H1 → xs[i]? = some x → EvA ta ((wipe σ vs).set j1 (some x)) H1 [.int lo, .int hi, .int c])
    (he : ∀ (i k : Nat) (x : V) H1, Ex H H1 → xs[i]? = some x → k < n → Ev te ((wipe ((wipe σ vs).set j1 (some x)) vs1).set j2 (some (.int (lo + (k : Nat) * c)))) H1 (v i k)) :
    EvL (tLc2 (iList K tl) (gName j1) tYes (iRng3 ta) (gName j2) tYes te vs vs1) σ H (flat2 n v xs.length) := by
  intro H0 e Q q
  refine h H0 e _ fun H1 e1 => ⟨a, rfl, ⟨xs, ex_l (e.trans e1) hx⟩, fun Dl hD => ?_⟩
  have E1 := e.trans e1
  refine ⟨fun i m H' => m = xs.length - i ∧ i ≤ xs.length ∧ Ex H1 H' ∧ H' Dl = some (.lst (flat2 n v i)), ⟨xs.length, rfl, Nat.zero_le _, Ex.new hD, upd_same⟩, ?_⟩
  rintro i m H' ⟨rfl, hi, ex, hl⟩
  by_cases hlt : i < xs.length
  · have gx : xs[i]? = some xs[i] := List.getElem?_eq_getElem hlt
    refine .inr ⟨⟨xs, xs[i], ex_l (E1.trans ex) hx, gx⟩, fun H' => Ex H1 H' ∧ H' Dl = some (.lst (flat2 n v (i + 1))), fun H2 p => ⟨xs.length - (i + 1), by omega, rfl, hlt, p⟩, fun x H2 y => ?_⟩
    obtain ⟨rfl, y⟩ := y
    have ex' : x = xs[i] := Option.some.inj ((y xs (ex_l (E1.trans ex) hx)).symm.trans gx)
    subst ex'
    refine ⟨hw _, ?_⟩
    refine tyes_ ?_
    refine iteT (ha i _ H1 E1 gx H2 ex _ fun H3 e3 => ⟨lo, _, c, n, rfl, hn, ?_⟩)
    refine ⟨fun k m H' => m = n - k ∧ k ≤ n ∧ Ex H1 H' ∧ H' Dl = some (.lst (flat2 n v i ++ (List.range k).map (v i))), ⟨n, rfl, Nat.zero_le _, ex.trans e3, by rw [List.range_zero, List.map_nil, List.append_nil]; exact e3 Dl _ hl⟩, ?_⟩
    rintro k m H4 ⟨rfl, hk, ex4, hl4⟩
    by_cases hkn : k < n
    · refine .inr ⟨hkn, fun H' => Ex H1 H' ∧ H' Dl = some (.lst (flat2 n v i ++ (List.range (k + 1)).map (v i))), fun H5 p => ⟨n - (k + 1), by omega, rfl, hkn, p⟩, fun x H5 y => ?_⟩
      obtain ⟨rfl, rfl⟩ := y
      refine ⟨hw1 _ _, ?_⟩
      refine tyes_ ?_
      refine iteT (he i k _ H1 E1 gx hkn H5 ex4 _ fun H6 e6 => ⟨_, e6 Dl _ hl4, sz_lt ?_, (ex4.trans e6).mut hD, ?_⟩)
      · rw [List.length_append, flat2_len, List.length_map, List.length_range]
        have : (i + 1) * n ≤ xs.length * n := Nat.mul_le_mul_right _ hlt
        rw [Nat.succ_mul] at this
        omega
      · rw [upd_same, List.range_succ, List.map_append, List.append_assoc]
        rfl
    · have e0 : k = n := by omega
      subst e0
      exact .inl ⟨Nat.le_refl _, ex4, hl4⟩
  · have e0 : i = xs.length := by omega
    subst e0
    exact .inl ⟨⟨xs, ex_l (E1.trans ex) hx, Nat.le_refl _⟩, q Dl H' (fresh_back e1 hD) (e1.trans ex) hl⟩
/-- ''.join of one-sign texts -/
theorem join_ones (l : List Nat) : Txt.join (tx []) (l.map fun c => tx [c]) = tx l := by
  show Builtin.Str.glued _ _ = _
  rw [StrLaws.glued_eq_join]
  have h : ∀ l : List Nat, Str.join (tx []) (l.map fun c => tx [c]) = tx l := by
    intro l
    induction l with
    | nil => rfl
    | cons c r ih =>
      cases r with
      | nil => rfl
      | cons d r =>
        show tx [c] ++ tx [] ++ Str.join (tx []) ((d :: r).map fun c => tx [c]) = _
        rw [ih, tx_app, tx_app]
        rfl
  exact h l
end

/-! ### zip of two, strict -/
def EvZ (K : PySem.W.Frag) (ta : TA) (σ : L2.St) (H : Hp) (t1 t2 : Bool) (xs ys : List V) : Prop := ∀ H1, Ex H H1 → ∀ Q : List V → Hp → Prop, (∀ a b H2, Ex H1 H2 → SqB K t1 H2 a xs → SqB K t2 H2 b ys → Q [.ref a, .ref b] H2) → ta σ H1 Q
section
variable {K : PySem.W.Frag} {σ : L2.St} {H H' : Hp} {ta : TA} {ta1 tb1 te tl : TE} {xs ys : List V} {x z v : V} {p : Addr} {D : Ends} {tu tz : TS} {g : TG} {t1 t2 : Bool}
theorem ex_b {a : Addr} (e : Ex H H') (h : SqB K t1 H a xs) : SqB K t1 H' a xs := by
  cases t1
  · exact ex_l e h
  · exact ex_t e h
theorem ez_gt (h2 : Ev tb1 σ H (.ref p)) (hp : SqL K H p ys) : EvZ K (tCons (tGT K xs) (tCons tb1 tNil)) σ H true false xs ys := fun H1 e Q q =>
  fun a ha => h2 H1 e _ fun H2 e2 => q a p H2 e2 (ha H2) (ex_l (e.trans e2) hp)
theorem ez_vn (h1 : Ev ta1 σ H (.ref p)) (hp : SqL K H p xs) (h2 : EvL tb1 σ H ys) : EvZ K (tCons ta1 (tCons tb1 tNil)) σ H false false xs ys := fun H1 e Q q =>
  h1 H1 e _ fun H2 e2 => h2 H2 (e.trans e2) _ fun b H3 _ e3 hb => q p b H3 (e2.trans e3) (ex_l ((e.trans e2).trans e3) hp) (sq_of hb)
theorem s_forZ {j1 j2 : Nat} (h : EvZ K ta σ H t1 t2 xs ys) (hl : xs.length = ys.length) (Pv : Hp → Nat → L2.St → Hp → Prop) (h0 : ∀ H1, Ex H H1 → Pv H1 0 σ H1) (hk : ∀ H1 i σ' H', Pv H1 i σ' H' → Ex H1 H')
    (hs : ∀ H1 i x y σ' H', Ex H H1 → xs[i]? = some x → ys[i]? = some y → Pv H1 i σ' H' → ∀ H2, Ex H' H2 → tu { D with nx := Pv H1 (i + 1), ct := Pv H1 (i + 1), bk := D.nx } ((σ'.set j1 (some x)).set j2 (some y)) H2)
    (hd : ∀ H1 σ' H', Ex H H1 → Pv H1 xs.length σ' H' → D.nx σ' H') : tFor (iZs K t1 t2 ta) (gTup K 2 (gCons (gName j1) (gCons (gName j2) gNil))) tu D σ H := by
  refine h H (Ex.refl H) _ fun a b H1 e ha hb => ⟨a, b, xs, ys, rfl, ha, hb, ?_⟩
  refine ⟨fun i m σ' H' => m = xs.length - i ∧ i ≤ xs.length ∧ Pv H1 i σ' H', ⟨xs.length, rfl, Nat.zero_le _, h0 H1 e⟩, ?_⟩
  rintro i m σ' H' ⟨rfl, hi, p⟩
  have ex := hk H1 i σ' H' p
  by_cases hlt : i < xs.length
  · have gx : xs[i]? = some xs[i] := List.getElem?_eq_getElem hlt
    have hlt2 : i < ys.length := by omega
    have gy : ys[i]? = some ys[i] := List.getElem?_eq_getElem hlt2
    refine .inr ⟨⟨xs, ys, _, _, ex_b ex ha, ex_b ex hb, hl, gx, gy⟩, Pv H1 (i + 1), fun σ2 H2 p2 => ⟨xs.length - (i + 1), by omega, rfl, hlt, p2⟩, fun v H2 y => ?_⟩
    obtain ⟨T, x', y', rfl, hT, rfl, f1, f2⟩ := y
    exact ⟨T, [x', y'], rfl, st_of upd_same, rfl, x', [y'], rfl, y', [], rfl, rfl, hs H1 i x' y' σ' H' e (f1 xs (ex_b ex ha)) (f2 ys (ex_b ex hb)) p _ (Ex.new hT)⟩
  · have e0 : i = xs.length := by omega
    subst e0
    exact .inl ⟨⟨xs, ys, ex_b ex ha, ex_b ex hb, rfl, hl.symm⟩, hd H1 σ' H' e p⟩
theorem q_forZ {j1 j2 : Nat} (h : EvZ K ta σ H t1 t2 xs ys) (hl : xs.length = ys.length) (Pv : Hp → Nat → L2.St → Hp → Prop) (h0 : ∀ H1, Ex H H1 → Pv H1 0 σ H1) (hk : ∀ H1 i σ' H', Pv H1 i σ' H' → Ex H1 H')
    (hs : ∀ H1 i x y σ' H', Ex H H1 → xs[i]? = some x → ys[i]? = some y → Pv H1 i σ' H' → ∀ H2, Ex H' H2 → tu { D with nx := Pv H1 (i + 1), ct := Pv H1 (i + 1), bk := tz D } ((σ'.set j1 (some x)).set j2 (some y)) H2)
    (hd : ∀ H1 σ' H', Ex H H1 → Pv H1 xs.length σ' H' → tz D σ' H') : tSeq (tFor (iZs K t1 t2 ta) (gTup K 2 (gCons (gName j1) (gCons (gName j2) gNil))) tu) tz D σ H :=
  s_forZ (D := { D with nx := tz D }) h hl Pv h0 hk hs hd
theorem el_lcZ {j1 j2 : Nat} {vs : List Nat} (v : Nat → V) (h : EvZ K ta σ H t1 t2 xs ys) (hl : xs.length = ys.length) (hz : xs.length ≤ 40000) (hw : ∀ x y, wipe (((wipe σ vs).set j1 (some x)).set j2 (some y)) vs = wipe σ vs)
    (he : ∀ (i : Nat) (x y : V) H1, Ex H H1 → xs[i]? = some x → ys[i]? = some y → Ev te (((wipe σ vs).set j1 (some x)).set j2 (some y)) H1 (v i)) :
    EvL (tLc (iZs K t1 t2 ta) (gTup K 2 (gCons (gName j1) (gCons (gName j2) gNil))) tYes te vs) σ H ((List.range xs.length).map v) := by
  intro H0 e Q q
  refine h H0 e _ fun a b H1 e1 ha hb => ⟨a, b, xs, ys, rfl, ha, hb, fun Dl hD => ?_⟩
  refine ⟨fun i m H' => m = xs.length - i ∧ i ≤ xs.length ∧ Ex H1 H' ∧ H' Dl = some (.lst ((List.range i).map v)), ⟨xs.length, rfl, Nat.zero_le _, Ex.new hD, upd_same⟩, ?_⟩
  rintro i m H' ⟨rfl, hi, ex, hll⟩
  by_cases hlt : i < xs.length
  · have gx : xs[i]? = some xs[i] := List.getElem?_eq_getElem hlt
    have hlt2 : i < ys.length := by omega
    have gy : ys[i]? = some ys[i] := List.getElem?_eq_getElem hlt2
    refine .inr ⟨⟨xs, ys, _, _, ex_b ex ha, ex_b ex hb, hl, gx, gy⟩, fun H' => Ex H1 H' ∧ H' Dl = some (.lst ((List.range (i + 1)).map v)), fun H2 p2 => ⟨xs.length - (i + 1), by omega, rfl, hlt, p2⟩, fun v' H2 y => ?_⟩
    obtain ⟨T, x', y', rfl, hT, rfl, f1, f2⟩ := y
    refine ⟨T, [x', y'], rfl, st_of upd_same, rfl, x', [y'], rfl, y', [], rfl, rfl, hw _ _, ?_⟩
    refine tyes_ ?_
    have eT : Ex H1 (upd H' T (.tup [x', y'])) := ex.trans (Ex.new hT)
    refine iteT (he i x' y' H1 (e.trans e1) (f1 xs (ex_b ex ha)) (f2 ys (ex_b ex hb)) _ eT _ fun H3 e3 => ⟨_, e3 Dl _ ((Ex.new hT) Dl _ hll), sz_lt (by rw [List.length_map, List.length_range]; omega), (eT.trans e3).mut hD, ?_⟩)
    rw [upd_same, List.range_succ, List.map_append]
    rfl
  · have e0 : i = xs.length := by omega
    subst e0
    exact .inl ⟨⟨xs, ys, ex_b ex ha, ex_b ex hb, rfl, hl.symm⟩, q Dl H' (fresh_back e1 hD) (e1.trans ex) hll⟩
end
section
variable {K : PySem.W.Frag} {σ : L2.St} {H H' : Hp} {ta : TA} {te : TE} {x y : V} {D : Ends} {tz : TS}
theorem s_par {i j : Nat} (h : EvA ta σ H [x, y]) (k : ∀ H1, Ex H H1 → D.nx ((σ.set i (some x)).set j (some y)) H1) : tPar i j ta D σ H := h H (Ex.refl H) _ fun H1 e => ⟨x, y, rfl, k H1 e⟩
theorem q_par {i j : Nat} (h : EvA ta σ H [x, y]) (k : ∀ H1, Ex H H1 → tz D ((σ.set i (some x)).set j (some y)) H1) : tSeq (tPar i j ta) tz D σ H := s_par (D := { D with nx := tz D }) h k
end
/-! ### several names at once -/
def gNs : List Nat → TGs
  | [] => gNil
  | i :: r => gCons (gName i) (gNs r)
def setN : L2.St → List Nat → List V → L2.St
  | σ, i :: is, v :: vs => setN (σ.set i (some v)) is vs
  | σ, _, _ => σ
theorem gNs_run : ∀ {is : List Nat} {vs : List V} {σ : L2.St} {H : Hp} {Q : L2.St → Hp → Prop}, vs.length = is.length → Q (setN σ is vs) H → gNs is vs σ H Q
  | [], [], _, _, _, _, q => ⟨rfl, q⟩
  | i :: is, v :: vs, σ, H, Q, h, q => ⟨v, vs, rfl, gNs_run (Nat.succ.inj h) q⟩
  | [], _ :: _, _, _, _, h, _ => nomatch h
  | _ :: _, [], _, _, _, h, _ => nomatch h
section
variable {K : PySem.W.Frag} {σ : L2.St} {H H' : Hp} {ta : TA} {te : TE} {vs : List V} {p : Addr} {D : Ends} {tz : TS} {n : Nat}
theorem s_unl (is : List Nat) (h : Ev te σ H (.ref p)) (hS : SqL K H p vs) (hn : vs.length = n) (hl : vs.length = is.length) (k : ∀ H1, Ex H H1 → D.nx (setN σ is vs) H1) : tAsg te (gUnl K n (gNs is)) D σ H :=
  h H (Ex.refl H) _ fun H1 e => ⟨p, vs, rfl, ex_l e hS, hn, gNs_run hl (k H1 e)⟩
theorem q_unl (is : List Nat) (h : Ev te σ H (.ref p)) (hS : SqL K H p vs) (hn : vs.length = n) (hl : vs.length = is.length) (k : ∀ H1, Ex H H1 → tz D (setN σ is vs) H1) : tSeq (tAsg te (gUnl K n (gNs is))) tz D σ H := s_unl (D := { D with nx := tz D }) is h hS hn hl k
theorem s_unt (is : List Nat) (h : Ev te σ H (.ref p)) (hS : SqT K H p vs) (hn : vs.length = n) (hl : vs.length = is.length) (k : ∀ H1, Ex H H1 → D.nx (setN σ is vs) H1) : tAsg te (gTup K n (gNs is)) D σ H :=
  h H (Ex.refl H) _ fun H1 e => ⟨p, vs, rfl, ex_t e hS, hn, gNs_run hl (k H1 e)⟩
theorem s_tupN (is : List Nat) (h : EvU te σ H vs) (hn : vs.length = n) (hl : vs.length = is.length) (k : ∀ H1, Ex H H1 → D.nx (setN σ is vs) H1) : tAsg te (gTup K n (gNs is)) D σ H :=
  h H (Ex.refl H) _ fun p H1 hp e h1 => ⟨p, vs, rfl, st_of h1, hn, gNs_run hl (k H1 e)⟩
theorem q_tupN (is : List Nat) (h : EvU te σ H vs) (hn : vs.length = n) (hl : vs.length = is.length) (k : ∀ H1, Ex H H1 → tz D (setN σ is vs) H1) : tSeq (tAsg te (gTup K n (gNs is))) tz D σ H := s_tupN (D := { D with nx := tz D }) is h hn hl k
theorem ru_inv {i : Int} : RU (rU fun i => .int (Builtin.bitNot i)) (.int i) H (.int (Builtin.bitNot i)) := fun H1 _ _ q => ⟨i, rfl, q H1 (Ex.refl H1)⟩
end
end My

set_option Elab.async false
set_option linter.all false
set_option maxRecDepth 100000
set_option maxHeartbeats 1000000
/-! data, and what a value stands for in a heap. -/
namespace My
open PySem PySem.Spec PyProof.Rows L2 Evl
inductive D where
  | non | bl (b : Bool) | int (i : Int) | str (l : List Nat) | tup (ds : List D) | lst (ds : List D)
mutual
inductive Rep (H : Hp) : V → D → Prop
  | non : Rep H .non .non
  | bl (b : Bool) : Rep H (.bl b) (.bl b)
  | int (i : Int) : Rep H (.int i) (.int i)
  | str (l : List Nat) : Rep H (.str (tx l)) (.str l)
  | tup {a : Addr} {vs : List V} {ds : List D} (e : H a = some (.tup vs)) (r : Reps H vs ds) : Rep H (.ref a) (.tup ds)
  | lst {a : Addr} {vs : List V} {ds : List D} (e : H a = some (.lst vs)) (r : Reps H vs ds) : Rep H (.ref a) (.lst ds)
inductive Reps (H : Hp) : List V → List D → Prop
  | nil : Reps H [] []
  | cons {v : V} {d : D} {vs : List V} {ds : List D} (h : Rep H v d) (r : Reps H vs ds) : Reps H (v :: vs) (d :: ds)
end
mutual
theorem Rep.mono {H H' : Hp} (e : Ex H H') : ∀ {v : V} {d : D}, Rep H v d → Rep H' v d
  | _, _, .non => .non
  | _, _, .bl b => .bl b
  | _, _, .int i => .int i
  | _, _, .str l => .str l
  | _, _, .tup q r => .tup (e _ _ q) (Reps.mono e r)
  | _, _, .lst q r => .lst (e _ _ q) (Reps.mono e r)
theorem Reps.mono {H H' : Hp} (e : Ex H H') : ∀ {vs : List V} {ds : List D}, Reps H vs ds → Reps H' vs ds
  | _, _, .nil => .nil
  | _, _, .cons h r => .cons (Rep.mono e h) (Reps.mono e r)
end
theorem Reps.len {H : Hp} : ∀ {vs : List V} {ds : List D}, Reps H vs ds → vs.length = ds.length
  | _, _, .nil => rfl
  | _, _, .cons _ r => congrArg Nat.succ (Reps.len r)
theorem Reps.get {H : Hp} : ∀ {vs : List V} {ds : List D} {i : Nat} {d : D}, Reps H vs ds → ds[i]? = some d → ∃ v, vs[i]? = some v ∧ Rep H v d
  | _, _, _, _, .nil, h => nomatch h
  | v :: _, _, 0, _, .cons h r, e => ⟨v, rfl, by cases e; exact h⟩
  | _ :: _, _, i + 1, _, .cons h r, e => Reps.get (i := i) r e
theorem Reps.get' {H : Hp} : ∀ {vs : List V} {ds : List D} {i : Nat} {v : V}, Reps H vs ds → vs[i]? = some v → ∃ d, ds[i]? = some d ∧ Rep H v d
  | _, _, _, _, .nil, h => nomatch h
  | v :: _, _, 0, _, .cons (d := d) h r, e => ⟨d, rfl, by cases e; exact h⟩
  | _ :: _, _, i + 1, _, .cons h r, e => Reps.get' (i := i) r e
theorem Reps.append {H : Hp} : ∀ {vs ws : List V} {ds es : List D}, Reps H vs ds → Reps H ws es → Reps H (vs ++ ws) (ds ++ es)
  | _, _, _, _, .nil, r => r
  | _, _, _, _, .cons h t, r => .cons h (Reps.append t r)
def tyD : D → String
  | .non => "NoneType" | .bl _ => "bool" | .int _ => "int" | .str _ => "str" | .tup _ => "tuple" | .lst _ => "list"
theorem Rep.ty {K : PySem.W.Frag} {H : Hp} {v : V} {d : D} (h : Rep H v d) : TyX K H v (.type (tyD d)) := by
  cases h with
  | non => exact .base .non
  | bl b => exact .base (.bl b)
  | int i => exact .base (.int i)
  | str l => exact .base (.str _)
  | tup e _ => exact .base (.tup e)
  | lst e _ => exact .base (.lst e)
def EvD (te : TE) (σ : L2.St) (H : Hp) (d : D) : Prop := EvP te σ H fun v H' => Rep H' v d
section
variable {K : PySem.W.Frag} {σ : L2.St} {H H' : Hp} {ta : TA} {te : TE} {xs ys : List V} {x z v : V} {p : Addr} {E : Ends} {tu tz : TS} {d : D}
theorem evd_v (h : Ev te σ H v) (r : Rep H v d) : EvD te σ H d := fun H1 e Q q => h H1 e Q fun H2 e2 => q v H2 e2 (r.mono (e.trans e2))
theorem ev_isi {T : String} {b : Bool} (h : Ev te σ H v) (r : Rep H v d) (hk : kitB (tyD d) T = some b) : Ev (tCB (rIsi K) (tCons te (tCons (tC (.ty T)) tNil))) σ H (.bl b) := fun H1 e Q q =>
  h H1 e _ fun H2 e2 => ⟨v, .ty T, .type (tyD d), .type T, b, rfl, .ty T, (r.mono (e.trans e2)).ty, kit_ty hk, q H2 e2⟩
theorem et_isN {te : TE} (h : Ev te σ H v) : EvT (tTest (tOp (fun x y H Q => y = .non ∧ Q (.bl (decide (x = .non))) H) te (tC .non))) σ H (decide (v = .non)) := fun H1 e Q q =>
  h H1 e _ fun H2 e2 => ⟨rfl, _, rfl, q H2 e2⟩
/-- xs.extend(a new list) -/
theorem s_extL {l : Addr} (hl : H l = some (.lst xs)) (ha : ∀ H1, Ex H H1 → Ev te σ H1 (.ref l)) {tb : TE} (h : EvL tb σ H ys) (hz : xs.length + ys.length ≤ 100000) (k : ∀ H1, Ex H H1 → E.nx σ (upd H1 l (.lst (xs ++ ys)))) :
    tDrop (tBM K "list" rExtend te (tCons tb tNil)) E σ H := ha H (Ex.refl H) H (Ex.refl H) _ fun H1 e1 =>
  ⟨Or.inl ⟨rfl, xs, sq_of (e1 l _ hl)⟩, h H1 e1 _ fun p H2 hp e2 h2 => ⟨l, p, xs, ys, rfl, rfl, e2 l _ (e1 l _ hl), h2, sz_of hz, k H2 (e1.trans e2)⟩⟩
/-- a loop over a text's signs -/
theorem for_str {x : Str} {g : TG} {tb : TS} {D : Ends} {σ : L2.St} {H : Hp} (Pv : Nat → L2.St → Hp → Prop) (h0 : Pv 0 σ H)
    (hs : ∀ i c σ H, x.cps[i]? = some c → Pv i σ H → g (.str (tx [c])) σ H fun σ2 H2 => tb { D with nx := Pv (i + 1), ct := Pv (i + 1), bk := D.nx } σ2 H2) (hd : ∀ σ H, Pv x.cps.size σ H → D.nx σ H) :
    ∃ W : Nat → Nat → L2.St → Hp → Prop, (∃ m, W 0 m σ H) ∧ ∀ i m σ H, W i m σ H →
      ((Its x).stop i H ∧ D.nx σ H) ∨ ((Its x).go i H ∧ ∃ N : L2.St → Hp → Prop, (∀ σ' H', N σ' H' → ∃ m', m' < m ∧ W (i + 1) m' σ' H') ∧ ∀ v H', (Its x).yld i H v H' → g v σ H' fun σ2 H2 => tb { D with nx := N, ct := N, bk := D.nx } σ2 H2) := by
  refine ⟨fun i m σ H => m = x.cps.size - i ∧ i ≤ x.cps.size ∧ Pv i σ H, ⟨x.cps.size, rfl, Nat.zero_le _, h0⟩, ?_⟩
  rintro i m σ H ⟨rfl, hi, p⟩
  by_cases hlt : i < x.cps.size
  · refine .inr ⟨hlt, Pv (i + 1), fun σ' H' p' => ⟨x.cps.size - (i + 1), by omega, rfl, hlt, p'⟩, fun v H' y => ?_⟩
    obtain ⟨rfl, c, hc, rfl⟩ := y
    exact hs i c σ _ hc p
  · have e : i = x.cps.size := by omega
    subst e
    exact .inl ⟨Nat.le_refl _, hd σ H p⟩
theorem s_forS {l : List Nat} {j : Nat} (h : Ev te σ H (.str (tx l))) (Pv : Nat → L2.St → Hp → Prop) (h0 : ∀ H1, Ex H H1 → Pv 0 σ H1)
    (hs : ∀ i c σ' H', l[i]? = some c → Pv i σ' H' → tu { E with nx := Pv (i + 1), ct := Pv (i + 1), bk := E.nx } (σ'.set j (some (.str (tx [c])))) H') (hd : ∀ σ' H', Pv l.length σ' H' → E.nx σ' H') : tFor (iStr te) (gName j) tu E σ H :=
  h H (Ex.refl H) _ fun H1 e => ⟨tx l, rfl, for_str Pv (h0 H1 e) (fun i c σ' H' hc p => hs i c σ' H' (by simpa [tx] using hc) p) (fun σ' H' p => hd σ' H' (by simpa [tx] using p))⟩
theorem q_forS {l : List Nat} {j : Nat} (h : Ev te σ H (.str (tx l))) (Pv : Nat → L2.St → Hp → Prop) (h0 : ∀ H1, Ex H H1 → Pv 0 σ H1)
    (hs : ∀ i c σ' H', l[i]? = some c → Pv i σ' H' → tu { E with nx := Pv (i + 1), ct := Pv (i + 1), bk := tz E } (σ'.set j (some (.str (tx [c])))) H') (hd : ∀ σ' H', Pv l.length σ' H' → tz E σ' H') : tSeq (tFor (iStr te) (gName j) tu) tz E σ H :=
  s_forS (E := { E with nx := tz E }) h Pv h0 hs hd
end
/-! ### octets of data -/
def sev (n : Nat) : List Nat := if h : n < 128 then [n] else (128 + n % 128) :: sev (n / 128)
termination_by n
decreasing_by omega
theorem sev_lt {n : Nat} (h : n < 128) : sev n = [n] := by rw [sev, dif_pos h]
theorem sev_ge {n : Nat} (h : ¬ n < 128) : sev n = (128 + n % 128) :: sev (n / 128) := by rw [sev, dif_neg h]
theorem sev_len (k : Nat) : ∀ n, n < 128 ^ (k + 1) → (sev n).length ≤ k + 1 := by
  induction k with
  | zero => intro n h; rw [sev_lt (by simpa using h)]; exact Nat.le_refl _
  | succ k ih =>
    intro n h
    by_cases h1 : n < 128
    · rw [sev_lt h1]; simp
    · rw [sev_ge h1, List.length_cons]
      have := ih (n / 128) (by rw [Nat.div_lt_iff_lt_mul (by decide), ← Nat.pow_succ]; exact h)
      omega
theorem sev_oct : ∀ n, ∀ x ∈ sev n, x < 256 := by
  intro n
  induction n using Nat.strongRecOn with
  | _ n ih =>
    intro x hx
    by_cases h1 : n < 128
    · rw [sev_lt h1, List.mem_singleton] at hx
      omega
    · rw [sev_ge h1, List.mem_cons] at hx
      rcases hx with rfl | hx
      · omega
      · exact ih (n / 128) (by omega) x hx
/-- the place of a sign in the row of signs -/
def sgns : List Nat := (List.range 95).map (· + 32) |>.filter (fun c => c != 37) |>.append [10]
def sgn (c : Nat) : Nat := if c = 10 then 94 else if c < 37 then c - 32 else c - 33
mutual
def octs : D → List Nat
  | .non => [0]
  | .bl b => [if b then 2 else 1]
  | .int i => if 0 ≤ i then 3 :: sev i.toNat else 4 :: sev (-i - 1).toNat
  | .str l => 5 :: (sev l.length ++ l.map sgn)
  | .tup ds => 6 :: (sev ds.length ++ octsL ds)
  | .lst _ => []
def octsL : List D → List Nat
  | [] => []
  | d :: ds => octs d ++ octsL ds
end
mutual
def height : D → Nat
  | .tup ds => heightL ds + 1
  | .lst ds => heightL ds + 1
  | _ => 0
def heightL : List D → Nat
  | [] => 0
  | d :: ds => max (height d) (heightL ds)
end
mutual
/-- a plain value, of a size -/
def Pln : D → Prop
  | .non => True
  | .bl _ => True
  | .int i => i.natAbs < 2 ^ 64
  | .str l => l.length ≤ 1000 ∧ ∀ c ∈ l, c ∈ sgns
  | .tup ds => ds.length ≤ 1000 ∧ PlnL ds
  | .lst _ => False
def PlnL : List D → Prop
  | [] => True
  | d :: ds => Pln d ∧ PlnL ds
end
theorem octsL_app : ∀ a b : List D, octsL (a ++ b) = octsL a ++ octsL b
  | [], _ => by simp [octsL]
  | d :: a, b => by rw [List.cons_append, octsL, octsL, octsL_app a b, List.append_assoc]
theorem octsL_take {ds : List D} {i : Nat} {d : D} (h : ds[i]? = some d) : octsL (ds.take (i + 1)) = octsL (ds.take i) ++ octs d := by
  rw [List.take_add_one, h, octsL_app]
  simp [octsL]
theorem heightL_get : ∀ {ds : List D} {i : Nat} {d : D}, ds[i]? = some d → height d ≤ heightL ds
  | [], _, _, h => nomatch h
  | d :: ds, 0, _, h => by cases h; rw [heightL]; exact Nat.le_max_left _ _
  | d :: ds, i + 1, _, h => by rw [heightL]; exact Nat.le_trans (heightL_get (ds := ds) (i := i) h) (Nat.le_max_right _ _)
theorem PlnL_get : ∀ {ds : List D} {i : Nat} {d : D}, PlnL ds → ds[i]? = some d → Pln d
  | [], _, _, _, h => nomatch h
  | d :: ds, 0, _, p, h => by cases h; rw [PlnL] at p; exact p.1
  | d :: ds, i + 1, _, p, h => by rw [PlnL] at p; exact PlnL_get (ds := ds) (i := i) p.2 h
theorem octsL_part : ∀ {ds : List D} {i : Nat} {d : D}, ds[i]? = some d → (octsL (ds.take i)).length + (octs d).length ≤ (octsL ds).length
  | [], _, _, h => nomatch h
  | d :: ds, 0, _, h => by cases h; rw [List.take_zero, octsL, octsL, List.length_append, List.length_nil]; omega
  | d :: ds, i + 1, _, h => by
    rw [List.take_succ_cons, octsL, octsL, List.length_append, List.length_append]
    have := octsL_part (ds := ds) (i := i) h
    omega
theorem sgn_lt {c : Nat} (h : c ∈ sgns) : sgn c < 95 := by
  have : ∀ c ∈ sgns, sgn c < 95 := by decide +kernel
  exact this c h
mutual
theorem octs_oct : ∀ d, Pln d → ∀ x ∈ octs d, x < 256
  | .non, _, x, h => by rw [octs, List.mem_singleton] at h; omega
  | .bl b, _, x, h => by rw [octs, List.mem_singleton] at h; subst h; cases b <;> decide
  | .int i, _, x, h => by
    rw [octs] at h
    split at h <;> rw [List.mem_cons] at h <;> rcases h with rfl | h
    · decide
    · exact sev_oct _ x h
    · decide
    · exact sev_oct _ x h
  | .str l, p, x, h => by
    rw [octs, List.mem_cons, List.mem_append, List.mem_map] at h
    rw [Pln] at p
    rcases h with rfl | h | ⟨c, hc, rfl⟩
    · decide
    · exact sev_oct _ x h
    · have := sgn_lt (p.2 c hc); omega
  | .tup ds, p, x, h => by
    rw [octs, List.mem_cons, List.mem_append] at h
    rw [Pln] at p
    rcases h with rfl | h | h
    · decide
    · exact sev_oct _ x h
    · exact octsL_oct ds p.2 x h
  | .lst _, _, x, h => by rw [octs] at h; simp at h
theorem octsL_oct : ∀ ds, PlnL ds → ∀ x ∈ octsL ds, x < 256
  | [], _, x, h => by rw [octsL] at h; simp at h
  | d :: ds, p, x, h => by
    rw [octsL, List.mem_append] at h
    rw [PlnL] at p
    rcases h with h | h
    · exact octs_oct d p.1 x h
    · exact octsL_oct ds p.2 x h
end
end My

set_option Elab.async false
set_option linter.all false
set_option maxRecDepth 100000
set_option maxHeartbeats 1000000
/-! texts: signs, lengths, slices, comprehensions; chains; all. -/
namespace My
open PySem PySem.Spec PyProof.Rows L2 Evl
section
variable {K : PySem.W.Frag}
theorem ev_sidx {σ : L2.St} {H : Hp} {te tb : TE} {a b : Str} {i : Nat} {r : List Nat} (h : Ev te σ H (.str a)) (hb : Ev tb σ H (.str b)) (ho : Builtin.Str.occurrences a b 0 a.length 1 = i :: r) :
    Ev (tBM K "str" (fun x xs H Q => ∃ a b i rest, x = .str a ∧ xs = [.str b] ∧ Builtin.Str.occurrences a b 0 a.length 1 = i :: rest ∧ Q (.int (i : Nat)) H) te (tCons tb tNil)) σ H (.int (i : Int)) := fun H1 e Q q =>
  h H1 e _ fun H2 e2 => ⟨rfl, hb H2 (e.trans e2) _ fun H3 e3 => ⟨a, b, i, r, rfl, rfl, ho, q H3 (e2.trans e3)⟩⟩
theorem ev_lenT {σ : L2.St} {H : Hp} {ta : TE} {p : Addr} {xs : List V} (ha : Ev ta σ H (.ref p)) (h : SqT K H p xs) : Ev (tCB (rLenS K) (tCons ta tNil)) σ H (.int (xs.length : Int)) := fun H1 e Q q =>
  ha H1 e _ fun H2 e2 => ⟨p, xs, rfl, .inr (ex_t (e.trans e2) h), q H2 e2⟩
theorem ev_lenS {σ : L2.St} {H : Hp} {ta : TE} {l : List Nat} (ha : Ev ta σ H (.str (tx l))) (hz : l.length ≤ 100000) : Ev (tCB (fun xs H Q => ∃ z, xs = [.str z] ∧ z.length ≤ sizeLine ∧ Q (.int z.length) H) (tCons ta tNil)) σ H (.int (l.length : Int)) := fun H1 e Q q =>
  ha H1 e _ fun H2 e2 => ⟨tx l, rfl, by rw [tx_len]; exact sz_of hz, by rw [tx_len]; exact q H2 e2⟩
theorem el_if {σ : L2.St} {H : Hp} {t : TT} {ta tb : TE} {xs : List V} {b : Bool} (h : EvT t σ H b) (h1 : b = true → EvL ta σ H xs) (h2 : b = false → EvL tb σ H xs) : EvL (tIf t ta tb) σ H xs := fun H1 e Q q => h H1 e _ fun H2 e2 => by
  cases b with
  | true => exact h1 rfl H2 (e.trans e2) Q fun p H3 hp e3 h3 => q p H3 (fresh_back e2 hp) (e2.trans e3) h3
  | false => exact h2 rfl H2 (e.trans e2) Q fun p H3 hp e3 h3 => q p H3 (fresh_back e2 hp) (e2.trans e3) h3

variable {σ : L2.St} {H H' : Hp} {ta : TA} {te tb tc tl : TE} {xs ys : List V} {x y z v : V} {p : Addr} {D : Ends} {tu tz : TS}
theorem rv_inSn {c : Nat} {l : List Nat} : RV (fun x y H Q => ∃ (c : Nat) (z : Str), x = .str ⟨#[c]⟩ ∧ y = .str z ∧ Q (.bl (decide (c ∈ z.cps.toList))) H) (.str (tx [c])) (.str (tx l)) H (.bl (decide (c ∈ l))) := rv_val fun H1 _ Q q => ⟨c, tx l, rfl, rfl, q⟩
theorem rv_niSn {c : Nat} {l : List Nat} : RV (fun x y H Q => ∃ (c : Nat) (z : Str), x = .str ⟨#[c]⟩ ∧ y = .str z ∧ Q (.bl (!decide (c ∈ z.cps.toList))) H) (.str (tx [c])) (.str (tx l)) H (.bl (!decide (c ∈ l))) := rv_val fun H1 _ Q q => ⟨c, tx l, rfl, rfl, q⟩
theorem ev_chain {r r' : R2} {w' : V} {k m : Bool} (ha : Ev te σ H x) (hb : Ev tb σ H y) (hr : RV r x y H (.bl k)) (hc : k = true → Ev tc σ H w') (hr' : k = true → RV r' y w' H (.bl m)) : Ev (tChain r r' te tb tc) σ H (.bl (k && m)) := fun H1 e Q q =>
  ha H1 e _ fun H2 e2 => hb H2 (e.trans e2) _ fun H3 e3 => hr H3 ((e.trans e2).trans e3) _ fun H4 e4 => ⟨k, rfl, by
    have E := ((e.trans e2).trans e3).trans e4
    cases k with
    | false => exact q H4 ((e2.trans e3).trans e4)
    | true => exact hc rfl H4 E _ fun H5 e5 => hr' rfl H5 (E.trans e5) _ fun H6 e6 => q H6 ((((e2.trans e3).trans e4).trans e5).trans e6)⟩
theorem ev_all {bs : List Bool} (h : EvL te σ H (bs.map V.bl)) : Ev (tCB (rAll K) (tCons te tNil)) σ H (.bl (bs.all id)) := fun H1 e Q q =>
  h H1 e _ fun p H2 _ e2 hp => ⟨p, bs, rfl, sq_of hp, q H2 e2⟩
theorem el_split {a b : Str} (ha : Ev te σ H (.str a)) (hb : Ev tb σ H (.str b)) (h0 : (b.length == 0) = false) (hz : a.length + 2 ≤ 100000) :
    EvL (tM1 (fun x xs H Q => ∃ a b, x = .str a ∧ xs = [.str b] ∧ (b.length == 0) = false ∧ a.length + 2 ≤ sizeLine ∧ rNewStrs (Txt.split a b) H Q) te tb) σ H ((Txt.split a b).map V.str) := fun H1 e Q q =>
  ha H1 e _ fun H2 e2 => ⟨⟨a, rfl⟩, hb H2 (e.trans e2) _ fun H3 e3 => ⟨a, b, rfl, rfl, h0, sz_of hz, fun l hl => q l _ (fresh_back (e2.trans e3) hl) ((e2.trans e3).trans (Ex.new hl)) upd_same⟩⟩
theorem ev_slS {l : List Nat} {tlo thi : TO} {lo hi : Option Int} (h : Ev te σ H (.str (tx l))) (h1 : EvO tlo σ H lo) (h2 : EvO thi σ H hi) (hz : l.length ≤ 100000) : Ev (tSl rSlS te tlo thi) σ H (.str (cutS (tx l) lo hi)) := fun H1 e Q q =>
  h H1 e _ fun H2 e2 => h1 H2 (e.trans e2) _ fun H3 e3 => h2 H3 ((e.trans e2).trans e3) _ fun H4 e4 => ⟨tx l, rfl, by rw [tx_len]; exact sz_of hz, q H4 ((e2.trans e3).trans e4)⟩
theorem cutS_take (l : List Nat) (n : Nat) : cutS (tx l) none (some (n : Int)) = tx (l.take n) := by
  unfold cutS
  rw [HT.sIx_nat, HT.sIx_none, tx_list, List.drop_zero, Nat.sub_zero, tx_len]
  by_cases h : n ≤ l.length
  · rw [Nat.min_eq_left h]; rfl
  · rw [Nat.min_eq_right (by omega), List.take_of_length_le (Nat.le_refl _), List.take_of_length_le (show l.length ≤ n by omega)]; rfl
/-- a comprehension over a text, no test -/
theorem el_lcS {j : Nat} {vs : List Nat} {l : List Nat} (v : Nat → V) (h : Ev tl σ H (.str (tx l))) (hz : l.length ≤ 40000) (hw : ∀ x, wipe ((wipe σ vs).set j (some x)) vs = wipe σ vs)
    (he : ∀ c H1, Ex H H1 → c ∈ l → Ev te ((wipe σ vs).set j (some (.str (tx [c])))) H1 (v c)) : EvL (tLc (iStr tl) (gName j) tYes te vs) σ H (l.map v) := by
  intro H0 e Q q
  refine h H0 e _ fun H1 e1 => ⟨tx l, rfl, fun Dl hD => ?_⟩
  have hsz : (tx l).cps.size = l.length := List.size_toArray
  refine ⟨fun i m H' => m = l.length - i ∧ i ≤ l.length ∧ Ex H1 H' ∧ H' Dl = some (.lst ((l.take i).map v)), ⟨l.length, rfl, Nat.zero_le _, Ex.new hD, upd_same⟩, ?_⟩
  rintro i m H' ⟨rfl, hi, ex, hl⟩
  by_cases hlt : i < l.length
  · refine .inr ⟨show i < _ by rw [hsz]; exact hlt, fun H' => Ex H1 H' ∧ H' Dl = some (.lst ((l.take (i + 1)).map v)), fun H2 p => ⟨l.length - (i + 1), by omega, rfl, hlt, p⟩, fun x H2 y => ?_⟩
    obtain ⟨rfl, c, hc, rfl⟩ := y
    have hc' : l[i]? = some c := by simpa [tx] using hc
    refine ⟨hw _, ?_⟩
    refine tyes_ ?_
    refine iteT (he c H1 (e.trans e1) (List.mem_of_getElem? hc') H2 ex _ fun H3 e3 => ⟨_, e3 Dl _ hl, sz_lt (by rw [List.length_map, List.length_take]; omega), (ex.trans e3).mut hD, ?_⟩)
    rw [upd_same, List.take_add_one, hc', List.map_append]
    rfl
  · have e0 : i = l.length := by omega
    subst e0
    rw [List.take_of_length_le (Nat.le_refl _)] at hl
    exact .inl ⟨show _ ≤ _ by rw [hsz]; exact Nat.le_refl _, q Dl H' (fresh_back e1 hD) (e1.trans ex) hl⟩
/-- a comprehension over a new list, no test -/
theorem el_lcN {j : Nat} {vs : List Nat} (g : V → V) (h : EvL tl σ H xs) (hz : xs.length ≤ 40000) (hw : ∀ x, wipe ((wipe σ vs).set j (some x)) vs = wipe σ vs)
    (he : ∀ x H1, Ex H H1 → x ∈ xs → Ev te ((wipe σ vs).set j (some x)) H1 (g x)) : EvL (tLc (iList K tl) (gName j) tYes te vs) σ H (xs.map g) := by
  intro H0 e Q q
  refine h H0 e _ fun a H1 ha e1 h1 => ⟨a, rfl, ⟨xs, sq_of h1⟩, fun Dl hD => ?_⟩
  refine ⟨fun i m H' => m = xs.length - i ∧ i ≤ xs.length ∧ Ex H1 H' ∧ H' Dl = some (.lst ((xs.take i).map g)), ⟨xs.length, rfl, Nat.zero_le _, Ex.new hD, upd_same⟩, ?_⟩
  rintro i m H' ⟨rfl, hi, ex, hl⟩
  by_cases hlt : i < xs.length
  · have gx : xs[i]? = some xs[i] := List.getElem?_eq_getElem hlt
    refine .inr ⟨⟨xs, xs[i], sq_of (ex a _ h1), gx⟩, fun H' => Ex H1 H' ∧ H' Dl = some (.lst ((xs.take (i + 1)).map g)), fun H2 p => ⟨xs.length - (i + 1), by omega, rfl, hlt, p⟩, fun x H2 y => ?_⟩
    obtain ⟨rfl, y⟩ := y
    have ex' : x = xs[i] := Option.some.inj ((y xs (sq_of (ex a _ h1))).symm.trans gx)
    subst ex'
    refine ⟨hw _, ?_⟩
    refine tyes_ ?_
    refine iteT (he _ H1 (e.trans e1) (List.mem_of_getElem? gx) H2 ex _ fun H3 e3 => ⟨_, e3 Dl _ hl, sz_lt (by rw [List.length_map, List.length_take]; omega), (ex.trans e3).mut hD, ?_⟩)
    rw [upd_same, List.take_add_one, gx, List.map_append]
    rfl
  · have e0 : i = xs.length := by omega
    subst e0
    rw [List.take_of_length_le (Nat.le_refl _)] at hl
    exact .inl ⟨⟨xs, sq_of (ex a _ h1), Nat.le_refl _⟩, q Dl H' (fresh_back e1 hD) (e1.trans ex) hl⟩
end
end My

set_option Elab.async false
set_option linter.all false
set_option maxRecDepth 100000
set_option maxHeartbeats 1000000
/-! text * int; is True; the laws' pool of draws; sameness of data. -/
namespace My
open PySem PySem.Spec PyProof.Rows L2 Evl
section
variable {X : Cx}
def rMulS : R2 := fun x y H Q => ∃ a n, x = .str a ∧ y = .int n ∧ MulOk a n ∧ Q (.str (Txt.mul a n)) H
theorem op_mulS : OpR X (binaryOp .Mult) rMulS := by
  intro pins s σ H x y v u Q I rx ry h
  obtain ⟨i, j, rfl, rfl, hz, q⟩ := h
  obtain ⟨t, rfl⟩ := rx
  obtain ⟨t', rfl⟩ := ry
  exact SB.mul hz fun t' tk => ⟨.str _, H, I.tok _, ⟨_, rfl⟩, q⟩
def rIsBA : R2 := fun x y H Q => ∃ b, y = .bl b ∧ Q (.bl (decide (x = .bl b))) H
theorem op_isBA : OpR X (compareOp .Is) rIsBA := by
  intro pins s σ H x y v u Q I rx ry h
  obtain ⟨b, rfl, q⟩ := h
  cases (show u = Value.bool b from ry)
  cases x with
  | bl a =>
    cases (show v = Value.bool a from rx)
    by_cases e : a = b
    · subst e
      exact wpAny_is_self rfl ⟨.bl true, H, I, rfl, by simpa using q⟩
    · exact wpAny_is_other rfl (fun z => e (Value.bool.inj z)) ⟨.bl false, H, I, rfl, by simpa [e] using q⟩
  | _ => first
    | (cases rx; exact wpAny_is_other rfl (fun z => nomatch z) ⟨.bl false, H, I, rfl, q⟩)
    | (obtain ⟨t, rfl⟩ := rx; exact wpAny_is_other rfl (fun z => nomatch z) ⟨.bl false, H, I, rfl, q⟩)
end
/-! ### heaps in which the pool alone is written -/
def Keep (p : Addr) (H H' : Hp) : Prop := ∀ a o, a ≠ p → H a = some o → H' a = some o
def Pool (K : PySem.W.Frag) (H : Hp) (p sc : Addr) (ns : List Int) : Prop := ∃ pl r f : Nat, H p = some (.lst [.ref sc, .int (pl : Int), .int (r : Int), .int (f : Int)]) ∧ SqL K H sc (ns.map V.int)
def G (K : PySem.W.Frag) (p sc : Addr) (ns : List Int) (H H' : Hp) : Prop := Keep p H H' ∧ Pool K H' p sc ns
section
variable {K : PySem.W.Frag} {p q a sc : Addr} {ns : List Int} {H H1 H2 H3 : Hp} {xs : List V} {v : V} {d : D} {o : HO}
theorem Keep.of (e : Ex H H1) : Keep p H H1 := fun x o _ h => e x o h
theorem Keep.trans (a : Keep p H H1) (b : Keep p H1 H2) : Keep p H H2 := fun x o n h => b x o n (a x o n h)
theorem Keep.upd : Keep p H (upd H p o) := fun x u n h => by rw [upd_ne n]; exact h
theorem Keep.new (k : Keep p H1 H2) (h : H1 q = none) : Keep p H1 (L2.upd H2 q o) := fun x u n e => by
  have nq : x ≠ q := fun z => by rw [z, h] at e; exact nomatch e
  rw [upd_ne nq]
  exact k x u n e
theorem keep_l (k : Keep p H H1) (n : a ≠ p) (h : SqL K H a xs) : SqL K H1 a xs := by
  rcases h with (h | ⟨o, h⟩) | h
  · exact .inl (.inl (k _ _ n h))
  · exact .inl (.inr ⟨o, k _ _ n h⟩)
  · exact .inr h
theorem keep_t (k : Keep p H H1) (n : a ≠ p) (h : SqT K H a xs) : SqT K H1 a xs := by
  rcases h with (h | ⟨o, h⟩) | h
  · exact .inl (.inl (k _ _ n h))
  · exact .inl (.inr ⟨o, k _ _ n h⟩)
  · exact .inr h
theorem sc_keep (hp : H p = some (.lst (.ref q :: xs))) (k : Keep p H H1) (h : SqL K H sc (ns.map V.int)) : SqL K H1 sc (ns.map V.int) := by
  rcases h with (h | ⟨o, h⟩) | h
  · have n : sc ≠ p := fun e => by
      rw [e, hp] at h
      have := HO.lst.inj (Option.some.inj h)
      cases ns with
      | nil => exact nomatch this
      | cons x r => exact nomatch (List.cons.inj this).1
    exact .inl (.inl (k _ _ n h))
  · have n : sc ≠ p := fun e => by
      rw [e, hp] at h
      exact nomatch Option.some.inj h
    exact .inl (.inr ⟨o, k _ _ n h⟩)
  · exact .inr h
theorem Pool.mk' {pl r f : Nat} (h : Pool K H p sc ns) (k : Keep p H H1) (h1 : H1 p = some (.lst [.ref sc, .int (pl : Int), .int (r : Int), .int (f : Int)])) : Pool K H1 p sc ns := by
  obtain ⟨_, _, _, hp, hs⟩ := h
  exact ⟨pl, r, f, h1, sc_keep hp k hs⟩
theorem Pool.ex (e : Ex H H1) (h : Pool K H p sc ns) : Pool K H1 p sc ns := by
  obtain ⟨pl, r, f, h1, h2⟩ := h
  exact ⟨pl, r, f, e p _ h1, ex_l e h2⟩
theorem G.trans (a : G K p sc ns H H1) (b : G K p sc ns H1 H2) : G K p sc ns H H2 := ⟨a.1.trans b.1, b.2⟩
theorem G.ex (e : Ex H H1) (h : Pool K H p sc ns) : G K p sc ns H H1 := ⟨.of e, h.ex e⟩
theorem G.refl (h : Pool K H p sc ns) : G K p sc ns H H := G.ex (Ex.refl H) h
theorem G.exR (g : G K p sc ns H H1) (e : Ex H1 H2) : G K p sc ns H H2 := g.trans (G.ex e g.2)
theorem G.exL (e : Ex H H1) (g : G K p sc ns H1 H2) : G K p sc ns H H2 := ⟨(Keep.of e).trans g.1, g.2⟩
/-- a new object beside the pool -/
theorem Pool.ne (h : Pool K H p sc ns) (ha : H a = none) : a ≠ p := fun e => by
  obtain ⟨_, r, f, h1, _⟩ := h
  rw [e, h1] at ha
  exact nomatch ha
theorem G.new (h : Pool K H1 p sc ns) (g : G K p sc ns H1 H2) (hq : H1 q = none) : G K p sc ns H1 (upd H2 q o) := by
  refine ⟨g.1.new hq, ?_⟩
  obtain ⟨_, r, f, h1, _⟩ := g.2
  exact h.mk' (g.1.new hq) (by rw [upd_ne (h.ne hq).symm]; exact h1)
mutual
theorem Rep.off (k : Keep p H H1) (hp : ∀ us, H p ≠ some (.tup us)) : ∀ {v : V} {d : D}, Pln d → Rep H v d → Rep H1 v d
  | _, _, _, .non => .non
  | _, _, _, .bl b => .bl b
  | _, _, _, .int i => .int i
  | _, _, _, .str l => .str l
  | _, .tup ds, h, .tup q r => .tup (k _ _ (fun e => hp _ (e ▸ q)) q) (Reps.off k hp (by rw [Pln] at h; exact h.2) r)
  | _, .lst ds, h, .lst q r => (by rw [Pln] at h; exact h.elim)
theorem Reps.off (k : Keep p H H1) (hp : ∀ us, H p ≠ some (.tup us)) : ∀ {vs : List V} {ds : List D}, PlnL ds → Reps H vs ds → Reps H1 vs ds
  | _, _, _, .nil => .nil
  | _, _ :: _, h, .cons r rs => .cons (Rep.off k hp (by rw [PlnL] at h; exact h.1) r) (Reps.off k hp (by rw [PlnL] at h; exact h.2) rs)
end
theorem Pool.noT (h : Pool K H p sc ns) (us : List V) : H p ≠ some (.tup us) := fun e => by
  obtain ⟨_, r, f, h1, _⟩ := h
  rw [h1] at e
  exact nomatch Option.some.inj e
theorem Rep.g (g : G K p sc ns H H1) (hp : Pool K H p sc ns) (h : Pln d) (r : Rep H v d) : Rep H1 v d := Rep.off g.1 hp.noT h r
theorem Reps.g {vs : List V} {ds : List D} (g : G K p sc ns H H1) (hp : Pool K H p sc ns) (h : PlnL ds) (r : Reps H vs ds) : Reps H1 vs ds := Reps.off g.1 hp.noT h r
end
/-! ### promises of the draws -/
def sp_draw (K : PySem.W.Frag) : Sp := fun vs H Q _ => ∃ (p sc : Addr) (ns : List Int) (limit : Nat), vs = [.ref p, .int (limit : Int)] ∧ Pool K H p sc ns ∧ 0 < limit ∧ limit < 2 ^ 63 ∧ ∀ (v : Nat) H', v < limit → G K p sc ns H H' → Q (.int (v : Int)) H'
def sp_pick (K : PySem.W.Frag) : Sp := fun vs H Q _ => ∃ (p sc : Addr) (ns : List Int) (a : Addr) (xs : List V), vs = [.ref p, .ref a] ∧ Pool K H p sc ns ∧ SqL K H a xs ∧ a ≠ p ∧ xs ≠ [] ∧ xs.length ≤ 1000 ∧ ∀ v H', v ∈ xs → G K p sc ns H H' → Q v H'
/-! ### steps by hand -/
section
variable {σ : L2.St} {H : Hp} {Q : VK} {R : List V → Hp → Prop} {ta tr : TA} {te tb : TE} {r : R2} {D : Ends} {sp : Sp} {dvs : List V} {E : XK} {v : V} {i : Nat} {tz : TS}
theorem r_ret (h : te σ H D.rt) : tRet te D σ H := h
theorem r_op (h : te σ H fun x H1 => tb σ H1 fun y H2 => r x y H2 Q) : tOp r te tb σ H Q := h
theorem r_var (h : σ[i]? = some (some v)) (q : Q v H) : tVar i σ H Q := ⟨v, h, q⟩
theorem r_c (q : Q v H) : tC v σ H Q := q
theorem r_call (h : ta σ H fun vs H1 => sp (vs ++ dvs) H1 Q E) : tCall sp dvs E ta σ H Q := h
theorem r_cons (h : te σ H fun x H1 => tr σ H1 fun xs H2 => R (x :: xs) H2) : tCons te tr σ H R := h
theorem r_nil (h : R [] H) : tNil σ H R := h
theorem r_ev {H0 : Hp} (h : Ev te σ H0 v) (e : Ex H0 H) (q : ∀ H2, Ex H H2 → Q v H2) : te σ H Q := h H e Q q
theorem r_el {H0 : Hp} {xs : List V} (h : EvL te σ H0 xs) (e : Ex H0 H) (q : ∀ a H2, H a = none → Ex H H2 → H2 a = some (.lst xs) → Q (.ref a) H2) : te σ H Q := h H e Q q
theorem r_asg (h : te σ H fun v H1 => tz D (σ.set i (some v)) H1) : tSeq (tAsg te (gName i)) tz D σ H := h
theorem r_if {t : TT} (h : t σ H fun b H1 => if b = true then te σ H1 Q else tb σ H1 Q) : tIf t te tb σ H Q := h
theorem r_test {B : Bool → Hp → Prop} (h : te σ H fun x H' => ∃ k, x = .bl k ∧ B k H') : tTest te σ H B := h
theorem r_draw {K : PySem.W.Frag} {p sc : Addr} {ns : List Int} {n : Nat} (hP : Pool K H p sc ns) (ha : EvA ta σ H [.ref p, .int (n : Int)]) (h0 : 0 < n) (hn : n < 2 ^ 63) (q : ∀ (v : Nat) H', v < n → G K p sc ns H H' → Q (.int (v : Int)) H') : tCall (sp_draw K) [] E ta σ H Q :=
  ha H (Ex.refl H) _ fun H1 e1 => ⟨p, sc, ns, n, rfl, hP.ex e1, h0, hn, fun v H' hv g => q v H' hv (G.exL e1 g)⟩
theorem r_pick {K : PySem.W.Frag} {p sc : Addr} {ns : List Int} {xs : List V} (hP : Pool K H p sc ns) (ha : Ev te σ H (.ref p)) (hb : EvL tb σ H xs) (h0 : xs ≠ []) (hn : xs.length ≤ 1000) (q : ∀ v H', v ∈ xs → G K p sc ns H H' → Q v H') : tCall (sp_pick K) [] E (tCons te (tCons tb tNil)) σ H Q :=
  ha H (Ex.refl H) _ fun H1 e1 => hb H1 e1 _ fun a H2 hn2 e2 h2 => ⟨p, sc, ns, a, xs, rfl, hP.ex (e1.trans e2), sq_of h2, (hP.ex e1).ne hn2, h0, hn, fun v H' hv g => q v H' hv (G.exL (e1.trans e2) g)⟩
theorem r_lcR1 {g : TG} {tt : TT} {vs : List Nat} (h : ta σ H fun ws H1 => ∃ j : Int, ws = [.int j] ∧ -(2 ^ 62) ≤ j ∧ j < 2 ^ 62 ∧ ∀ D, H1 D = none → ∃ W : Nat → Nat → Hp → Prop, (∃ m, W 0 m (upd H1 D (.lst []))) ∧ ∀ i m H, W i m H →
    ((Itr 0 j.toNat).stop i H ∧ Q (.ref D) H) ∨ ((Itr 0 j.toNat).go i H ∧ ∃ Nx : Hp → Prop, (∀ H', Nx H' → ∃ m', m' < m ∧ W (i + 1) m' H') ∧ ∀ x H', (Itr 0 j.toNat).yld i H x H' → g x (wipe σ vs) H' fun σ2 H2 => wipe σ2 vs = wipe σ vs ∧ tt σ2 H2 fun b H3 =>
      if b = true then te σ2 H3 fun y H4 => ∃ acc, H4 D = some (.lst acc) ∧ acc.length < sizeLine ∧ Nx (upd H4 D (.lst (acc ++ [y]))) else Nx H3)) : tLc (iRng1 ta) g tt te vs σ H Q := h
theorem r_cb {g : List V → Hp → VK → Prop} (h : ta σ H fun xs H1 => g xs H1 Q) : tCB g ta σ H Q := h
end
/-! ### the numbers -/
def m89 : Nat := 618970019642690137449562111
def m107 : Nat := 162259276829213363391578010288127
def mixF (n p : Nat) : Nat :=
  let f := (n * 48271 + p * 69621 + 11) % m89
  let s := (f * f + 7 * f + p) % m107
  s * m89 + (s * s + f) % m89
def absF (i : Int) : Nat := if i < 0 then (1 - 2 * i).toNat else i.toNat
def restF (xs : List Int) (p f : Nat) : Nat :=
  let n := if 0 < xs.length then absF (xs.getD (p % xs.length) 0) else 0
  if f = 0 ∧ p < xs.length ∧ 10 ^ 18 ≤ n then n - 10 ^ 18 else mixF (n + f * 1000003) p
/-! ### sameness -/
mutual
def sameD : D → D → Bool
  | .non, .non => true
  | .bl a, .bl b => decide (a = b)
  | .int a, .int b => decide (a = b)
  | .str a, .str b => decide (a = b)
  | .tup a, .tup b => sameL a b
  | .lst a, .lst b => sameL a b
  | _, _ => false
def sameL : List D → List D → Bool
  | [], [] => true
  | a :: as, b :: bs => sameD a b && sameL as bs
  | _, _ => false
end
mutual
theorem sameD_refl : ∀ d, sameD d d = true
  | .non => by rw [sameD]
  | .bl _ => by rw [sameD]; exact decide_eq_true rfl
  | .int _ => by rw [sameD]; exact decide_eq_true rfl
  | .str _ => by rw [sameD]; exact decide_eq_true rfl
  | .tup ds => by rw [sameD]; exact sameL_refl ds
  | .lst ds => by rw [sameD]; exact sameL_refl ds
theorem sameL_refl : ∀ ds, sameL ds ds = true
  | [] => by rw [sameL]
  | d :: ds => by rw [sameL, sameD_refl d, sameL_refl ds]; rfl
end
end My

set_option Elab.async false
set_option linter.all false
set_option maxRecDepth 100000
set_option maxHeartbeats 1000000
/-! literals whose items are new tuples; loops over rows of two; a row picked. -/
namespace My
open PySem PySem.Spec PyProof.Rows L2 Evl
mutual
def plnB : D → Bool
  | .non => true
  | .bl _ => true
  | .int i => decide (i.natAbs < 2 ^ 64)
  | .str l => decide (l.length ≤ 1000) && l.all fun c => decide (c ∈ sgns)
  | .tup ds => decide (ds.length ≤ 1000) && plnBL ds
  | .lst _ => false
def plnBL : List D → Bool
  | [] => true
  | d :: ds => plnB d && plnBL ds
end
mutual
theorem plnB_ok : ∀ d, plnB d = true → Pln d
  | .non, _ => by rw [Pln]; trivial
  | .bl _, _ => by rw [Pln]; trivial
  | .int i, h => by rw [plnB] at h; rw [Pln]; exact of_decide_eq_true h
  | .str l, h => by
    rw [plnB, Bool.and_eq_true] at h
    rw [Pln]
    exact ⟨of_decide_eq_true h.1, fun c hc => of_decide_eq_true (List.all_eq_true.mp h.2 c hc)⟩
  | .tup ds, h => by
    rw [plnB, Bool.and_eq_true] at h
    rw [Pln]
    exact ⟨of_decide_eq_true h.1, plnBL_ok ds h.2⟩
  | .lst _, h => by rw [plnB] at h; exact nomatch h
theorem plnBL_ok : ∀ ds, plnBL ds = true → PlnL ds
  | [], _ => by rw [PlnL]; trivial
  | d :: ds, h => by
    rw [plnBL, Bool.and_eq_true] at h
    rw [PlnL]
    exact ⟨plnB_ok d h.1, plnBL_ok ds h.2⟩
end
def EvAR (ta : TA) (σ : L2.St) (H : Hp) (ds : List D) : Prop := EvAP ta σ H fun vs H' => Reps H' vs ds
section
variable {K : PySem.W.Frag} {σ : L2.St} {H : Hp} {ta tr : TA} {te tl tb : TE} {d : D} {ds : List D} {D0 : Ends} {tu tz : TS} {E : XK} {Q : VK}
theorem er_nil : EvAR tNil σ H [] := fun H1 _ Q q => q [] H1 (Ex.refl H1) .nil
theorem er_cons (h : EvD te σ H d) (hr : EvAR tr σ H ds) : EvAR (tCons te tr) σ H (d :: ds) := fun H1 e Q q =>
  h H1 e _ fun v H2 e2 r => hr H2 (e.trans e2) _ fun vs H3 e3 rs => q _ H3 (e2.trans e3) (.cons (r.mono e3) rs)
theorem ed_tup (h : EvAR ta σ H ds) (hn : ds.length ≤ 100000) : EvD (tTup ta) σ H (.tup ds) := fun H1 e Q q =>
  h H1 e _ fun vs H2 e2 rs => ⟨sz_of (by rw [rs.len]; exact hn), fun p hp => q (.ref p) _ (e2.trans (Ex.new hp)) (.tup upd_same (rs.mono (Ex.new hp)))⟩
theorem ed_lst (h : EvAR ta σ H ds) (hn : ds.length ≤ 100000) : EvD (tLst ta) σ H (.lst ds) := fun H1 e Q q =>
  h H1 e _ fun vs H2 e2 rs => ⟨sz_of (by rw [rs.len]; exact hn), fun p hp => q (.ref p) _ (e2.trans (Ex.new hp)) (.lst upd_same (rs.mono (Ex.new hp)))⟩
theorem rv_mulSn {c : Nat} {l : List Nat} {n : Int} (hm : MulOk (tx [c]) n) (he : Txt.mul (tx [c]) n = tx l) : RV rMulS (.str (tx [c])) (.int n) H (.str (tx l)) := fun H1 _ Q q =>
  ⟨tx [c], n, rfl, rfl, hm, by rw [he]; exact q H1 (Ex.refl H1)⟩
theorem q_forD2 {rows : List (D × D)} {j1 j2 : Nat} (h : EvD tl σ H (.lst (rows.map fun r => .tup [r.1, r.2]))) (Pv : Hp → Nat → L2.St → Hp → Prop) (h0 : ∀ H1, Ex H H1 → Pv H1 0 σ H1) (hk : ∀ H1 i σ' H', Pv H1 i σ' H' → Ex H1 H')
    (hs : ∀ H1 i r v1 v2 σ' H', Ex H H1 → rows[i]? = some r → Rep H' v1 r.1 → Rep H' v2 r.2 → Pv H1 i σ' H' → tu { D0 with nx := Pv H1 (i + 1), ct := Pv H1 (i + 1), bk := tz D0 } ((σ'.set j1 (some v1)).set j2 (some v2)) H')
    (hd : ∀ H1 σ' H', Ex H H1 → Pv H1 rows.length σ' H' → tz D0 σ' H') : tSeq (tFor (iList K tl) (gTup K 2 (gCons (gName j1) (gCons (gName j2) gNil))) tu) tz D0 σ H := by
  refine h H (Ex.refl H) _ fun v H1 e r => ?_
  cases r with
  | @lst a vs _ hl rs =>
    have hlen : vs.length = rows.length := by rw [rs.len, List.length_map]
    refine ⟨a, rfl, ⟨vs, sq_of hl⟩, for_list (Pv H1) (h0 H1 e) (fun i σ' H' _ p => sq_of (hk H1 i σ' H' p a _ hl)) (fun i x σ' H' hx p => ?_) (fun σ' H' p => hd H1 σ' H' e (by rw [← hlen]; exact p))⟩
    obtain ⟨d, hd', rd⟩ := rs.get' hx
    rw [List.getElem?_map] at hd'
    obtain ⟨r, hr, e2⟩ := Option.map_eq_some_iff.mp hd'
    rw [← e2] at rd
    have ex := hk H1 i σ' H' p
    cases rd with
    | tup ht rr =>
      cases rr with
      | cons r1 rr =>
        cases rr with
        | cons r2 rr =>
          cases rr
          exact ⟨_, _, rfl, st_of (ex _ _ ht), rfl, _, _, rfl, _, _, rfl, rfl, hs H1 i r _ _ σ' H' e hr (r1.mono ex) (r2.mono ex) p⟩
def tupB : D → Bool
  | .tup _ => true
  | _ => false
/-- a row picked -/
theorem r_pickD {p sc : Addr} {ns : List Int} (hP : Pool K H p sc ns) (ha : Ev te σ H (.ref p)) (hb : EvD tb σ H (.lst ds)) (h0 : ds ≠ []) (hn : ds.length ≤ 1000) (hp : plnBL ds = true) (ht : ds.all tupB = true) (q : ∀ v d H', d ∈ ds → Rep H' v d → G K p sc ns H H' → Q v H') : tCall (sp_pick K) [] E (tCons te (tCons tb tNil)) σ H Q :=
  ha H (Ex.refl H) _ fun H1 e1 => hb H1 e1 _ fun v H2 e2 r => by
    have E2 := e1.trans e2
    have P2 := hP.ex E2
    cases r with
    | @lst a vs _ hl rs =>
      have hne : a ≠ p := fun e => by
        subst e
        obtain ⟨_, r, f, h1, _⟩ := P2
        rw [h1] at hl
        have := HO.lst.inj (Option.some.inj hl)
        subst this
        cases rs with
        | cons r1 rs =>
          cases rs with
          | cons r2 rs =>
            cases r2
            rw [List.all_cons, List.all_cons, Bool.and_eq_true, Bool.and_eq_true] at ht
            exact nomatch ht.2.1
      refine ⟨p, sc, ns, a, vs, rfl, P2, sq_of hl, hne, ?_, by rw [rs.len]; exact hn, fun v H' hv g => ?_⟩
      · intro z
        subst z
        exact h0 (List.length_eq_zero_iff.mp rs.len.symm)
      · obtain ⟨i, hi, rfl⟩ := List.mem_iff_getElem.mp hv
        obtain ⟨d, hd, rd⟩ := rs.get' (List.getElem?_eq_getElem hi)
        exact q _ d H' (List.mem_of_getElem? hd) (Rep.g g P2 (PlnL_get (plnBL_ok _ hp) hd) rd) (G.exL E2 g)
end
end My

set_option Elab.async false
set_option linter.all false
set_option maxRecDepth 100000
set_option maxHeartbeats 1000000
/-! what the top has written: defs, numbers, texts, tuples. -/
namespace My
open PySem PySem.Spec PyProof.Rows L2 Evl
def HasF (K : PySem.W.Frag) (x : Str) (st : Stmt) : Prop := ∃ (f : Addr) (oc : Value) (od : Option Addr) (kV dc pm : Value) (an : Option Addr) (cd ct : Value) (sl : Array (Option Value)),
  PySem.W.nsIn K mainGlobals x = some (some (.ref f)) ∧ K.lookup f = some ⟨oc, od, .func (PySem.W.fnOf x x (defArgs st) (defBody st) (defScope st) .none kV dc pm an cd ct), sl⟩ ∧ PySem.W.codeIn K cd x = true ∧ PySem.W.keepIn K (.ref f) = true
def HasI (K : PySem.W.Frag) (x : Str) (n : Int) : Prop := ∃ t, PySem.W.nsIn K mainGlobals x = some (some (.int n t))
def HasS (K : PySem.W.Frag) (x z : Str) : Prop := ∃ t, PySem.W.nsIn K mainGlobals x = some (some (.str z t))
def HasT (K : PySem.W.Frag) (x : Str) (xs : List V) : Prop := ∃ (a : Addr) (o : Obj) (its : Array Value) (n : Nat), PySem.W.nsIn K mainGlobals x = some (some (.ref a)) ∧ K.lookup a = some o ∧ o.cls = .type "tuple" ∧ o.data = .seq its n ∧ its.size ≤ sizeLine ∧ Vals xs its.toList
section
variable {K : PySem.W.Frag} {h : Heap} {mg : Str → Option Value} {x z : Str} {st : Stmt} {n : Int} {xs : List V}
theorem HasF.mk' {f : Addr} {oc : Value} {od : Option Addr} {kV dc pm : Value} {an : Option Addr} {cd ct : Value} {sl : Array (Option Value)}
    (a : PySem.W.nsIn K mainGlobals x = some (some (.ref f))) (l : K.lookup f = some ⟨oc, od, .func (PySem.W.fnOf x x (defArgs st) (defBody st) (defScope st) .none kV dc pm an cd ct), sl⟩) (c : PySem.W.codeIn K cd x = true) (k : PySem.W.keepIn K (.ref f) = true) : HasF K x st :=
  ⟨f, oc, od, kV, dc, pm, an, cd, ct, sl, a, l, c, k⟩
theorem HasI.mk' {t : Tok} (a : PySem.W.nsIn K mainGlobals x = some (some (.int n t))) : HasI K x n := ⟨t, a⟩
theorem HasS.mk' {t : Tok} (a : PySem.W.nsIn K mainGlobals x = some (some (.str z t))) : HasS K x z := ⟨t, a⟩
theorem HasT.mk' {p : Addr} {od : Option Addr} {its : Array Value} {m : Nat} {sl : Array (Option Value)} (a : PySem.W.nsIn K mainGlobals x = some (some (.ref p))) (l : K.lookup p = some ⟨.type "tuple", od, .seq its m, sl⟩) (z : its.size ≤ sizeLine) (v : Vals xs its.toList) : HasT K x xs :=
  ⟨p, _, its, m, a, l, rfl, rfl, z, v⟩
theorem HasF.get (X : K.In h) (G : h.Ns mainGlobals mg) (H : HasF K x st) : ∃ f fd, Fun K x x st f fd ∧ mg x = some (.ref f) := by
  obtain ⟨f, oc, od, kV, dc, pm, an, cd, ct, sl, a, l, c, k⟩ := H
  exact ⟨f, _, fun_mk l c k, PySem.W.mg_of X G a⟩
theorem HasI.gi (X : K.In h) (G : h.Ns mainGlobals mg) (H : HasI K x n) : GI mg x n := by
  obtain ⟨t, a⟩ := H
  exact ⟨t, PySem.W.mg_of X G a⟩
theorem HasS.gs (X : K.In h) (G : h.Ns mainGlobals mg) (H : HasS K x z) : GS mg x z := by
  obtain ⟨t, a⟩ := H
  exact ⟨t, PySem.W.mg_of X G a⟩
theorem HasT.gt (X : K.In h) (G : h.Ns mainGlobals mg) (H : HasT K x xs) : GT K mg x xs := by
  obtain ⟨a, o, its, n, m, l, c, d, z, v⟩ := H
  exact ⟨a, PySem.W.mg_of X G m, fun _ => .inr ⟨o, its, n, l, c, d, z, v⟩⟩
end
end My

set_option Elab.async false
set_option linter.all false
set_option maxRecDepth 100000
set_option maxHeartbeats 1000000
/-! sorted of texts, any number of them: a list's, a dict's keys. -/
namespace My
open PySem PySem.Spec PyProof.Rows L2 Evl
def rSortSA (K : PySem.W.Frag) : List V → Hp → VK → Prop := fun vs H Q => ∃ (a : Addr) (ks : List Str), vs = [.ref a] ∧ SqL K H a (ks.map V.str) ∧ ks.length ≤ 100000 ∧
  ∀ ys p, ys.Perm ks → sortedS ys = true → H p = none → Q (.ref p) (upd H p (.lst (ys.map V.str)))
def rSortDA : List V → Hp → VK → Prop := fun vs H Q => ∃ (a : Addr) (kvs : List (Key × V)) (ks : List Str), vs = [.ref a] ∧ Rd H a (.dK kvs) ∧ kvs.map (·.1) = ks.map Sum.inr ∧ ks.length ≤ 100000 ∧
  ∀ ys p, ys.Perm ks → sortedS ys = true → H p = none → Q (.ref p) (upd H p (.lst (ys.map V.str)))
section
variable {X : Cx}
theorem cr_sortedSA : CallR X (.builtin "sorted") (rSortSA X.K) := by
  intro pins s σ H vs us Q I r h
  obtain ⟨a, ks, rfl, hs, hn, q⟩ := h
  rw [Vals.ref1 r]
  obtain ⟨its, rv, hl, _⟩ := I.list hs
  have hlen := rv.length
  rw [List.length_map] at hlen
  refine sorted_strsAny hl.isList rv.strs (by rw [← hlen]; exact sz_of hn) fun out ys h1 h2 h3 => ?_
  obtain ⟨ep, hat⟩ := sortedAll_at s.heap its out
  refine ⟨.ref _, upd H (s.heap.objs.size + 1) (.lst (ys.map V.str)), I.laid (t' := s.toks) (fun _ _ => sortedAll_old) (Nat.le_succ _) ⟨?_, out.toList, ep, vals_of_strs h1, hat⟩, rfl, q ys _ h2 h3 (I.hok.fresh (Nat.le_succ _))⟩
  rw [List.length_map, h2.length_eq]
  exact sz_of hn
theorem cr_sortedDA (hcalm : X.calm = true) : CallR X (.builtin "sorted") rSortDA := by
  intro pins s σ H vs us Q I r h
  obtain ⟨a, kvs, ks, rfl, hd, hks, hn, q⟩ := h
  rw [Vals.ref1 r]
  obtain ⟨z, lo, ws, rel, dd⟩ := dk_rd I.hok hd
  obtain ⟨ep, hat⟩ := dd.dictAt
  have hkeys : ws.map (·.1) = ks.map Sum.inr := rel.keys.symm.trans hks
  have hl : ws.length = ks.length := by simpa using congrArg List.length hkeys
  have hz : ks.length ≤ sizeLine := sz_of hn
  refine Calls.call_function_entry kind_sorted plain_sorted entry_sorted (args_sorted1 _) ?_
  unfold Builtin.«sorted»
  refine wpAny_bind (m := checkCount "sorted" 1 1 _) (wpAny_pure ?_)
  refine wpAny_bind (PySem.W.kdu_collect (A := X.A.in1) (PySem.W.kdl_dict (knd := mixKind X.prog X.w) (kvs := ws) (ep := ep) lo) (I.ok.hd hcalm) hat (by rw [hl]; exact hz) fun h' tk acc hk hacc => ?_)
  have hal : acc.toList.length = ks.length := by rw [Array.length_toList, hacc.1, hl]
  have hS : StrsAre acc.toList ks := strs_at hal fun j v e => by
    obtain ⟨k, x, e1, e2⟩ := hacc.2 j v (by rw [← Array.getElem?_toList]; exact e)
    have e3 : (ks.map Sum.inr)[j]? = some k := by rw [← hkeys, List.getElem?_map, e1]; rfl
    rw [List.getElem?_map] at e3
    obtain ⟨y, e4, e5⟩ := Option.map_eq_some_iff.mp e3
    subst e5
    obtain ⟨t, ev⟩ := Value.isStrOf_shape (x := y) (v := v) e2
    exact ⟨y, t, e4, ev⟩
  have I1 : Inv X pins σ H { s with heap := h', toks := tk } := I.kept hk
  refine wpAny_bind (wpAny_newList ?_ (by rw [hal]; exact hz))
  have hoL : (h'.push (seqObj "list" acc.toList.toArray 0)).get? h'.objs.size = some (seqObj "list" acc.toList.toArray 0) := Heap.get?_push_size _ rfl
  show wpAny _ _ _ _ _ { s with heap := h'.push (seqObj "list" acc.toList.toArray 0), toks := tk }
  refine wpAny_bind (wpAny_holding (wpAny_call_entry slot_list_sort ⟨_, hoL, rfl⟩ entry_list_sort
    (list_sort_treeKAny strKind_oneLt (s := { s with heap := h'.push (seqObj "list" acc.toList.toArray 0), toks := tk }) hoL hS.keysOf (fun v₁ v₂ rest e => keyKind_strs (by rw [← e]; exact hS)) (by rw [hal]; exact hz) fun st' hp hs => ⟨_, rfl, ?_⟩)
    (args_list_sort _)))
  obtain ⟨ys, g1, g2, g3⟩ := sorted_out_str hS hp hs
  obtain ⟨e', he'⟩ := sortedHeap_at (vs := acc.toList) (out := (arrOf st').map (·.2)) hoL
  refine wpAny_pure ⟨_, rfl, .ref h'.objs.size, upd H h'.objs.size (.lst (ys.map V.str)), I1.laid (t' := tk) (fun b u e => ?_) (Nat.le_refl _)
    (show ObjOk X.prog X.w _ _ _ (.lst (ys.map V.str)) from ⟨by rw [List.length_map, g2.length_eq]; exact hz, ((arrOf st').map (·.2)).toList, e', vals_of_strs g1, by rw [Array.toArray_toList]; exact he'⟩), rfl, q ys _ g2 g3 (I1.hok.fresh (Nat.le_refl _))⟩
  have hb : b < h'.objs.size := Heap.lt_size e
  rw [sortedHeap_old (Nat.ne_of_lt hb) (by rw [size_push']; exact Nat.lt_succ_of_lt hb)]
  exact Heap.get?_push_of_some _ e
end
end My

set_option Elab.async false
set_option linter.all false
set_option maxRecDepth 100000
set_option maxHeartbeats 1000000
/-! text.split of one sign, as a plain function. -/
namespace My
open PySem PySem.Spec PyProof.Rows L2 Evl PySem.StrLaws
def splitT (c : Nat) : List Nat → List (List Nat)
  | [] => [[]]
  | x :: r => if x = c then [] :: splitT c r else
    match splitT c r with
    | [] => [[x]]
    | p :: q => (x :: p) :: q
/-- where c stands, counted from a -/
def posn (c : Nat) : Nat → List Nat → List Nat
  | _, [] => []
  | a, x :: r => if x = c then a :: posn c (a + 1) r else posn c (a + 1) r
theorem sub_one {l : List Nat} {c i : Nat} : Builtin.Str.subAt (tx l) (tx [c]) i = decide (l[i]? = some c) := by
  rw [subAt_eq]
  show ((l.drop i).take 1 == [c]) = _
  cases h : l[i]? with
  | none =>
    rw [List.drop_of_length_le (List.getElem?_eq_none_iff.mp h)]
    rfl
  | some x =>
    obtain ⟨hi, hx⟩ := List.getElem?_eq_some_iff.mp h
    rw [List.drop_eq_getElem_cons hi, hx]
    show ([x] == [c]) = decide (some x = some c)
    by_cases e : x = c
    · subst e
      simp
    · rw [decide_eq_false fun z => e (Option.some.inj z)]
      exact beq_eq_false_iff_ne.mpr fun z => e (List.cons.inj z).1
theorem occ_run {l : List Nat} {c : Nat} : ∀ (m k : Nat) (st : Array Nat × Nat) (pre : List Nat), k + m = l.length + 1 → st.1.toList = pre → st.2 ≤ k → pre.length ≤ k →
    (forIn (List.range' k m) st (occBody (tx l) (tx [c]) l.length (l.length + 1))).run.fst.toList = pre ++ posn c k (l.drop k)
  | 0, k, st, pre, hk, hp, _, _ => by
    rw [List.drop_of_length_le (by omega)]
    show st.1.toList = pre ++ []
    rw [hp, List.append_nil]
  | m + 1, k, st, pre, hk, hp, h2, h3 => by
    rw [List.range'_succ, List.forIn_cons]
    unfold occBody
    have hsz : st.1.size ≤ k := by rw [← Array.length_toList, hp]; exact h3
    rw [sub_one]
    by_cases hx : l[k]? = some c
    · obtain ⟨hlt, hx'⟩ := List.getElem?_eq_some_iff.mp hx
      rw [if_pos ⟨⟨⟨by omega, h2⟩, by show k + 1 ≤ l.length; omega⟩, decide_eq_true hx⟩]
      have := occ_run (l := l) (c := c) m (k + 1) (st.1.push k, k + 1) (pre ++ [k]) (by omega) (by rw [Array.toList_push, hp]) (Nat.le_refl _) (by rw [List.length_append]; exact Nat.succ_le_succ h3)
      rw [List.drop_eq_getElem_cons hlt, posn, if_pos hx', List.append_cons]
      exact this
    · rw [if_neg fun z => hx (of_decide_eq_true z.2)]
      have := occ_run (l := l) (c := c) m (k + 1) (st.1, st.2) pre (by omega) hp (Nat.le_succ_of_le h2) (Nat.le_succ_of_le h3)
      by_cases hlt : k < l.length
      · rw [List.drop_eq_getElem_cons hlt, posn, if_neg fun z => hx (by rw [List.getElem?_eq_getElem hlt, z])]
        exact this
      · rw [List.drop_of_length_le (by omega)]
        rw [List.drop_of_length_le (by omega)] at this
        exact this
theorem occ_one {l : List Nat} {c : Nat} : Builtin.Str.occurrences (tx l) (tx [c]) 0 l.length (l.length + 1) = posn c 0 l := by
  rw [occ_eq]
  exact occ_run (l.length + 1) 0 (#[], 0) [] (by omega) rfl (Nat.le_refl _) (Nat.le_refl _)
theorem str_sub {l : List Nat} {i j : Nat} : Builtin.Str.strSub (tx l) i j = tx ((l.drop i).take (j - i)) := by
  refine Str.ext' (Array.toList_inj.mp ?_)
  rw [strSub_toList]
  rfl
theorem split_ne (c : Nat) : ∀ l, splitT c l ≠ []
  | [] => fun z => nomatch z
  | x :: r => by
    rw [splitT]
    split
    · exact fun z => nomatch z
    · split <;> exact fun z => nomatch z
def pre1 (p : List Nat) : List (List Nat) → List (List Nat)
  | [] => [p]
  | q :: r => (p ++ q) :: r
theorem parts_run {l : List Nat} {c : Nat} : ∀ (n a b : Nat), b + n = l.length → a ≤ b → partsFrom (tx l) 1 a (posn c b (l.drop b)) = (pre1 ((l.drop a).take (b - a)) (splitT c (l.drop b))).map tx
  | 0, a, b, hb, hab => by
    rw [List.drop_of_length_le (show l.length ≤ b by omega)]
    show [Builtin.Str.strSub (tx l) a (tx l).length] = [tx (_ ++ [])]
    rw [str_sub, tx_len, List.append_nil, show l.length = b by omega]
  | n + 1, a, b, hb, hab => by
    have hlt : b < l.length := by omega
    rw [List.drop_eq_getElem_cons hlt, posn, splitT]
    by_cases hx : l[b] = c
    · rw [if_pos hx, if_pos hx]
      show Builtin.Str.strSub (tx l) a b :: partsFrom (tx l) 1 (b + 1) _ = tx (_ ++ []) :: (splitT c (l.drop (b + 1))).map tx
      rw [str_sub, List.append_nil, parts_run n (b + 1) (b + 1) (by omega) (Nat.le_refl _), Nat.sub_self, List.take_zero]
      cases h : splitT c (l.drop (b + 1)) with
      | nil => exact absurd h (split_ne _ _)
      | cons p q => rfl
    · rw [if_neg hx, if_neg hx, parts_run n a (b + 1) (by omega) (by omega)]
      have e : (l.drop a).take (b + 1 - a) = (l.drop a).take (b - a) ++ [l[b]] := by
        rw [show b + 1 - a = (b - a) + 1 by omega, List.take_add_one, List.getElem?_drop, show a + (b - a) = b by omega, List.getElem?_eq_getElem hlt]
        rfl
      rw [e]
      cases h : splitT c (l.drop (b + 1)) with
      | nil => exact absurd h (split_ne _ _)
      | cons p q =>
        show (((_ ++ [l[b]]) ++ p) :: q).map tx = ((_ ++ (l[b] :: p)) :: q).map tx
        rw [List.append_assoc]
        rfl
theorem split_tx {l : List Nat} {c : Nat} (hc : c < 128) : Txt.split (tx l) (tx [c]) = (splitT c l).map tx := by
  have hk : ∀ x : Str, 1 ≤ Builtin.Str.strKind x := fun x => by
    unfold Builtin.Str.strKind
    split
    · decide
    · split <;> decide
  have h1 : Builtin.Str.strKind (tx [c]) = 1 := by
    unfold Builtin.Str.strKind
    rw [if_pos (by simp [tx]; omega)]
  have key : partsFrom (tx l) 1 0 (posn c 0 l) = (splitT c l).map tx := by
    have := parts_run (l := l) (c := c) l.length 0 0 (by omega) (Nat.le_refl _)
    rw [List.drop_zero, Nat.sub_zero, List.take_zero] at this
    rw [this]
    cases h : splitT c l with
    | nil => exact absurd h (split_ne _ _)
    | cons p q => rfl
  unfold Txt.split
  rw [show (tx [c]).length = 1 from rfl, h1]
  cases l with
  | nil => rfl
  | cons x r =>
    rw [if_neg (by
      have := hk (tx (x :: r))
      rw [tx_len]
      simp
      omega)]
    rw [show (tx (x :: r)).length = (x :: r).length from tx_len _, occ_one]
    cases hp : posn c 0 (x :: r) with
    | nil =>
      rw [hp] at key
      rw [if_pos (show (([] : List Nat).isEmpty = true) from rfl), ← key]
      show [tx (x :: r)] = [Builtin.Str.strSub _ 0 _]
      rw [str_sub, List.drop_zero, tx_len, Nat.sub_zero, List.take_length]
    | cons a b =>
      rw [if_neg (by intro z; exact nomatch z), partsBetween_eq, ← hp, key]
end My

set_option Elab.async false
set_option linter.all false
set_option maxRecDepth 100000
set_option maxHeartbeats 1000000
/-! comprehensions with a test over lists and tuples, by their items. -/
namespace My
open PySem PySem.Spec PyProof.Rows L2 Evl
section
variable {K : PySem.W.Frag} {σ : L2.St} {H : Hp} {te tl : TE} {tt : TT} {xs : List V} {a : Addr}
/-- the turn of a comprehension whose item is x -/
theorem lcf_turn {H1 H' : Hp} {σ2 : L2.St} {Dl : Addr} {f : V → Bool} {g : V → V} {i : Nat} {x : V} (hx : xs[i]? = some x) (hD : H1 Dl = none) (ex : Ex H1 H') (hl : H' Dl = some (.lst (((xs.take i).filter f).map g))) (hz : xs.length ≤ 40000)
    (ht : EvT tt σ2 H1 (f x)) (he : f x = true → Ev te σ2 H1 (g x)) :
    tt σ2 H' fun b H3 => if b = true then te σ2 H3 fun y H4 => ∃ acc, H4 Dl = some (.lst acc) ∧ acc.length < sizeLine ∧ (Ex H1 (upd H4 Dl (.lst (acc ++ [y]))) ∧ (upd H4 Dl (.lst (acc ++ [y]))) Dl = some (.lst (((xs.take (i + 1)).filter f).map g)))
      else (Ex H1 H3 ∧ H3 Dl = some (.lst (((xs.take (i + 1)).filter f).map g))) := by
  refine ht H' ex _ fun H3 e3 => ?_
  have E3 := ex.trans e3
  have l3 := e3 Dl _ hl
  rw [List.take_add_one, hx, List.filter_append]
  cases hf : f x with
  | false =>
    rw [if_neg (by decide)]
    refine ⟨E3, ?_⟩
    rw [l3]
    simp [hf]
  | true =>
    rw [if_pos rfl]
    refine he hf H3 E3 _ fun H4 e4 => ⟨_, e4 Dl _ l3, sz_lt ?_, (E3.trans e4).mut hD, ?_⟩
    · have h1 := List.length_filter_le f (xs.take i)
      rw [List.length_map]
      rw [List.length_take] at h1
      omega
    · rw [upd_same]
      simp [hf]
theorem el_lcF {j : Nat} {vs : List Nat} (f : V → Bool) (g : V → V) (h : EvL tl σ H xs) (hz : xs.length ≤ 40000) (hw : ∀ x, wipe ((wipe σ vs).set j (some x)) vs = wipe σ vs)
    (ht : ∀ x H1, Ex H H1 → x ∈ xs → EvT tt ((wipe σ vs).set j (some x)) H1 (f x)) (he : ∀ x H1, Ex H H1 → x ∈ xs → f x = true → Ev te ((wipe σ vs).set j (some x)) H1 (g x)) : EvL (tLc (iList K tl) (gName j) tt te vs) σ H ((xs.filter f).map g) := by
  intro H0 e Q q
  refine h H0 e _ fun a H1 ha e1 h1 => ⟨a, rfl, ⟨xs, sq_of h1⟩, fun Dl hD => ?_⟩
  refine ⟨fun i m H' => m = xs.length - i ∧ i ≤ xs.length ∧ Ex H1 H' ∧ H' Dl = some (.lst (((xs.take i).filter f).map g)), ⟨xs.length, rfl, Nat.zero_le _, Ex.new hD, upd_same⟩, ?_⟩
  rintro i m H' ⟨rfl, hi, ex, hl⟩
  by_cases hlt : i < xs.length
  · have gx : xs[i]? = some xs[i] := List.getElem?_eq_getElem hlt
    refine .inr ⟨⟨xs, xs[i], sq_of (ex a _ h1), gx⟩, fun H' => Ex H1 H' ∧ H' Dl = some (.lst (((xs.take (i + 1)).filter f).map g)), fun H2 p => ⟨xs.length - (i + 1), by omega, rfl, hlt, p⟩, fun x H2 y => ?_⟩
    obtain ⟨rfl, y⟩ := y
    have ex' : x = xs[i] := Option.some.inj ((y xs (sq_of (ex a _ h1))).symm.trans gx)
    subst ex'
    exact ⟨hw _, lcf_turn gx hD ex hl hz (ht _ H1 (e.trans e1) (List.mem_of_getElem? gx)) (he _ H1 (e.trans e1) (List.mem_of_getElem? gx))⟩
  · have e0 : i = xs.length := by omega
    subst e0
    rw [List.take_of_length_le (Nat.le_refl _)] at hl
    exact .inl ⟨⟨xs, sq_of (ex a _ h1), Nat.le_refl _⟩, q Dl H' (fresh_back e1 hD) (e1.trans ex) hl⟩
theorem el_lcA {j : Nat} {vs : List Nat} (f : V → Bool) (g : V → V) (h : Ev tl σ H (.ref a)) (hS : SqL K H a xs) (hz : xs.length ≤ 40000) (hw : ∀ x, wipe ((wipe σ vs).set j (some x)) vs = wipe σ vs)
    (ht : ∀ x H1, Ex H H1 → x ∈ xs → EvT tt ((wipe σ vs).set j (some x)) H1 (f x)) (he : ∀ x H1, Ex H H1 → x ∈ xs → f x = true → Ev te ((wipe σ vs).set j (some x)) H1 (g x)) : EvL (tLc (iList K tl) (gName j) tt te vs) σ H ((xs.filter f).map g) := by
  intro H0 e Q q
  refine h H0 e _ fun H1 e1 => ⟨a, rfl, ⟨xs, ex_l (e.trans e1) hS⟩, fun Dl hD => ?_⟩
  have S1 := ex_l (e.trans e1) hS
  refine ⟨fun i m H' => m = xs.length - i ∧ i ≤ xs.length ∧ Ex H1 H' ∧ H' Dl = some (.lst (((xs.take i).filter f).map g)), ⟨xs.length, rfl, Nat.zero_le _, Ex.new hD, upd_same⟩, ?_⟩
  rintro i m H' ⟨rfl, hi, ex, hl⟩
  by_cases hlt : i < xs.length
  · have gx : xs[i]? = some xs[i] := List.getElem?_eq_getElem hlt
    refine .inr ⟨⟨xs, xs[i], ex_l ex S1, gx⟩, fun H' => Ex H1 H' ∧ H' Dl = some (.lst (((xs.take (i + 1)).filter f).map g)), fun H2 p => ⟨xs.length - (i + 1), by omega, rfl, hlt, p⟩, fun x H2 y => ?_⟩
    obtain ⟨rfl, y⟩ := y
    have ex' : x = xs[i] := Option.some.inj ((y xs (ex_l ex S1)).symm.trans gx)
    subst ex'
    exact ⟨hw _, lcf_turn gx hD ex hl hz (ht _ H1 (e.trans e1) (List.mem_of_getElem? gx)) (he _ H1 (e.trans e1) (List.mem_of_getElem? gx))⟩
  · have e0 : i = xs.length := by omega
    subst e0
    rw [List.take_of_length_le (Nat.le_refl _)] at hl
    exact .inl ⟨⟨xs, ex_l ex S1, Nat.le_refl _⟩, q Dl H' (fresh_back e1 hD) (e1.trans ex) hl⟩
theorem el_lcT {j : Nat} {vs : List Nat} (f : V → Bool) (g : V → V) (h : Ev tl σ H (.ref a)) (hS : SqT K H a xs) (hz : xs.length ≤ 40000) (hw : ∀ x, wipe ((wipe σ vs).set j (some x)) vs = wipe σ vs)
    (ht : ∀ x H1, Ex H H1 → x ∈ xs → EvT tt ((wipe σ vs).set j (some x)) H1 (f x)) (he : ∀ x H1, Ex H H1 → x ∈ xs → f x = true → Ev te ((wipe σ vs).set j (some x)) H1 (g x)) : EvL (tLc (iTup K tl) (gName j) tt te vs) σ H ((xs.filter f).map g) := by
  intro H0 e Q q
  refine h H0 e _ fun H1 e1 => ⟨a, rfl, ⟨xs, ex_t (e.trans e1) hS⟩, fun Dl hD => ?_⟩
  have S1 := ex_t (e.trans e1) hS
  refine ⟨fun i m H' => m = xs.length - i ∧ i ≤ xs.length ∧ Ex H1 H' ∧ H' Dl = some (.lst (((xs.take i).filter f).map g)), ⟨xs.length, rfl, Nat.zero_le _, Ex.new hD, upd_same⟩, ?_⟩
  rintro i m H' ⟨rfl, hi, ex, hl⟩
  by_cases hlt : i < xs.length
  · have gx : xs[i]? = some xs[i] := List.getElem?_eq_getElem hlt
    refine .inr ⟨⟨xs, xs[i], ex_t ex S1, gx⟩, fun H' => Ex H1 H' ∧ H' Dl = some (.lst (((xs.take (i + 1)).filter f).map g)), fun H2 p => ⟨xs.length - (i + 1), by omega, rfl, hlt, p⟩, fun x H2 y => ?_⟩
    obtain ⟨rfl, y⟩ := y
    have ex' : x = xs[i] := Option.some.inj ((y xs (ex_t ex S1)).symm.trans gx)
    subst ex'
    exact ⟨hw _, lcf_turn gx hD ex hl hz (ht _ H1 (e.trans e1) (List.mem_of_getElem? gx)) (he _ H1 (e.trans e1) (List.mem_of_getElem? gx))⟩
  · have e0 : i = xs.length := by omega
    subst e0
    rw [List.take_of_length_le (Nat.le_refl _)] at hl
    exact .inl ⟨⟨xs, ex_t ex S1, Nat.le_refl _⟩, q Dl H' (fresh_back e1 hD) (e1.trans ex) hl⟩
end
end My

set_option Elab.async false
set_option linter.all false
set_option maxRecDepth 100000
set_option maxHeartbeats 2000000
/-! enumerate(tuple); loops over enumerate(list), enumerate(tuple). -/
namespace My
open PySem PySem.Spec PyProof.Rows L2 Evl
open Sem (wp)
theorem meets_enumerate_newB1 {v : Value} {o : Obj} {H : Heap → Prop} (B : Begins v o H) :
    Meets (Builtin.«enumerate.__new__» ⟨[.type "enumerate", v], []⟩) (fun _ R s => H s.heap ∧
      R (.ok (.ret (.ref (s.heap.push o).objs.size))) { s with heap := (s.heap.push o).push { cls := .type "enumerate", data := .fields #[.none, .bool false, .ref s.heap.objs.size, rawInt 0, .none, .none] } }) :=
  .of_wp fun prog w A R s h => by
    obtain ⟨hp, g, d, tk, os⟩ := s; obtain ⟨h1, h⟩ := h
    have hsub := sub_enumerate
    have q1 : ∀ {A' : Around} {E : Value → Shared → Prop} {Q : Value → Shared → Prop}, Q (.ref hp.objs.size) ⟨hp.push o, g, d, tk, os⟩ → wpAny (model prog w) A' (pyIter v) Q E ⟨hp, g, d, tk, os⟩ :=
      fun q => B.iter prog w _ _ ⟨hp, g, d, tk, os⟩ _ h1 q
    wp_walk using q1
    refine wpAny_stack_any fun st => wpAny_pure ?_
    split
    · rename_i c _ _ _ _ _
      cases (c == Value.type "enumerate")
      · wp_walk using q1
        exact ⟨_, rfl, h⟩
      · wp_walk using q1
        exact ⟨_, rfl, h⟩
    · wp_walk using q1
      exact ⟨_, rfl, h⟩
theorem enum_begins1 {prog : Program} {w : World} {A : Around} {E : Value → Shared → Prop} {s : Shared} {v : Value} {o : Obj} {H : Heap → Prop} {Q : Value → Shared → Prop} (B : Begins v o H) (h1 : H s.heap)
    (h : ∀ h', IsEnum h' (s.heap.objs.size + 1) s.heap.objs.size 0 .none → h'.get? s.heap.objs.size = some o → h'.objs.size = s.heap.objs.size + 2 →
      (∀ b o, s.heap.get? b = some o → h'.get? b = some o) → Q (.ref (s.heap.objs.size + 1)) { s with heap := h' }) :
    wpAny (model prog w) A (call (.type "enumerate") [v]) Q E s := by
  refine callType_new F.called_enumerate (by decide) (F.typeCall_enumerate_1 _) (F.newCall_enumerate_1 _) (fun obj => F.args_object_init_2 obj _) F.entry_enumerate_new
    (meets_enumerate_newB1 B) ⟨h1, ?_⟩
  have hz : (s.heap.push o).objs.size = s.heap.objs.size + 1 := Heap.size_push ..
  show _ ∧ _
  rw [hz]
  have he : IsEnum ((s.heap.push o).push { cls := .type "enumerate", data := .fields #[.none, .bool false, .ref s.heap.objs.size, rawInt 0, .none, .none] }) (s.heap.objs.size + 1) s.heap.objs.size 0 .none := by
    have := Heap.get?_push_size (s.heap.push o) (o := { cls := .type "enumerate", data := .fields #[.none, .bool false, .ref s.heap.objs.size, rawInt 0, .none, .none] }) rfl
    rw [hz] at this; exact this
  refine ⟨⟨_, he, rfl⟩, h _ he (Heap.get?_push_of_some _ (Heap.get?_push_size _ B.free)) (by rw [Heap.size_push, hz]) fun b o x => Heap.get?_push_of_some _ (Heap.get?_push_of_some _ x)⟩
def IteT (K : PySem.W.Frag) (a : Addr) : It :=
  ⟨fun i H => ∃ (xs : List V) (x : V), SqT K H a xs ∧ xs[i]? = some x, fun i H v H' => ∃ T x, v = .ref T ∧ H T = none ∧ H' = upd H T (.tup [.int (i : Nat), x]) ∧ ∀ xs, SqT K H a xs → xs[i]? = some x, fun i H => ∃ xs : List V, SqT K H a xs ∧ xs.length ≤ i⟩
theorem turn_enumT {P : Program} {w : World} {K : PySem.W.Frag} {elts : List Expr} {kk : Nat} {tpos : Pos} (a e it : Addr) :
    Turn P w K (.Tuple elts kk tpos) (IteT K a) [e, it] e (fun i h => (∃ old, IsEnum h e it ((i : Nat) : Int) old) ∧ h.IsTupleIter it a i ∧ e ≠ it ∧ e ≠ a ∧ a ≠ it) where
  mem := by simp
  obj := fun i h st b hb => by
    obtain ⟨⟨old, he⟩, ⟨o, ho, hc, hd⟩, _⟩ := st
    have e' : b = e ∨ b = it := by simpa using hb
    rcases e' with z | z
    · rw [z]; exact ⟨_, he, fun v q => nomatch q⟩
    · rw [z]; exact ⟨o, ho, fun v q => by rw [hd] at q; cases q⟩
  keep := fun i h h' st k => let ⟨⟨old, he⟩, hi, hne⟩ := st; ⟨⟨old, k e (by simp) _ he⟩, hi.at fun o q => k it (by simp) o q, hne⟩
  item := by
    intro X hP hw hK hc i pins s σ H E I hf st hg
    subst hP hw hK
    obtain ⟨⟨old, he⟩, hit, hne, hea, hai⟩ := st
    obtain ⟨xs, x, hq, hx⟩ := hg
    obtain ⟨its, rv, p, hz⟩ := I.tuple hq
    obtain ⟨u, hu, ru⟩ := rv.get hx
    have hel : e < s.heap.objs.size := Heap.lt_size he
    have hil : it < s.heap.objs.size := by obtain ⟨_, q, _⟩ := hit; exact Heap.lt_size q
    have hlt : i < its.toArray.size := by
      have := (List.getElem?_eq_some_iff.mp hu).1
      simpa using this
    have D := Draws.tuple (prog := X.prog) (w := X.w) (A := X.A.in1) (I.ok.hd hc) it a hai its.toArray
    refine wpAny_pyNext_enum_itemD D he ⟨hit, p⟩ hlt hne (by simp [hne, hea]) fun x' h' tk hP ho hst' hT hsz hk => ?_
    obtain ⟨hit', _⟩ := hst'
    have hux : x' = u := by
      have h1 : its.toArray[i]? = some u := by simpa using hu
      exact Option.some.inj (hP.symm.trans h1)
    subst hux
    refine ⟨_, rfl, wpAny_letOwnedTupleGo_enum (s := { s with heap := h', toks := tk + 1 }) ho fun h'' he' sb => ?_⟩
    have hT2 : h''.get? s.heap.objs.size = some { cls := .type "tuple", data := .seq #[.int i tk, x'] } := (sb.2 _ (Nat.ne_of_gt hel)).trans hT
    have new : ObjOk X.prog X.w (upd H s.heap.objs.size (.tup [.int (i : Nat), x])) h'' s.heap.objs.size (.tup [.int (i : Nat), x]) :=
      ⟨by show 2 ≤ sizeLine; decide, [.int i tk, x'], .cons ⟨_, rfl⟩ (.cons ru .nil), ⟨_, hT2, rfl, _, rfl⟩⟩
    have I1 : Inv X pins σ (upd H s.heap.objs.size (.tup [.int (i : Nat), x])) { s with heap := h'', toks := tk + 1 } :=
      I.turnedNew (ch := [e, it]) (fun b ob hb q => (sb.2 b (fun z => hb (by simp [z]))).trans (hk b ob (fun z => hb (by simp [z])) (fun z => hb (by simp [z])) q)) hf (Nat.le_refl _) new
    refine ⟨.ref s.heap.objs.size, _, I1, rfl, ⟨_, x, rfl, I.hok.fresh (Nat.le_refl _), rfl, fun ys hy => by rw [I.tuple_inj hy hq]; exact hx⟩, ⟨⟨x', ?_⟩, hit'.at fun o q => (sb.2 it (Ne.symm hne)).trans q, hne, hea, hai⟩, fun b hb => ?_⟩
    · have e1 : ((i + 1 : Nat) : Int) = (i : Int) + 1 := by omega
      rw [e1]; exact he'
    · have hb' : b < s.heap.objs.size := by
        have e' : b = e ∨ b = it := by simpa using hb
        rcases e' with z | z
        · rw [z]; exact hel
        · rw [z]; exact hil
      rw [upd_ne (Nat.ne_of_lt hb')]
      exact (hf b hb).1
  done := by
    intro X hP hw hK hc i pins s σ H E I hf st hg
    subst hP hw hK
    obtain ⟨⟨old, he⟩, hit, hne, hea, hai⟩ := st
    obtain ⟨xs, hq, hx⟩ := hg
    obtain ⟨its, rv, p, hz⟩ := I.tuple hq
    obtain ⟨f0, f1, f2, f3, f4, f5⟩ := hf it (by simp)
    have hl := rv.length
    have D := Draws.tuple (prog := X.prog) (w := X.w) (A := X.A.in1) (I.ok.hd hc) it a hai its.toArray
    have hT : s.TypeIs (.ref e) "enumerate" := ⟨_, he, rfl⟩
    unfold pyNext
    refine wpAny_bind (wpAny_attempt (wpAny_callSpecial?_slot (name := Str.ofString "__next__") hT F.slot_enumerate_next
      (wpAny_call_entry F.slot_enumerate_next hT F.entry_enumerate_next ?_ (F.args_enumerate_next_1 _))))
    show wpAny _ _ (field (.ref e) 2 >>= _) _ _ _
    refine wpAny_bind (wpAny_field he rfl (x := .ref it) rfl ?_)
    refine wpAny_bind (wpAny_nextOf_tuple_end (I.ok.hd hc) hit (show s.heap.IsTuple a its.toArray from p) (by simp; omega) fun h' x he' hx' => ?_)
    obtain ⟨o, ho, hc'⟩ := hx'
    refine wpAny_bind (wpAny_isInstance (T := "StopIteration") (b := true) ⟨o, ho, hc'⟩ isSubtype_stop ?_)
    exact wpAny_pure ⟨rfl, I.turned (t' := s.toks) (fun b o hb q => he' b o hb q) f0 f1 f3 f4 f5⟩
  self := fun A i s Q E st h => let ⟨⟨_, he⟩, _⟩ := st; wpAny_pyIter_enum he h
def iEnumT (K : PySem.W.Frag) (ta : TA) : TI := fun σ H R => ta σ H fun vs H1 => ∃ a xs, vs = [.ref a] ∧ SqT K H1 a xs ∧ R (IteT K a) H1
theorem pi_enumT {X : Cx} {e : Expr} {ta : TA} {p pos tpos : Pos} {elts : List Expr} {kk : Nat} (hg : Gl X "enumerate") (hm : X.mg "enumerate" = none) (ha : PA X [e] ta) (hs : starEach [e] X.env = [(false, eval e X.env)] := by rfl) :
    PI X (.Tuple elts kk tpos) (.Call (.Name "enumerate" p) [e] [] pos) (iEnumT X.K ta) := by
  refine ⟨fun pins s σ H R I h => ?_⟩
  refine Call_ (ld_blt I hg hm boot_enumerate (PyProof.Rows.callWith_type1 (thn (ha.run pos pins s σ H _ I h) fun us s1 ⟨vs, H1, I1, r1, q1⟩ => ?_) hs rfl))
  obtain ⟨a, xs, ex, hq, q⟩ := q1
  subst ex
  cases r1 with
  | cons r rr =>
    cases rr
    cases r
    obtain ⟨its, rv, p', hz⟩ := I1.tuple hq
    have hal : a < s1.heap.objs.size := by obtain ⟨_, q', _⟩ := (show s1.heap.IsTuple a its.toArray from p'); exact Heap.lt_size q'
    refine enum_begins1 (begins_tuple a its.toArray) (show s1.heap.IsTuple a its.toArray from p') fun h' he hit hsz hk => wpAny_pyIter_enum he ?_
    have I2 : Inv X pins σ H1 { s1 with heap := h' } := I1.kept (t' := s1.toks) hk
    refine ⟨s1.heap.objs.size + 1, [s1.heap.objs.size + 1, s1.heap.objs.size], _, _, H1, rfl, I2, turn_enumT a (s1.heap.objs.size + 1) s1.heap.objs.size, ⟨⟨.none, he⟩, ⟨_, hit, rfl, rfl⟩, Nat.succ_ne_self _, Nat.ne_of_gt (Nat.lt_succ_of_lt hal), Nat.ne_of_lt hal⟩, fun b hb => ?_, q⟩
    have e' : b = s1.heap.objs.size + 1 ∨ b = s1.heap.objs.size := by simpa using hb
    have hle : s1.heap.objs.size ≤ b := by
      rcases e' with z | z
      · rw [z]; exact Nat.le_add_right _ _
      · rw [z]; exact Nat.le_refl _
    exact I1.fpOk hle (I1.hok.fresh hle)
section
variable {K : PySem.W.Frag} {σ : L2.St} {H : Hp} {te : TE} {xs : List V} {a : Addr} {D : Ends} {tu tz : TS}
/-- for i, x in enumerate(xs) -/
theorem s_forE {j1 j2 : Nat} (h : Ev te σ H (.ref a)) (hS : SqL K H a xs) (Pv : Nat → L2.St → Hp → Prop) (h0 : ∀ H1, Ex H H1 → Pv 0 σ H1) (hk : ∀ i σ' H', i ≤ xs.length → Pv i σ' H' → SqL K H' a xs)
    (hs : ∀ i x σ' H' H2, xs[i]? = some x → Pv i σ' H' → Ex H' H2 → tu { D with nx := Pv (i + 1), ct := Pv (i + 1), bk := D.nx } ((σ'.set j1 (some (.int (i : Int)))).set j2 (some x)) H2)
    (hd : ∀ σ' H', Pv xs.length σ' H' → D.nx σ' H') : tFor (iEnum K (tCons te tNil)) (gTup K 2 (gCons (gName j1) (gCons (gName j2) gNil))) tu D σ H := by
  refine h H (Ex.refl H) _ fun H1 e1 => ⟨a, xs, rfl, ex_l e1 hS, ?_⟩
  refine ⟨fun i m σ' H' => m = xs.length - i ∧ i ≤ xs.length ∧ Pv i σ' H', ⟨xs.length, rfl, Nat.zero_le _, h0 H1 e1⟩, ?_⟩
  rintro i m σ' H' ⟨rfl, hi, p⟩
  have S := hk i σ' H' hi p
  by_cases hlt : i < xs.length
  · have gx : xs[i]? = some xs[i] := List.getElem?_eq_getElem hlt
    refine .inr ⟨⟨xs, _, S, gx⟩, Pv (i + 1), fun σ2 H2 p2 => ⟨xs.length - (i + 1), by omega, rfl, hlt, p2⟩, fun v H2 y => ?_⟩
    obtain ⟨T, x', rfl, hT, rfl, f1⟩ := y
    exact ⟨T, [.int (i : Nat), x'], rfl, st_of upd_same, rfl, _, _, rfl, _, _, rfl, rfl, hs i x' σ' H' _ (f1 xs S) p (Ex.new hT)⟩
  · have e0 : i = xs.length := by omega
    subst e0
    exact .inl ⟨⟨xs, S, Nat.le_refl _⟩, hd σ' H' p⟩
theorem s_forET {j1 j2 : Nat} (h : Ev te σ H (.ref a)) (hS : SqT K H a xs) (Pv : Nat → L2.St → Hp → Prop) (h0 : ∀ H1, Ex H H1 → Pv 0 σ H1) (hk : ∀ i σ' H', i ≤ xs.length → Pv i σ' H' → SqT K H' a xs)
    (hs : ∀ i x σ' H' H2, xs[i]? = some x → Pv i σ' H' → Ex H' H2 → tu { D with nx := Pv (i + 1), ct := Pv (i + 1), bk := D.nx } ((σ'.set j1 (some (.int (i : Int)))).set j2 (some x)) H2)
    (hd : ∀ σ' H', Pv xs.length σ' H' → D.nx σ' H') : tFor (iEnumT K (tCons te tNil)) (gTup K 2 (gCons (gName j1) (gCons (gName j2) gNil))) tu D σ H := by
  refine h H (Ex.refl H) _ fun H1 e1 => ⟨a, xs, rfl, ex_t e1 hS, ?_⟩
  refine ⟨fun i m σ' H' => m = xs.length - i ∧ i ≤ xs.length ∧ Pv i σ' H', ⟨xs.length, rfl, Nat.zero_le _, h0 H1 e1⟩, ?_⟩
  rintro i m σ' H' ⟨rfl, hi, p⟩
  have S := hk i σ' H' hi p
  by_cases hlt : i < xs.length
  · have gx : xs[i]? = some xs[i] := List.getElem?_eq_getElem hlt
    refine .inr ⟨⟨xs, _, S, gx⟩, Pv (i + 1), fun σ2 H2 p2 => ⟨xs.length - (i + 1), by omega, rfl, hlt, p2⟩, fun v H2 y => ?_⟩
    obtain ⟨T, x', rfl, hT, rfl, f1⟩ := y
    exact ⟨T, [.int (i : Nat), x'], rfl, st_of upd_same, rfl, _, _, rfl, _, _, rfl, rfl, hs i x' σ' H' _ (f1 xs S) p (Ex.new hT)⟩
  · have e0 : i = xs.length := by omega
    subst e0
    exact .inl ⟨⟨xs, S, Nat.le_refl _⟩, hd σ' H' p⟩
theorem q_forE {j1 j2 : Nat} (h : Ev te σ H (.ref a)) (hS : SqL K H a xs) (Pv : Nat → L2.St → Hp → Prop) (h0 : ∀ H1, Ex H H1 → Pv 0 σ H1) (hk : ∀ i σ' H', i ≤ xs.length → Pv i σ' H' → SqL K H' a xs)
    (hs : ∀ i x σ' H' H2, xs[i]? = some x → Pv i σ' H' → Ex H' H2 → tu { D with nx := Pv (i + 1), ct := Pv (i + 1), bk := tz D } ((σ'.set j1 (some (.int (i : Int)))).set j2 (some x)) H2)
    (hd : ∀ σ' H', Pv xs.length σ' H' → tz D σ' H') : tSeq (tFor (iEnum K (tCons te tNil)) (gTup K 2 (gCons (gName j1) (gCons (gName j2) gNil))) tu) tz D σ H :=
  s_forE (D := { D with nx := tz D }) h hS Pv h0 hk hs hd
theorem q_forET {j1 j2 : Nat} (h : Ev te σ H (.ref a)) (hS : SqT K H a xs) (Pv : Nat → L2.St → Hp → Prop) (h0 : ∀ H1, Ex H H1 → Pv 0 σ H1) (hk : ∀ i σ' H', i ≤ xs.length → Pv i σ' H' → SqT K H' a xs)
    (hs : ∀ i x σ' H' H2, xs[i]? = some x → Pv i σ' H' → Ex H' H2 → tu { D with nx := Pv (i + 1), ct := Pv (i + 1), bk := tz D } ((σ'.set j1 (some (.int (i : Int)))).set j2 (some x)) H2)
    (hd : ∀ σ' H', Pv xs.length σ' H' → tz D σ' H') : tSeq (tFor (iEnumT K (tCons te tNil)) (gTup K 2 (gCons (gName j1) (gCons (gName j2) gNil))) tu) tz D σ H :=
  s_forET (D := { D with nx := tz D }) h hS Pv h0 hk hs hd
end
end My

set_option Elab.async false
set_option linter.all false
set_option maxRecDepth 100000
set_option maxHeartbeats 2000000
/-! own classes: methods bundled, fields read, dicts with text keys. -/
namespace My
open PySem PySem.Spec PyProof.Rows L2 Evl
structure MCal (P : Program) (w : World) (K : PySem.W.Frag) (mg : Str → Option Value) (base : Heap) (k : Nat) (C : Addr) (m : Str) (ps : List Str) (sp : Sp) : Prop where
  ex : ∃ f fd, FnOk P w K mg base CX0 k f fd ps sp ∧ Binds K fd ps [] ∧ Meth K C m f
theorem MCal.mono {P : Program} {w : World} {K : PySem.W.Frag} {mg : Str → Option Value} {base : Heap} {j k : Nat} {C : Addr} {m : Str} {ps : List Str} {sp : Sp} (M : MCal P w K mg base j C m ps sp) (h : j ≤ k) : MCal P w K mg base k C m ps sp := by
  obtain ⟨f, fd, F, b, mm⟩ := M.ex
  exact ⟨f, fd, F.mono h, b, mm⟩
theorem pe_mcal {X : Cx} {k j : Nat} {C : Addr} {m : Str} {ps : List Str} {sp : Sp} {o e : Expr} {es : List Expr} {ta : TE} {t : TA} {pos apos : Pos} {pl : Sem Bool} (c : Cls X.K C) (M : MCal X.prog X.w X.K X.mg X.base k C m ps sp) (hr : Room j X.A) (he : PE X o ta) (ha : PA X (e :: es) t)
    (hle : k ≤ j := by first | exact Nat.le_refl _ | decide | omega)
    (hst : starEach (e :: es) X.env = (false, eval e X.env) :: starEach es X.env := by rfl) (hpl : (backTo pos (starEach es X.env)).any (·.1) = false := by rfl)
    (ht : eval (.Call (.Attribute o m apos) (e :: es) [] pos) X.env = (do
      let ov ← eval o X.env
      standAt apos.atName
      let (f, first) ← holding [ov] (getMethod ov m pl)
      callWith pos f first (backTo pos (starEach (e :: es) X.env)) (backToKw pos (keywordEach [] X.env))) := by rfl) :
    PE X (.Call (.Attribute o m apos) (e :: es) [] pos) (tMeth C m sp [] E0 ta t) := by
  obtain ⟨f, fd, F, b, mm⟩ := M.ex
  exact pe_meth (pl := pl) he c mm F (hr.mono hle) b .nil pass0 ha hst hpl ht
/-- an own class with its __init__ -/
structure MkC (P : Program) (w : World) (K : PySem.W.Frag) (mg : Str → Option Value) (base : Heap) (k : Nat) (x : Str) (C : Addr) (ps : List Str) (sp : Sp) : Prop where
  ex : ∃ f fd, FnOk P w K mg base CX0 k f fd ps sp ∧ Binds K fd ps [] ∧ Mk K C f ∧ mg x = some (.ref C)
theorem MkC.mono {P : Program} {w : World} {K : PySem.W.Frag} {mg : Str → Option Value} {base : Heap} {j k : Nat} {x : Str} {C : Addr} {ps : List Str} {sp : Sp} (M : MkC P w K mg base j x C ps sp) (h : j ≤ k) : MkC P w K mg base k x C ps sp := by
  obtain ⟨f, fd, F, b, mm⟩ := M.ex
  exact ⟨f, fd, F.mono h, b, mm⟩
theorem pe_mkc0 {X : Cx} {k j : Nat} {x : Str} {C : Addr} {ps : List Str} {sp : Sp} {p pos : Pos} (M : MkC X.prog X.w X.K X.mg X.base k x C ps sp) (hr : Room j X.A) (hle : k + 1 ≤ j := by first | exact Nat.le_refl _ | decide | omega) (hg : Gl X x := by rfl) (hdb : (x == ("__debug__" : Str)) = false := by decide) :
    PE X (.Call (.Name x p) [] [] pos) (tMake C sp [] E0 tNil) := by
  obtain ⟨f, fd, F, b, mm, hm⟩ := M.ex
  exact pe_make0 mm F (hr.mono hle) hg hm b .nil pass0 hdb
section
variable {K : PySem.W.Frag} {σ : L2.St} {H H' : Hp} {ta tb tc te td ty tl : TE} {t : TA} {xs : List V} {x y z v : V} {p a d C dx : Addr} {D : Ends} {tu tz : TS} {fs : List (Str × V)} {f : Str} {kvs : List (Key × V)} {l : List Nat}
theorem ev_fld (h : Ev te σ H (.ref a)) (hi : H a = some (.ins C dx fs)) (c : Cls K C) (n : NoAttr K C f) (hl : fs.lookup f = some v) : Ev (tFld K te f) σ H v := fun H1 e Q q =>
  h H1 e _ fun H2 e2 => ⟨a, C, dx, fs, v, rfl, (e.trans e2) a _ hi, c, n, hl, q H2 e2⟩
theorem ev_din (h : Ev td σ H (.ref d)) (hd : H d = some (.dK kvs)) (hk : Ev ty σ H (.str (tx l))) : Ev (tDIn ty td) σ H (.bl (valV kvs (.inr (tx l))).isSome) := fun H1 e Q q =>
  hk H1 e _ fun H2 e2 => h H2 (e.trans e2) _ fun H3 e3 => ⟨d, _, rfl, DGet.k (k := Sum.inr (tx l)) (((e.trans e2).trans e3) d _ hd), q H3 (e2.trans e3)⟩
theorem ev_dget (h : Ev td σ H (.ref d)) (hd : H d = some (.dK kvs)) (hk : Ev ty σ H (.str (tx l))) (hv : valV kvs (.inr (tx l)) = some v) : Ev (tDGet td ty) σ H v := fun H1 e Q q =>
  h H1 e _ fun H2 e2 => hk H2 (e.trans e2) _ fun H3 e3 => ⟨d, v, rfl, by rw [← hv]; exact DGet.k (k := Sum.inr (tx l)) (((e.trans e2).trans e3) d _ hd), q H3 (e2.trans e3)⟩
/-- d[k] = v -/
theorem s_dput (hd : H d = some (.dK kvs)) (hv : Ev te σ H v) (h : Ev td σ H (.ref d)) (hk : Ev ty σ H (.str (tx l))) (hn : kvs.length < 100000) (k : ∀ H1, Ex H H1 → D.nx σ (upd H1 d (.dK (putK kvs (.inr (tx l)) v)))) : sDPut td ty te D σ H :=
  hv H (Ex.refl H) _ fun H1 e1 => h H1 e1 _ fun H2 e2 => hk H2 (e1.trans e2) _ fun H3 e3 => ⟨d, _, rfl, DPut.k (k := Sum.inr (tx l)) (((e1.trans e2).trans e3) d _ hd) (sz_lt hn), k H3 ((e1.trans e2).trans e3)⟩
theorem q_dput (hd : H d = some (.dK kvs)) (hv : Ev te σ H v) (h : Ev td σ H (.ref d)) (hk : Ev ty σ H (.str (tx l))) (hn : kvs.length < 100000) (k : ∀ H1, Ex H H1 → tz D σ (upd H1 d (.dK (putK kvs (.inr (tx l)) v)))) : tSeq (sDPut td ty te) tz D σ H := s_dput (D := { D with nx := tz D }) hd hv h hk hn k
theorem q_dnew {i : Nat} (k : ∀ p, H p = none → tz D (σ.set i (some (.ref p))) (upd H p (.dK []))) : tSeq (tAsg tDNewK (gName i)) tz D σ H := fun p hp => k p hp
/-- a loop over a tuple that an expression gives -/
theorem s_forTX {j : Nat} (h : ∀ Q : VK, (∀ a H1, Ex H H1 → H1 a = some (.tup xs) → Q (.ref a) H1) → te σ H Q) (Pv : Hp → Nat → L2.St → Hp → Prop) (h0 : ∀ H1, Ex H H1 → Pv H1 0 σ H1) (hk : ∀ H1 i σ' H' a us, Pv H1 i σ' H' → H1 a = some (.tup us) → H' a = some (.tup us))
    (hs : ∀ H1 i x σ' H', Ex H H1 → xs[i]? = some x → Pv H1 i σ' H' → tu { D with nx := Pv H1 (i + 1), ct := Pv H1 (i + 1), bk := D.nx } (σ'.set j (some x)) H') (hd : ∀ H1 σ' H', Ex H H1 → Pv H1 xs.length σ' H' → D.nx σ' H') : tFor (iTup K te) (gName j) tu D σ H := by
  refine h _ fun a H1 e1 h1 => ⟨a, rfl, ⟨xs, st_of h1⟩, ?_⟩
  refine ⟨fun i m σ' H' => m = xs.length - i ∧ i ≤ xs.length ∧ Pv H1 i σ' H', ⟨xs.length, rfl, Nat.zero_le _, h0 H1 e1⟩, ?_⟩
  rintro i m σ' H' ⟨rfl, hi, p⟩
  have S : SqT K H' a xs := st_of (hk H1 i σ' H' a xs p h1)
  by_cases hlt : i < xs.length
  · have gx : xs[i]? = some xs[i] := List.getElem?_eq_getElem hlt
    refine .inr ⟨⟨xs, _, S, gx⟩, Pv H1 (i + 1), fun σ2 H2 p2 => ⟨xs.length - (i + 1), by omega, rfl, hlt, p2⟩, fun v H2 y => ?_⟩
    obtain ⟨rfl, f1⟩ := y
    exact hs H1 i v σ' _ e1 (f1 xs S) p
  · have e0 : i = xs.length := by omega
    subst e0
    exact .inl ⟨⟨xs, S, Nat.le_refl _⟩, hd H1 σ' H' e1 p⟩
/-! what a text's dict holds, keys alone -/
def dkS (ks : List (List Nat)) : List (Key × V) := ks.map fun k => (Sum.inr (tx k), V.bl true)
theorem inr_tx {a b : List Nat} : ((Sum.inr (tx a) : Key) = Sum.inr (tx b)) ↔ a = b := ⟨fun h => tx_inj (Sum.inr.inj h), fun h => by rw [h]⟩
theorem dkS_any (ks : List (List Nat)) (w : List Nat) : (dkS ks).any (fun kv => decide (kv.1 = Sum.inr (tx w))) = decide (w ∈ ks) := by
  unfold dkS
  rw [List.any_map, Bool.eq_iff_iff, List.any_eq_true, decide_eq_true_eq]
  constructor
  · rintro ⟨k, hk, h⟩
    have := inr_tx.mp (of_decide_eq_true h)
    rw [← this]
    exact hk
  · exact fun h => ⟨w, h, decide_eq_true rfl⟩
theorem dkS_put (ks : List (List Nat)) (w : List Nat) : putK (dkS ks) (Sum.inr (tx w)) (V.bl true) = dkS (if w ∈ ks then ks else ks ++ [w]) := by
  by_cases h : w ∈ ks
  · have e : (dkS ks).any (fun kv => decide (kv.1 = Sum.inr (tx w))) = true := by rw [dkS_any, decide_eq_true h]
    unfold putK
    rw [if_pos e, if_pos h]
    have : ∀ l : List (List Nat), (dkS l).map (fun kv => if kv.1 = Sum.inr (tx w) then (kv.1, V.bl true) else kv) = dkS l := by
      intro l
      unfold dkS
      rw [List.map_map]
      refine List.map_congr_left fun k _ => ?_
      show (if (Sum.inr (tx k) : Key) = Sum.inr (tx w) then ((Sum.inr (tx k) : Key), V.bl true) else (Sum.inr (tx k), V.bl true)) = _
      rw [ite_self]
    exact this ks
  · have e : (dkS ks).any (fun kv => decide (kv.1 = Sum.inr (tx w))) = false := by rw [dkS_any, decide_eq_false h]
    unfold putK
    rw [e, if_neg (by decide), if_neg h]
    unfold dkS
    rw [List.map_append]
    rfl
end
end My

set_option Elab.async false
set_option linter.all false
set_option maxRecDepth 100000
set_option maxHeartbeats 2000000
/-! distinct texts, sorted texts; sorted(..), tuple(..) of them. -/
namespace My
open PySem PySem.Spec PyProof.Rows L2 Evl
abbrev L := List Nat
/-! distinct texts, in the order of their first places -/
def addF (acc : List L) (x : L) : List L := if x ∈ acc then acc else acc ++ [x]
def dedF (l : List L) : List L := l.foldl addF []
theorem add_mem {acc : List L} {x y : L} : y ∈ addF acc x ↔ y ∈ acc ∨ y = x := by
  unfold addF
  split
  · rename_i h
    constructor
    · exact fun z => .inl z
    · rintro (z | rfl)
      · exact z
      · exact h
  · rw [List.mem_append, List.mem_singleton]
theorem add_nodup {acc : List L} {x : L} (h : acc.Nodup) : (addF acc x).Nodup := by
  unfold addF
  split
  · exact h
  · rename_i hx
    rw [List.nodup_append]
    exact ⟨h, by simp, fun a ha b hb => by
      rw [List.mem_singleton] at hb
      subst hb
      intro e
      subst e
      exact hx ha⟩
theorem add_len {acc : List L} {x : L} : (addF acc x).length ≤ acc.length + 1 := by
  unfold addF
  split
  · exact Nat.le_succ _
  · rw [List.length_append]; exact Nat.le_refl _
theorem fold_mem (l : List L) : ∀ (acc : List L) (y : L), y ∈ l.foldl addF acc ↔ y ∈ acc ∨ y ∈ l := by
  induction l with
  | nil => intro acc y; simp
  | cons x r ih =>
    intro acc y
    rw [List.foldl_cons, ih, add_mem, List.mem_cons, or_assoc]
theorem fold_nodup (l : List L) : ∀ (acc : List L), acc.Nodup → (l.foldl addF acc).Nodup := by
  induction l with
  | nil => exact fun _ h => h
  | cons x r ih => exact fun acc h => ih _ (add_nodup h)
theorem fold_len (l : List L) : ∀ (acc : List L), (l.foldl addF acc).length ≤ acc.length + l.length := by
  induction l with
  | nil => exact fun _ => Nat.le_refl _
  | cons x r ih =>
    intro acc
    have h1 := ih (addF acc x)
    have h2 := @add_len acc x
    rw [List.foldl_cons, List.length_cons]
    omega
theorem ded_mem {l : List L} {y : L} : y ∈ dedF l ↔ y ∈ l := by
  unfold dedF
  rw [fold_mem]
  simp
theorem ded_nodup (l : List L) : (dedF l).Nodup := fold_nodup l [] List.nodup_nil
theorem ded_len (l : List L) : (dedF l).length ≤ l.length := by
  have := fold_len l []
  rw [List.length_nil, Nat.zero_add] at this
  exact this
theorem ded_snoc (l : List L) (x : L) : dedF (l ++ [x]) = addF (dedF l) x := by
  unfold dedF
  rw [List.foldl_append]
  rfl
theorem nodup_sub : ∀ {a b : List L}, a.Nodup → (∀ x ∈ a, x ∈ b) → a.length ≤ b.length
  | [], _, _, _ => Nat.zero_le _
  | x :: a, b, h, g => by
    rw [List.nodup_cons] at h
    have hx := g x (by simp)
    have := nodup_sub (a := a) (b := b.erase x) h.2 fun y hy => (List.mem_erase_of_ne (fun e : y = x => h.1 (by rw [← e]; exact hy))).mpr (g y (by simp [hy]))
    rw [List.length_erase_of_mem hx] at this
    have := List.length_pos_of_mem hx
    rw [List.length_cons]
    omega
/-! sorted texts -/
def leF (a b : L) : Bool := decide (¬ b < a)
def sortF (l : List L) : List L := l.mergeSort leF
theorem le_tot (a b : L) : leF a b = true ∨ leF b a = true := by
  unfold leF
  rw [decide_eq_true_eq, decide_eq_true_eq]
  rcases List.le_total a b with h | h
  · exact .inl h
  · exact .inr h
theorem le_trans' {a b c : L} (h : leF a b = true) (g : leF b c = true) : leF a c = true := by
  unfold leF at *
  rw [decide_eq_true_eq] at *
  exact List.le_trans h g
theorem le_anti {a b : L} (h : leF a b = true) (g : leF b a = true) : a = b := by
  unfold leF at *
  rw [decide_eq_true_eq] at *
  exact List.le_antisymm h g
theorem sort_unique : ∀ {xs ys : List L}, xs.Pairwise (fun a b => leF a b = true) → ys.Pairwise (fun a b => leF a b = true) → xs.Perm ys → xs = ys
  | [], ys, _, _, p => by
    have := p.length_eq
    cases ys with
    | nil => rfl
    | cons y r => exact nomatch this
  | x :: xs, [], _, _, p => nomatch p.length_eq
  | x :: xs, y :: ys, hx, hy, p => by
    rw [List.pairwise_cons] at hx hy
    have e : x = y := by
      have h1 : x ∈ y :: ys := p.mem_iff.mp (by simp)
      have h2 : y ∈ x :: xs := p.mem_iff.mpr (by simp)
      rw [List.mem_cons] at h1 h2
      rcases h1 with h1 | h1
      · exact h1
      · rcases h2 with h2 | h2
        · exact h2.symm
        · exact le_anti (hx.1 y h2) (hy.1 x h1)
    subst e
    rw [sort_unique hx.2 hy.2 (List.perm_cons x |>.mp p)]
theorem sort_perm (l : List L) : (sortF l).Perm l := List.mergeSort_perm l leF
theorem sort_sorted (l : List L) : (sortF l).Pairwise (fun a b => leF a b = true) := List.pairwise_mergeSort (le := leF) (fun a b c h g => le_trans' h g) (fun a b => by
  rw [Bool.or_eq_true]
  exact le_tot a b) l
theorem sort_mem {l : List L} {y : L} : y ∈ sortF l ↔ y ∈ l := (sort_perm l).mem_iff
theorem sort_len (l : List L) : (sortF l).length = l.length := (sort_perm l).length_eq
theorem sort_nodup {l : List L} (h : l.Nodup) : (sortF l).Nodup := (sort_perm l).nodup_iff.mpr h

theorem le_cps {x p : Str} (h : (!ltCps x.cps.toList p.cps.toList) = true) : leF p.cps.toList x.cps.toList = true := by
  rw [ltCps_eq] at h
  unfold leF
  rw [decide_eq_true_eq]
  intro z
  rw [decide_eq_true z] at h
  exact nomatch h
theorem rise_all : ∀ (r : List Str) (p : Str), risingS p r = true → (p :: r).Pairwise fun a b => leF a.cps.toList b.cps.toList = true
  | [], p, _ => by simp
  | x :: r, p, h => by
    rw [risingS, Bool.and_eq_true] at h
    have ih := rise_all r x h.2
    have h1 := le_cps h.1
    refine List.pairwise_cons.mpr ⟨fun y hy => ?_, ih⟩
    rw [List.mem_cons] at hy
    rcases hy with rfl | hy
    · exact h1
    · exact le_trans' h1 ((List.pairwise_cons.mp ih).1 y hy)
theorem sorted_is {ys : List Str} {ks : List L} (hp : ys.Perm (ks.map tx)) (hs : sortedS ys = true) : ys = (sortF ks).map tx := by
  have e : ys = (ys.map fun z => z.cps.toList).map tx := by
    rw [List.map_map]
    exact (List.map_id' ys).symm.trans (List.map_congr_left fun z _ => rfl)
  have h1 : (ys.map fun z => z.cps.toList).Perm ks := by
    have := hp.map fun z : Str => z.cps.toList
    rw [List.map_map] at this
    rw [show ks.map ((fun z : Str => z.cps.toList) ∘ tx) = ks from (List.map_congr_left fun z _ => rfl).trans (List.map_id' ks)] at this
    exact this
  have h2 : (ys.map fun z => z.cps.toList).Pairwise fun a b => leF a b = true := by
    rw [List.pairwise_map]
    cases ys with
    | nil => exact .nil
    | cons p r => exact rise_all r p hs
  rw [e, sort_unique h2 (sort_sorted ks) (h1.trans (sort_perm ks).symm)]
section
variable {K : PySem.W.Frag} {σ : L2.St} {H H' : Hp} {te : TE} {xs : List V} {a p d : Addr} {ks : List L}
theorem el_sortD (h : Ev te σ H (.ref d)) (hd : H d = some (.dK (dkS ks))) (hn : ks.length ≤ 100000) : EvL (tCB rSortDA (tCons te tNil)) σ H ((sortF ks).map fun p => V.str (tx p)) := fun H1 e Q q =>
  h H1 e _ fun H2 e2 => ⟨d, dkS ks, ks.map tx, rfl, .inl ((e.trans e2) d _ hd), by unfold dkS; rw [List.map_map, List.map_map]; rfl, by rw [List.length_map]; exact hn, fun ys p hp hs hn => by
    have := sorted_is hp hs
    subst this
    rw [List.map_map]
    exact q p _ (fresh_back e2 hn) (e2.trans (Ex.new hn)) upd_same⟩
theorem el_sortL (h : EvP te σ H fun v H' => ∃ a, v = .ref a ∧ SqL K H' a (ks.map fun p => V.str (tx p))) (hn : ks.length ≤ 100000) : EvL (tCB (rSortSA K) (tCons te tNil)) σ H ((sortF ks).map fun p => V.str (tx p)) := fun H1 e Q q =>
  h H1 e _ fun v H2 e2 ⟨a, hv, ha⟩ => ⟨a, ks.map tx, by rw [hv], by rw [List.map_map]; exact ha, by rw [List.length_map]; exact hn, fun ys p hp hs hn => by
    have := sorted_is hp hs
    subst this
    rw [List.map_map]
    exact q p _ (fresh_back e2 hn) (e2.trans (Ex.new hn)) upd_same⟩
def rTupS (K : PySem.W.Frag) : List V → Hp → VK → Prop := fun xs H Q => ∃ p ys, xs = [.ref p] ∧ ((SqL K H p ys ∧ ∀ l, H l = none → Q (.ref l) (upd H l (.tup ys))) ∨ (SqT K H p ys ∧ Q (.ref p) H))
theorem eu_tupL (h : EvL te σ H xs) : EvU (tCB (rTupS K) (tCons te tNil)) σ H xs := fun H1 e Q q =>
  h H1 e _ fun p H2 _ e2 hp => ⟨p, xs, rfl, .inl ⟨sq_of hp, fun l hl => q l _ (fresh_back e2 hl) (e2.trans (Ex.new hl)) upd_same⟩⟩
theorem eu_tupV (h : Ev te σ H (.ref a)) (ha : SqL K H a xs) : EvU (tCB (rTupS K) (tCons te tNil)) σ H xs := fun H1 e Q q =>
  h H1 e _ fun H2 e2 => ⟨a, xs, rfl, .inl ⟨ex_l (e.trans e2) ha, fun l hl => q l _ (fresh_back e2 hl) (e2.trans (Ex.new hl)) upd_same⟩⟩
theorem evp_k (h : Ev te σ H (.ref a)) (ha : SqL K H a xs) : EvP te σ H (fun v H' => ∃ a, v = .ref a ∧ SqL K H' a xs) := fun H1 e Q q => h H1 e Q fun H2 e2 => q _ H2 e2 ⟨a, rfl, ex_l (e.trans e2) ha⟩
theorem evp_ln (h : EvL te σ H xs) : EvP te σ H (fun v H' => ∃ a, v = .ref a ∧ SqL K H' a xs) := fun H1 e Q q => h H1 e Q fun p H2 _ e2 hp => q _ H2 e2 ⟨p, rfl, sq_of hp⟩
end
end My

set_option Elab.async false
set_option linter.all false
set_option maxRecDepth 100000
set_option maxHeartbeats 2000000
/-! == and != of two lists, of two tuples, one of them empty. -/
namespace My
open PySem PySem.Spec PyProof.Rows L2 Evl
def rEqE (K : PySem.W.Frag) : R2 := fun x y H Q => ∃ a b xs ys, x = .ref a ∧ y = .ref b ∧ ((SqL K H a xs ∧ SqL K H b ys) ∨ (SqT K H a xs ∧ SqT K H b ys)) ∧ ys = [] ∧ Q (.bl (decide (xs.length = 0))) H
def rNeE (K : PySem.W.Frag) : R2 := fun x y H Q => ∃ a b xs ys, x = .ref a ∧ y = .ref b ∧ (SqL K H a xs ∧ SqL K H b ys) ∧ ys = [] ∧ Q (.bl (!decide (xs.length = 0))) H
section
variable {X : Cx}
theorem op_eqE (hu : X.A.units + 64 < cLine) : OpR X (compareOp .Eq) (rEqE X.K) := by
  intro pins s σ H x y v u Q I rx ry h
  obtain ⟨a, b, xs, ys, rfl, rfl, hs, rfl, q⟩ := h
  cases rx
  cases ry
  have hu1 : X.A.units < cLine := by omega
  rcases hs with ⟨h1, h2⟩ | ⟨h1, h2⟩
  · obtain ⟨its, rv, p1, _⟩ := I.list h1
    obtain ⟨its2, rv2, p2, _⟩ := I.list h2
    cases rv2
    have hl := rv.length
    by_cases h0 : xs.length = 0
    · rw [decide_eq_true h0] at q
      have e : its = [] := List.eq_nil_of_length_eq_zero (by omega)
      subst e
      exact SeqAt.RcAt.lists (A := X.A) (s := s) (e := fun _ => true) p1.isList p2.isList rfl hu1 (fun j h1 _ => absurd h1 (by simp)) X.prog X.w _ _ ⟨.bl true, H, I, rfl, q⟩
    · rw [decide_eq_false h0] at q
      exact SeqAt.RcAt.lists_lengths (A := X.A) (s := s) p1.isList p2.isList (by simp; intro e; rw [e] at hl; exact h0 hl) hu1 X.prog X.w _ _ ⟨.bl false, H, I, rfl, q⟩
  · obtain ⟨its, rv, p1, _⟩ := I.tuple h1
    obtain ⟨its2, rv2, p2, _⟩ := I.tuple h2
    cases rv2
    have hl := rv.length
    have R := SeqAt.RcAt.tuples (A := X.A) (s := s) (e := fun _ => true) (show s.heap.IsTuple a its.toArray from p1) (show s.heap.IsTuple b [].toArray from p2) hu1 (fun j _ h2 => absurd h2 (by simp))
    have e : ((List.range (min its.toArray.size ([] : List Value).toArray.size)).all (fun _ => true) && its.toArray.size == ([] : List Value).toArray.size) = decide (xs.length = 0) := by
      rw [hl]
      cases its <;> simp
    rw [e] at R
    exact R X.prog X.w _ _ ⟨.bl _, H, I, rfl, q⟩
theorem op_neE (hu : X.A.units + 64 < cLine) : OpR X (compareOp .NotEq) (rNeE X.K) := by
  intro pins s σ H x y v u Q I rx ry h
  obtain ⟨a, b, xs, ys, rfl, rfl, ⟨h1, h2⟩, rfl, q⟩ := h
  cases rx
  cases ry
  have hu1 : X.A.units < cLine := by omega
  obtain ⟨its, rv, p1, _⟩ := I.list h1
  obtain ⟨its2, rv2, p2, _⟩ := I.list h2
  cases rv2
  have hl := rv.length
  by_cases h0 : xs.length = 0
  · rw [decide_eq_true h0] at q
    have e : its = [] := List.eq_nil_of_length_eq_zero (by omega)
    subst e
    exact SeqAt.RcNeAt.lists (A := X.A) (s := s) (e := fun _ => true) p1.isList p2.isList rfl hu1 (fun j h1 _ => absurd h1 (by simp)) X.prog X.w _ _ ⟨.bl false, H, I, rfl, q⟩
  · rw [decide_eq_false h0] at q
    exact SeqAt.RcNeAt.lists_lengths (A := X.A) (s := s) p1.isList p2.isList (by simp; intro e; rw [e] at hl; exact h0 hl) hu1 X.prog X.w _ _ ⟨.bl true, H, I, rfl, q⟩
end
section
variable {K : PySem.W.Frag} {σ : L2.St} {H H' : Hp} {te tb : TE} {xs : List V} {a : Addr}
theorem len0 {α : Type} [DecidableEq α] {xs : List α} : decide (xs.length = 0) = decide (xs = []) := decide_eq_decide.mpr List.length_eq_zero_iff
theorem ev_eqE (h : Ev te σ H (.ref a)) (hS : SqL K H a xs) (hb : EvL tb σ H []) : Ev (tOp (rEqE K) te tb) σ H (.bl (decide (xs.length = 0))) := fun H1 e Q q =>
  h H1 e _ fun H2 e2 => hb H2 (e.trans e2) _ fun p H3 _ e3 h3 => ⟨a, p, xs, [], rfl, rfl, .inl ⟨ex_l ((e.trans e2).trans e3) hS, sq_of h3⟩, rfl, q H3 (e2.trans e3)⟩
theorem ev_eqET (h : Ev te σ H (.ref a)) (hS : SqT K H a xs) (hb : EvU tb σ H []) : Ev (tOp (rEqE K) te tb) σ H (.bl (decide (xs.length = 0))) := fun H1 e Q q =>
  h H1 e _ fun H2 e2 => hb H2 (e.trans e2) _ fun p H3 _ e3 h3 => ⟨a, p, xs, [], rfl, rfl, .inr ⟨ex_t ((e.trans e2).trans e3) hS, st_of h3⟩, rfl, q H3 (e2.trans e3)⟩
theorem ev_neE (h : Ev te σ H (.ref a)) (hS : SqL K H a xs) (hb : EvL tb σ H []) : Ev (tOp (rNeE K) te tb) σ H (.bl (!decide (xs.length = 0))) := fun H1 e Q q =>
  h H1 e _ fun H2 e2 => hb H2 (e.trans e2) _ fun p H3 _ e3 h3 => ⟨a, p, xs, [], rfl, rfl, ⟨ex_l ((e.trans e2).trans e3) hS, sq_of h3⟩, rfl, q H3 (e2.trans e3)⟩
end
end My

set_option Elab.async false
set_option linter.all false
set_option maxRecDepth 100000
set_option maxHeartbeats 1000000
/-! what the top has written: methods of an own class. -/
namespace My
open PySem PySem.Spec PyProof.Rows L2 Evl
def HasM (K : PySem.W.Frag) (C : Addr) (x q : Str) (st : Stmt) : Prop := ∃ (f : Addr) (oc : Value) (od : Option Addr) (kV dc pm : Value) (an : Option Addr) (cd ct : Value) (sl : Array (Option Value)),
  PySem.W.findIn K (.ref C) x = some (some (.ref f)) ∧ PySem.W.isFn K (.ref f) = true ∧ K.lookup f = some ⟨oc, od, .func (PySem.W.fnOf x q (defArgs st) (defBody st) (defScope st) .none kV dc pm an cd ct), sl⟩ ∧ PySem.W.codeIn K cd q = true ∧ PySem.W.keepIn K (.ref f) = true
section
variable {K : PySem.W.Frag} {C : Addr} {x q : Str} {st : Stmt}
theorem HasM.mk' {f : Addr} {oc : Value} {od : Option Addr} {kV dc pm : Value} {an : Option Addr} {cd ct : Value} {sl : Array (Option Value)}
    (a : PySem.W.findIn K (.ref C) x = some (some (.ref f))) (i : PySem.W.isFn K (.ref f) = true) (l : K.lookup f = some ⟨oc, od, .func (PySem.W.fnOf x q (defArgs st) (defBody st) (defScope st) .none kV dc pm an cd ct), sl⟩) (c : PySem.W.codeIn K cd q = true) (k : PySem.W.keepIn K (.ref f) = true) : HasM K C x q st :=
  ⟨f, oc, od, kV, dc, pm, an, cd, ct, sl, a, i, l, c, k⟩
theorem HasM.get (H : HasM K C x q st) : ∃ f fd, Fun K x q st f fd ∧ Meth K C x f := by
  obtain ⟨f, oc, od, kV, dc, pm, an, cd, ct, sl, a, i, l, c, k⟩ := H
  exact ⟨f, _, fun_mk l c k, ⟨a, i, k⟩⟩
end
end My

set_option Elab.async false
set_option linter.all false
set_option maxRecDepth 100000
set_option maxHeartbeats 1000000
/-! sorted of tuples of ints and texts, any number of them: a list's, a dict's keys. -/
namespace My
open PySem PySem.Spec PyProof.Rows L2 Evl
abbrev It1 := Int ⊕ List Nat
def itV : It1 → V
  | .inl n => .int n
  | .inr l => .str (tx l)
def shOk (sh : Nat → Bool) : Nat → List It1 → Bool
  | _, [] => true
  | i, .inl _ :: r => (!sh i) && shOk sh (i + 1) r
  | i, .inr _ :: r => sh i && shOk sh (i + 1) r
def lexT (a b : List It1) : Bool := PyProof.Rows.lexLt itemOrd a b
theorem items_of_vals (sh : Nat → Bool) : ∀ (k : List It1) (us : List Value) (i : Nat), Vals (k.map itV) us → shOk sh i k = true → tupItems sh i us = some k
  | [], us, i, r, _ => by
    cases r
    rfl
  | .inl n :: k, us, i, r, h => by
    rw [shOk, Bool.and_eq_true] at h
    rw [List.map_cons] at r
    cases r with
    | cons r1 r2 =>
      obtain ⟨t, rfl⟩ := r1
      rw [tupItems, if_neg (by rw [Bool.not_eq_true'] at h; rw [h.1]; exact Bool.false_ne_true), items_of_vals sh k _ (i + 1) r2 h.2]
      rfl
  | .inr l :: k, us, i, r, h => by
    rw [shOk, Bool.and_eq_true] at h
    rw [List.map_cons] at r
    cases r with
    | cons r1 r2 =>
      obtain ⟨t, rfl⟩ := r1
      rw [tupItems, if_pos h.1, items_of_vals sh k _ (i + 1) r2 h.2]
      rfl
/-- a tuple of the heap, its items as the shape says -/
def TP (h : Heap) (sh : Nat → Bool) (v : Value) (k : List It1) : Prop := ∃ a o xs n, v = Value.ref a ∧ h.get? a = some o ∧ o.cls = .type "tuple" ∧ o.data = .seq xs n ∧ tupItems sh 0 xs.toList = some k ∧ k ≠ []
theorem TP.key {h : Heap} {sh : Nat → Bool} {v : Value} {k : List It1} (t : TP h sh v k) : tupKey h sh v = some k := by
  obtain ⟨a, o, xs, n, rfl, ho, _, hd, hi, _⟩ := t
  simp only [tupKey, ho, hd]
  exact hi
theorem TP.keeps {h h' : Heap} {sh : Nat → Bool} {v : Value} {k : List It1} (t : TP h sh v k) (hk : ∀ b o, h.get? b = some o → o.cls = .type "tuple" → h'.get? b = some o) : TP h' sh v k := by
  obtain ⟨a, o, xs, n, e, ho, hc, r⟩ := t
  exact ⟨a, o, xs, n, e, hk _ _ ho hc, hc, r⟩
theorem TP.first {h : Heap} {sh : Nat → Bool} {v : Value} {k : List It1} (t : TP h sh v k) : ∃ f, TupOf h sh v f := by
  obtain ⟨a, o, xs, n, e, ho, hc, hd, hi, hne⟩ := t
  cases hx : xs.toList with
  | nil =>
    rw [hx] at hi
    have : k = [] := (Option.some.inj hi).symm
    exact absurd this hne
  | cons f r =>
    rw [hx] at hi
    refine ⟨f, a, o, xs, n, e, ho, hc, hd, by rw [← Array.getElem?_toList, hx]; rfl, fun h0 => ?_, fun h0 => ?_⟩
    · obtain ⟨m, t, l', rfl, _⟩ := tupItems_int h0 hi
      exact ⟨m, t, rfl⟩
    · obtain ⟨m, t, l', rfl, _⟩ := tupItems_str h0 hi
      exact ⟨m, t, rfl⟩
theorem firsts_all {h : Heap} {sh : Nat → Bool} : ∀ {vs : List Value}, (∀ v ∈ vs, ∃ k, TP h sh v k) → ∃ fs, TupsOf h sh vs fs ∧ fs.length = vs.length
  | [], _ => ⟨[], .nil, rfl⟩
  | v :: vs, hv => by
    obtain ⟨k, t⟩ := hv v (by simp)
    obtain ⟨f, tf⟩ := t.first
    obtain ⟨fs, h1, h2⟩ := firsts_all (vs := vs) fun u hu => hv u (by simp [hu])
    exact ⟨f :: fs, .cons tf h1, by rw [List.length_cons, List.length_cons, h2]⟩
def ltK (h : Heap) (sh : Nat → Bool) (v u : Value) : Bool := lexT ((tupKey h sh v).getD []) ((tupKey h sh u).getD [])
theorem swo_K (h : Heap) (sh : Nat → Bool) : SrtO.Swo (ltK h sh) := by
  refine ⟨fun x y e => ?_, fun x y z h1 h2 => ?_⟩
  · cases g : ltK h sh y x with
    | false => rfl
    | true =>
      have := lex_trans (O := itemOrd) _ _ _ e g
      rw [lex_irrefl] at this
      exact nomatch this
  · cases g : ltK h sh z x with
    | false => rfl
    | true =>
      rcases lex_negTrans (O := itemOrd) ((tupKey h sh z).getD []) ((tupKey h sh y).getD []) ((tupKey h sh x).getD []) g with q | q
      · exact absurd (h2.symm.trans q) Bool.false_ne_true
      · exact absurd (h1.symm.trans q) Bool.false_ne_true
section
variable {prog : Program} {w : World} {A : Around} {E : Value → Shared → Prop} {s : Shared}
theorem sortable_K {h0 : Heap} {sh : Nat → Bool} {a : Addr} {vs : List Value} (h2 : 0 < vs.length) (hv0 : ∀ v ∈ vs, ∃ k, TP h0 sh v k) (hk0 : ∀ b o, h0.get? b = some o → o.cls = .type "tuple" → s.heap.get? b = some o) (ha : ∀ o, s.heap.get? a = some o → o.cls ≠ .type "tuple") :
    SrtO.SortableO prog w A s a vs (ltK h0 sh) := by
  intro h' keep
  have hv : ∀ v ∈ vs, ∀ k, TP h0 sh v k → TP h' sh v k := fun v hm k t => (t.keeps hk0).keeps fun b o e c => keep b o (fun z => by subst z; exact ha o e c) e
  obtain ⟨fs, f1, f2⟩ := firsts_all (h := h') (sh := sh) (vs := vs) fun v hm => (hv0 v hm).elim fun k t => ⟨k, hv v hm k t⟩
  refine ⟨tuples' true, fun Q E hq => tup_kind (s := { s with heap := h' }) (by omega) f1 hq, ?_⟩
  intro p q hm hm'
  obtain ⟨k1, t1⟩ := hv0 _ hm
  obtain ⟨k2, t2⟩ := hv0 _ hm'
  refine tup_ltAt (s := { s with heap := h' }) (shape := sh) true A (fun _ _ => False) p.1 q.1 k1 k2 (hv _ hm _ t1).key (hv _ hm' _ t2).key ⟨rfl, ?_⟩
  show PyProof.Rows.lexLt itemOrd k1 k2 = ltK h0 sh p.1 q.1
  unfold ltK
  rw [t1.key, t2.key]
  rfl
end
theorem perm_pre {α β : Type} {f : α → β} : ∀ {l : List β} {ts : List α}, l.Perm (ts.map f) → ∃ ts' : List α, ts'.Perm ts ∧ l = ts'.map f
  | [], ts, h => by
    have := h.length_eq
    rw [List.length_map, List.length_nil] at this
    rw [List.length_eq_zero_iff.mp this.symm]
    exact ⟨[], .refl _, rfl⟩
  | b :: l, ts, h => by
    have hb : b ∈ ts.map f := h.mem_iff.mp (by simp)
    obtain ⟨t, ht, rfl⟩ := List.mem_map.mp hb
    obtain ⟨p, q, rfl⟩ := List.append_of_mem ht
    have h1 : (f t :: l).Perm (f t :: (p ++ q).map f) := h.trans (by
      rw [List.map_append, List.map_append, List.map_cons]
      exact List.perm_middle)
    obtain ⟨ts', g1, g2⟩ := perm_pre (List.Perm.cons_inv h1)
    exact ⟨t :: ts', (g1.cons t).trans List.perm_middle.symm, by rw [g2]; rfl⟩
abbrev TK := Addr × List It1
def rSortTA (K : PySem.W.Frag) : List V → Hp → VK → Prop := fun vs H Q => ∃ (a : Addr) (ts : List TK) (sh : Nat → Bool), vs = [.ref a] ∧ SqL K H a (ts.map fun t => V.ref t.1) ∧ (∀ t ∈ ts, SqT K H t.1 (t.2.map itV) ∧ shOk sh 0 t.2 = true ∧ t.2 ≠ []) ∧ ts.length ≤ 100000 ∧
  ∀ (ts' : List TK) p, ts'.Perm ts → ts'.Pairwise (fun x y => lexT y.2 x.2 = false) → H p = none → Q (.ref p) (upd H p (.lst (ts'.map fun t => V.ref t.1)))
def kI : Key → It1
  | .inl i => .inl i
  | .inr x => .inr x.cps.toList
theorem kI_V (k : Key) : itV (kI k) = kV k := by cases k <;> rfl
/-- sorted(d), d's keys tuples -/
def rSortTD : List V → Hp → VK → Prop := fun vs H Q => ∃ (a : Addr) (kvs : List (List Key × V)) (sh : Nat → Bool), vs = [.ref a] ∧ Rd H a (.dT kvs) ∧ (∀ t ∈ kvs, shOk sh 0 (t.1.map kI) = true ∧ t.1 ≠ []) ∧ kvs.length ≤ 100000 ∧
  ∀ (ts' : List TK) p, (ts'.map (·.2)).Perm (kvs.map fun t => t.1.map kI) → ts'.Pairwise (fun x y => lexT y.2 x.2 = false) → (∀ t ∈ ts', H t.1 = some (.tup (t.2.map itV))) → H p = none → Q (.ref p) (upd H p (.lst (ts'.map fun t => V.ref t.1)))
section
variable {X : Cx}
theorem vals_refT : ∀ {ts : List TK} {us : List Value}, Vals (ts.map fun t => V.ref t.1) us → us = ts.map fun t => Value.ref t.1
  | [], _, .nil => rfl
  | p :: ks, _, .cons r t => by
    cases r
    rw [vals_refT t] <;> rfl
theorem vals_refT' : ∀ ts : List TK, Vals (ts.map fun t => V.ref t.1) (ts.map fun t => Value.ref t.1)
  | [] => .nil
  | _ :: r => .cons rfl (vals_refT' r)
theorem tp_of {pins : List (Addr × Obj)} {σ : L2.St} {H : Hp} {s : Shared} {sh : Nat → Bool} {t : TK} (I : Inv X pins σ H s) (h : SqT X.K H t.1 (t.2.map itV)) (h1 : shOk sh 0 t.2 = true) (h2 : t.2 ≠ []) : TP s.heap sh (.ref t.1) t.2 := by
  obtain ⟨its, r, ⟨o, ho, hc, n, hd⟩, _⟩ := I.tuple h
  exact ⟨_, o, its.toArray, n, rfl, ho, hc, hd, items_of_vals sh _ _ 0 r h1, h2⟩
theorem cr_sortedTA : CallR X (.builtin "sorted") (rSortTA X.K) := by
  intro pins s σ H vs us Q I r h
  obtain ⟨a, ts, sh, rfl, hs, ht, hn, q⟩ := h
  rw [Vals.ref1 r]
  obtain ⟨its, rv, hl, hz⟩ := I.list hs
  have ei := vals_refT rv
  have tp : ∀ t ∈ ts, TP s.heap sh (.ref t.1) t.2 := fun t hm => tp_of I (ht t hm).1 (ht t hm).2.1 (ht t hm).2.2
  have hall : ∀ v ∈ its, ∃ k, TP s.heap sh v k := fun v hv => by
    rw [ei] at hv
    obtain ⟨t, hm, rfl⟩ := List.mem_map.mp hv
    exact ⟨_, tp t hm⟩
  refine SrtO.sorted_ord (swo_K s.heap sh) hl.isList (by rw [ei, List.length_map]; exact sz_of hn) (fun h2 h₁ b hb kk => ?_) fun out hs' hb => ?_
  · refine sortable_K (s := { s with heap := h₁ }) (by omega) hall (fun c o e _ => (kk c o e).2) fun o e => ?_
    have e' : some o = some (seqObj "list" its.toArray 0) := e.symm.trans hb
    cases e'
    intro c
    exact absurd (Value.type.inj c) (by decide)
  · obtain ⟨ts', p1, p2⟩ := perm_pre (show out.Perm (ts.map fun t : TK => Value.ref t.1) by rw [← ei]; exact hb.perm)
    obtain ⟨ep, hat⟩ := sortedAll_at s.heap its out.toArray
    refine ⟨.ref _, upd H (s.heap.objs.size + 1) (.lst (ts'.map fun t => V.ref t.1)), I.laid (t' := s.toks) (fun _ _ => sortedAll_old) (Nat.le_succ _) ⟨?_, out, ep, ?_, hat⟩, rfl, q ts' _ p1 ?_ (I.hok.fresh (Nat.le_succ _))⟩
    · rw [List.length_map, p1.length_eq]
      exact sz_of hn
    · rw [p2]
      exact vals_refT' ts'
    · have hp : (ts'.map fun t : TK => Value.ref t.1).Pairwise (fun x y => ltK s.heap sh y x = false) := by rw [← p2]; exact hs'
      rw [List.pairwise_map] at hp
      refine hp.imp_of_mem fun {x y} hx hy e => ?_
      have tx' := tp x (p1.mem_iff.mp hx)
      have ty' := tp y (p1.mem_iff.mp hy)
      unfold ltK at e
      rw [tx'.key, ty'.key] at e
      exact e
theorem cr_sortedTD (hcalm : X.calm = true) : CallR X (.builtin "sorted") rSortTD := by
  intro pins s σ H vs us Q I r h
  obtain ⟨d, kvs, sh, rfl, hd, ht, hn, q⟩ := h
  rw [Vals.ref1 r]
  obtain ⟨z, hs, ks, pr, o, es, ep, ho, hx, hdt, he, hnd⟩ := (show ObjOk X.prog X.w H s.heap d (.dT kvs) from hd.ok I.hok)
  have l1 : es.size = ks.length := size_of_entries he
  have l2 : kvs.length = ks.length := Paired.length pr
  refine Calls.call_function_entry kind_sorted plain_sorted entry_sorted (args_sorted1 _) ?_
  unfold Builtin.«sorted»
  refine wpAny_bind (m := checkCount "sorted" 1 1 _) (wpAny_pure ?_)
  refine wpAny_bind (PySem.W.kdu_collect (A := X.A.in1) (kdl_raw hs hx hdt) (I.ok.hd hcalm) ho (by omega) fun h' tk acc' kp it => ?_)
  have ea : acc'.toList = ks.map fun x => Value.ref x.2.1 := by
    have hl : acc'.toList.length = ks.length := by rw [Array.length_toList, it.1]; exact l1
    apply List.ext_getElem?
    intro j
    rw [List.getElem?_map]
    cases hj : acc'.toList[j]? with
    | none =>
      have h1 := List.getElem?_eq_none_iff.mp hj
      rw [List.getElem?_eq_none (by omega)]
      all_goals rfl
    | some v =>
      obtain ⟨en, hen, hv⟩ := it.2 j v (by rw [← Array.getElem?_toList]; exact hj)
      have qe := entry_at he j
      rw [hen] at qe
      cases hb : ks[j]? with
      | none =>
        rw [hb] at qe
        exact nomatch (show some en = none from qe)
      | some b =>
        rw [hb] at qe
        have e2 : en = entryOfKey (tupleKind (mixKind X.prog X.w)) b := Option.some.inj qe
        rw [hv, e2]
        all_goals rfl
  have I1 : Inv X pins σ H { s with heap := h', toks := tk } := I.kept kp
  -- the pairs (key's place, key)
  have tk0 : ∀ {l : List (List Key × V)} {m : List (List Key × Addr × Value)}, Paired (fun (p : List Key × V) (q : List Key × Addr × Value) => p.1 = q.1 ∧ H q.2.1 = some (.tup (p.1.map kV)) ∧ RelV p.2 q.2.2) l m → (∀ t ∈ l, shOk sh 0 (t.1.map kI) = true ∧ t.1 ≠ []) →
      ∃ ts : List TK, (m.map fun x => Value.ref x.2.1) = ts.map (fun t => Value.ref t.1) ∧ ts.map (·.2) = l.map (fun t => t.1.map kI) ∧ ∀ t ∈ ts, H t.1 = some (.tup (t.2.map itV)) ∧ shOk sh 0 t.2 = true ∧ t.2 ≠ [] := by
    intro l m q
    induction q with
    | nil => intro _; exact ⟨[], rfl, rfl, fun t h => absurd h (by simp)⟩
    | @cons p q ps qs hq t ih =>
      intro hl
      obtain ⟨ts, a1, a2, a3⟩ := ih fun t ht => hl t (by simp [ht])
      have hp := hl p (by simp)
      refine ⟨(q.2.1, p.1.map kI) :: ts, by rw [List.map_cons, List.map_cons, a1], by rw [List.map_cons, List.map_cons, a2], fun t ht => ?_⟩
      rcases List.mem_cons.mp ht with rfl | ht
      · refine ⟨?_, hp.1, fun e => hp.2 (List.map_eq_nil_iff.mp e)⟩
        show H q.2.1 = _
        rw [hq.2.1, List.map_map]
        congr 2
        exact List.map_congr_left fun k _ => (kI_V k).symm
      · exact a3 t ht
  obtain ⟨ts, e1, e2, e3⟩ := tk0 pr ht
  have ei : acc'.toList = ts.map fun t => Value.ref t.1 := by rw [ea, e1]
  have hlen : acc'.toList.length ≤ sizeLine := by rw [ea, List.length_map]; omega
  refine wpAny_bind (wpAny_newList ?_ hlen)
  have hoL : (h'.push (seqObj "list" acc'.toList.toArray 0)).get? h'.objs.size = some (seqObj "list" acc'.toList.toArray 0) := Heap.get?_push_size _ rfl
  have tp : ∀ t ∈ ts, TP h' sh (.ref t.1) t.2 := fun t hm => tp_of (X := X) (s := { s with heap := h', toks := tk }) I1 (st_of (e3 t hm).1) (e3 t hm).2.1 (e3 t hm).2.2
  have hall : ∀ v ∈ acc'.toList, ∃ k, TP h' sh v k := fun v hv => by
    rw [ei] at hv
    obtain ⟨t, hm, rfl⟩ := List.mem_map.mp hv
    exact ⟨_, tp t hm⟩
  show wpAny _ _ _ _ _ { s with heap := h'.push (seqObj "list" acc'.toList.toArray 0), toks := tk }
  refine wpAny_bind (wpAny_holding (wpAny_call_entry slot_list_sort ⟨_, hoL, rfl⟩ entry_list_sort
    (SrtO.list_sort_ord (s := { s with heap := h'.push (seqObj "list" acc'.toList.toArray 0), toks := tk }) (swo_K h' sh) hoL hlen (fun h2 => ?_) fun out hs' hb => ⟨_, rfl, ?_⟩)
    (args_list_sort _)))
  · refine sortable_K (by omega) hall (fun c o e _ => Heap.get?_push_of_some _ e) fun o e => ?_
    have e' : some o = some (seqObj "list" acc'.toList.toArray 0) := e.symm.trans hoL
    cases e'
    intro c
    exact absurd (Value.type.inj c) (by decide)
  · obtain ⟨ts', p1, p2⟩ := perm_pre (show out.Perm (ts.map fun t : TK => Value.ref t.1) by rw [← ei]; exact hb.perm)
    obtain ⟨e', he'⟩ := sortedHeap_at (vs := acc'.toList) (out := out.toArray) hoL
    refine wpAny_pure ⟨_, rfl, .ref h'.objs.size, upd H h'.objs.size (.lst (ts'.map fun t => V.ref t.1)), I1.laid (t' := tk) (fun b u e => ?_) (Nat.le_refl _)
      (show ObjOk X.prog X.w _ _ _ (.lst (ts'.map fun t => V.ref t.1)) from ⟨?_, out, e', ?_, he'⟩), rfl, q ts' _ ?_ ?_ (fun t hm => (e3 t (p1.mem_iff.mp hm)).1) (I1.hok.fresh (Nat.le_refl _))⟩
    · have hb : b < h'.objs.size := Heap.lt_size e
      rw [sortedHeap_old (Nat.ne_of_lt hb) (by rw [size_push']; exact Nat.lt_succ_of_lt hb)]
      exact Heap.get?_push_of_some _ e
    · rw [List.length_map, p1.length_eq]
      have := congrArg List.length ei
      rw [List.length_map] at this
      omega
    · rw [p2]
      exact vals_refT' ts'
    · rw [← e2]
      exact p1.map _
    · have hp : (ts'.map fun t : TK => Value.ref t.1).Pairwise (fun x y => ltK h' sh y x = false) := by rw [← p2]; exact hs'
      rw [List.pairwise_map] at hp
      refine hp.imp_of_mem fun {x y} hx hy e => ?_
      have tx' := tp x (p1.mem_iff.mp hx)
      have ty' := tp y (p1.mem_iff.mp hy)
      unfold ltK at e
      rw [tx'.key, ty'.key] at e
      exact e
end
/-! the one order of the contents -/
def sortK (l : List (List It1)) : List (List It1) := l.mergeSort fun a b => !lexT b a
theorem sortK_unique {xs ys : List (List It1)} (h1 : xs.Perm ys) (h2 : xs.Pairwise fun a b => lexT b a = false) : xs = sortK ys := by
  have hp : (sortK ys).Perm ys := List.mergeSort_perm ys _
  have hs : (sortK ys).Pairwise fun a b => lexT b a = false := by
    have := List.pairwise_mergeSort (le := fun a b => !lexT b a) (fun a b c h g => by
      rw [Bool.not_eq_true'] at h g ⊢
      cases e : lexT c a with
      | false => rfl
      | true =>
        rcases lex_negTrans (O := itemOrd) c b a e with q | q
        · exact absurd (g.symm.trans q) Bool.false_ne_true
        · exact absurd (h.symm.trans q) Bool.false_ne_true) (fun a b => by
      cases e : lexT b a with
      | false => rfl
      | true =>
        cases f : lexT a b with
        | false => rfl
        | true =>
          have := lex_trans (O := itemOrd) _ _ _ e f
          rw [lex_irrefl] at this
          exact nomatch this) ys
    exact this.imp fun h => by rwa [Bool.not_eq_true'] at h
  have uniq : ∀ {xs ys : List (List It1)}, xs.Pairwise (fun a b => lexT b a = false) → ys.Pairwise (fun a b => lexT b a = false) → xs.Perm ys → xs = ys := by
    intro xs
    induction xs with
    | nil => intro ys _ _ h; exact h.nil_eq
    | cons x xs ih =>
      intro ys ha hb h
      cases ys with
      | nil => exact absurd h.length_eq (by simp)
      | cons y ys =>
        rw [List.pairwise_cons] at ha hb
        have e : x = y := by
          have hx : x ∈ y :: ys := h.mem_iff.mp (by simp)
          have hy : y ∈ x :: xs := h.mem_iff.mpr (by simp)
          rcases List.mem_cons.mp hx with e | hx
          · exact e
          · rcases List.mem_cons.mp hy with e | hy
            · exact e.symm
            · exact lex_total (O := itemOrd) x y (hb.1 x hx) (ha.1 y hy)
        subst e
        rw [ih ha.2 hb.2 (List.Perm.cons_inv h)]
  exact uniq h2 hs (h1.trans hp.symm)
end My

set_option Elab.async false
set_option linter.all false
set_option maxRecDepth 100000
set_option maxHeartbeats 1000000
/-! t[::-1] of a tuple; d[k] = v by a comprehension with tuple keys. -/
namespace My
open PySem PySem.Spec PyProof.Rows L2 Evl
section
variable {prog : Program} {w : World} {A : Around} {E : Value → Shared → Prop} {s : Shared}
theorem fm_congr {α β : Type} {f g : α → Option β} : ∀ (l : List α), (∀ x ∈ l, f x = g x) → l.filterMap f = l.filterMap g
  | [], _ => rfl
  | a :: l, h => by
    rw [List.filterMap_cons, List.filterMap_cons, h a (by simp), fm_congr l fun x hx => h x (by simp [hx])]
theorem pick_back (xs : Array Value) : ((List.range xs.size).filterMap fun (m : Nat) => xs[(((xs.size : Int) - 1) + (m : Int) * (-1)).toNat]?).toArray = xs.toList.reverse.toArray := by
  have e : (List.range xs.size).filterMap (fun (m : Nat) => xs[(((xs.size : Int) - 1) + (m : Int) * (-1)).toNat]?) = xs.toList.reverse := by
    have e1 : (List.range xs.size).filterMap (fun (m : Nat) => xs[(((xs.size : Int) - 1) + (m : Int) * (-1)).toNat]?) = (List.range xs.size).filterMap (fun (m : Nat) => xs.toList.reverse[m]?) := by
      refine fm_congr _ fun m hm => ?_
      have := List.mem_range.mp hm
      rw [List.getElem?_reverse (by rw [Array.length_toList]; exact this), Array.length_toList, Array.getElem?_toList]
      congr 1
      omega
    rw [e1]
    have h : ∀ (l : List Value) (n : Nat), n = l.length → (List.range n).filterMap (fun (m : Nat) => l[m]?) = l := by
      intro l n hn
      subst hn
      induction l with
      | nil => rfl
      | cons a r ih =>
        rw [List.length_cons, List.range_succ_eq_map, List.filterMap_cons]
        show a :: _ = _
        rw [List.filterMap_map]
        exact congrArg (a :: ·) ih
    exact h _ _ (by rw [List.length_reverse, Array.length_toList])
  rw [e]
theorem getItem_tuple_back {t sl : Addr} {items : Array Value} {vl vu vs : Value} {Q : Value → Shared → Prop} (ht : IsTup s.heap t items) (hs : s.heap.IsSliceOf sl vl vu vs) (pl : IsPart vl none) (pu : IsPart vu none) (ps : IsPart vs (some (-1)))
    (h : Q (.ref s.heap.objs.size) { s with heap := s.heap.push { cls := .type "tuple", data := .seq items.toList.reverse.toArray } })
    (hsz : items.size ≤ sizeLine) : wpAny (model prog w) A (getItem (.ref t) (.ref sl)) Q E s := by
  have htake : sizeOk (.seq items.toList.reverse.toArray) := by
    show items.toList.reverse.toArray.size ≤ sizeLine
    rw [List.size_toArray, List.length_reverse, Array.length_toList]
    exact hsz
  obtain ⟨os, hos, hcs, hds⟩ := id hs
  have hTs : s.TypeIs (.ref sl) "slice" := ⟨os, hos, hcs⟩
  unfold getItem
  try with_reducible refine wpAny_holding ?_
  first | refine wpAny_bind (wpAny_pure ?_) | skip
  refine wpAny_bind (wpAny_sequenceKey ht.typeIs (by decide) ?_)
  refine wpAny_bind (wpAny_callSpecial?_slot (name := Str.ofString "__getitem__") ht.typeIs PyProof.Rows.slot_tuple_getitem
    (wpAny_call_entry PyProof.Rows.slot_tuple_getitem ht.typeIs entry_tuple_getitem ?_ (args_tuple_getitem _ _)))
  show wpAny _ _ (Builtin.Tuple.tupleItemsOf (.ref t) >>= _) _ _ s
  refine wpAny_bind (tupleItemsOf_ ht ?_)
  refine wpAny_bind (wpAny_typeOf hTs ?_)
  rw [if_pos (by decide)]
  have hap : ∀ {Q : Int × Int × Nat → Shared → Prop} {A : Around} {E : Value → Shared → Prop}, Q ((items.size : Int) - 1, -1, items.size) s → wpAny (model prog w) A (Builtin.Slice.sliceApplied (.ref sl) (pure (items.size : Int))) Q E s := by
    intro Q A E q
    unfold Builtin.Slice.sliceApplied Builtin.Slice.sliceFields
    refine wpAny_bind (wpAny_bind (wpAny_field hos hds (x := vl) rfl (wpAny_bind (wpAny_field hos hds (x := vu) rfl (wpAny_bind (wpAny_field hos hds (x := vs) rfl (wpAny_pure ?_)))))))
    refine wpAny_bind (HT.slicePart_ ps ?_)
    show wpAny _ _ (if ((-1 : Int) == 0) = true then _ else _) _ _ s
    rw [if_neg (by decide)]
    refine wpAny_bind (HT.slicePart_ pl (wpAny_bind (HT.slicePart_ pu (wpAny_bind (wpAny_pure ?_)))))
    show wpAny _ _ (match Builtin.Slice.sliceAdjust none none (-1) (items.size : Int) with | (lo, hi) => pure (lo, (-1 : Int), Builtin.Slice.slicePlaces lo hi (-1))) _ _ s
    have e : Builtin.Slice.sliceAdjust none none (-1) (items.size : Int) = ((items.size : Int) - 1, -1) := by
      unfold Builtin.Slice.sliceAdjust
      simp
    rw [e]
    show wpAny _ _ (pure ((items.size : Int) - 1, (-1 : Int), Builtin.Slice.slicePlaces ((items.size : Int) - 1) (-1) (-1))) _ _ s
    have e2 : Builtin.Slice.slicePlaces ((items.size : Int) - 1) (-1) (-1) = items.size := by
      unfold Builtin.Slice.slicePlaces
      have h1 : ¬ ((-1 : Int) > 0) := by omega
      have h2 : (- -1 : Int) = 1 := by decide
      simp only [h1, if_false, h2, Int.ediv_one]
      split <;> omega
    rw [e2]
    exact wpAny_pure q
  refine wpAny_bind (hap ?_)
  show wpAny _ _ (if (((items.size : Int) - 1) == 0 && (-1 : Int) == 1 && items.size == items.size) = true then _ else _) _ _ s
  rw [if_neg (by rw [show ((-1 : Int) == 1) = false by decide, Bool.and_false, Bool.false_and]; exact Bool.false_ne_true), pick_back]
  first
    | exact wpAny_bind (m := Builtin.Tuple.tupleExact _) (wpAny_newObj_type (wpAny_pure ⟨_, rfl, wpAny_pure h⟩) htake)
    | exact wpAny_bind (m := Builtin.Tuple.tupleExact _) (wpAny_newObj_type (wpAny_bind (wpAny_pure (wpAny_pure ⟨_, rfl, wpAny_pure h⟩))) htake)
    | exact wpAny_bind (wpAny_bind (m := Builtin.Tuple.tupleExact _) (wpAny_newObj_type (wpAny_pure (wpAny_pure ⟨_, rfl, wpAny_pure h⟩)) htake))
    | exact wpAny_bind (wpAny_bind (m := Builtin.Tuple.tupleExact _) (wpAny_newObj_type (wpAny_pure ⟨_, rfl, wpAny_pure h⟩) htake))
end
section
variable {X : Cx}
def tRevT (K : PySem.W.Frag) (te : TE) : TE := fun σ H Q => te σ H fun x H1 => ∃ a xs, x = .ref a ∧ SqT K H1 a xs ∧ ∀ p, H1 p = none → Q (.ref p) (upd H1 p (.tup xs.reverse))
theorem pe_revT {e : Expr} {te : TE} {k : Nat} {p1 p2 p3 pos : Pos} (he : PE X e te) : PE X (.Subscript e (.Slice none none (some (.UnaryOp .USub (.Constant (.int 1) k p1) p2)) p3) pos) (tRevT X.K te) := by
  refine ⟨fun pins s σ H Q I h => ?_⟩
  refine Subscript_ (thn (he.run pins s σ H _ I h) fun v s1 ⟨x, H1, I1, r1, q1⟩ => ?_)
  obtain ⟨a, xs, ex, hx, q⟩ := q1
  subst ex
  cases r1
  have hst : PO X (some (.UnaryOp .USub (.Constant (.int 1) k p1) p2)) (tPart (tUn (rU fun i => .int (-i)) (tC (.int 1)))) := po_some (pe_un un_neg pe_int)
  refine wpAny_Slice (thn (po_none.run pins s1 σ H1 (fun o H2 => o = none ∧ H2 = H1) I1 ⟨rfl, rfl⟩) fun vl s2 ⟨l, H2, I2, pl, el, e2⟩ => ?_)
  subst el e2
  refine thn (po_none.run pins s2 σ H2 (fun o H3 => o = none ∧ H3 = H2) I2 ⟨rfl, rfl⟩) fun vu s3 ⟨u, H3, I3, pu, eu, e3⟩ => ?_
  subst eu e3
  refine thn (hst.run pins s3 σ H3 (fun o H4 => o = some (-1) ∧ H4 = H3) I3 ⟨1, rfl, -1, rfl, rfl, rfl⟩) fun vs s4 ⟨o, H4, I4, ps, eo, e4⟩ => ?_
  subst eo e4
  have I5 : Inv X pins σ H4 { s4 with heap := s4.heap.push { cls := .type "slice", data := .fields #[vl, vu, vs] } } := I4.kept (t' := s4.toks) fun b ob q => Heap.get?_push_of_some _ q
  obtain ⟨its, r, ht, hz⟩ := I5.tuple hx
  have hlen := r.length
  show wpAny (model X.prog X.w) X.A (subscriptTail e (.Slice none none (some (.UnaryOp .USub (.Constant (.int 1) k p1) p2)) p3) (.ref a) (.ref s4.heap.objs.size)) (EP X pins σ Q) X.xe { s4 with heap := s4.heap.push { cls := .type "slice", data := .fields #[vl, vu, vs] } }
  refine tail_any (ops := [.ref a, .ref s4.heap.objs.size]) ht.typeIs (PyProof.Rows.slot_tuple_getitem.lookup) ?_ (by with_unfolding_all rfl)
  refine getItem_tuple_back ht (Heap.IsSliceOf.new _ vl vu vs) pl pu ps ?_ (by rw [List.size_toArray]; omega)
  refine ⟨.ref _, _, I5.laid (t' := s4.toks) (o := .tup xs.reverse) (fun b ob q => Heap.get?_push_of_some _ q) (Nat.le_refl _) ?_, rfl, q _ (I5.hok.fresh (Nat.le_refl _))⟩
  exact ⟨by rw [List.length_reverse]; exact hz, _, r.reverse, IsTup.new _ _⟩
end
end My

set_option Elab.async false
set_option linter.all false
set_option maxRecDepth 100000
set_option maxHeartbeats 1000000
/-! dict comprehensions whose keys are tuples (the statement and its proof go as HandS.DictComp's). -/
namespace My
open PySem PySem.Spec PyProof.Rows L2 Evl
theorem d_dictSetT {X : Cx} {pins : List (Addr × Obj)} {σ : L2.St} {H : Hp} {s : Shared} {E : Value → Shared → Prop} {D b : Addr} {kvs : List (List Key × V)} {k : List Key} {v : V} {u r : Value} {Q : Unit → Shared → Prop} (hu : X.A.units + 1 < cLine) (I : Inv X pins σ H s) (hD : H D = some (.dT kvs))
    (hb : H b = some (.tup (k.map kV))) (hz : kvs.length < sizeLine) (ry : RelV (.ref b) u) (rv : RelV v r) (h : ∀ s', Inv X pins σ (upd H D (.dT (putK kvs k v))) s' → Q () s') : wpAny (model X.prog X.w) X.A (dictSet D u r) Q E s := by
  cases (show u = Value.ref b from ry)
  obtain ⟨z, hd, xs, rel, dd⟩ := dt_of I.hok hD
  have hz : xs.length ≤ sizeLine := by rw [← Paired.length rel]; exact z
  have hl : (putK kvs k v).length ≤ sizeLine := by have := length_putK kvs k v; omega
  refine wpAny_dictSet_heap (hsz := hz) (show X.A.units < cLine by omega) (key_of I.hok hb) dd fun h' dd' hs => h _ ?_
  obtain ⟨q, es, ep, hq, h2, h3, h4, _, h5⟩ := dd'
  refine d_write I (by rw [hD]; exact True.intro) hs ⟨q, hq⟩ ⟨hl, hd, _, (rel.put k hb rv).keeps fun c ys ec => ?_, q, es, ep, hq, h2, h3, h4, h5⟩
  rw [upd_ne (ne_of ec hD (fun z => nomatch z))]
  exact ec
section
variable {X : Cx}
def tDcT (wi : TI) (g : TG) (tt : TT) (tk tv : TE) (vs : List Nat) : TE := fun σ H Q => wi σ H fun J H1 => ∀ D, H1 D = none → ∃ W : Nat → Nat → Hp → Prop, (∃ m, W 0 m (upd H1 D (.dT []))) ∧ ∀ i m H, W i m H →
  (J.stop i H ∧ Q (.ref D) H) ∨ (J.go i H ∧ ∃ Nx : Hp → Prop, (∀ H', Nx H' → ∃ m', m' < m ∧ W (i + 1) m' H') ∧ ∀ x H', J.yld i H x H' → g x (wipe σ vs) H' fun σ2 H2 => wipe σ2 vs = wipe σ vs ∧ tt σ2 H2 fun b H3 =>
    if b = true then tk σ2 H3 fun y H4 => tv σ2 H4 fun z H5 => ∃ kvs k kb, y = .ref kb ∧ H5 kb = some (.tup (k.map kV)) ∧ H5 D = some (.dT kvs) ∧ kvs.length < sizeLine ∧ Nx (upd H5 D (.dT (putK kvs k z))) else Nx H3)
theorem dct_core {pins : List (Addr × Obj)} {s : Shared} {σ : L2.St} {H : Hp} {Q : VK} {kx vx tg iter : Expr} {ifs : List Expr} {scope : Scope} {own : List (Str × Nat)} {pos pos' : Pos} {wi : TI} {g : TG} {tt : TT} {tk tv : TE} {use : Option (Value → Sem Unit)} {Qf : Value → Shared → Prop}
    (hu : X.A.units + 1 < cLine) (hc : X.calm = true) (hN : X.N.Nodup) (I : Inv X pins σ H s) (hi : PI X tg iter wi) (ok : BlkOk X.N X.env.scope scope own)
    (hg : ∀ (s : Shared) (H : Hp) (C : Addr) (cl : List (Str × Addr)) (fp : List Addr), PG (X.blk s H scope (compEnvC scope cl C X.env) fp) tg g) (ht : ∀ (s : Shared) (H : Hp) (C : Addr) (cl : List (Str × Addr)) (fp : List Addr), PTs (X.blk s H scope (compEnvC scope cl C X.env) fp) ifs tt)
    (hk : ∀ (s : Shared) (H : Hp) (C : Addr) (cl : List (Str × Addr)) (fp : List Addr), PE (X.blk s H scope (compEnvC scope cl C X.env) fp) kx tk)
    (he : ∀ (s : Shared) (H : Hp) (C : Addr) (cl : List (Str × Addr)) (fp : List Addr), PE (X.blk s H scope (compEnvC scope cl C X.env) fp) vx tv) (hs : ∀ x, foldedSetIterable iter X.env x = pure x)
    (h : tDcT wi g tt tk tv (own.map (·.2)) σ H Q)
    (hRR : ∀ D C s' m H', Inv X pins σ H' s' → Q (.ref D) H' → s'.heap.Ns C m → FpOk X pins H' C → compPost (model X.prog X.w) X.A X.xe use Qf (.ref D) C (.ok .next) s') :
    wpAny (model X.prog X.w) X.A (comprehension (.DictComp kx vx [⟨tg, iter, ifs, 0⟩] scope pos) scope X.env pos' newDict false (eval iter X.env) use) Qf X.xe s := by
  have hfree : ∀ y ∈ scope.names, y.2 = .free → ∃ c, X.env.cells.lookup y.1 = some c := fun y hy e => by
    rcases ok.free y hy e with k | k
    · exact I.ok.has _ (.inl k)
    · exact I.ok.has _ (.inr k)
  refine wpAny_comprehension_free (use := use) rfl hs (closure_ok hfree) ok.kind (fun y hy e => by rw [ok.uniq y hy, e])
    (thn (hi.run pins s σ H _ I h) fun xv s1 hx => thn hx fun itv s2 h2 => ?_)
  obtain ⟨it, fp, tn, J, H2, e, I2, T, st2, f2, q⟩ := h2
  subst e
  refine wpAny_newObj_type (newEnv_comp ?_)
  generalize hD : s2.heap.objs.size = D
  have hDn : H2 D = none := I2.hok.fresh (Nat.le_of_eq hD)
  obtain ⟨W, ⟨m0, w0⟩, turn⟩ := q D hDn
  -- the new list
  generalize hs3 : ({ s2 with heap := s2.heap.push { cls := .type "dict", data := .dict #[] } } : Shared) = s3
  have I3 : Inv X pins σ (upd H2 D (.dT [])) s3 := by
    rw [← hs3]
    refine I2.laid (t' := s2.toks) (fun b o e => Heap.get?_push_of_some _ e) (Nat.le_of_eq hD) ?_
    rw [← hD]
    exact dt_empty s2.heap I2.big
  have h3 : s3.heap = s2.heap.push { cls := .type "dict", data := .dict #[] } := by rw [← hs3]
  have sz : ∀ b ∈ fp, b < s2.heap.objs.size := fun b hb => by
    obtain ⟨o, e, _⟩ := T.obj _ _ st2 b hb
    exact Heap.lt_size e
  have f3 : ∀ b ∈ fp, FpOk X pins (upd H2 D (.dT [])) b ∧ b < s3.heap.objs.size := fun b hb => by
    have hlt := sz b hb
    refine ⟨⟨?_, (f2 b hb).2⟩, by rw [h3, Heap.size_push]; exact Nat.lt_succ_of_lt hlt⟩
    rw [upd_ne (by rw [← hD]; exact Nat.ne_of_lt hlt)]
    exact (f2 b hb).1
  have st3 : tn 0 s3.heap := T.keep _ _ _ st2 fun b _ o e => by rw [h3]; exact Heap.get?_push_of_some _ e
  have I4 := block_start I3 ok hN f3
  have pg := hg s3 (upd H2 D (.dT [])) s3.heap.objs.size (cellsFrom (s3.heap.objs.size + 1) scope.names (cloFrom X.env.cells scope.names [])) fp
  have pt := ht s3 (upd H2 D (.dT [])) s3.heap.objs.size (cellsFrom (s3.heap.objs.size + 1) scope.names (cloFrom X.env.cells scope.names [])) fp
  have pk := hk s3 (upd H2 D (.dT [])) s3.heap.objs.size (cellsFrom (s3.heap.objs.size + 1) scope.names (cloFrom X.env.cells scope.names [])) fp
  have pe := he s3 (upd H2 D (.dT [])) s3.heap.objs.size (cellsFrom (s3.heap.objs.size + 1) scope.names (cloFrom X.env.cells scope.names [])) fp
  show codeAny _ _ (.compStart (.DictComp kx vx [⟨tg, iter, ifs, 0⟩] scope pos) 0 (.ref it) (.ref D) (compEnvC scope (cellsFrom (s3.heap.objs.size + 1) scope.names (cloFrom X.env.cells scope.names [])) s3.heap.objs.size X.env)) (compPost (model X.prog X.w) X.A X.xe use Qf (.ref D) s3.heap.objs.size) { s3 with heap := pushCells (s3.heap.push { cls := .type "dict", data := .dict #[] }) scope.names }
  have nfp : ∀ b ∈ fp, (upd H2 D (.dT [])) b = none := fun b hb => (f3 b hb).1.1
  generalize hce : compEnvC scope (cellsFrom (s3.heap.objs.size + 1) scope.names (cloFrom X.env.cells scope.names [])) s3.heap.objs.size X.env = ce at I4 pg pt pk pe ⊢
  have cL : ce.locals = s3.heap.objs.size := by subst hce; rfl
  generalize hH3 : upd H2 D (.dT []) = H3 at I3 I4 pg pt pk pe w0 nfp f3
  generalize hs4 : ({ s3 with heap := pushCells (s3.heap.push { cls := .type "dict", data := .dict #[] }) scope.names } : Shared) = s4 at I4 ⊢
  have st4 : tn 0 s4.heap := T.keep _ _ _ st3 fun b _ o e => by rw [← hs4]; exact pushCells_keeps _ _ _ _ (Heap.get?_push_of_some _ e)
  have stat : ∀ {σ' : L2.St} {H' : Hp} {s' : Shared}, Inv (X.blk s3 H3 scope ce fp) [] σ' H' s' → (∀ b ∈ fp, H' b = none) → ∀ b ∈ fp, FpOk (X.blk s3 H3 scope ce fp) [] H' b := fun {σ' H' s'} I' hn b hb =>
    ⟨hn b hb, (I'.ok.exf b hb).1, I'.ok.exfs b hb, .inl hb, fun x c e => (I'.ok.exf b hb).2 x c e, fun p hp => absurd (show p ∈ ([] : List (Addr × Obj)) ++ [] from hp) (by simp)⟩
  have loop : codeAny (model X.prog X.w) X.A (.compLoop (.DictComp kx vx [⟨tg, iter, ifs, 0⟩] scope pos) 0 (.ref it) (.ref D) ce) (compPost (model X.prog X.w) X.A X.xe use Qf (.ref D) s3.heap.objs.size) s4 := by
    refine compLoop_anyD (fun n s' => ∃ i H', Inv (X.blk s3 H3 scope ce fp) [] (wipe σ (own.map (·.2))) H' s' ∧ tn i s'.heap ∧ (∀ b ∈ fp, H' b = none) ∧ W i n H') ?_ m0 ⟨0, H3, I4, st4, nfp, w0⟩
    rintro n s5 ⟨i, H5, I5, st5, n5, w5⟩
    rcases turn i n H5 w5 with ⟨stop, qq⟩ | ⟨go, Nx, hNx, step⟩
    · have td := T.done (X.blk s3 H3 scope ce fp) rfl rfl rfl hc i [] s5 _ H5 (fun _ _ => False) I5 (stat I5 n5) st5 stop
      refine thnF td fun r s6 ⟨hr, I6⟩ => ?_
      subst hr
      -- back in the def's context
      have I7 : Inv X pins σ H5 s6 := I3.call' (ch := fp) I6.os I6.base I6.hok I6.bare fun b hb => ⟨(f3 b hb).1.2.2.2.1, (f3 b hb).1.2.1, (f3 b hb).1.2.2.2.2.1, (f3 b hb).1.2.2.2.2.2⟩
      have nC : H5 s3.heap.objs.size = none := by
        have z : H5 ce.locals = none := I6.free
        rw [cL] at z
        exact z
      obtain ⟨m, hn, _⟩ := I6.loc
      have hn : s6.heap.Ns ce.locals m := hn
      rw [cL] at hn
      exact hRR D s3.heap.objs.size s6 m H5 I7 qq hn (I3.fpOk (Nat.le_refl _) nC)
    · have ti := T.item (X.blk s3 H3 scope ce fp) rfl rfl rfl hc i [] s5 _ H5 (fun _ _ => False) I5 (stat I5 n5) st5 go
      refine thnF ti fun r s6 ⟨u, hr, h6⟩ => ?_
      subst hr
      refine thnF h6 fun _ s7 ⟨x, H7, I7, r7, y7, st7, n7⟩ => ?_
      have I7' := I7.pinned (stat I7 n7) (T.obj _ _ st7)
      refine thnF (pg.run _ s7 _ H7 x u _ I7' r7 (step x H7 y7)) fun _ s8 ⟨σ8, H8, I8, hw8, q8⟩ => ?_
      refine thnF (pt.run _ s8 σ8 H8 _ I8 q8) fun b s9 ⟨H9, I9, q9⟩ => ?_
      -- the turn's end
      have fin : ∀ {s' : Shared} {H' : Hp}, Inv (X.blk s3 H3 scope ce fp) ([] ++ pinsAt fp s7.heap) σ8 H' s' → Nx H' → ∃ m, m < n ∧ ∃ i H', Inv (X.blk s3 H3 scope ce fp) [] (wipe σ (own.map (·.2))) H' s' ∧ tn i s'.heap ∧ (∀ b ∈ fp, H' b = none) ∧ W i m H' := fun {s' H'} I' nx => by
        obtain ⟨m', hm, w'⟩ := hNx H' nx
        have pin' : ∀ b ∈ fp, ∀ o, s7.heap.get? b = some o → s'.heap.get? b = some o ∧ H' b = none := fun b hb o e =>
          let z := I'.pin (b, o) (List.mem_append_right _ (List.mem_append_right _ (mem_pinsAt hb e)))
          ⟨z.1, z.2.1⟩
        have hl : (wipe σ (own.map (·.2))).length = σ8.length := by rw [← hw8, wipe_length]
        refine ⟨m', hm, i + 1, H', (I'.unpinned (pins := [])).weak hl (fun j v e => ?_), T.keep _ _ _ st7 fun b hb o e => (pin' b hb o e).1, fun b hb => ?_, w'⟩
        · rw [← hw8] at e
          exact (wipe_some e).1
        · obtain ⟨o, e, _⟩ := T.obj _ _ st7 b hb
          exact (pin' b hb o e).2
      cases b with
      | false =>
        simp only [Bool.false_eq_true, if_false] at q9 ⊢
        exact fin I9 q9
      | true =>
        simp only [if_true] at q9 ⊢
        refine thnF (pk.run _ s9 σ8 H9 _ I9 q9) fun z s10 ⟨yk, H10, I10, r10, q10⟩ => ?_
        refine thnF (pe.run _ s10 σ8 H10 _ I10 q10) fun z2 s11 ⟨yv, H11, I11, r11, kvs, k, kb, ek, hkb, hD11, hz11, nx⟩ => ?_
        subst ek
        exact d_dictSetT (X := X.blk s3 H3 scope ce fp) hu I11 hD11 (hkb) hz11 r10 r11 fun s12 I12 => fin I12 nx
  exact codeAny_compStart_dict loop (T.self X.A 0 _ _ _ st4 loop)
/-- as a value -/
theorem pe_dcT (hu : X.A.units + 1 < cLine) {kx vx tg iter : Expr} {ifs : List Expr} {scope : Scope} {own : List (Str × Nat)} {pos : Pos} {wi : TI} {g : TG} {tt : TT} {tk tv : TE} (hc : X.calm = true) (hN : X.N.Nodup) (hi : PI X tg iter wi) (ok : BlkOk X.N X.env.scope scope own)
    (hg : ∀ (s : Shared) (H : Hp) (C : Addr) (cl : List (Str × Addr)) (fp : List Addr), PG (X.blk s H scope (compEnvC scope cl C X.env) fp) tg g) (ht : ∀ (s : Shared) (H : Hp) (C : Addr) (cl : List (Str × Addr)) (fp : List Addr), PTs (X.blk s H scope (compEnvC scope cl C X.env) fp) ifs tt)
    (hk : ∀ (s : Shared) (H : Hp) (C : Addr) (cl : List (Str × Addr)) (fp : List Addr), PE (X.blk s H scope (compEnvC scope cl C X.env) fp) kx tk)
    (he : ∀ (s : Shared) (H : Hp) (C : Addr) (cl : List (Str × Addr)) (fp : List Addr), PE (X.blk s H scope (compEnvC scope cl C X.env) fp) vx tv) (hs : ∀ x, foldedSetIterable iter X.env x = pure x := by intro _; rfl) :
    PE X (.DictComp kx vx [⟨tg, iter, ifs, 0⟩] scope pos) (tDcT wi g tt tk tv (own.map (·.2))) := by
  refine ⟨fun pins s σ H Q I h => ?_⟩
  rw [arm_eval_DictComp]
  refine dct_core hu hc hN I hi ok hg ht hk he hs h fun D C s' m H' I' q hn f => ⟨m, hn, fun h'' sb => ?_⟩
  obtain ⟨f0, f1, f2, f3, f4, f5⟩ := f
  exact ⟨.ref D, H', I'.turned (t' := s'.toks) (fun b o hb e => (sb.2 b hb).trans e) f0 f1 f3 f4 f5, rfl, q⟩
end
end My

set_option Elab.async false
set_option linter.all false
set_option maxRecDepth 100000
set_option maxHeartbeats 1000000
/-! x = {k: v for ..}: a dict comprehension into a local. -/
namespace My
open PySem PySem.Spec PyProof.Rows L2 Evl
section
variable {X : Cx}
theorem ps_setDc {i : Nat} {y : Str} {py : Pos} {kx vx tg iter : Expr} {ifs : List Expr} {scope : Scope} {own : List (Str × Nat)} {pos spos : Pos} {wi : TI} {g : TG} {tt : TT} {tk tv : TE} (hc : X.calm = true) (hN : X.N.Nodup) (hy : X.N[i]? = some y) (hyl : X.env.scope.names.lookup y = some .local)
    (hsw : swapsWith (.DictComp kx vx [⟨tg, iter, ifs, 0⟩] scope pos) (some (.Name y py)) spos.line X.env = pure true) (hi : PI X tg iter wi) (ok : BlkOk X.N X.env.scope scope own)
    (hg : ∀ (s : Shared) (H : Hp) (C : Addr) (cl : List (Str × Addr)) (fp : List Addr), PG (X.blk s H scope (compEnvC scope cl C X.env) fp) tg g) (ht : ∀ (s : Shared) (H : Hp) (C : Addr) (cl : List (Str × Addr)) (fp : List Addr), PTs (X.blk s H scope (compEnvC scope cl C X.env) fp) ifs tt)
    (hk : ∀ (s : Shared) (H : Hp) (C : Addr) (cl : List (Str × Addr)) (fp : List Addr), PE (X.blk s H scope (compEnvC scope cl C X.env) fp) kx tk)
    (he : ∀ (s : Shared) (H : Hp) (C : Addr) (cl : List (Str × Addr)) (fp : List Addr), PE (X.blk s H scope (compEnvC scope cl C X.env) fp) vx tv) (hs : ∀ x, foldedSetIterable iter X.env x = pure x := by intro _; rfl) :
    PS X (.Assign [.Name y py] (.DictComp kx vx [⟨tg, iter, ifs, 0⟩] scope pos) spos) (tAsg (tDc wi g tt tk tv (own.map (·.2))) (gName i)) := by
  refine ⟨fun pins s σ H D I h => ?_⟩
  rw [exec_Assign_Name_used _ _ _ _ hsw]
  refine wpAny_bind (wpAny_standAt (wpAny_bind ?_))
  show wpAny _ X.A (do let _ ← comprehension (.DictComp kx vx [⟨tg, iter, ifs, 0⟩] scope pos) scope X.env (firstIterPos [⟨tg, iter, ifs, 0⟩] pos) newDict false (eval iter X.env) (some (assign (.Name y py) X.env))) _ _ s
  have h : tDc wi g tt tk tv (own.map (·.2)) σ H (fun x H1 => gName i x σ H1 D.nx) := h
  refine wpAny_bind (thn (dc_core (Qf := fun _ s' => SP X pins D .next s') hc hN I hi ok hg ht hk he hs h fun L C s' m H' I' q hn f => ?_) fun _ s' hq => wpAny_pure (wpAny_pure hq))
  show wpAny _ _ (assign (.Name y py) X.env (.ref L)) _ _ _
  refine wpAny_assign_Name (store_ok2 (v := V.ref L) I' hN hy (.inl hyl) rfl (fun s2 I2 ⟨a, sb, ha⟩ => ?_) (.inr hyl))
  obtain ⟨f0, f1, f2, f3, f4, f5⟩ := f
  have haC : C ≠ a := by
    rcases ha with z | z
    · rw [z]; exact f1
    · exact fun e => f4 y a z e.symm
  refine ⟨m, hn.sameBut sb haC, fun h3 sb3 => ?_⟩
  exact ⟨_, H', I2.turned (t' := s2.toks) (fun b o hb e => (sb3.2 b hb).trans e) f0 f1 f3 f4 f5, q⟩
theorem ps_setDcT {i : Nat} {y : Str} {py : Pos} {kx vx tg iter : Expr} {ifs : List Expr} {scope : Scope} {own : List (Str × Nat)} {pos spos : Pos} {wi : TI} {g : TG} {tt : TT} {tk tv : TE} (hu : X.A.units + 1 < cLine) (hc : X.calm = true) (hN : X.N.Nodup) (hy : X.N[i]? = some y) (hyl : X.env.scope.names.lookup y = some .local)
    (hsw : swapsWith (.DictComp kx vx [⟨tg, iter, ifs, 0⟩] scope pos) (some (.Name y py)) spos.line X.env = pure true) (hi : PI X tg iter wi) (ok : BlkOk X.N X.env.scope scope own)
    (hg : ∀ (s : Shared) (H : Hp) (C : Addr) (cl : List (Str × Addr)) (fp : List Addr), PG (X.blk s H scope (compEnvC scope cl C X.env) fp) tg g) (ht : ∀ (s : Shared) (H : Hp) (C : Addr) (cl : List (Str × Addr)) (fp : List Addr), PTs (X.blk s H scope (compEnvC scope cl C X.env) fp) ifs tt)
    (hk : ∀ (s : Shared) (H : Hp) (C : Addr) (cl : List (Str × Addr)) (fp : List Addr), PE (X.blk s H scope (compEnvC scope cl C X.env) fp) kx tk)
    (he : ∀ (s : Shared) (H : Hp) (C : Addr) (cl : List (Str × Addr)) (fp : List Addr), PE (X.blk s H scope (compEnvC scope cl C X.env) fp) vx tv) (hs : ∀ x, foldedSetIterable iter X.env x = pure x := by intro _; rfl) :
    PS X (.Assign [.Name y py] (.DictComp kx vx [⟨tg, iter, ifs, 0⟩] scope pos) spos) (tAsg (tDcT wi g tt tk tv (own.map (·.2))) (gName i)) := by
  refine ⟨fun pins s σ H D I h => ?_⟩
  rw [exec_Assign_Name_used _ _ _ _ hsw]
  refine wpAny_bind (wpAny_standAt (wpAny_bind ?_))
  show wpAny _ X.A (do let _ ← comprehension (.DictComp kx vx [⟨tg, iter, ifs, 0⟩] scope pos) scope X.env (firstIterPos [⟨tg, iter, ifs, 0⟩] pos) newDict false (eval iter X.env) (some (assign (.Name y py) X.env))) _ _ s
  have h : tDcT wi g tt tk tv (own.map (·.2)) σ H (fun x H1 => gName i x σ H1 D.nx) := h
  refine wpAny_bind (thn (dct_core (Qf := fun _ s' => SP X pins D .next s') hu hc hN I hi ok hg ht hk he hs h fun L C s' m H' I' q hn f => ?_) fun _ s' hq => wpAny_pure (wpAny_pure hq))
  show wpAny _ _ (assign (.Name y py) X.env (.ref L)) _ _ _
  refine wpAny_assign_Name (store_ok2 (v := V.ref L) I' hN hy (.inl hyl) rfl (fun s2 I2 ⟨a, sb, ha⟩ => ?_) (.inr hyl))
  obtain ⟨f0, f1, f2, f3, f4, f5⟩ := f
  have haC : C ≠ a := by
    rcases ha with z | z
    · rw [z]; exact f1
    · exact fun e => f4 y a z e.symm
  refine ⟨m, hn.sameBut sb haC, fun h3 sb3 => ?_⟩
  exact ⟨_, H', I2.turned (t' := s2.toks) (fun b o hb e => (sb3.2 b hb).trans e) f0 f1 f3 f4 f5, q⟩
theorem sw_trueD {kx vx : Expr} {gs : List Comprehension} {scope : Scope} {pos py : Pos} {y : Str} {l : Nat} {env : Env} (hk : env.scope.kind = .function) (hy : env.scope.names.lookup y = some .local) (hl : (py.line == pos.line) = true)
    (ha : (scope.names.any fun (n, k) => n == y && (k == .local || k == .cell)) = false) : swapsWith (.DictComp kx vx gs scope pos) (some (.Name y py)) l env = pure true := by
  have ky : env.kindOf y = some .local := hy
  have hb : env.blockKind = .function := by unfold Env.blockKind; rw [hk]; rfl
  unfold swapsWith
  simp only [hb, ky, ha, Expr.pos, hl]
  rfl
end
end My

set_option Elab.async false
set_option linter.all false
set_option maxRecDepth 100000
set_option maxHeartbeats 1000000
/-! a written dict of the top, keys and values texts: its look-ups. -/
namespace My
open PySem PySem.Spec PyProof.Rows L2 Evl
def strOf : Value → Str
  | .str x _ => x
  | _ => Str.empty
def isStrV : Value → Bool
  | .str _ _ => true
  | _ => false
/-- what the table says of a key -/
def tabF : List (List Nat × List Nat) → List Nat → Option (List Nat)
  | [], _ => none
  | p :: r, l => if p.1 = l then some p.2 else tabF r l
def HasD (K : PySem.W.Frag) (w : World) (x : Str) (tab : List (List Nat × List Nat)) : Prop := ∃ (d : Addr) (es : Array DictEntry) (n : Nat), PySem.W.nsIn K mainGlobals x = some (some (.ref d)) ∧ K.lookup d = some ⟨.type "dict", none, .dict es n, #[]⟩ ∧
  es.toList.map He.keyOf = He.keysIn w.params (tab.map fun p => tx p.1) ∧ (d == sysModules) = false ∧ es.toList.map (fun e => strOf e.val) = tab.map (fun p => tx p.2) ∧ es.toList.all (fun e => isStrV e.val) = true
theorem HasD.mk' {K : PySem.W.Frag} {w : World} {x : Str} {tab : List (List Nat × List Nat)} {d : Addr} {es : Array DictEntry} {n : Nat} (a : PySem.W.nsIn K mainGlobals x = some (some (.ref d))) (l : K.lookup d = some ⟨.type "dict", none, .dict es n, #[]⟩)
    (k : es.toList.map He.keyOf = He.keysIn w.params (tab.map fun p => tx p.1)) (z : (d == sysModules) = false) (v : es.toList.map (fun e => strOf e.val) = tab.map (fun p => tx p.2)) (s : es.toList.all (fun e => isStrV e.val) = true) : HasD K w x tab := ⟨d, es, n, a, l, k, z, v, s⟩
/-- the dict as a global -/
def GD (K : PySem.W.Frag) (w : World) (mg : Str → Option Value) (x : Str) (tab : List (List Nat × List Nat)) : Prop := ∃ (d : Addr) (es : Array DictEntry) (n : Nat), mg x = some (.ref d) ∧ KDict K w d es n ∧
  ∀ l, ∃ r, PySem.W.nsIn K d (tx l) = some r ∧ r.isSome = (tabF tab l).isSome ∧ ∀ y, tabF tab l = some y → ∃ u, r = some u ∧ RelV (.str (tx y)) u
theorem find_tab {P : Params} : ∀ {es : List DictEntry} {tab : List (List Nat × List Nat)}, es.map He.keyOf = He.keysIn P (tab.map fun p => tx p.1) → es.map (fun e => strOf e.val) = tab.map (fun p => tx p.2) → es.all (fun e => isStrV e.val) = true →
    (es.any (·.refKey) = false) ∧ ∀ l, (es.find? (·.key.isStr (tx l))).isSome = (tabF tab l).isSome ∧ ∀ y, tabF tab l = some y → ∃ e, es.find? (·.key.isStr (tx l)) = some e ∧ RelV (.str (tx y)) e.val
  | [], [], _, _, _ => ⟨rfl, fun l => ⟨rfl, fun y h => nomatch h⟩⟩
  | [], p :: r, h, _, _ => by cases h
  | e :: es, [], h, _, _ => by cases h
  | e :: es, p :: r, h, h2, h3 => by
    have h1 : He.keyOf e :: es.map He.keyOf = some (tx p.1, PyData.keyHash P (tx p.1)) :: He.keysIn P (r.map fun p => tx p.1) := h
    injection h1 with k1 k2
    rw [List.map_cons, List.map_cons] at h2
    injection h2 with v1 v2
    rw [List.all_cons, Bool.and_eq_true] at h3
    obtain ⟨i1, i2⟩ := find_tab k2 v2 h3.2
    have hk : ∃ t, e.key = .str (tx p.1) t := by
      unfold He.keyOf at k1
      split at k1
      · rename_i x t q
        obtain ⟨h5, h6⟩ := Prod.mk.inj (Option.some.inj k1)
        exact ⟨t, by rw [q, h5]⟩
      · cases k1
    obtain ⟨t, hk⟩ := hk
    have hv : ∃ t, e.val = .str (tx p.2) t := by
      cases q : e.val with
      | str x t =>
        rw [q] at v1
        exact ⟨t, by rw [← v1]; rfl⟩
      | _ => rw [q] at h3; exact nomatch h3.1
    obtain ⟨t2, hv⟩ := hv
    have hstr : ∀ l, e.key.isStr (tx l) = decide (p.1 = l) := fun l => by
      rw [hk]
      show (tx p.1 == tx l) = _
      by_cases hl : p.1 = l
      · subst hl
        rw [decide_eq_true rfl]
        exact beq_self_eq_true _
      · rw [decide_eq_false hl]
        exact beq_eq_false_iff_ne.mpr fun z => hl (tx_inj z)
    refine ⟨?_, fun l => ?_⟩
    · rw [List.any_cons, i1, Bool.or_false]
      unfold DictEntry.refKey
      rw [hk]
    · rw [List.find?_cons, hstr]
      unfold tabF
      by_cases hl : p.1 = l
      · rw [decide_eq_true hl, if_pos hl]
        exact ⟨rfl, fun y hy => ⟨e, rfl, by cases hy; exact ⟨t2, hv⟩⟩⟩
      · rw [decide_eq_false hl, if_neg hl]
        exact i2 l
theorem HasD.gd {K : PySem.W.Frag} {w : World} {mg : Str → Option Value} {h : Heap} {x : Str} {tab : List (List Nat × List Nat)} (X : K.In h) (G : h.Ns mainGlobals mg) (H : HasD K w x tab) : GD K w mg x tab := by
  obtain ⟨d, es, n, a, l, k, z, v, s⟩ := H
  refine ⟨d, es, n, PySem.W.mg_of X G a, ⟨l, He.keysLit_of k, z⟩, fun y => ?_⟩
  obtain ⟨i1, i2⟩ := find_tab k v s
  obtain ⟨j1, j2⟩ := i2 y
  refine ⟨(es.toList.find? (·.key.isStr (tx y))).map (·.val), ?_, by rw [Option.isSome_map]; exact j1, fun q hq => ?_⟩
  · unfold PySem.W.nsIn
    rw [l]
    show (match es.toList.find? (·.key.isStr (tx y)) with
      | some e => some (some e.val)
      | none => if es.toList.any (·.refKey) then none else some none) = _
    cases e : es.toList.find? (·.key.isStr (tx y)) with
    | some en => rfl
    | none =>
      show (if es.toList.any (·.refKey) = true then none else some none) = _
      rw [if_neg (by rw [i1]; exact Bool.false_ne_true)]
      rfl
  · obtain ⟨en, h1, h2⟩ := j2 q hq
    exact ⟨en.val, by rw [h1]; rfl, h2⟩
/-! the rules: x in T, x not in T, T[x] -/
theorem pe_gr {X : Cx} {x : Str} {d : Addr} {pos : Pos} (g : X.mg x = some (.ref d)) (hg : Gl X x := by rfl) (hd : (x == ("__debug__" : Str)) = false := by decide) : PE X (.Name x pos) (tC (.ref d)) := pe_glob (v := .ref d) hg g rfl hd

section
variable {K : PySem.W.Frag} {w : World} {σ : L2.St} {H : Hp} {te : TE} {d : Addr} {tab : List (List Nat × List Nat)} {l y : List Nat}
theorem ev_inKd (h : Ev te σ H (.str (tx l))) (hl : ∀ l, ∃ r, PySem.W.nsIn K d (tx l) = some r ∧ r.isSome = (tabF tab l).isSome ∧ ∀ y, tabF tab l = some y → ∃ u, r = some u ∧ RelV (.str (tx y)) u) :
    Ev (tOp (fun x y H Q => ∃ (z : Str) (r : Option Value), x = .str z ∧ y = .ref d ∧ PySem.W.nsIn K d z = some r ∧ Q (.bl r.isSome) H) te (tC (.ref d))) σ H (.bl (tabF tab l).isSome) := fun H1 e Q q => h H1 e _ fun H2 e2 => by
  obtain ⟨r, h1, h2, _⟩ := hl l
  exact ⟨tx l, r, rfl, rfl, h1, by rw [h2]; exact q H2 e2⟩
theorem ev_niKd (h : Ev te σ H (.str (tx l))) (hl : ∀ l, ∃ r, PySem.W.nsIn K d (tx l) = some r ∧ r.isSome = (tabF tab l).isSome ∧ ∀ y, tabF tab l = some y → ∃ u, r = some u ∧ RelV (.str (tx y)) u) :
    Ev (tOp (fun x y H Q => ∃ (z : Str) (r : Option Value), x = .str z ∧ y = .ref d ∧ PySem.W.nsIn K d z = some r ∧ Q (.bl (!r.isSome)) H) te (tC (.ref d))) σ H (.bl (!(tabF tab l).isSome)) := fun H1 e Q q => h H1 e _ fun H2 e2 => by
  obtain ⟨r, h1, h2, _⟩ := hl l
  exact ⟨tx l, r, rfl, rfl, h1, by rw [h2]; exact q H2 e2⟩
theorem ev_ixKd {es : Array DictEntry} {n : Nat} (h : Ev te σ H (.str (tx l))) (D : KDict K w d es n) (hl : ∀ l, ∃ r, PySem.W.nsIn K d (tx l) = some r ∧ r.isSome = (tabF tab l).isSome ∧ ∀ y, tabF tab l = some y → ∃ u, r = some u ∧ RelV (.str (tx y)) u) (hy : tabF tab l = some y) :
    Ev (tOp (rIxD K w) (tC (.ref d)) te) σ H (.str (tx y)) := fun H1 e Q q => h H1 e _ fun H2 e2 => by
  obtain ⟨r, h1, _, h3⟩ := hl l
  obtain ⟨u, h4, h5⟩ := h3 y hy
  exact ⟨d, tx l, .str (tx y), rfl, rfl, ⟨es, n, u, D.at_, D.lit, by rw [h1, h4], h5⟩, q H2 e2⟩
end
end My

set_option Elab.async false
set_option linter.all false
set_option maxRecDepth 100000
set_option maxHeartbeats 2000000
/-! comprehensions over a dict's keys; dict(d); != of a tuple and an empty one; startswith and cuts. -/
namespace My
open PySem PySem.Spec PyProof.Rows L2 Evl
/-! ### dict(d): a new dict, entry by entry -/
def rDictD : List V → Hp → VK → Prop := fun xs H Q => ∃ (a : Addr) (kvs : List (Key × V)), xs = [.ref a] ∧ H a = some (.dK kvs) ∧ ∀ p, H p = none → Q (.ref p) (upd H p (.dK kvs))
section
variable {X : Cx}
theorem call_dictD : CallR X (.type "dict") rDictD := by
  intro pins s σ H xs us Q I r q
  obtain ⟨a, kvs, ex, hq, q⟩ := q
  subst ex
  obtain ⟨u, eu, rx⟩ := vals1 r
  subst eu
  cases rx
  obtain ⟨hz, lo, ws, rel, dd⟩ := dk_of I.hok hq
  have hl : kvs.length = ws.length := Paired.length rel
  refine kt_call_dict (knd := mixKind X.prog X.w) lo dd (by rw [← hl]; exact hz) fun h' hd' sb => ?_
  have hm : (s.heap.objs.size == sysModules) = false := beq_eq_false_iff_ne.mpr (Nat.ne_of_gt I.big)
  exact ⟨.ref s.heap.objs.size, upd H s.heap.objs.size (.dK kvs), I.laid (t' := s.toks) (fun b o e => (sb.2 b (Nat.ne_of_lt (Heap.lt_size e))).trans (Heap.get?_push_of_some _ e)) (Nat.le_refl _) (show ObjOk X.prog X.w _ _ _ (.dK kvs) from ⟨hz, hm, ws, rel, hd'⟩), rfl, q _ (I.hok.fresh (Nat.le_refl _))⟩
/-! ### != of two tuples, the second one empty -/
def rNeT (K : PySem.W.Frag) : R2 := fun x y H Q => ∃ a b xs ys, x = .ref a ∧ y = .ref b ∧ (SqT K H a xs ∧ SqT K H b ys) ∧ ys = [] ∧ Q (.bl (!decide (xs.length = 0))) H
theorem op_neT (hu : X.A.units + 64 < cLine) : OpR X (compareOp .NotEq) (rNeT X.K) := by
  intro pins s σ H x y v u Q I rx ry h
  obtain ⟨a, b, xs, ys, rfl, rfl, ⟨h1, h2⟩, rfl, q⟩ := h
  cases rx
  cases ry
  have hu1 : X.A.units < cLine := by omega
  obtain ⟨its, rv, p1, _⟩ := I.tuple h1
  obtain ⟨its2, rv2, p2, _⟩ := I.tuple h2
  cases rv2
  have hl := rv.length
  have R := SeqAt.RcNeAt.tuples (A := X.A) (s := s) (e := fun _ => true) (show s.heap.IsTuple a its.toArray from p1) (show s.heap.IsTuple b [].toArray from p2) hu1 (fun j _ h2 => absurd h2 (by simp))
  have e : (!((List.range (min its.toArray.size ([] : List Value).toArray.size)).all (fun _ => true) && its.toArray.size == ([] : List Value).toArray.size)) = !decide (xs.length = 0) := by
    rw [hl]
    cases its <;> simp
  rw [e] at R
  exact R X.prog X.w _ _ ⟨.bl _, H, I, rfl, q⟩
end
section
variable {K : PySem.W.Frag} {σ : L2.St} {H H' : Hp} {te tl tb : TE} {tt : TT} {xs : List V} {a d : Addr} {kvs : List (Key × V)}
theorem ev_neT (h : EvP te σ H fun v H' => ∃ a, v = .ref a ∧ SqT K H' a xs) (hb : EvU tb σ H []) : Ev (tOp (rNeT K) te tb) σ H (.bl (!decide (xs.length = 0))) := fun H1 e Q q =>
  h H1 e _ fun v H2 e2 ⟨a, hv, hS⟩ => hb H2 (e.trans e2) _ fun p H3 _ e3 h3 => ⟨a, p, xs, [], hv, rfl, ⟨ex_t e3 hS, st_of h3⟩, rfl, q H3 (e2.trans e3)⟩
/-- dict(d) -/
theorem evp_dictD (h : Ev te σ H (.ref d)) (hd : H d = some (.dK kvs)) : EvP (tCB rDictD (tCons te tNil)) σ H (fun v H' => ∃ p, v = .ref p ∧ H' p = some (.dK kvs)) := fun H1 e Q q =>
  h H1 e _ fun H2 e2 => ⟨d, kvs, rfl, (e.trans e2) _ _ hd, fun p hp => q _ _ (e2.trans (Ex.new hp)) ⟨p, rfl, upd_same⟩⟩
/-! ### a comprehension over a dict's keys, texts; tests and items that look at no heap -/
theorem el_lcK {j : Nat} {vs : List Nat} {ks : List (List Nat)} (f : V → Bool) (g : V → V) (h : ∀ H1, Ev tl σ H1 (.ref d)) (hd : H d = some (.dK kvs)) (hk : kvs.map (·.1) = ks.map fun k => Sum.inr (tx k)) (hz : ks.length ≤ 40000) (hw : ∀ x, wipe ((wipe σ vs).set j (some x)) vs = wipe σ vs)
    (ht : ∀ x H1, x ∈ (ks.map fun p => V.str (tx p)) → EvT tt ((wipe σ vs).set j (some x)) H1 (f x)) (he : ∀ x H1, x ∈ (ks.map fun p => V.str (tx p)) → f x = true → Ev te ((wipe σ vs).set j (some x)) H1 (g x)) :
    EvL (tLockE (tLc (iKeys tl) (gName j) tt te vs)) σ H (((ks.map fun p => V.str (tx p)).filter f).map g) := by
  intro H0 e Q q
  have hlen : kvs.length = ks.length := by simpa using congrArg List.length hk
  generalize hxs : (ks.map fun p => V.str (tx p)) = xs at ht he q
  have hxl : xs.length = ks.length := by rw [← hxs, List.length_map]
  refine ⟨d, _, e d _ hd, trivial, fun od => ?_⟩
  generalize hH : L2.upd H0 d (.frz od (.dK kvs)) = HF
  have hF : HF d = some (.frz od (.dK kvs)) := by rw [← hH, upd_same]
  refine h HF HF (Ex.refl HF) _ fun H1 e1 => ⟨d, od, rfl, .inl ⟨kvs, e1 d _ hF, fun Dl hD => ?_⟩⟩
  have hd1 := e1 d _ hF
  have ndl : Dl ≠ d := fun z => by rw [z, hd1] at hD; exact nomatch hD
  refine ⟨fun i m H' => m = xs.length - i ∧ i ≤ xs.length ∧ Ex H1 H' ∧ H' Dl = some (.lst (((xs.take i).filter f).map g)), ⟨xs.length, rfl, Nat.zero_le _, Ex.new hD, upd_same⟩, ?_⟩
  rintro i m H' ⟨rfl, hi, ex, hl⟩
  by_cases hlt : i < xs.length
  · have gx : xs[i]? = some xs[i] := List.getElem?_eq_getElem hlt
    refine .inr ⟨⟨ex d _ hd1, by omega⟩, fun H' => Ex H1 H' ∧ H' Dl = some (.lst (((xs.take (i + 1)).filter f).map g)), fun H2 p => ⟨xs.length - (i + 1), by omega, rfl, hlt, p⟩, fun x H2 y => ?_⟩
    obtain ⟨rfl, k, v, hkv, rfl⟩ := y
    have ex' : kV k = xs[i] := by
      have h1 : (kvs.map (·.1))[i]? = some k := by rw [List.getElem?_map, hkv]; rfl
      rw [hk, List.getElem?_map] at h1
      obtain ⟨p, h2, h3⟩ := Option.map_eq_some_iff.mp h1
      have h4 : xs[i]? = some (.str (tx p)) := by rw [← hxs, List.getElem?_map, h2]; rfl
      rw [gx] at h4
      rw [Option.some.inj h4, ← h3]
      rfl
    rw [ex']
    exact ⟨hw _, lcf_turn gx hD ex hl (by omega) (ht _ H1 (List.mem_of_getElem? gx)) (he _ H1 (List.mem_of_getElem? gx))⟩
  · have e0 : i = xs.length := by omega
    subst e0
    rw [List.take_of_length_le (Nat.le_refl _)] at hl
    refine .inl ⟨⟨ex d _ hd1, by omega⟩, ex d _ hd1, ?_⟩
    have h0 : H0 Dl = none := by
      have := fresh_back e1 hD
      rw [← hH, upd_ne ndl] at this
      exact this
    refine q Dl _ h0 (fun b o hb => ?_) (by rw [upd_ne ndl]; exact hl)
    by_cases hbd : b = d
    · subst hbd
      rw [upd_same]
      rw [e b _ hd] at hb
      exact hb
    · rw [upd_ne hbd]
      exact ex b _ (e1 b _ (by rw [← hH, upd_ne hbd]; exact hb))
end
/-! ### startswith -/
theorem sub_at0 (l p : List Nat) : Builtin.Str.subAt (tx l) (tx p) 0 = decide (l.take p.length = p) := by
  rw [StrLaws.subAt_eq, tx_list, List.drop_zero, tx_list, tx_len]
  rw [Bool.eq_iff_iff, beq_iff_eq, decide_eq_true_eq]
theorem starts_tx (l p : List Nat) : Txt.startswith (tx l) (tx p) = decide (l.take p.length = p) := by
  unfold Txt.startswith
  rw [sub_at0, tx_len, tx_len, Nat.zero_add]
  by_cases h : l.take p.length = p
  · have := congrArg List.length h
    rw [List.length_take] at this
    rw [decide_eq_true h, decide_eq_true (show p.length ≤ l.length by omega)]
    rfl
  · rw [decide_eq_false h, Bool.and_false]
def rStarts : V → List V → Hp → VK → Prop := fun x xs H Q => ∃ a b, x = .str a ∧ xs = [.str b] ∧ Q (.bl (Txt.startswith a b)) H
theorem ev_starts {K : PySem.W.Frag} {σ : L2.St} {H : Hp} {te tb : TE} {l p : List Nat} (h : Ev te σ H (.str (tx l))) (hb : Ev tb σ H (.str (tx p))) : Ev (tBM K "str" rStarts te (tCons tb tNil)) σ H (.bl (decide (l.take p.length = p))) := fun H1 e Q q =>
  h H1 e _ fun H2 e2 => ⟨rfl, hb H2 (e.trans e2) _ fun H3 e3 => ⟨tx l, tx p, rfl, rfl, by rw [starts_tx]; exact q H3 (e2.trans e3)⟩⟩
end My

set_option Elab.async false
set_option linter.all false
set_option maxRecDepth 100000
set_option maxHeartbeats 2000000
/-! own classes: methods without arguments, making with arguments; an expression that is never reached. -/
namespace My
open PySem PySem.Spec PyProof.Rows L2 Evl
theorem pe_mcal0 {X : Cx} {k j : Nat} {C : Addr} {m : Str} {ps : List Str} {sp : Sp} {o : Expr} {ta : TE} {pos apos : Pos} {pl : Sem Bool} (c : Cls X.K C) (M : MCal X.prog X.w X.K X.mg X.base k C m ps sp) (hr : Room j X.A) (he : PE X o ta)
    (hle : k ≤ j := by first | exact Nat.le_refl _ | decide | omega)
    (ht : eval (.Call (.Attribute o m apos) [] [] pos) X.env = (do
      let ov ← eval o X.env
      standAt apos.atName
      let (f, first) ← holding [ov] (getMethod ov m pl)
      callWith pos f first (backTo pos (starEach [] X.env)) (backToKw pos (keywordEach [] X.env))) := by rfl) :
    PE X (.Call (.Attribute o m apos) [] [] pos) (tMeth C m sp [] E0 ta tNil) := by
  obtain ⟨f, fd, F, b, mm⟩ := M.ex
  exact pe_meth0 (pl := pl) he c mm F (hr.mono hle) b .nil pass0 ht
theorem pe_mkc {X : Cx} {k j : Nat} {x : Str} {C : Addr} {ps : List Str} {sp : Sp} {e : Expr} {es : List Expr} {t : TA} {p pos : Pos} (M : MkC X.prog X.w X.K X.mg X.base k x C ps sp) (hr : Room j X.A) (ha : PA X (e :: es) t) (hle : k + 1 ≤ j := by first | exact Nat.le_refl _ | decide | omega) (hg : Gl X x := by rfl) (hdb : (x == ("__debug__" : Str)) = false := by decide)
    (he : starEach (e :: es) X.env = (false, eval e X.env) :: starEach es X.env := by rfl) (hpl : (backTo pos (starEach es X.env)).any (·.1) = false := by rfl) :
    PE X (.Call (.Name x p) (e :: es) [] pos) (tMake C sp [] E0 t) := by
  obtain ⟨f, fd, F, b, mm, hm⟩ := M.ex
  exact pe_make mm F (hr.mono hle) hg hm b .nil pass0 ha hdb he hpl
def tNevE : TE := fun _ _ _ => False
theorem pe_never {X : Cx} {e : Expr} : PE X e tNevE := ⟨fun _ _ _ _ _ _ h => h.elim⟩
section
variable {K : PySem.W.Frag} {σ : L2.St} {H H' : Hp} {te tl tb : TE} {t : TA} {tt : TT} {sp : Sp} {Q : VK} {E : XK} {v : V} {a r C dx : Addr} {fs : List (Str × V)} {m : Str}
theorem ev_ifN {tc : TT} (h : EvT tc σ H true) (ha : Ev te σ H v) : Ev (tIf tc te tNevE) σ H v := fun H1 e Q q => h H1 e _ fun H2 e2 => iteT (ha H2 (e.trans e2) Q fun H3 e3 => q H3 (e2.trans e3))
theorem evp_ifN {tc : TT} {P : V → Hp → Prop} (h : EvT tc σ H true) (ha : EvP te σ H P) : EvP (tIf tc te tNevE) σ H P := fun H1 e Q q => h H1 e _ fun H2 e2 => iteT (ha H2 (e.trans e2) Q fun v H3 e3 p => q v H3 (e2.trans e3) p)
theorem evp_if {tc : TT} {P : V → Hp → Prop} {b : Bool} (h : EvT tc σ H b) (h1 : b = true → EvP te σ H P) (h2 : b = false → EvP tb σ H P) : EvP (tIf tc te tb) σ H P := fun H1 e Q q => h H1 e _ fun H2 e2 => by
  cases b with
  | true => exact iteT (h1 rfl H2 (e.trans e2) Q fun v H3 e3 p => q v H3 (e2.trans e3) p)
  | false => exact iteF (h2 rfl H2 (e.trans e2) Q fun v H3 e3 p => q v H3 (e2.trans e3) p)
/-- a method that hands back something of which R is known -/
theorem evp_mcal {P : List V → Hp → Prop} {R : V → Hp → Prop} (h : Ev te σ H (.ref r)) (hi : H r = some (.ins C dx fs)) (hm : fs.lookup m = none) (ha : EvAP t σ H P) (k : ∀ vs H1 Q, Ex H H1 → P vs H1 → (∀ v H2, Ex H1 H2 → R v H2 → Q v H2) → sp (.ref r :: vs) H1 Q E) : EvP (tMeth C m sp [] E te t) σ H R := fun H1 e Q q =>
  h H1 e _ fun H2 e2 => ⟨r, dx, fs, rfl, (e.trans e2) _ _ hi, hm, ha H2 (e.trans e2) _ fun vs H3 e3 p => by
    rw [List.append_nil]
    exact k vs H3 Q ((e.trans e2).trans e3) p fun v H4 e4 hr => q v H4 ((e2.trans e3).trans e4) hr⟩
/-- a call that hands back something of which R is known -/
theorem evp_cal {P : List V → Hp → Prop} {R : V → Hp → Prop} (ha : EvAP t σ H P) (k : ∀ vs H1 Q, Ex H H1 → P vs H1 → (∀ v H2, Ex H1 H2 → R v H2 → Q v H2) → sp vs H1 Q E) : EvP (tCall sp [] E t) σ H R := fun H1 e Q q =>
  ha H1 e _ fun vs H3 e3 p => by
    rw [List.append_nil]
    exact k vs H3 Q (e.trans e3) p fun v H4 e4 hr => q v H4 (e3.trans e4) hr
end
end My

set_option Elab.async false
set_option linter.all false
set_option maxRecDepth 100000
set_option maxHeartbeats 4000000
/-! things that all laws' texts use: texts in heaps, data without lists, draws, sameness. -/
namespace My
open PySem PySem.Spec PyProof.Rows L2 Evl
def txs (ps : List (List Nat)) : List V := ps.map fun p => V.str (tx p)
theorem txs_len (ps : List (List Nat)) : (txs ps).length = ps.length := by unfold txs; rw [List.length_map]
theorem str_dec {a b : List Nat} : decide (V.str (tx a) = V.str (tx b)) = decide (a = b) := decide_eq_decide.mpr ⟨fun h => tx_inj (V.str.inj h), fun h => by rw [h]⟩
theorem head_get {l : List Nat} (h : l ≠ []) : l[0]? = some (l.headD 0) := by
  cases l with
  | nil => exact absurd rfl h
  | cons a r => rfl
theorem head_dec {c d : Nat} : decide (V.str (tx [c]) = V.str (tx [d])) = decide (c = d) := decide_eq_decide.mpr ⟨fun h => (List.cons.inj (tx_inj (V.str.inj h))).1, fun h => by rw [h]⟩
theorem txs_get {ps : List L} {i : Nat} {p : L} (h : ps[i]? = some p) : (txs ps)[i]? = some (.str (tx p)) := by
  unfold txs
  rw [List.getElem?_map, h]
  rfl
theorem txs_get' {ps : List L} {i : Nat} {v : V} (h : (txs ps)[i]? = some v) : v = .str (tx (ps.getD i [])) ∧ i < ps.length ∧ ps[i]? = some (ps.getD i []) := by
  unfold txs at h
  rw [List.getElem?_map] at h
  obtain ⟨p, hp, rfl⟩ := Option.map_eq_some_iff.mp h
  have hl := (List.getElem?_eq_some_iff.mp hp).1
  rw [List.getD_eq_getElem?_getD, hp]
  exact ⟨rfl, hl, rfl⟩
theorem getD_some {α : Type} {ps : List α} {i : Nat} {d : α} (h : i < ps.length) : ps[i]? = some (ps.getD i d) := by
  rw [List.getD_eq_getElem?_getD, List.getElem?_eq_getElem h]
  rfl
theorem txs_drop (ps : List L) (n : Nat) : txs (ps.drop n) = (txs ps).drop n := by unfold txs; rw [List.map_drop]
theorem txs_flat (ps : List L) : (txs ps).all flatV = true := by
  unfold txs
  rw [List.all_map, List.all_eq_true]
  intro x _
  rfl
theorem txs_in (l : L) (ps : List L) : inV (.str (tx l)) (txs ps) = decide (l ∈ ps) := by
  unfold inV txs
  rw [List.any_map]
  induction ps with
  | nil => rfl
  | cons p r ih =>
    rw [List.any_cons, ih]
    show ((tx p == tx l) || _) = _
    by_cases h : l = p
    · subst h
      rw [show (tx l == tx l) = true from beq_self_eq_true _, Bool.true_or, decide_eq_true (by simp)]
    · rw [show (tx p == tx l) = false from beq_eq_false_iff_ne.mpr fun z => h (tx_inj z).symm, Bool.false_or]
      exact decide_eq_decide.mpr (by simp [h])
theorem el_is {σ : L2.St} {H : Hp} {te : TE} {xs ys : List V} (h : EvL te σ H xs) (e : xs = ys) : EvL te σ H ys := by
  rw [← e]
  exact h
mutual
def NoL : D → Prop
  | .tup ds => NoLL ds
  | .lst _ => False
  | .non => True
  | .bl _ => True
  | .int _ => True
  | .str _ => True
def NoLL : List D → Prop
  | [] => True
  | d :: ds => NoL d ∧ NoLL ds
end
mutual
theorem Rep.keepT {H H1 : Hp} (k : ∀ a us, H a = some (.tup us) → H1 a = some (.tup us)) : ∀ {v : V} {d : D}, NoL d → Rep H v d → Rep H1 v d
  | _, _, _, .non => .non
  | _, _, _, .bl b => .bl b
  | _, _, _, .int i => .int i
  | _, _, _, .str l => .str l
  | _, .tup ds, h, .tup q r => .tup (k _ _ q) (Reps.keepT k (by rw [NoL] at h; exact h) r)
  | _, .lst ds, h, .lst q r => (by rw [NoL] at h; exact h.elim)
theorem Reps.keepT {H H1 : Hp} (k : ∀ a us, H a = some (.tup us) → H1 a = some (.tup us)) : ∀ {vs : List V} {ds : List D}, NoLL ds → Reps H vs ds → Reps H1 vs ds
  | _, _, _, .nil => .nil
  | _, _ :: _, h, .cons r rs => .cons (Rep.keepT k (by rw [NoLL] at h; exact h.1) r) (Reps.keepT k (by rw [NoLL] at h; exact h.2) rs)
end
theorem nol_app : ∀ {a b : List D}, NoLL a → NoLL b → NoLL (a ++ b)
  | [], _, _, h => h
  | d :: a, b, h, g => by
    rw [NoLL] at h
    show NoLL (d :: (a ++ b))
    rw [NoLL]
    exact ⟨h.1, nol_app h.2 g⟩
theorem nol_all {α : Type} {f : α → D} : ∀ {l : List α}, (∀ x ∈ l, NoL (f x)) → NoLL (l.map f)
  | [], _ => by rw [List.map_nil, NoLL]; trivial
  | x :: l, h => by
    rw [List.map_cons, NoLL]
    exact ⟨h x (by simp), nol_all fun y hy => h y (by simp [hy])⟩
theorem reps_txs (H : Hp) : ∀ ps : List L, Reps H (txs ps) (ps.map .str)
  | [] => .nil
  | p :: ps => .cons (.str p) (reps_txs H ps)
section
variable {K : PySem.W.Frag} {σ : L2.St} {H : Hp} {ta tb te tl td ty : TE} {tt : TT} {xs ys : List V} {a p d : Addr} {kvs : List (Key × V)} {l : List Nat} {D : Ends} {tu tz : TS}
theorem ne_kind {H : Hp} {a b : Addr} {o1 o2 : HO} (ha : H a = some o1) (hb : H b = some o2) (h : o1 ≠ o2) : a ≠ b := fun e => by
  rw [e, hb] at ha
  exact h (Option.some.inj ha).symm
theorem ev_word {σ : L2.St} {H : Hp} {a : Addr} {ws : List L} {i : Nat} (ha : Ev ta σ H (.ref a)) (hb : Ev tb σ H (.int (i : Int))) (hS : SqL K H a (txs ws)) (h : i < ws.length) : Ev (tOp (rIxL K) ta tb) σ H (.str (tx (ws.getD i []))) := ev_ixL ha hb hS (txs_get (getD_some h))
theorem ev_eqS {a b : L} (ha : Ev ta σ H (.str (tx a))) (hb : Ev tb σ H (.str (tx b))) : Ev (tOp rEq ta tb) σ H (.bl (decide (a = b))) := ev_is (ev_op ha hb (rv_eq rfl)) (congrArg V.bl str_dec)
def EvW (te : TE) (σ : L2.St) (H : Hp) (xs : List V) : Prop := ∀ H1, Ex H H1 → ∀ Q : VK, (∀ p H2, Ex H1 H2 → H2 p = some (.tup xs) → Q (.ref p) H2) → te σ H1 Q
theorem ev_dni (h : Ev td σ H (.ref d)) (hd : H d = some (.dK kvs)) (hk : Ev ty σ H (.str (tx l))) : Ev (tDNotIn ty td) σ H (.bl (!(valV kvs (.inr (tx l))).isSome)) := fun H1 e Q q =>
  hk H1 e _ fun H2 e2 => h H2 (e.trans e2) _ fun H3 e3 => ⟨d, _, rfl, DGet.k (k := Sum.inr (tx l)) (((e.trans e2).trans e3) d _ hd), q H3 (e2.trans e3)⟩
theorem r_bm0 {K : PySem.W.Frag} {σ : L2.St} {H : Hp} {Q : VK} {T : String} {r : V → List V → Hp → VK → Prop} {to : TE} (h : to σ H fun x H1 => tyV K T x H1 ∧ r x [] H1 Q) : tBM0 K T r to σ H Q := h
theorem ev_inN {x : V} (ha : Ev ta σ H x) (hb : EvL tb σ H xs) (hx : flatV x = true) (hf : xs.all flatV = true) : Ev (tOp (rIn K false) ta tb) σ H (.bl (inV x xs)) := fun H1 e Q q =>
  ha H1 e _ fun H2 e2 => hb H2 (e.trans e2) _ fun p H3 _ e3 h3 => rv_isL (sq_of h3) hx hf H3 (Ex.refl _) _ fun H4 e4 => q H4 ((e2.trans e3).trans e4)
theorem G.kt {p sc : Addr} {ns : List Int} {H' : Hp} (hP : Pool K H p sc ns) (g : G K p sc ns H H') : ∀ c us, H c = some (.tup us) → H' c = some (.tup us) := fun c us h => g.1 c _ (fun e => hP.noT us (by rw [← e]; exact h)) h
theorem G.back {p sc : Addr} {ns : List Int} {H1 : Hp} {a : Addr} (g : G K p sc ns H H1) (h : H1 a = none) : H a = none := by
  cases e : H a with
  | none => rfl
  | some o =>
    by_cases ha : a = p
    · obtain ⟨pl, r, f, hp, _⟩ := g.2
      rw [ha, hp] at h
      exact nomatch h
    · rw [g.1 a o ha e] at h
      exact nomatch h
theorem r_ifS {t : TT} {tu tw tz : TS} {D : Ends} {σ : L2.St} {H : Hp} (h : t σ H fun b H1 => if b = true then tu { D with nx := tz D } σ H1 else tw { D with nx := tz D } σ H1) : tSeq (tIfS t tu tw) tz D σ H := h
theorem r_or {t u : TT} {σ : L2.St} {H : Hp} {Q : Bool → Hp → Prop} (h : t σ H fun c H1 => if c = true then Q true H1 else u σ H1 Q) : tOr t u σ H Q := h
theorem r_lst {ta : TA} {σ : L2.St} {H : Hp} {Q : VK} (h : ta σ H fun vs H1 => vs.length ≤ sizeLine ∧ ∀ p, H1 p = none → Q (.ref p) (upd H1 p (.lst vs))) : tLst ta σ H Q := h
end
section
variable {K : PySem.W.Frag} {σ : L2.St} {H : Hp} {te tl : TE} {tt : TT} {ds : List D}
theorem ed_tupL (h : EvD te σ H (.lst ds)) (hd : NoLL ds) : EvD (tCB (rTupS K) (tCons te tNil)) σ H (.tup ds) := fun H1 e Q q =>
  h H1 e _ fun v H2 e2 r2 => by
    cases r2 with
    | @lst a xs _ ha rs =>
      exact ⟨a, xs, rfl, .inl ⟨sq_of ha, fun l hl => q (.ref l) _ (e2.trans (Ex.new hl)) (.tup upd_same (rs.mono (Ex.new hl)))⟩⟩
theorem ed_lcM {α : Type} {j : Nat} {vs : List Nat} (A B : α → D) (f : α → Bool) {l : List α} (h : EvD tl σ H (.lst (l.map A))) (hz : l.length ≤ 40000) (hw : ∀ x, wipe ((wipe σ vs).set j (some x)) vs = wipe σ vs) (hA : ∀ x ∈ l, NoL (A x)) (hB : ∀ x ∈ l, NoL (B x))
    (ht : ∀ x z H1, Ex H H1 → z ∈ l → Rep H1 x (A z) → EvT tt ((wipe σ vs).set j (some x)) H1 (f z)) (he : ∀ x z H1, Ex H H1 → z ∈ l → Rep H1 x (A z) → f z = true → EvD te ((wipe σ vs).set j (some x)) H1 (B z)) : EvD (tLc (iList K tl) (gName j) tt te vs) σ H (.lst ((l.filter f).map B)) := by
  intro H0 e Q q
  refine h H0 e _ fun v H1 e1 r1 => ?_
  cases r1 with
  | @lst a xs _ ha rs =>
    refine ⟨a, rfl, ⟨xs, sq_of ha⟩, fun Dl hD => ?_⟩
    have hxl := rs.len
    rw [List.length_map] at hxl
    refine ⟨fun i m H' => m = xs.length - i ∧ i ≤ xs.length ∧ Ex H1 H' ∧ ∃ us, H' Dl = some (.lst us) ∧ us.length ≤ i ∧ Reps H' us (((l.take i).filter f).map B), ⟨xs.length, rfl, Nat.zero_le _, Ex.new hD, [], upd_same, Nat.le_refl 0, .nil⟩, ?_⟩
    rintro i m H' ⟨rfl, hi, ex, us, hl, hul, hr⟩
    by_cases hlt : i < xs.length
    · have gx : xs[i]? = some xs[i] := List.getElem?_eq_getElem hlt
      obtain ⟨d, hd, hrep⟩ := rs.get' gx
      rw [List.getElem?_map] at hd
      obtain ⟨z, hz', rfl⟩ := Option.map_eq_some_iff.mp hd
      have hzm := List.mem_of_getElem? hz'
      refine .inr ⟨⟨xs, xs[i], sq_of (ex a _ ha), gx⟩, fun H' => Ex H1 H' ∧ ∃ us, H' Dl = some (.lst us) ∧ us.length ≤ i + 1 ∧ Reps H' us (((l.take (i + 1)).filter f).map B), fun H2 p => ⟨xs.length - (i + 1), by omega, rfl, hlt, p⟩, fun x H2 y => ?_⟩
      obtain ⟨rfl, y⟩ := y
      have ex' : x = xs[i] := Option.some.inj ((y xs (sq_of (ex a _ ha))).symm.trans gx)
      subst ex'
      refine ⟨hw _, ?_⟩
      refine ht _ z H1 (e.trans e1) hzm hrep _ ex _ fun H3 e3 => ?_
      have E3 := ex.trans e3
      have nB : NoLL (((l.take i).filter f).map B) := nol_all fun x hx => hB x (List.mem_of_mem_take (List.mem_filter.mp hx).1)
      rw [List.take_add_one, hz', List.filter_append]
      cases hf : f z with
      | false =>
        rw [if_neg (by decide)]
        refine ⟨E3, us, e3 Dl _ hl, by omega, ?_⟩
        rw [show (some z).toList.filter f = [] by simp [hf], List.append_nil]
        exact hr.mono e3
      | true =>
        rw [if_pos rfl]
        refine he _ z H1 (e.trans e1) hzm hrep hf _ E3 _ fun v H4 e4 r4 => ⟨us, e4 Dl _ (e3 Dl _ hl), sz_lt (by omega), (E3.trans e4).mut hD, us ++ [v], upd_same, by rw [List.length_append]; show _ + 1 ≤ _; omega, ?_⟩
        have kt : ∀ b ws, H4 b = some (.tup ws) → upd H4 Dl (.lst (us ++ [v])) b = some (.tup ws) := fun b ws hb => by
          rw [upd_ne (ne_kind hb (e4 Dl _ (e3 Dl _ hl)) (fun z => nomatch z))]
          exact hb
        rw [show (some z).toList.filter f = [z] by simp [hf], List.map_append]
        exact (Reps.keepT kt nB (hr.mono (e3.trans e4))).append (.cons (Rep.keepT kt (hB z hzm) r4) .nil)
    · have e0 : i = xs.length := by omega
      subst e0
      rw [List.take_of_length_le (by omega)] at hr
      exact .inl ⟨⟨xs, sq_of (ex a _ ha), Nat.le_refl _⟩, q (.ref Dl) H' (e1.trans ex) (.lst hl hr)⟩
end
section
variable {K : PySem.W.Frag} {σ : L2.St} {H : Hp} {Q : VK} {p sc : Addr} {ns : List Int} {D : Ends} {tu tz : TS} {ta : TA} {te : TE}
theorem r_zero {E : XK} {ip n : Nat} (hP : Pool K H p sc ns) (hv : σ[ip]? = some (some (.ref p))) (h0 : 0 < n) (hn : n < 1000) (R : List V → Hp → Prop) (h : ∀ (m : Nat) H1, 0 ≤ m → m ≤ n - 1 → G K p sc ns H H1 → R [.int (m : Int)] H1) :
    tCons (tCall (sp_draw K) [] E (tCons (tVar ip) (tCons (tC (.int (n : Int))) tNil))) tNil σ H R :=
  r_cons (r_draw hP (ea_cons (ev_v hv) (ea_cons (ev_cn n) ea_nil)) h0 (by omega) fun v H1 hv g => r_nil (h v H1 (Nat.zero_le _) (by omega) g))
theorem r_drop {te : TE} (h : te σ H fun _ H1 => tz D σ H1) : tSeq (tDrop te) tz D σ H := h
theorem r_dropE {te : TE} (h : te σ H fun _ H1 => D.nx σ H1) : tDrop te D σ H := h
theorem r_bm {to : TE} {t : TA} {T : String} {r : V → List V → Hp → VK → Prop} (h : to σ H fun x H1 => tyV K T x H1 ∧ t σ H1 fun xs H2 => r x xs H2 Q) : tBM K T r to t σ H Q := h
/-- a loop as often as is drawn -/
theorem s_forG {j : Nat} (M : Nat) (hM : M ≤ 1000) (ht : ∀ R : List V → Hp → Prop, (∀ (m : Nat) H1, 0 ≤ m → m ≤ M → G K p sc ns H H1 → R [.int (m : Int)] H1) → ta σ H R) (Pv : Nat → L2.St → Hp → Prop) (h0 : ∀ H1, G K p sc ns H H1 → Pv 0 σ H1)
    (hs : ∀ (i : Nat) σ' H', i < M → Pv i σ' H' → tu { D with nx := Pv (i + 1), ct := Pv (i + 1), bk := D.nx } (σ'.set j (some (.int (i : Int)))) H') (hd : ∀ i σ' H', i ≤ M → Pv i σ' H' → D.nx σ' H') : tFor (iRng1 ta) (gName j) tu D σ H :=
  ht _ fun m H1 _ hm g => ⟨m, rfl, by omega, by omega, by
    rw [Int.toNat_natCast]
    exact for_range (n := m) Pv (h0 H1 g) (fun i σ' H' hi p => by
      have e0 : (0 : Int) + (i : Int) = (i : Int) := Int.zero_add _
      show tu _ (σ'.set j (some (.int ((0 : Int) + (i : Int))))) H'
      rw [e0]
      exact hs i σ' H' (by omega) p) fun σ' H' p => hd m σ' H' hm p⟩
theorem q_forG {j : Nat} (M : Nat) (hM : M ≤ 1000) (ht : ∀ R : List V → Hp → Prop, (∀ (m : Nat) H1, 0 ≤ m → m ≤ M → G K p sc ns H H1 → R [.int (m : Int)] H1) → ta σ H R) (Pv : Nat → L2.St → Hp → Prop) (h0 : ∀ H1, G K p sc ns H H1 → Pv 0 σ H1)
    (hs : ∀ (i : Nat) σ' H', i < M → Pv i σ' H' → tu { D with nx := Pv (i + 1), ct := Pv (i + 1), bk := tz D } (σ'.set j (some (.int (i : Int)))) H') (hd : ∀ i σ' H', i ≤ M → Pv i σ' H' → tz D σ' H') : tSeq (tFor (iRng1 ta) (gName j) tu) tz D σ H :=
  s_forG (D := { D with nx := tz D }) M hM ht Pv h0 hs hd
end
/-! sameness, of equal data -/
mutual
def Wid : D → Prop
  | .tup ds => ds.length ≤ 10000 ∧ WidL ds
  | .lst ds => ds.length ≤ 10000 ∧ WidL ds
  | _ => True
def WidL : List D → Prop
  | [] => True
  | d :: ds => Wid d ∧ WidL ds
end
theorem WidL_get : ∀ {ds : List D} {i : Nat} {d : D}, WidL ds → ds[i]? = some d → Wid d
  | [], _, _, _, h => nomatch h
  | d :: ds, 0, _, p, h => by cases h; rw [WidL] at p; exact p.1
  | d :: ds, i + 1, _, p, h => by rw [WidL] at p; exact WidL_get (ds := ds) (i := i) p.2 h
def isTD : D → Bool
  | .tup _ => true
  | _ => false
def isLD : D → Bool
  | .lst _ => true
  | _ => false
def isSD : D → Bool
  | .str _ => true
  | _ => false
def isID : D → Bool
  | .int _ => true
  | .bl _ => true
  | _ => false
def isBD : D → Bool
  | .bl _ => true
  | _ => false
theorem kTD (d : D) : kitB (tyD d) "tuple" = some (isTD d) := by cases d <;> rfl
theorem kLD (d : D) : kitB (tyD d) "list" = some (isLD d) := by cases d <;> rfl
theorem kSD (d : D) : kitB (tyD d) "str" = some (isSD d) := by cases d <;> rfl
theorem kID (d : D) : kitB (tyD d) "int" = some (isID d) := by cases d <;> rfl
theorem kBD (d : D) : kitB (tyD d) "bool" = some (isBD d) := by cases d <;> rfl
theorem kDD (d : D) : kitB (tyD d) "dict" = some false := by cases d <;> rfl
section
variable {K : PySem.W.Frag}
theorem ev_isN {te : TE} {σ : L2.St} {H : Hp} {v : V} (h : Ev te σ H v) : Ev (tOp (fun x y H Q => y = .non ∧ Q (.bl (decide (x = .non))) H) te (tC .non)) σ H (.bl (decide (v = .non))) := fun H1 e Q q =>
  h H1 e _ fun H2 e2 => ⟨rfl, q H2 e2⟩
theorem ev_isBA {te : TE} {σ : L2.St} {H : Hp} {v : V} {b : Bool} (h : Ev te σ H v) : Ev (tOp rIsBA te (tC (.bl b))) σ H (.bl (decide (v = .bl b))) := fun H1 e Q q =>
  h H1 e _ fun H2 e2 => ⟨b, rfl, q H2 e2⟩
theorem ev_isNv {i : Nat} {c : Bool} {σ : L2.St} {H : Hp} {v : V} (h : σ[i]? = some (some v)) (hc : decide (v = .non) = c) : Ev (tOp (fun x y H Q => y = .non ∧ Q (.bl (decide (x = .non))) H) (tVar i) (tC .non)) σ H (.bl c) := ev_is (ev_isN (ev_v h)) (by rw [hc])
theorem ev_isBv {i : Nat} {c b : Bool} {σ : L2.St} {H : Hp} {v : V} (h : σ[i]? = some (some v)) (hc : decide (v = .bl b) = c) : Ev (tOp rIsBA (tVar i) (tC (.bl b))) σ H (.bl c) := ev_is (ev_isBA (ev_v h)) (by rw [hc])
theorem ev_lenQ {σ : L2.St} {H : Hp} {ta : TE} {p : Addr} {xs : List V} (ha : Ev ta σ H (.ref p)) (h : SqL K H p xs ∨ SqT K H p xs) : Ev (tCB (rLenS K) (tCons ta tNil)) σ H (.int (xs.length : Int)) := by
  rcases h with h | h
  · exact ev_len ha h
  · exact ev_lenT ha h
theorem rv_ixQ {H : Hp} {p : Addr} {xs : List V} {i : Nat} {v : V} (h : SqL K H p xs ∨ SqT K H p xs) (ha : xs[i]? = some v) : RV (rIx K) (.ref p) (.int (i : Int)) H v := by
  rcases h with h | h
  · exact fun H1 e Q q => .inl (rv_ixLn h ha H1 e Q q)
  · exact fun H1 e Q q => .inr (.inl (rv_ixTn h ha H1 e Q q))
theorem ex_q {H H' : Hp} {p : Addr} {xs : List V} (e : Ex H H') (h : SqL K H p xs ∨ SqT K H p xs) : SqL K H' p xs ∨ SqT K H' p xs := h.imp (ex_l e) (ex_t e)
end
end My

set_option Elab.async false
set_option linter.all false
set_option maxRecDepth 100000
set_option maxHeartbeats 4000000
/-! promises of data; truth of tuples and lists; names in a dict or a list. -/
namespace My
open PySem PySem.Spec PyProof.Rows L2 Evl
/-- a promise: something that stands for a datum -/
def spD (ok : List V → Hp → D → Prop) : Sp := fun vs H Q _ => ∃ d, ok vs H d ∧ ∀ v H', Ex H H' → Rep H' v d → Q v H'
theorem reps_strs {H : Hp} : ∀ {vs : List V} {ps : List L}, Reps H vs (ps.map .str) → vs = txs ps
  | _, [], h => by cases h; rfl
  | _, p :: ps, h => by
    rw [List.map_cons] at h
    cases h with
    | cons h1 r1 =>
      cases h1
      rw [reps_strs r1]
      rfl
theorem rep_strs {H : Hp} {v : V} {ps : List L} (h : Rep H v (.tup (ps.map .str))) : ∃ a, v = .ref a ∧ H a = some (.tup (txs ps)) := by
  cases h with
  | tup e r => exact ⟨_, rfl, by rw [← reps_strs r]; exact e⟩
theorem rep_txs {H : Hp} {a : Addr} {ps : List L} (h : H a = some (.tup (txs ps))) : Rep H (.ref a) (.tup (ps.map .str)) := .tup h (reps_txs H ps)
section
variable {K : PySem.W.Frag} {σ : L2.St} {H H' : Hp} {ta : TA} {te tb : TE} {tt : TT} {vs xs : List V} {v : V} {a : Addr} {d : D} {E : Ends} {tz : TS} {ok : List V → Hp → D → Prop}
theorem ed_calP {P : List V → Hp → Prop} (h : EvAP ta σ H P) (hk : ∀ vs H1, Ex H H1 → P vs H1 → ok vs H1 d) : EvD (tCall (spD ok) [] E0 ta) σ H d := fun H1 e Q q =>
  h H1 e _ fun vs H2 e2 p => by
    rw [List.append_nil]
    exact ⟨d, hk vs H2 (e.trans e2) p, fun v H3 e3 r => q v H3 (e2.trans e3) r⟩
theorem ed_cal (h : EvA ta σ H vs) (hk : ∀ H1, Ex H H1 → ok vs H1 d) : EvD (tCall (spD ok) [] E0 ta) σ H d := fun H1 e Q q =>
  h H1 e _ fun H2 e2 => by
    rw [List.append_nil]
    exact ⟨d, hk H2 (e.trans e2), fun v H3 e3 r => q v H3 (e2.trans e3) r⟩
theorem s_retD (h : EvD te σ H d) (k : ∀ v H1, Ex H H1 → Rep H1 v d → E.rt v H1) : tRet te E σ H := h H (Ex.refl H) _ k
theorem q_asgD {i : Nat} (h : EvD te σ H d) (k : ∀ v H1, Ex H H1 → Rep H1 v d → tz E (σ.set i (some v)) H1) : tSeq (tAsg te (gName i)) tz E σ H := h H (Ex.refl H) _ k
theorem ed_is {d2 : D} (h : EvD te σ H d) (e : d = d2) : EvD te σ H d2 := by
  rw [← e]
  exact h
theorem ed_if {tc : TT} {b : Bool} (h : EvT tc σ H b) (h1 : b = true → EvD te σ H d) (h2 : b = false → EvD tb σ H d) : EvD (tIf tc te tb) σ H d := evp_if h h1 h2
/-- a new tuple of texts, as data -/
theorem ed_txs {ps : List L} (h : EvU te σ H (txs ps)) : EvD te σ H (.tup (ps.map .str)) := fun H1 e Q q => h H1 e _ fun p H2 _ e2 h2 => q _ H2 e2 (rep_txs h2)
def IsT (K : PySem.W.Frag) (xs : List V) : V → Hp → Prop := fun v H => ∃ a, v = .ref a ∧ SqT K H a xs
theorem evt_k (h : Ev te σ H (.ref a)) (hS : SqT K H a xs) : EvP te σ H (IsT K xs) := fun H1 e Q q => h H1 e _ fun H2 e2 => q _ H2 e2 ⟨a, rfl, ex_t (e.trans e2) hS⟩
theorem evt_n (h : EvU te σ H xs) : EvP te σ H (IsT K xs) := fun H1 e Q q => h H1 e _ fun p H2 _ e2 h2 => q _ H2 e2 ⟨p, rfl, st_of h2⟩
theorem et_truT (h : EvP te σ H (IsT K xs)) : EvT (fun σ H Q => te σ H fun x H' => ∃ k, TruV K x H' k ∧ Q k H') σ H (!xs.isEmpty) := fun H1 e Q q =>
  h H1 e _ fun v H2 e2 ⟨a, hv, hS⟩ => by
    subst hv
    exact ⟨_, Or.inr (Or.inl ⟨xs, hS, rfl⟩), q H2 e2⟩
theorem et_truL (h : Ev te σ H (.ref a)) (hS : SqL K H a xs) : EvT (fun σ H Q => te σ H fun x H' => ∃ k, TruV K x H' k ∧ Q k H') σ H (!xs.isEmpty) := fun H1 e Q q =>
  h H1 e _ fun H2 e2 => ⟨_, Or.inl ⟨xs, ex_l (e.trans e2) hS, rfl⟩, q H2 e2⟩
theorem el_lcR0 {j : Nat} {ws : List Nat} {n : Int} (h : EvA ta σ H [.int n]) (hn : -1000 ≤ n ∧ n ≤ 0) : EvL (tLc (iRng1 ta) (gName j) tt te ws) σ H [] := fun H0 e Q q => h H0 e _ fun H1 e1 => ⟨n, rfl, by omega, by omega, fun Dl hD => by
  rw [show n.toNat = 0 by omega]
  exact lc_range (lo := 0) (n := 0) (fun _ H' => H1 Dl = none ∧ Ex H1 H' ∧ H' Dl = some (.lst [])) ⟨hD, Ex.new hD, upd_same⟩ (fun i H' hi => absurd hi (Nat.not_lt_zero i)) fun H' p => q Dl H' (fresh_back e1 p.1) (e1.trans p.2.1) p.2.2⟩
/-- names: the keys of a dict, or a list -/
def keyT (k : L) : Key := Sum.inr (tx k)
def NmAt (K : PySem.W.Frag) (H : Hp) (v : V) (ks : List L) : Prop := ∃ a, v = .ref a ∧ ((∃ kvs : List (Key × V), H a = some (.dK kvs) ∧ kvs.map (·.1) = ks.map keyT) ∨ SqL K H a (txs ks))
theorem NmAt.mono {ks : List L} (e : Ex H H') (h : NmAt K H v ks) : NmAt K H' v ks := by
  obtain ⟨a, hv, h⟩ := h
  refine ⟨a, hv, ?_⟩
  rcases h with ⟨kvs, h1, h2⟩ | h
  · exact .inl ⟨kvs, e _ _ h1, h2⟩
  · exact .inr (ex_l e h)
theorem keyT_in {kvs : List (Key × V)} {ks : List L} (h : kvs.map (·.1) = ks.map keyT) (k : L) : (valV kvs (keyT k)).isSome = decide (k ∈ ks) := by
  rw [← valV_any, Bool.eq_iff_iff, List.any_eq_true, decide_eq_true_eq]
  constructor
  · rintro ⟨kv, hm, e⟩
    have e := of_decide_eq_true e
    have h2 : keyT k ∈ ks.map keyT := by
      rw [← h, ← e]
      exact List.mem_map.mpr ⟨kv, hm, rfl⟩
    obtain ⟨j, hj, e2⟩ := List.mem_map.mp h2
    rw [← inr_tx.mp e2]
    exact hj
  · intro hk
    have h2 : keyT k ∈ kvs.map (·.1) := by
      rw [h]
      exact List.mem_map.mpr ⟨k, hk, rfl⟩
    obtain ⟨kv, hm, e⟩ := List.mem_map.mp h2
    exact ⟨kv, hm, decide_eq_true e⟩
/-- two tuples as data, put together -/
theorem ed_catU {ds es : List D} (ha : EvD te σ H (.tup ds)) (hb : EvD tb σ H (.tup es)) (hz : ds.length + es.length ≤ 100000) : EvD (tOp (rCatA K) te tb) σ H (.tup (ds ++ es)) := fun H1 e Q q =>
  ha H1 e _ fun v H2 e2 r2 => hb H2 (e.trans e2) _ fun u H3 e3 r3 => by
    cases r2 with
    | @tup a xs _ h2 s2 =>
      cases r3 with
      | @tup b ys _ h3 s3 =>
        have s2 := s2.mono e3
        refine ⟨a, b, xs, ys, rfl, rfl, st_of (e3 _ _ h2), st_of h3, sz_of (by rw [s2.len, s3.len]; exact hz), fun hx => ?_, fun _ hy => ?_, fun _ _ p hp => ?_⟩
        · subst hx
          cases s2
          exact q _ H3 (e2.trans e3) (.tup h3 s3)
        · subst hy
          cases s3
          rw [List.append_nil] at q
          exact q _ H3 (e2.trans e3) (.tup (e3 _ _ h2) s2)
        · exact q _ _ ((e2.trans e3).trans (Ex.new hp)) (.tup upd_same ((s2.mono (Ex.new hp)).append (s3.mono (Ex.new hp))))
/-- two lists as data, put together -/
theorem ed_catL {ds es : List D} (ha : EvD te σ H (.lst ds)) (hb : EvD tb σ H (.lst es)) (hz : ds.length + es.length ≤ 100000) : EvD (tOp rCat te tb) σ H (.lst (ds ++ es)) := fun H1 e Q q =>
  ha H1 e _ fun v H2 e2 r2 => hb H2 (e.trans e2) _ fun u H3 e3 r3 => by
    cases r2 with
    | @lst a xs _ h2 s2 =>
      cases r3 with
      | @lst b ys _ h3 s3 =>
        have s2 := s2.mono e3
        exact ⟨a, b, xs, ys, rfl, rfl, e3 _ _ h2, h3, sz_of (by rw [s2.len, s3.len]; exact hz), fun p hp => q _ _ ((e2.trans e3).trans (Ex.new hp)) (.lst upd_same ((s2.mono (Ex.new hp)).append (s3.mono (Ex.new hp))))⟩
/-- a comprehension over a text, items that are data -/
theorem ed_lcS {tl : TE} {j : Nat} {ws : List Nat} {l : List Nat} (B : Nat → D) (h : Ev tl σ H (.str (tx l))) (hz : l.length ≤ 40000) (hw : ∀ x, wipe ((wipe σ ws).set j (some x)) ws = wipe σ ws) (hB : ∀ c ∈ l, NoL (B c))
    (he : ∀ c H1, Ex H H1 → c ∈ l → EvD te ((wipe σ ws).set j (some (.str (tx [c])))) H1 (B c)) : EvD (tLc (iStr tl) (gName j) tYes te ws) σ H (.lst (l.map B)) := by
  intro H0 e Q q
  refine h H0 e _ fun H1 e1 => ⟨tx l, rfl, fun Dl hD => ?_⟩
  have hsz : (tx l).cps.size = l.length := List.size_toArray
  refine ⟨fun i m H' => m = l.length - i ∧ i ≤ l.length ∧ Ex H1 H' ∧ ∃ us, H' Dl = some (.lst us) ∧ Reps H' us ((l.take i).map B), ⟨l.length, rfl, Nat.zero_le _, Ex.new hD, [], upd_same, .nil⟩, ?_⟩
  rintro i m H' ⟨rfl, hi, ex, us, hl, hr⟩
  by_cases hlt : i < l.length
  · refine .inr ⟨show i < _ by rw [hsz]; exact hlt, fun H' => Ex H1 H' ∧ ∃ us, H' Dl = some (.lst us) ∧ Reps H' us ((l.take (i + 1)).map B), fun H2 p => ⟨l.length - (i + 1), by omega, rfl, hlt, p⟩, fun x H2 y => ?_⟩
    obtain ⟨rfl, c, hc, rfl⟩ := y
    have hc' : l[i]? = some c := by simpa [tx] using hc
    refine ⟨hw _, ?_⟩
    refine tyes_ ?_
    have hul : us.length ≤ l.length := by
      rw [hr.len, List.length_map, List.length_take]
      omega
    refine iteT (he c H1 (e.trans e1) (List.mem_of_getElem? hc') H2 ex _ fun v H3 e3 r3 => ⟨us, e3 Dl _ hl, sz_lt (by omega), (ex.trans e3).mut hD, us ++ [v], upd_same, ?_⟩)
    have kt : ∀ b zs, H3 b = some (.tup zs) → upd H3 Dl (.lst (us ++ [v])) b = some (.tup zs) := fun b zs hb => by
      rw [upd_ne (ne_kind hb (e3 Dl _ hl) (fun z => nomatch z))]
      exact hb
    rw [List.take_add_one, hc', List.map_append]
    exact (Reps.keepT kt (nol_all fun x hx => hB x (List.mem_of_mem_take hx)) (hr.mono e3)).append (.cons (Rep.keepT kt (hB c (List.mem_of_getElem? hc')) r3) .nil)
  · have e0 : i = l.length := by omega
    subst e0
    rw [List.take_of_length_le (Nat.le_refl _)] at hr
    exact .inl ⟨show _ ≤ _ by rw [hsz]; exact Nat.le_refl _, q (.ref Dl) H' (e1.trans ex) (.lst hl hr)⟩
end
/-! data as the kit's own plain data -/
mutual
def pyD : D → PyData
  | .non => .none
  | .bl b => .bool b
  | .int i => .int i
  | .str l => .str (tx l)
  | .tup ds => .tuple (pyDL ds)
  | .lst ds => .list (pyDL ds)
def pyDL : List D → List PyData
  | [] => []
  | d :: ds => pyD d :: pyDL ds
end
mutual
theorem dp_of {K : PySem.W.Frag} {H : Hp} : ∀ {v : V} {d : D}, Rep H v d → Dp K H v (pyD d)
  | _, _, .non => by rw [pyD]; exact .non
  | _, _, .bl b => by rw [pyD]; exact .bl b
  | _, _, .int i => by rw [pyD]; exact .int i
  | _, _, .str l => by rw [pyD]; exact .str _
  | _, _, .tup e r => by rw [pyD]; exact .tup (st_of e) (dps_of r)
  | _, _, .lst e r => by rw [pyD]; exact .lst (sq_of e) (dps_of r)
theorem dps_of {K : PySem.W.Frag} {H : Hp} : ∀ {vs : List V} {ds : List D}, Reps H vs ds → DpAll K H vs (pyDL ds)
  | _, _, .nil => by rw [pyDL]; exact .nil
  | _, _, .cons r rs => by rw [pyDL]; exact .cons (dp_of r) (dps_of rs)
end
theorem ev_eqDD {K : PySem.W.Frag} {σ : L2.St} {H : Hp} {ta tb : TE} {d e : D} (ha : EvD ta σ H d) (hb : EvD tb σ H e) (sd : SeqAt.shaped (pyD d) = true) (se : SeqAt.shaped (pyD e) = true) : Ev (tOp (rEqD K) ta tb) σ H (.bl (PyData.eqv (pyD d) (pyD e))) := fun H1 e1 Q q =>
  ha H1 e1 _ fun v H2 e2 r2 => hb H2 (e1.trans e2) _ fun u H3 e3 r3 => ⟨_, _, dp_of (r2.mono e3), dp_of r3, sd, se, q H3 (e2.trans e3)⟩
section
variable {K : PySem.W.Frag} {σ : L2.St} {H : Hp} {te tl : TE} {tt : TT} {v : V} {d : Addr} {kvs : List (Key × V)}
theorem ev_isiX {T T0 : String} {b : Bool} (h : Ev te σ H v) (ht : ∀ H1, Ex H H1 → TyX K H1 v (.type T0)) (hk : kitB T0 T = some b) : Ev (tCB (rIsi K) (tCons te (tCons (tC (.ty T)) tNil))) σ H (.bl b) := fun H1 e Q q =>
  h H1 e _ fun H2 e2 => ⟨v, .ty T, .type T0, .type T, b, rfl, .ty T, ht H2 (e.trans e2), kit_ty hk, q H2 e2⟩
theorem ty_dK (h : H d = some (.dK kvs)) : TyX K H (.ref d) (.type "dict") := .base (.dK h)
theorem ty_lst {xs : List V} (h : H d = some (.lst xs)) : TyX K H (.ref d) (.type "list") := .base (.lst h)
/-- what of a heap is seen while the dict at d is held -/
def Held (H : Hp) (d : Addr) (kvs : List (Key × V)) (H1 : Hp) : Prop := (∀ b o, b ≠ d → H b = some o → H1 b = some o) ∧ ∃ od, H1 d = some (.frz od (.dK kvs))
theorem Held.ex {H1 H2 : Hp} (h : Held H d kvs H1) (e : Ex H1 H2) : Held H d kvs H2 := ⟨fun b o n hb => e _ _ (h.1 b o n hb), by
  obtain ⟨od, ho⟩ := h.2
  exact ⟨od, e _ _ ho⟩⟩
/-- a comprehension over a dict's keys, texts; tests and items read the heap -/
theorem el_lcKg {j : Nat} {vs : List Nat} {ks : List L} (f : V → Bool) (g : V → V) (h : ∀ H1, Ev tl σ H1 (.ref d)) (hd : H d = some (.dK kvs)) (hk : kvs.map (·.1) = ks.map keyT) (hz : ks.length ≤ 40000) (hw : ∀ x, wipe ((wipe σ vs).set j (some x)) vs = wipe σ vs)
    (ht : ∀ k H1, Held H d kvs H1 → k ∈ ks → EvT tt ((wipe σ vs).set j (some (.str (tx k)))) H1 (f (.str (tx k)))) (he : ∀ k H1, Held H d kvs H1 → k ∈ ks → f (.str (tx k)) = true → Ev te ((wipe σ vs).set j (some (.str (tx k)))) H1 (g (.str (tx k)))) :
    EvL (tLockE (tLc (iKeys tl) (gName j) tt te vs)) σ H (((txs ks).filter f).map g) := by
  intro H0 e Q q
  have hlen : kvs.length = ks.length := by simpa using congrArg List.length hk
  have hxl := txs_len ks
  refine ⟨d, _, e d _ hd, trivial, fun od => ?_⟩
  generalize hH : L2.upd H0 d (.frz od (.dK kvs)) = HF
  have hF : HF d = some (.frz od (.dK kvs)) := by rw [← hH, upd_same]
  have hHd : Held H d kvs HF := ⟨fun b o n hb => by rw [← hH, upd_ne n]; exact e _ _ hb, od, hF⟩
  refine h HF HF (Ex.refl HF) _ fun H1 e1 => ⟨d, od, rfl, .inl ⟨kvs, e1 d _ hF, fun Dl hD => ?_⟩⟩
  have hd1 := e1 d _ hF
  have ndl : Dl ≠ d := fun z => by rw [z, hd1] at hD; exact nomatch hD
  refine ⟨fun i m H' => m = (txs ks).length - i ∧ i ≤ (txs ks).length ∧ Ex H1 H' ∧ H' Dl = some (.lst ((((txs ks).take i).filter f).map g)), ⟨(txs ks).length, rfl, Nat.zero_le _, Ex.new hD, upd_same⟩, ?_⟩
  rintro i m H' ⟨rfl, hi, ex, hl⟩
  by_cases hlt : i < (txs ks).length
  · have gx : (txs ks)[i]? = some (txs ks)[i] := List.getElem?_eq_getElem hlt
    refine .inr ⟨⟨ex d _ hd1, by omega⟩, fun H' => Ex H1 H' ∧ H' Dl = some (.lst ((((txs ks).take (i + 1)).filter f).map g)), fun H2 p => ⟨(txs ks).length - (i + 1), by omega, rfl, hlt, p⟩, fun x H2 y => ?_⟩
    obtain ⟨rfl, k, v, hkv, rfl⟩ := y
    obtain ⟨hgv, hlk, hgk⟩ := txs_get' gx
    have ex' : kV k = .str (tx (ks.getD i [])) := by
      have h1 : (kvs.map (·.1))[i]? = some k := by rw [List.getElem?_map, hkv]; rfl
      rw [hk, List.getElem?_map, hgk] at h1
      rw [← Option.some.inj h1]
      rfl
    rw [ex']
    rw [hgv] at gx
    have hm := List.mem_of_getElem? hgk
    exact ⟨hw _, lcf_turn gx hD ex hl (by omega) (ht _ H1 (hHd.ex e1) hm) (he _ H1 (hHd.ex e1) hm)⟩
  · have e0 : i = (txs ks).length := by omega
    subst e0
    rw [List.take_of_length_le (Nat.le_refl _)] at hl
    refine .inl ⟨⟨ex d _ hd1, by omega⟩, ex d _ hd1, ?_⟩
    have h0 : H0 Dl = none := by
      have := fresh_back e1 hD
      rw [← hH, upd_ne ndl] at this
      exact this
    refine q Dl _ h0 (fun b o hb => ?_) (by rw [upd_ne ndl]; exact hl)
    by_cases hbd : b = d
    · subst hbd
      rw [upd_same]
      rw [e b _ hd] at hb
      exact hb
    · rw [upd_ne hbd]
      exact ex b _ (e1 b _ (by rw [← hH, upd_ne hbd]; exact hb))
end
section
variable {K : PySem.W.Frag} {σ : L2.St} {H : Hp} {Q : VK} {p sc : Addr} {ns : List Int}
/-- a comprehension over a range whose items draw -/
theorem r_lcG {ta : TA} {te : TE} {j : Nat} {vs : List Nat} (Pd : Addr → V → Hp → Prop) (lo M : Nat) (hM : M ≤ 1000)
    (hm : ∀ b v H1 H2, (∀ a o, a ≠ p → a ≠ b → H1 a = some o → H2 a = some o) → Pd b v H1 → Pd b v H2) (hP : Pool K H p sc ns)
    (ht : ∀ R : List V → Hp → Prop, (∀ (m : Nat) H1, lo ≤ m → m ≤ M → G K p sc ns H H1 → R [.int (m : Int)] H1) → ta σ H R)
    (hw : ∀ x, wipe ((wipe σ vs).set j (some x)) vs = wipe σ vs)
    (he : ∀ (x : V) H1 (Q' : VK), G K p sc ns H H1 → (∀ v H2, (∀ b, H1 b ≠ none → b ≠ p → Pd b v H2) → G K p sc ns H1 H2 → Q' v H2) → te ((wipe σ vs).set j (some x)) H1 Q')
    (q : ∀ Dl xs H', lo ≤ xs.length → xs.length ≤ M → H Dl = none → H' Dl = some (.lst xs) → (∀ x ∈ xs, Pd Dl x H') → G K p sc ns H H' → Q (.ref Dl) H') : tLc (iRng1 ta) (gName j) tYes te vs σ H Q := by
  refine r_lcR1 (ht _ fun m H1 hlo hhi g1 => ⟨m, rfl, by omega, by omega, fun Dl hD => ?_⟩)
  have hD0 := G.back g1 hD
  have hDp : Dl ≠ p := hP.ne hD0
  rw [Int.toNat_natCast]
  refine ⟨fun i k H' => k = m - i ∧ i ≤ m ∧ G K p sc ns H H' ∧ ∃ xs, H' Dl = some (.lst xs) ∧ xs.length = i ∧ ∀ x ∈ xs, Pd Dl x H', ⟨m, rfl, Nat.zero_le _, G.new hP g1 hD0, [], upd_same, rfl, fun x hx => absurd hx (by simp)⟩, ?_⟩
  rintro i k H' ⟨rfl, hi, g, xs, hl, hlen, hx⟩
  by_cases hlt : i < m
  · refine .inr ⟨hlt, fun H' => G K p sc ns H H' ∧ ∃ xs, H' Dl = some (.lst xs) ∧ xs.length = i + 1 ∧ ∀ x ∈ xs, Pd Dl x H', fun H2 pp => ⟨m - (i + 1), by omega, rfl, hlt, pp⟩, fun x H2 y => ?_⟩
    obtain ⟨rfl, rfl⟩ := y
    refine ⟨hw _, ?_⟩
    refine tyes_ ?_
    refine iteT (he _ _ _ g fun v H4 hv g4 => ⟨xs, g4.1 Dl _ hDp hl, sz_lt (by omega), G.new hP (g.trans g4) hD0, xs ++ [v], upd_same, by rw [List.length_append, hlen]; rfl, fun x hx' => ?_⟩)
    rw [List.mem_append, List.mem_singleton] at hx'
    rcases hx' with hx' | rfl
    · exact hm Dl x _ _ (fun a o n1 n2 h => by rw [upd_ne n2]; exact g4.1 a o n1 h) (hx x hx')
    · exact hm Dl x _ _ (fun a o n1 n2 h => by rw [upd_ne n2]; exact h) (hv Dl (by rw [hl]; exact fun z => nomatch z) hDp)
  · have e0 : i = m := by omega
    subst e0
    exact .inl ⟨Nat.le_refl _, q Dl xs _ (by omega) (by omega) hD0 hl hx g⟩
end
section
variable {K : PySem.W.Frag} {σ : L2.St} {H : Hp} {te tl : TE} {tt : TT} {xs : List V}
theorem evt_d {ps : List L} (h : EvD te σ H (.tup (ps.map .str))) : EvP te σ H (IsT K (txs ps)) := fun H1 e Q q => h H1 e _ fun v H2 e2 r => by
  obtain ⟨a, hv, ha⟩ := rep_strs r
  exact q v H2 e2 ⟨a, hv, st_of ha⟩
/-- over a tuple that an expression gives -/
theorem el_lcTP {j : Nat} {vs : List Nat} (f : V → Bool) (g : V → V) (h : EvP tl σ H (IsT K xs)) (hz : xs.length ≤ 40000) (hw : ∀ x, wipe ((wipe σ vs).set j (some x)) vs = wipe σ vs)
    (ht : ∀ x H1, Ex H H1 → x ∈ xs → EvT tt ((wipe σ vs).set j (some x)) H1 (f x)) (he : ∀ x H1, Ex H H1 → x ∈ xs → f x = true → Ev te ((wipe σ vs).set j (some x)) H1 (g x)) : EvL (tLc (iTup K tl) (gName j) tt te vs) σ H ((xs.filter f).map g) := by
  intro H0 e Q q
  refine h H0 e _ fun w H1 e1 ⟨a, hv, S1⟩ => ?_
  subst hv
  refine ⟨a, rfl, ⟨xs, S1⟩, fun Dl hD => ?_⟩
  refine ⟨fun i m H' => m = xs.length - i ∧ i ≤ xs.length ∧ Ex H1 H' ∧ H' Dl = some (.lst (((xs.take i).filter f).map g)), ⟨xs.length, rfl, Nat.zero_le _, Ex.new hD, upd_same⟩, ?_⟩
  rintro i m H' ⟨rfl, hi, ex, hl⟩
  by_cases hlt : i < xs.length
  · have gx : xs[i]? = some xs[i] := List.getElem?_eq_getElem hlt
    refine .inr ⟨⟨xs, xs[i], ex_t ex S1, gx⟩, fun H' => Ex H1 H' ∧ H' Dl = some (.lst (((xs.take (i + 1)).filter f).map g)), fun H2 p => ⟨xs.length - (i + 1), by omega, rfl, hlt, p⟩, fun x H2 y => ?_⟩
    obtain ⟨rfl, y⟩ := y
    have ex' : x = xs[i] := Option.some.inj ((y xs (ex_t ex S1)).symm.trans gx)
    subst ex'
    exact ⟨hw _, lcf_turn gx hD ex hl hz (ht _ H1 (e.trans e1) (List.mem_of_getElem? gx)) (he _ H1 (e.trans e1) (List.mem_of_getElem? gx))⟩
  · have e0 : i = xs.length := by omega
    subst e0
    rw [List.take_of_length_le (Nat.le_refl _)] at hl
    exact .inl ⟨⟨xs, ex_t ex S1, Nat.le_refl _⟩, q Dl H' (fresh_back e1 hD) (e1.trans ex) hl⟩
end
end My

set_option Elab.async false
set_option linter.all false
set_option maxRecDepth 100000
set_option maxHeartbeats 1000000
/-! zip(t1, t2, strict=False) of two tuples, in a comprehension. -/
namespace My
open PySem PySem.Spec PyProof.Rows L2 Evl Builtin.SmallTypes
theorem typeCall_zf (a b : Value) : checkTypeCall "zip" ⟨[a, b], [(Str.ofString "strict", .bool false)]⟩ = pure () := by kernel_rfl
theorem newCall_zf (a b : Value) : checkBuiltinCall "zip.__new__" ⟨[.type "zip", a, b], [(Str.ofString "strict", .bool false)]⟩ = pure () := by kernel_rfl
theorem init_zf (obj a b : Value) : argsOk "object.__init__" ⟨[obj, a, b], [(Str.ofString "strict", .bool false)]⟩ := by unfold argsOk; kernel_rfl
abbrev zfZ (h : Heap) (o1 o2 : Obj) : Heap := (gzO2 h o1 o2).push { cls := .type "zip", data := .fields #[.none, .bool false, .bool false, .ref ((h.push o1).push o2).objs.size, .ref (gzT2 h o1 o2).objs.size] }
theorem meets_zf {v1 v2 : Value} {o1 o2 : Obj} {H1 H2 : Heap → Prop} (B1 : Begins v1 o1 H1) (B2 : Begins v2 o2 H2) :
    Meets (Builtin.«zip.__new__» ⟨[.type "zip", v1, v2], [(Str.ofString "strict", .bool false)]⟩) (fun _ R s => (H1 s.heap ∧ H2 s.heap) ∧ R (.ok (.ret (.ref (gzO2 s.heap o1 o2).objs.size))) { s with heap := zfZ s.heap o1 o2 }) :=
  .of_wp fun prog w A R s h => by
    obtain ⟨hp, g, d, tk, os⟩ := s; obtain ⟨⟨h1, h2⟩, h⟩ := h
    have hsub := sub_zip
    have q1 : ∀ {A' : Around} {E : Value → Shared → Prop} {Q : Value → Shared → Prop}, Q (.ref hp.objs.size) ⟨(hp.push o1), g, d, tk, os⟩ → wpAny (model prog w) A' (pyIter v1) Q E ⟨hp, g, d, tk, os⟩ :=
      fun q => B1.iter prog w _ _ ⟨hp, g, d, tk, os⟩ _ (B1.keeps _ _ h1 fun b o' e => e) q
    have q2 : ∀ {A' : Around} {E : Value → Shared → Prop} {Q : Value → Shared → Prop}, Q (.ref (hp.push o1).objs.size) ⟨((hp.push o1).push o2), g, d, tk, os⟩ → wpAny (model prog w) A' (pyIter v2) Q E ⟨(hp.push o1), g, d, tk, os⟩ :=
      fun q => B2.iter prog w _ _ ⟨(hp.push o1), g, d, tk, os⟩ _ (B2.keeps _ _ h2 fun b o' e => (Heap.get?_push_of_some _ e)) q
    have e1 : (Str.ofString "strict" != ("strict" : Str)) = false := by decide +kernel
    wp_walk using q1, q2
    exact ⟨_, rfl, h⟩
def iZf (K : PySem.W.Frag) (ta : TA) : TI := fun σ H R => ta σ H fun vs H1 => ∃ a b xs ys, vs = [.ref a, .ref b] ∧ SqT K H1 a xs ∧ SqT K H1 b ys ∧ R (RZ.ItzT K a b) H1
theorem pi_zf {X : Cx} {e : Expr} {es : List Expr} {ta : TA} {p pos tpos : Pos} {kws : List Keyword} {elts : List Expr} {kk : Nat} (hg : Gl X "zip") (hm : X.mg "zip" = none) (ha : PA X (e :: es) ta) (hk : PK X kws (tCons (tC (.bl false)) tNil))
    (he : backTo pos (starEach (e :: es) X.env) = (false, eval e X.env) :: backTo pos (starEach es X.env) := by rfl) (hpl : (backTo pos (starEach (e :: es) X.env)).any (·.1) = false := by rfl)
    (hks : (backToKw pos (keywordEach kws X.env)).filterMap (·.1) = [Str.ofString "strict"] := by rfl)
    (hall : (backToKw pos (keywordEach kws X.env)).all (·.1.isSome) = true := by rfl) (hnone : (backToKw pos (keywordEach kws X.env)).any (·.1.isNone) = false := by rfl) :
    PI X (.Tuple elts kk tpos) (.Call (.Name "zip" p) (e :: es) kws pos) (iZf X.K ta) := by
  refine ⟨fun pins s σ H R I h => ?_⟩
  refine wpAny_Call_Name_kw (ld_blt I hg hm PyProof.Rows.boot_zip ?_)
  refine callTy_kw (thn (ha.run pos pins s σ H _ I h) fun us s1 h1 => ?_) he hpl hall hnone
  obtain ⟨vs, H1, I1, r1, q1⟩ := h1
  refine thn (hk.run pos pins s1 σ H1 (fun zs H2 => zs = [.bl false] ∧ H2 = H1) I1 ⟨rfl, rfl⟩) fun ws s2 h2 => ?_
  obtain ⟨zs, H2, I2, r2, ez, eh⟩ := h2
  subst ez
  subst eh
  obtain ⟨a, b, xs, ys, rfl, hqx, hqy, q⟩ := q1
  have ew : ws = [.bool false] := by
    cases r2 with
    | cons r rr =>
      cases rr
      rw [show _ = Value.bool false from r]
  obtain ⟨u1, u2, rfl, ra, rb⟩ := vals2 r1
  cases (show u1 = Value.ref a from ra)
  cases (show u2 = Value.ref b from rb)
  rw [hks, ew]
  obtain ⟨its, rv, p1, la⟩ := sqB_inv (t := true) I2 hqx
  obtain ⟨its2, rv2, p2, lb⟩ := sqB_inv (t := true) I2 hqy
  refine callType_newKw F.called_zip (by decide) (typeCall_zf _ _) (newCall_zf _ _) (fun obj => init_zf obj _ _) F.entry_zip_new (meets_zf (beginsB true a its.toArray) (beginsB true b its2.toArray)) ⟨⟨p1, p2⟩, ?_⟩
  have z1 : (s2.heap.push (oB true a)).objs.size = s2.heap.objs.size + 1 := by rw [Heap.size_push]
  have z2 : ((s2.heap.push (oB true a)).push (oB true b)).objs.size = s2.heap.objs.size + 2 := by rw [Heap.size_push, z1]
  have zT : (gzT2 s2.heap (oB true a) (oB true b)).objs.size = s2.heap.objs.size + 3 := by rw [Heap.size_push, z2]
  have zO : (gzO2 s2.heap (oB true a) (oB true b)).objs.size = s2.heap.objs.size + 4 := by rw [Heap.size_push, zT]
  have f1 := (beginsB true a its.toArray).free
  have f2 := (beginsB true b its2.toArray).free
  have gZ : (zfZ s2.heap (oB true a) (oB true b)).get? (gzO2 s2.heap (oB true a) (oB true b)).objs.size = some _ := Heap.get?_push_size _ rfl
  have gO : (zfZ s2.heap (oB true a) (oB true b)).get? (gzT2 s2.heap (oB true a) (oB true b)).objs.size = some _ := Heap.get?_push_of_some _ (Heap.get?_push_size _ rfl)
  have gT : (zfZ s2.heap (oB true a) (oB true b)).get? ((s2.heap.push (oB true a)).push (oB true b)).objs.size = some _ := Heap.get?_push_of_some _ (Heap.get?_push_of_some _ (Heap.get?_push_size _ rfl))
  have g1 : (zfZ s2.heap (oB true a) (oB true b)).get? s2.heap.objs.size = some (oB true a) := Heap.get?_push_of_some _ (Heap.get?_push_of_some _ (Heap.get?_push_of_some _ (Heap.get?_push_of_some _ (Heap.get?_push_size _ f1))))
  have g2 : (zfZ s2.heap (oB true a) (oB true b)).get? (s2.heap.push (oB true a)).objs.size = some (oB true b) := Heap.get?_push_of_some _ (Heap.get?_push_of_some _ (Heap.get?_push_of_some _ (Heap.get?_push_size _ f2)))
  have keep : ∀ c o, s2.heap.get? c = some o → (zfZ s2.heap (oB true a) (oB true b)).get? c = some o := fun c o e => Heap.get?_push_of_some _ (Heap.get?_push_of_some _ (Heap.get?_push_of_some _ (Heap.get?_push_of_some _ (Heap.get?_push_of_some _ e))))
  rw [zO, zT, z2] at gZ
  rw [zT] at gO
  rw [z2, z1] at gT
  rw [z1] at g2
  generalize zfZ s2.heap (oB true a) (oB true b) = h' at gZ gO gT g1 g2 keep
  show _ ∧ _
  rw [zO]
  refine ⟨⟨_, gZ, rfl⟩, wpAny_pyIter_zip gZ ?_⟩
  have I3 : Inv X pins σ H2 { s2 with heap := h' } := I2.kept (t' := s2.toks) keep
  refine ⟨s2.heap.objs.size + 4, [s2.heap.objs.size + 4, s2.heap.objs.size + 2, s2.heap.objs.size + 3, s2.heap.objs.size, s2.heap.objs.size + 1], _, _, H2, rfl, I3, RZ.turn_zipT (PySem.W.ktu_apart s2.heap.objs.size a b la lb), ⟨gZ, gT, ⟨_, _, gO⟩, oB_it true g1, oB_it true g2⟩, fun c hcm => ?_, q⟩
  have e' : c = s2.heap.objs.size + 4 ∨ c = s2.heap.objs.size + 2 ∨ c = s2.heap.objs.size + 3 ∨ c = s2.heap.objs.size ∨ c = s2.heap.objs.size + 1 := by simpa using hcm
  have hle : s2.heap.objs.size ≤ c := by
    rcases e' with z | z | z | z | z
    · rw [z]; exact Nat.le_add_right _ _
    · rw [z]; exact Nat.le_add_right _ _
    · rw [z]; exact Nat.le_add_right _ _
    · rw [z]; exact Nat.le_refl _
    · rw [z]; exact Nat.le_add_right _ _
  exact I2.fpOk hle (I2.hok.fresh hle)
section
variable {K : PySem.W.Frag} {σ : L2.St} {H : Hp} {te tl : TE} {ta : TA} {xs ys : List V}
/-- what the comprehension gives: one item for each place of both -/
theorem el_lcZF {j1 j2 : Nat} {vs : List Nat} {a b : Addr} (n : Nat) (v : Nat → V) (h : ∀ H1, Ex H H1 → ∀ Q : List V → Hp → Prop, (∀ a b H2, Ex H1 H2 → SqT K H2 a xs → SqT K H2 b ys → Q [.ref a, .ref b] H2) → ta σ H1 Q) (hn : n = min xs.length ys.length) (hz : xs.length ≤ 1000)
    (hw : ∀ x y, wipe (((wipe σ vs).set j1 (some x)).set j2 (some y)) vs = wipe σ vs)
    (he : ∀ i x y H1, Ex H H1 → xs[i]? = some x → ys[i]? = some y → Ev te (((wipe σ vs).set j1 (some x)).set j2 (some y)) H1 (v i)) :
    EvL (tLc (iZf K ta) (gTup K 2 (gCons (gName j1) (gCons (gName j2) gNil))) tYes te vs) σ H ((List.range n).map v) := by
  intro H0 e Q q
  refine h H0 e _ fun a b H1 e1 ha hb => ⟨a, b, xs, ys, rfl, ha, hb, fun Dl hD => ?_⟩
  refine ⟨fun i m H' => m = n - i ∧ i ≤ n ∧ Ex H1 H' ∧ H' Dl = some (.lst ((List.range i).map v)), ⟨n, rfl, Nat.zero_le _, Ex.new hD, upd_same⟩, ?_⟩
  rintro i m H' ⟨rfl, hi, ex, hl⟩
  by_cases hlt : i < n
  · have gx : xs[i]? = some xs[i] := List.getElem?_eq_getElem (by omega)
    have gy : ys[i]? = some ys[i] := List.getElem?_eq_getElem (by omega)
    refine .inr ⟨⟨xs, ys, _, _, ex_t ex ha, ex_t ex hb, gx, gy⟩, fun H' => Ex H1 H' ∧ H' Dl = some (.lst ((List.range (i + 1)).map v)), fun H2 p => ⟨n - (i + 1), by omega, rfl, hlt, p⟩, fun z H2 y => ?_⟩
    obtain ⟨T, x', y', rfl, hT, rfl, hx', hy'⟩ := y
    have ex1 := hx' xs (ex_t ex ha)
    have ey1 := hy' ys (ex_t ex hb)
    rw [gx] at ex1
    rw [gy] at ey1
    cases ex1
    cases ey1
    refine ⟨T, [xs[i], ys[i]], rfl, st_of upd_same, rfl, xs[i], [ys[i]], rfl, ys[i], [], rfl, rfl, hw _ _, ?_⟩
    refine tyes_ ?_
    have ex2 : Ex H1 (upd H' T (.tup [xs[i], ys[i]])) := ex.trans (Ex.new hT)
    have nDT : Dl ≠ T := fun z => by
      rw [z, hT] at hl
      exact nomatch hl
    refine iteT (he i _ _ H1 (e.trans e1) gx gy _ ex2 _ fun H3 e3 => ⟨(List.range i).map v, e3 Dl _ (by rw [upd_ne nDT]; exact hl), sz_lt (by rw [List.length_map, List.length_range]; omega), (ex2.trans e3).mut hD, ?_⟩)
    rw [upd_same, List.range_succ, List.map_append]
    rfl
  · have e0 : i = n := by omega
    subst e0
    exact .inl ⟨⟨xs, ys, ex_t ex ha, ex_t ex hb, by omega⟩, q Dl H' (fresh_back e1 hD) (e1.trans ex) hl⟩
end
end My

set_option Elab.async false
set_option linter.all false
set_option maxRecDepth 100000
set_option maxHeartbeats 2000000
/-! a display with one tuple key; d.update(d2); a module's dict: d.get(k). -/
namespace My
open PySem PySem.Spec PyProof.Rows L2 Evl
/-! ### {(..): v} -/
def tDispT1 (tk tv : TE) : TE := fun σ H Q => ∀ p, H p = none → tk σ (upd H p (.dT [])) fun x H1 => tv σ H1 fun y H2 => ∃ (b : Addr) (ks : List Key), x = .ref b ∧ H2 b = some (.tup (ks.map kV)) ∧ H2 p = some (.dT []) ∧ Q (.ref p) (upd H2 p (.dT [(ks, y)]))
theorem pe_dispT1 {X : Cx} {pos : Pos} {k v : Expr} {tk tv : TE} (hu : X.A.units + 1 < cLine) (hk : PE X k tk) (hv : PE X v tv) : PE X (.Dict [some k] [v] pos) (tDispT1 tk tv) := by
  refine ⟨fun pins s σ H Q I q => ?_⟩
  have hn := I.hok.fresh (Nat.le_refl s.heap.objs.size)
  have I1 := I.laid (a := s.heap.objs.size) (o := .dT []) (h' := s.heap.push { cls := .type "dict", data := .dict #[] }) (t' := s.toks) (fun _ _ q => Heap.get?_push_of_some _ q) (Nat.le_refl _) (dt_empty s.heap I.big)
  have hl := pairTrees_length [some k] [v] X.env pos rfl rfl
  rw [arm_eval_Dict, zip_pairTrees [some k] [v] X.env pos rfl rfl, dictDisplay_pairs (pairTrees [some k] [v] X.env pos) (fun he => by rw [he] at hl; exact nomatch hl) (by rw [hl]; show 1 < 17; decide)]
  refine wpAny_bind (wpAny_standAt (wpAny_bind (wpAny_subDictH (knd := tupleKind (mixKind X.prog X.w)) (Q := fun d s' => wpAny (model X.prog X.w) X.A (pure (Value.ref d)) (EP X pins σ Q) X.xe s') (show X.A.units < cLine by omega) (by rw [hl]; show 1 ≤ 15; decide) ?_)))
  refine pairTrees_cons_walk (thn (hk.run pins _ σ _ _ I1 (q _ hn)) fun u s1 ⟨x, H1, I2, rx, q1⟩ => thn (hv.run pins s1 σ H1 _ I2 q1) fun w2 s2 ⟨y, H2, I3, ry, b, ks, ex, hb, hp, q2⟩ => pairTrees_nil_walk ?_)
  subst ex
  cases (show u = Value.ref b from rx)
  obtain ⟨z, hd, xs, rel, dd⟩ := dt_of I3.hok hp
  cases rel
  refine ⟨[(ks, b, w2)], ⟨rfl, rfl, key_of I3.hok hb, trivial⟩, dd, fun h' tk' dd' hs => wpAny_pure ?_⟩
  refine ⟨.ref s.heap.objs.size, _, ?_, rfl, q2⟩
  obtain ⟨o, es, ep, hq, h2, h3, h4, _, h5⟩ := dd'
  have hkt : KT H2 [(ks, y)] (storedAllH [] [(ks, b, w2)]) := KT.put (kvs := []) .nil ks hb ry
  refine d_write I3 (by rw [hp]; exact True.intro) hs ⟨o, hq⟩ ⟨by show 1 ≤ sizeLine; rw [sizeLine_eq]; decide, hd, _, hkt.keeps fun c ys ec => ?_, o, es, ep, hq, h2, h3, h4, h5⟩
  rw [upd_ne (ne_of ec hp (fun z => nomatch z))]
  exact ec
/-! ### d.update(d2) -/
def tDUpd (td te : TE) : TE := fun σ H Q => td σ H fun x H1 => ∃ a, x = .ref a ∧ IsD H1 a ∧ te σ H1 fun y H2 => ∃ (b : Addr) (kvs more : List (Key × V)), y = .ref b ∧ a ≠ b ∧ H2 a = some (.dK kvs) ∧ H2 b = some (.dK more) ∧ kvs.length + more.length ≤ 100000 ∧ Q .non (upd H2 a (.dK (mergeK kvs more)))
theorem pe_dupd {X : Cx} {o e : Expr} {apos cpos : Pos} {td te : TE} (ho : PE X o td) (he : PE X e te) (m : M1 X o "update" apos e cpos) : PE X (.Call (.Attribute o "update" apos) [e] [] cpos) (tDUpd td te) := by
  refine ⟨fun pins s σ H Q I h => ?_⟩
  refine wpAny_Call_method m.base m.few m.line PySem.F.plainAttrs_dict PySem.F.slot_dict_update PySem.F.type_dict_update (thn (ho.run pins s σ H _ I h) fun u s1 ⟨x, H1, I1, rx, a, ex, d, q1⟩ => ?_)
  subst ex
  obtain rfl : u = Value.ref a := rx
  obtain ⟨t1, t2, _⟩ := isD_at I1 d
  refine ⟨t1, t2, ?_⟩
  rw [m.trees]
  refine Calls.callWith_builtin rfl (Calls.evalArgs_plain (Calls.spliced_cons (thn (he.run pins s1 σ H1 _ I1 q1) fun iv s2 ⟨y, H2, I2, ry, b, kvs, more, ey, hne, ha, hb, hz, q2⟩ => Calls.spliced_nil ?_)))
  subst ey
  obtain rfl : iv = Value.ref b := ry
  obtain ⟨za, hda, vsa, ra, dda⟩ := dk_of I2.hok ha
  obtain ⟨zb, hdb, vsb, rb, ddb⟩ := dk_of I2.hok hb
  have la := Paired.length ra
  have lb := Paired.length rb
  refine call_meetsIn PySem.F.slot_dict_update dda.typeIs PySem.F.entry_dict_update (PySem.F.args_dict_update_2 _ _) (meets_dict_update (mixKind X.prog X.w) a b hne hdb) ⟨vsa, vsb, dda, ddb, by rw [← la, ← lb]; exact sz_of hz, fun h' dd' _ hs => ⟨.non, upd H2 a (.dK (mergeK kvs more)), ?_, rfl, q2⟩⟩
  have hm : (mergeK kvs more).length ≤ sizeLine := by
    have h1 := length_mergeK more kvs
    exact Nat.le_trans h1 (sz_of hz)
  have he' : ∃ q, h'.get? a = some q := let ⟨q, _, _, hq, _⟩ := dd'; ⟨q, hq⟩
  exact d_write I2 (by rw [ha]; exact True.intro) hs he' (dk_new hm hda (rb.merge ra) dd')
/-! ### D.get(k), D a module's dict -/
def tKGet1 (K : PySem.W.Frag) (d : Addr) (td ty : TE) : TE := fun σ H Q => td σ H fun x H1 => x = .ref d ∧ ty σ H1 fun y H2 => ∃ (z : Str) (r : Option Value) (v : V), y = .str z ∧ PySem.W.nsIn K d z = some r ∧ RelV v (r.getD .none) ∧ Q v H2
theorem pe_kget1 {X : Cx} {o e : Expr} {apos cpos : Pos} {td ty : TE} {d : Addr} {es : Array DictEntry} {n : Nat} (D : KDict X.K X.w d es n) (ho : PE X o td) (he : PE X e ty) (m : M1 X o "get" apos e cpos) : PE X (.Call (.Attribute o "get" apos) [e] [] cpos) (tKGet1 X.K d td ty) := by
  refine ⟨fun pins s σ H Q I h => ?_⟩
  refine wpAny_Call_method m.base m.few m.line PySem.F.plainAttrs_dict PySem.F.slot_dict_get PySem.F.type_dict_get (thn (ho.run pins s σ H _ I h) fun u s1 ⟨x, H1, I1, rx, ex, q1⟩ => ?_)
  subst ex
  obtain rfl : u = Value.ref d := rx
  refine ⟨kd_type D I1, fun b q => ?_, ?_⟩
  · cases q
    exact ⟨_, I1.kIn _ _ D.at_, rfl⟩
  rw [m.trees]
  refine Calls.callWith_builtin rfl (Calls.evalArgs_plain (Calls.spliced_cons (thn (he.run pins s1 σ H1 _ I1 q1) fun iv s2 ⟨y, H2, I2, ry, z, r, v, ey, hr, rv, q2⟩ => Calls.spliced_nil ?_)))
  subst ey
  obtain ⟨t, rfl⟩ := ry
  refine call_meetsIn PySem.F.slot_dict_get (kd_type D I2) PySem.F.entry_dict_get (PySem.F.args_dict_get_2 _ _) (meets_dict_get (strKind X.prog X.w) d (PySem.strKind_is X.prog X.w z t) D.low) ⟨_, PySem.W.mapOf_K (prog := X.prog) I2.kIn D.at_ D.lit, ⟨v, H2, I2.tok _, ?_, q2⟩⟩
  rw [PySem.W.find_K D.at_ hr]
  exact rv
/-- around a body that raises nothing -/
theorem takesN {X : Cx} : Takes X (fun _ _ _ _ => False) := fun _ _ x => by
  obtain ⟨_, _, _, _, _, _, _, _, _, _, _, _, _, _, _, _, z⟩ := x
  exact z.elim
end My

set_option Elab.async false
set_option linter.all false
set_option maxRecDepth 100000
set_option maxHeartbeats 1000000
/-! a dict comprehension of two clauses whose second one gives nothing: an empty dict for tuple keys (as DcT, with the second clause's loop at its end at once). -/
namespace My
open PySem PySem.Spec PyProof.Rows L2 Evl
section
variable {prog : Program} {w : World} {A : Around} {R : Result → Shared → Prop} {s : Shared} {kx vx t0 i0 t1 i1 : Expr} {ifs0 ifs1 : List Expr} {scope : Scope} {pos : Pos} {it : Value} {D : Addr} {env : Env}
theorem turnD2_out (it : Value) (D : Addr) (env : Env) : compTurn (.DictComp kx vx [⟨t0, i0, ifs0, 0⟩, ⟨t1, i1, ifs1, 0⟩] scope pos) 0 it (.ref D) env = (do
      standAt i0.pos
      match ← pyNext it with
      | none => pure (.done .next)
      | some v =>
        letOwnedTupleGo t0 it v
        assign t0 env v
        let mut ok := true
        for c in ifs0 do
          if ok then ok ← isTrue c env (eval c env)
        if ok then
          let x ← eval i1 env
          standAt i1.pos
          let x ← foldedSetIterable i1 env x
          let _ ← runOwn (.compStart (.DictComp kx vx [⟨t0, i0, ifs0, 0⟩, ⟨t1, i1, ifs1, 0⟩] scope pos) 1 (← holding [x] (pyIter x)) (.ref D) env) env
        again (.compLoop (.DictComp kx vx [⟨t0, i0, ifs0, 0⟩, ⟨t1, i1, ifs1, 0⟩] scope pos) 0 it (.ref D) env)) := by rfl
theorem turnD2_in (it : Value) (D : Addr) (env : Env) : ∃ f : Value → Sem PySem.Fin, compTurn (.DictComp kx vx [⟨t0, i0, ifs0, 0⟩, ⟨t1, i1, ifs1, 0⟩] scope pos) 1 it (.ref D) env = (do
      standAt i1.pos
      match ← pyNext it with
      | none => pure (.done .next)
      | some v => f v) := ⟨_, rfl⟩
theorem compLoopD2_out (hs : ∀ x, foldedSetIterable i1 env x = pure x) (I : Nat → Shared → Prop)
    (turn : ∀ n s, I n s → wpAny (model prog w) A (pyNext it) (fun r s₁ => match r with
      | none => R (.ok .next) s₁
      | some v => wpAny (model prog w) A (letOwnedTupleGo t0 it v) (fun _ s₁' => wpAny (model prog w) A (assign t0 env v) (fun _ s₂ =>
          wpAny (model prog w) A (forIn ifs0 true fun c r => if r = true then do let ok ← isTrue c env (eval c env); pure (ForInStep.yield ok) else pure (ForInStep.yield r)) (fun ok s₃ =>
            if ok = true then wpAny (model prog w) A (eval i1 env) (fun x s₄ => wpAny (model prog w) A (pyIter x) (fun it1 s₅ =>
              codeAny (model prog w) A (.compStart (.DictComp kx vx [⟨t0, i0, ifs0, 0⟩, ⟨t1, i1, ifs1, 0⟩] scope pos) 1 it1 (.ref D) env) (fun r s' => match r with
                | .ok _ => ∃ m, m < n ∧ I m s'
                | .error _ => False) s₅) (notedBy (model prog w) A env fun e s' => R (.error e) s') s₄) (notedBy (model prog w) A env fun e s' => R (.error e) s') s₃
            else ∃ m, m < n ∧ I m s₃) (notedBy (model prog w) A env fun e s' => R (.error e) s') s₂) (notedBy (model prog w) A env fun e s' => R (.error e) s') s₁') (notedBy (model prog w) A env fun e s' => R (.error e) s') s₁) (notedBy (model prog w) A env fun e s' => R (.error e) s') s)
    (n : Nat) (h : I n s) :
    codeAny (model prog w) A (.compLoop (.DictComp kx vx [⟨t0, i0, ifs0, 0⟩, ⟨t1, i1, ifs1, 0⟩] scope pos) 0 it (.ref D) env) R s := by
  refine codeAny_loop rfl I (fun n s hI => ?_) n h
  show wpAny _ A ((compTurn (.DictComp kx vx [⟨t0, i0, ifs0, 0⟩, ⟨t1, i1, ifs1, 0⟩] scope pos) 0 it (.ref D) env).onRaise (fun x => do noteFrame x env; theTreesLotGoes x)) _ _ s
  refine wpAny_noted ?_
  rw [turnD2_out]
  refine wpAny_bind (wpAny_standAt (wpAny_bind (wpAny_mono (turn n s hI) (fun r s₁ h₁ => ?_) fun _ _ h' => h')))
  cases r with
  | none => exact wpAny_pure h₁
  | some v =>
    refine wpAny_bind (wpAny_mono h₁ (fun _ s₁' h₁' => ?_) fun _ _ h' => h')
    refine wpAny_bind (wpAny_mono h₁' (fun _ s₂ h₂ => wpAny_bind (wpAny_mono h₂ (fun ok s₃ h₃ => ?_) fun _ _ h' => h')) fun _ _ h' => h')
    cases ok with
    | false => exact wpAny_pure ⟨rfl, h₃⟩
    | true =>
      refine wpAny_bind (wpAny_mono h₃ (fun x s₄ h₄ => ?_) fun _ _ h' => h')
      refine wpAny_bind (wpAny_standAt (wpAny_bind (wpAny_of_eq (hs x) (wpAny_bind (wpAny_holding (wpAny_mono h₄ (fun it1 s₅ h₅ => ?_) fun _ _ h' => h'))))))
      refine wpAny_bind (wpAny_runOwn ?_)
      rw [Around.mark_none]
      refine codeAny_mono h₅ fun r s' hr => ?_
      cases r with
      | ok f =>
        first
          | exact wpAny_pure ⟨rfl, hr⟩
          | exact wpAny_bind (wpAny_pure (wpAny_pure ⟨rfl, hr⟩))
      | error e => exact hr.elim
theorem compLoopD2_none (h : wpAny (model prog w) A (pyNext it) (fun r s₁ => r = none ∧ R (.ok .next) s₁) (notedBy (model prog w) A env fun e s' => R (.error e) s') s) :
    codeAny (model prog w) A (.compLoop (.DictComp kx vx [⟨t0, i0, ifs0, 0⟩, ⟨t1, i1, ifs1, 0⟩] scope pos) 1 it (.ref D) env) R s := by
  refine codeAny_loop rfl (fun _ s' => s' = s) (fun n s' hI => ?_) 0 rfl
  subst hI
  show wpAny _ A ((compTurn (.DictComp kx vx [⟨t0, i0, ifs0, 0⟩, ⟨t1, i1, ifs1, 0⟩] scope pos) 1 it (.ref D) env).onRaise (fun x => do noteFrame x env; theTreesLotGoes x)) _ _ _
  refine wpAny_noted ?_
  obtain ⟨f, hf⟩ := turnD2_in (kx := kx) (vx := vx) (t0 := t0) (i0 := i0) (t1 := t1) (i1 := i1) (ifs0 := ifs0) (ifs1 := ifs1) (scope := scope) (pos := pos) it D env
  rw [hf]
  refine wpAny_bind (wpAny_standAt (wpAny_bind (wpAny_mono h (fun r s₁ h₁ => ?_) fun _ _ h' => h')))
  obtain ⟨rfl, h1⟩ := h₁
  exact wpAny_pure h1
theorem compStartD1_ok {acc : Value} (h0 : codeAny (model prog w) A (.compLoop (.DictComp kx vx [⟨t0, i0, ifs0, 0⟩, ⟨t1, i1, ifs1, 0⟩] scope pos) 1 it acc env) R s)
    (h : wpAny (model prog w) A (pyIter it) (fun it' s' => codeAny (model prog w) A (.compLoop (.DictComp kx vx [⟨t0, i0, ifs0, 0⟩, ⟨t1, i1, ifs1, 0⟩] scope pos) 1 it' acc env) R s')
      (notedBy (model prog w) A env fun x s' => R (.error x) s') s) :
    codeAny (model prog w) A (.compStart (.DictComp kx vx [⟨t0, i0, ifs0, 0⟩, ⟨t1, i1, ifs1, 0⟩] scope pos) 1 it acc env) R s := by
  refine codeAny_of_tree ?_
  show wpAny _ _ ((compStart (.DictComp kx vx [⟨t0, i0, ifs0, 0⟩, ⟨t1, i1, ifs1, 0⟩] scope pos) 1 it acc env).onRaise (fun x => do noteFrame x env; standAt theWindowsPlace)) _ _ s
  refine wpAny_notedAt ?_
  unfold compStart
  show wpAny _ _ (ask >>= _) _ _ s
  refine wpAny_bind (wpAny_askSetting (wpAny_ite ?_))
  split
  · first
      | exact wpAny_bind (wpAny_pure (wpAny_pure (And.intro rfl h0)))
      | exact wpAny_pure (And.intro rfl h0)
  · first
      | exact wpAny_bind (wpAny_rule (wpAny_bind (wpAny_standAt (wpAny_bind (wpAny_mono h (fun it' s' h' => wpAny_pure (And.intro rfl h')) fun _ _ x => x)))))
      | (refine wpAny_bind (wpAny_rule ?_); show wpAny _ _ (standAt i1.pos >>= _) _ _ s; exact wpAny_bind (wpAny_standAt (wpAny_bind (wpAny_mono h (fun it' s' h' => wpAny_pure (And.intro rfl h')) fun _ _ x => x))))
end
section
variable {X : Cx}
def tDc2z (wi : TI) (g : TG) (tt : TT) (wi1 : TI) (vs : List Nat) : TE := fun σ H Q => wi σ H fun J H1 => ∀ D, H1 D = none → ∃ W : Nat → Nat → Hp → Prop, (∃ m, W 0 m (upd H1 D (.dT []))) ∧ ∀ i m H, W i m H →
  (J.stop i H ∧ Q (.ref D) H) ∨ (J.go i H ∧ ∃ Nx : Hp → Prop, (∀ H', Nx H' → ∃ m', m' < m ∧ W (i + 1) m' H') ∧ ∀ x H', J.yld i H x H' → g x (wipe σ vs) H' fun σ2 H2 => wipe σ2 vs = wipe σ vs ∧ tt σ2 H2 fun b H3 =>
    if b = true then wi1 σ2 H3 fun J1 H4 => J1.stop 0 H4 ∧ Nx H4 else Nx H3)
theorem dc2z_core {pins : List (Addr × Obj)} {s : Shared} {σ : L2.St} {H : Hp} {Q : VK} {kx vx tg iter tg1 iter1 : Expr} {ifs ifs1 : List Expr} {scope : Scope} {own : List (Str × Nat)} {pos pos' : Pos} {wi : TI} {g : TG} {tt : TT} {wi1 : TI} {use : Option (Value → Sem Unit)} {Qf : Value → Shared → Prop}
    (hc : X.calm = true) (hN : X.N.Nodup) (I : Inv X pins σ H s) (hi : PI X tg iter wi) (ok : BlkOk X.N X.env.scope scope own)
    (hg : ∀ (s : Shared) (H : Hp) (C : Addr) (cl : List (Str × Addr)) (fp : List Addr), PG (X.blk s H scope (compEnvC scope cl C X.env) fp) tg g) (ht : ∀ (s : Shared) (H : Hp) (C : Addr) (cl : List (Str × Addr)) (fp : List Addr), PTs (X.blk s H scope (compEnvC scope cl C X.env) fp) ifs tt)
    (hs : ∀ x, foldedSetIterable iter X.env x = pure x) (hi1 : ∀ (s : Shared) (H : Hp) (C : Addr) (cl : List (Str × Addr)) (fp : List Addr), PI (X.blk s H scope (compEnvC scope cl C X.env) fp) tg1 iter1 wi1) (hs1 : ∀ env x, foldedSetIterable iter1 env x = pure x)
    (h : tDc2z wi g tt wi1 (own.map (·.2)) σ H Q)
    (hRR : ∀ D C s' m H', Inv X pins σ H' s' → Q (.ref D) H' → s'.heap.Ns C m → FpOk X pins H' C → compPost (model X.prog X.w) X.A X.xe use Qf (.ref D) C (.ok .next) s') :
    wpAny (model X.prog X.w) X.A (comprehension (.DictComp kx vx [⟨tg, iter, ifs, 0⟩, ⟨tg1, iter1, ifs1, 0⟩] scope pos) scope X.env pos' newDict false (eval iter X.env) use) Qf X.xe s := by
  have hfree : ∀ y ∈ scope.names, y.2 = .free → ∃ c, X.env.cells.lookup y.1 = some c := fun y hy e => by
    rcases ok.free y hy e with k | k
    · exact I.ok.has _ (.inl k)
    · exact I.ok.has _ (.inr k)
  refine wpAny_comprehension_free (use := use) rfl hs (closure_ok hfree) ok.kind (fun y hy e => by rw [ok.uniq y hy, e])
    (thn (hi.run pins s σ H _ I h) fun xv s1 hx => thn hx fun itv s2 h2 => ?_)
  obtain ⟨it, fp, tn, J, H2, e, I2, T, st2, f2, q⟩ := h2
  subst e
  refine wpAny_newObj_type (newEnv_comp ?_)
  generalize hD : s2.heap.objs.size = D
  have hDn : H2 D = none := I2.hok.fresh (Nat.le_of_eq hD)
  obtain ⟨W, ⟨m0, w0⟩, turn⟩ := q D hDn
  -- the new list
  generalize hs3 : ({ s2 with heap := s2.heap.push { cls := .type "dict", data := .dict #[] } } : Shared) = s3
  have I3 : Inv X pins σ (upd H2 D (.dT [])) s3 := by
    rw [← hs3]
    refine I2.laid (t' := s2.toks) (fun b o e => Heap.get?_push_of_some _ e) (Nat.le_of_eq hD) ?_
    rw [← hD]
    exact dt_empty s2.heap I2.big
  have h3 : s3.heap = s2.heap.push { cls := .type "dict", data := .dict #[] } := by rw [← hs3]
  have sz : ∀ b ∈ fp, b < s2.heap.objs.size := fun b hb => by
    obtain ⟨o, e, _⟩ := T.obj _ _ st2 b hb
    exact Heap.lt_size e
  have f3 : ∀ b ∈ fp, FpOk X pins (upd H2 D (.dT [])) b ∧ b < s3.heap.objs.size := fun b hb => by
    have hlt := sz b hb
    refine ⟨⟨?_, (f2 b hb).2⟩, by rw [h3, Heap.size_push]; exact Nat.lt_succ_of_lt hlt⟩
    rw [upd_ne (by rw [← hD]; exact Nat.ne_of_lt hlt)]
    exact (f2 b hb).1
  have st3 : tn 0 s3.heap := T.keep _ _ _ st2 fun b _ o e => by rw [h3]; exact Heap.get?_push_of_some _ e
  have I4 := block_start I3 ok hN f3
  have pg := hg s3 (upd H2 D (.dT [])) s3.heap.objs.size (cellsFrom (s3.heap.objs.size + 1) scope.names (cloFrom X.env.cells scope.names [])) fp
  have pt := ht s3 (upd H2 D (.dT [])) s3.heap.objs.size (cellsFrom (s3.heap.objs.size + 1) scope.names (cloFrom X.env.cells scope.names [])) fp
  have pi1 := hi1 s3 (upd H2 D (.dT [])) s3.heap.objs.size (cellsFrom (s3.heap.objs.size + 1) scope.names (cloFrom X.env.cells scope.names [])) fp
  show codeAny _ _ (.compStart (.DictComp kx vx [⟨tg, iter, ifs, 0⟩, ⟨tg1, iter1, ifs1, 0⟩] scope pos) 0 (.ref it) (.ref D) (compEnvC scope (cellsFrom (s3.heap.objs.size + 1) scope.names (cloFrom X.env.cells scope.names [])) s3.heap.objs.size X.env)) (compPost (model X.prog X.w) X.A X.xe use Qf (.ref D) s3.heap.objs.size) { s3 with heap := pushCells (s3.heap.push { cls := .type "dict", data := .dict #[] }) scope.names }
  have nfp : ∀ b ∈ fp, (upd H2 D (.dT [])) b = none := fun b hb => (f3 b hb).1.1
  generalize hce : compEnvC scope (cellsFrom (s3.heap.objs.size + 1) scope.names (cloFrom X.env.cells scope.names [])) s3.heap.objs.size X.env = ce at I4 pg pt pi1 ⊢
  have cL : ce.locals = s3.heap.objs.size := by subst hce; rfl
  generalize hH3 : upd H2 D (.dT []) = H3 at I3 I4 pg pt pi1 w0 nfp f3
  generalize hs4 : ({ s3 with heap := pushCells (s3.heap.push { cls := .type "dict", data := .dict #[] }) scope.names } : Shared) = s4 at I4 ⊢
  have st4 : tn 0 s4.heap := T.keep _ _ _ st3 fun b _ o e => by rw [← hs4]; exact pushCells_keeps _ _ _ _ (Heap.get?_push_of_some _ e)
  have stat : ∀ {σ' : L2.St} {H' : Hp} {s' : Shared}, Inv (X.blk s3 H3 scope ce fp) [] σ' H' s' → (∀ b ∈ fp, H' b = none) → ∀ b ∈ fp, FpOk (X.blk s3 H3 scope ce fp) [] H' b := fun {σ' H' s'} I' hn b hb =>
    ⟨hn b hb, (I'.ok.exf b hb).1, I'.ok.exfs b hb, .inl hb, fun x c e => (I'.ok.exf b hb).2 x c e, fun p hp => absurd (show p ∈ ([] : List (Addr × Obj)) ++ [] from hp) (by simp)⟩
  have loop : codeAny (model X.prog X.w) X.A (.compLoop (.DictComp kx vx [⟨tg, iter, ifs, 0⟩, ⟨tg1, iter1, ifs1, 0⟩] scope pos) 0 (.ref it) (.ref D) ce) (compPost (model X.prog X.w) X.A X.xe use Qf (.ref D) s3.heap.objs.size) s4 := by
    refine compLoopD2_out (hs1 ce) (fun n s' => ∃ i H', Inv (X.blk s3 H3 scope ce fp) [] (wipe σ (own.map (·.2))) H' s' ∧ tn i s'.heap ∧ (∀ b ∈ fp, H' b = none) ∧ W i n H') ?_ m0 ⟨0, H3, I4, st4, nfp, w0⟩
    rintro n s5 ⟨i, H5, I5, st5, n5, w5⟩
    rcases turn i n H5 w5 with ⟨stop, qq⟩ | ⟨go, Nx, hNx, step⟩
    · have td := T.done (X.blk s3 H3 scope ce fp) rfl rfl rfl hc i [] s5 _ H5 (fun _ _ => False) I5 (stat I5 n5) st5 stop
      refine thnF td fun r s6 ⟨hr, I6⟩ => ?_
      subst hr
      -- back in the def's context
      have I7 : Inv X pins σ H5 s6 := I3.call' (ch := fp) I6.os I6.base I6.hok I6.bare fun b hb => ⟨(f3 b hb).1.2.2.2.1, (f3 b hb).1.2.1, (f3 b hb).1.2.2.2.2.1, (f3 b hb).1.2.2.2.2.2⟩
      have nC : H5 s3.heap.objs.size = none := by
        have z : H5 ce.locals = none := I6.free
        rw [cL] at z
        exact z
      obtain ⟨m, hn, _⟩ := I6.loc
      have hn : s6.heap.Ns ce.locals m := hn
      rw [cL] at hn
      exact hRR D s3.heap.objs.size s6 m H5 I7 qq hn (I3.fpOk (Nat.le_refl _) nC)
    · have ti := T.item (X.blk s3 H3 scope ce fp) rfl rfl rfl hc i [] s5 _ H5 (fun _ _ => False) I5 (stat I5 n5) st5 go
      refine thnF ti fun r s6 ⟨u, hr, h6⟩ => ?_
      subst hr
      refine thnF h6 fun _ s7 ⟨x, H7, I7, r7, y7, st7, n7⟩ => ?_
      have I7' := I7.pinned (stat I7 n7) (T.obj _ _ st7)
      refine thnF (pg.run _ s7 _ H7 x u _ I7' r7 (step x H7 y7)) fun _ s8 ⟨σ8, H8, I8, hw8, q8⟩ => ?_
      refine thnF (pt.run _ s8 σ8 H8 _ I8 q8) fun b s9 ⟨H9, I9, q9⟩ => ?_
      -- the turn's end
      have fin : ∀ {s' : Shared} {H' : Hp}, Inv (X.blk s3 H3 scope ce fp) ([] ++ pinsAt fp s7.heap) σ8 H' s' → Nx H' → ∃ m, m < n ∧ ∃ i H', Inv (X.blk s3 H3 scope ce fp) [] (wipe σ (own.map (·.2))) H' s' ∧ tn i s'.heap ∧ (∀ b ∈ fp, H' b = none) ∧ W i m H' := fun {s' H'} I' nx => by
        obtain ⟨m', hm, w'⟩ := hNx H' nx
        have pin' : ∀ b ∈ fp, ∀ o, s7.heap.get? b = some o → s'.heap.get? b = some o ∧ H' b = none := fun b hb o e =>
          let z := I'.pin (b, o) (List.mem_append_right _ (List.mem_append_right _ (mem_pinsAt hb e)))
          ⟨z.1, z.2.1⟩
        have hl : (wipe σ (own.map (·.2))).length = σ8.length := by rw [← hw8, wipe_length]
        refine ⟨m', hm, i + 1, H', (I'.unpinned (pins := [])).weak hl (fun j v e => ?_), T.keep _ _ _ st7 fun b hb o e => (pin' b hb o e).1, fun b hb => ?_, w'⟩
        · rw [← hw8] at e
          exact (wipe_some e).1
        · obtain ⟨o, e, _⟩ := T.obj _ _ st7 b hb
          exact (pin' b hb o e).2
      cases b with
      | false =>
        simp only [Bool.false_eq_true, if_false] at q9 ⊢
        exact fin I9 q9
      | true =>
        simp only [if_true] at q9 ⊢
        refine thnF (pi1.run _ s9 σ8 H9 _ I9 q9) fun xv s10 hx => thnF hx fun itv s11 h11 => ?_
        obtain ⟨it1, fp1, tn1, J1, H11, e1, I11, T1, st11, f11, stop1, nx1⟩ := h11
        subst e1
        have stat1 : ∀ b ∈ fp1, FpOk (X.blk s3 H3 scope ce fp) ([] ++ pinsAt fp s7.heap) H11 b := fun b hb => ⟨(f11 b hb).1, (f11 b hb).2⟩
        have loop1 : codeAny (model X.prog X.w) X.A (.compLoop (.DictComp kx vx [⟨tg, iter, ifs, 0⟩, ⟨tg1, iter1, ifs1, 0⟩] scope pos) 1 (.ref it1) (.ref D) ce)
            (fun r s' => match r with
              | .ok _ => ∃ m, m < n ∧ ∃ i H', Inv (X.blk s3 H3 scope ce fp) [] (wipe σ (own.map (·.2))) H' s' ∧ tn i s'.heap ∧ (∀ b ∈ fp, H' b = none) ∧ W i m H'
              | .error _ => False) s11 := by
          refine compLoopD2_none (thnF (T1.done (X.blk s3 H3 scope ce fp) rfl rfl rfl hc 0 _ s11 σ8 H11 (fun _ _ => False) I11 stat1 st11 stop1) fun r s12 ⟨hr, I12⟩ => ?_)
          subst hr
          exact ⟨rfl, fin I12 nx1⟩
        exact compStartD1_ok loop1 (T1.self X.A 0 _ _ _ st11 loop1)
  exact codeAny_compStart_dict loop (T.self X.A 0 _ _ _ st4 loop)
/-- as a value -/
theorem pe_dc2z {kx vx tg iter tg1 iter1 : Expr} {ifs ifs1 : List Expr} {scope : Scope} {own : List (Str × Nat)} {pos : Pos} {wi wi1 : TI} {g : TG} {tt : TT} (hc : X.calm = true) (hN : X.N.Nodup) (hi : PI X tg iter wi) (ok : BlkOk X.N X.env.scope scope own)
    (hg : ∀ (s : Shared) (H : Hp) (C : Addr) (cl : List (Str × Addr)) (fp : List Addr), PG (X.blk s H scope (compEnvC scope cl C X.env) fp) tg g) (ht : ∀ (s : Shared) (H : Hp) (C : Addr) (cl : List (Str × Addr)) (fp : List Addr), PTs (X.blk s H scope (compEnvC scope cl C X.env) fp) ifs tt)
    (hi1 : ∀ (s : Shared) (H : Hp) (C : Addr) (cl : List (Str × Addr)) (fp : List Addr), PI (X.blk s H scope (compEnvC scope cl C X.env) fp) tg1 iter1 wi1) (hs : ∀ x, foldedSetIterable iter X.env x = pure x := by intro _; rfl) (hs1 : ∀ env x, foldedSetIterable iter1 env x = pure x := by intro _ _; rfl) :
    PE X (.DictComp kx vx [⟨tg, iter, ifs, 0⟩, ⟨tg1, iter1, ifs1, 0⟩] scope pos) (tDc2z wi g tt wi1 (own.map (·.2))) := by
  refine ⟨fun pins s σ H Q I h => ?_⟩
  rw [arm_eval_DictComp]
  refine dc2z_core hc hN I hi ok hg ht hs hi1 hs1 h fun D C s' m H' I' q hn f => ⟨m, hn, fun h'' sb => ?_⟩
  obtain ⟨f0, f1, f2, f3, f4, f5⟩ := f
  exact ⟨.ref D, H', I'.turned (t' := s'.toks) (fun b o hb e => (sb.2 b hb).trans e) f0 f1 f3 f4 f5, rfl, q⟩
theorem ps_setDc2z {i : Nat} {y : Str} {py : Pos} {kx vx tg iter tg1 iter1 : Expr} {ifs ifs1 : List Expr} {scope : Scope} {own : List (Str × Nat)} {pos spos : Pos} {wi wi1 : TI} {g : TG} {tt : TT} (hc : X.calm = true) (hN : X.N.Nodup) (hy : X.N[i]? = some y) (hyl : X.env.scope.names.lookup y = some .local)
    (hsw : swapsWith (.DictComp kx vx [⟨tg, iter, ifs, 0⟩, ⟨tg1, iter1, ifs1, 0⟩] scope pos) (some (.Name y py)) spos.line X.env = pure true) (hi : PI X tg iter wi) (ok : BlkOk X.N X.env.scope scope own)
    (hg : ∀ (s : Shared) (H : Hp) (C : Addr) (cl : List (Str × Addr)) (fp : List Addr), PG (X.blk s H scope (compEnvC scope cl C X.env) fp) tg g) (ht : ∀ (s : Shared) (H : Hp) (C : Addr) (cl : List (Str × Addr)) (fp : List Addr), PTs (X.blk s H scope (compEnvC scope cl C X.env) fp) ifs tt)
    (hi1 : ∀ (s : Shared) (H : Hp) (C : Addr) (cl : List (Str × Addr)) (fp : List Addr), PI (X.blk s H scope (compEnvC scope cl C X.env) fp) tg1 iter1 wi1) (hs : ∀ x, foldedSetIterable iter X.env x = pure x := by intro _; rfl) (hs1 : ∀ env x, foldedSetIterable iter1 env x = pure x := by intro _ _; rfl) :
    PS X (.Assign [.Name y py] (.DictComp kx vx [⟨tg, iter, ifs, 0⟩, ⟨tg1, iter1, ifs1, 0⟩] scope pos) spos) (tAsg (tDc2z wi g tt wi1 (own.map (·.2))) (gName i)) := by
  refine ⟨fun pins s σ H D I h => ?_⟩
  rw [exec_Assign_Name_used _ _ _ _ hsw]
  refine wpAny_bind (wpAny_standAt (wpAny_bind ?_))
  show wpAny _ X.A (do let _ ← comprehension (.DictComp kx vx [⟨tg, iter, ifs, 0⟩, ⟨tg1, iter1, ifs1, 0⟩] scope pos) scope X.env (firstIterPos [⟨tg, iter, ifs, 0⟩, ⟨tg1, iter1, ifs1, 0⟩] pos) newDict false (eval iter X.env) (some (assign (.Name y py) X.env))) _ _ s
  have h : tDc2z wi g tt wi1 (own.map (·.2)) σ H (fun x H1 => gName i x σ H1 D.nx) := h
  refine wpAny_bind (thn (dc2z_core (Qf := fun _ s' => SP X pins D .next s') hc hN I hi ok hg ht hs hi1 hs1 h fun L C s' m H' I' q hn f => ?_) fun _ s' hq => wpAny_pure (wpAny_pure hq))
  show wpAny _ _ (assign (.Name y py) X.env (.ref L)) _ _ _
  refine wpAny_assign_Name (store_ok2 (v := V.ref L) I' hN hy (.inl hyl) rfl (fun s2 I2 ⟨a, sb, ha⟩ => ?_) (.inr hyl))
  obtain ⟨f0, f1, f2, f3, f4, f5⟩ := f
  have haC : C ≠ a := by
    rcases ha with z | z
    · rw [z]; exact f1
    · exact fun e => f4 y a z e.symm
  refine ⟨m, hn.sameBut sb haC, fun h3 sb3 => ?_⟩
  exact ⟨_, H', I2.turned (t' := s2.toks) (fun b o hb e => (sb3.2 b hb).trans e) f0 f1 f3 f4 f5, q⟩
end
end My

set_option Elab.async false
set_option linter.all false
set_option maxRecDepth 100000
set_option maxHeartbeats 1000000
/-! a written dict of the top, keys texts, values numbers: its .get. -/
namespace My
open PySem PySem.Spec PyProof.Rows L2 Evl
def intOf : Value → Int
  | .int x _ => x
  | _ => 0
def isIntV : Value → Bool
  | .int _ _ => true
  | _ => false
/-- what the table says of a key -/
def tabI : List (List Nat × Int) → List Nat → Option Int
  | [], _ => none
  | p :: r, l => if p.1 = l then some p.2 else tabI r l
def HasI2 (K : PySem.W.Frag) (w : World) (x : Str) (tab : List (List Nat × Int)) : Prop := ∃ (d : Addr) (es : Array DictEntry) (n : Nat), PySem.W.nsIn K mainGlobals x = some (some (.ref d)) ∧ K.lookup d = some ⟨.type "dict", none, .dict es n, #[]⟩ ∧
  es.toList.map He.keyOf = He.keysIn w.params (tab.map fun p => tx p.1) ∧ (d == sysModules) = false ∧ es.toList.map (fun e => intOf e.val) = tab.map (fun p => p.2) ∧ es.toList.all (fun e => isIntV e.val) = true
theorem HasI2.mk' {K : PySem.W.Frag} {w : World} {x : Str} {tab : List (List Nat × Int)} {d : Addr} {es : Array DictEntry} {n : Nat} (a : PySem.W.nsIn K mainGlobals x = some (some (.ref d))) (l : K.lookup d = some ⟨.type "dict", none, .dict es n, #[]⟩)
    (k : es.toList.map He.keyOf = He.keysIn w.params (tab.map fun p => tx p.1)) (z : (d == sysModules) = false) (v : es.toList.map (fun e => intOf e.val) = tab.map (fun p => p.2)) (s : es.toList.all (fun e => isIntV e.val) = true) : HasI2 K w x tab := ⟨d, es, n, a, l, k, z, v, s⟩
/-- the dict as a global -/
def GDI (K : PySem.W.Frag) (w : World) (mg : Str → Option Value) (x : Str) (tab : List (List Nat × Int)) : Prop := ∃ (d : Addr) (es : Array DictEntry) (n : Nat), mg x = some (.ref d) ∧ KDict K w d es n ∧
  ∀ l, ∃ r, PySem.W.nsIn K d (tx l) = some r ∧ r.isSome = (tabI tab l).isSome ∧ ∀ y, tabI tab l = some y → ∃ u, r = some u ∧ RelV (.int y) u
theorem find_tabI {P : Params} : ∀ {es : List DictEntry} {tab : List (List Nat × Int)}, es.map He.keyOf = He.keysIn P (tab.map fun p => tx p.1) → es.map (fun e => intOf e.val) = tab.map (fun p => p.2) → es.all (fun e => isIntV e.val) = true →
    (es.any (·.refKey) = false) ∧ ∀ l, (es.find? (·.key.isStr (tx l))).isSome = (tabI tab l).isSome ∧ ∀ y, tabI tab l = some y → ∃ e, es.find? (·.key.isStr (tx l)) = some e ∧ RelV (.int y) e.val
  | [], [], _, _, _ => ⟨rfl, fun l => ⟨rfl, fun y h => nomatch h⟩⟩
  | [], p :: r, h, _, _ => by cases h
  | e :: es, [], h, _, _ => by cases h
  | e :: es, p :: r, h, h2, h3 => by
    have h1 : He.keyOf e :: es.map He.keyOf = some (tx p.1, PyData.keyHash P (tx p.1)) :: He.keysIn P (r.map fun p => tx p.1) := h
    injection h1 with k1 k2
    rw [List.map_cons, List.map_cons] at h2
    injection h2 with v1 v2
    rw [List.all_cons, Bool.and_eq_true] at h3
    obtain ⟨i1, i2⟩ := find_tabI k2 v2 h3.2
    have hk : ∃ t, e.key = .str (tx p.1) t := by
      unfold He.keyOf at k1
      split at k1
      · rename_i x t q
        obtain ⟨h5, h6⟩ := Prod.mk.inj (Option.some.inj k1)
        exact ⟨t, by rw [q, h5]⟩
      · cases k1
    obtain ⟨t, hk⟩ := hk
    have hv : ∃ t, e.val = .int p.2 t := by
      cases q : e.val with
      | int x t =>
        rw [q] at v1
        exact ⟨t, by rw [← v1]; rfl⟩
      | _ => rw [q] at h3; exact nomatch h3.1
    obtain ⟨t2, hv⟩ := hv
    have hstr : ∀ l, e.key.isStr (tx l) = decide (p.1 = l) := fun l => by
      rw [hk]
      show (tx p.1 == tx l) = _
      by_cases hl : p.1 = l
      · subst hl
        rw [decide_eq_true rfl]
        exact beq_self_eq_true _
      · rw [decide_eq_false hl]
        exact beq_eq_false_iff_ne.mpr fun z => hl (tx_inj z)
    refine ⟨?_, fun l => ?_⟩
    · rw [List.any_cons, i1, Bool.or_false]
      unfold DictEntry.refKey
      rw [hk]
    · rw [List.find?_cons, hstr]
      unfold tabI
      by_cases hl : p.1 = l
      · rw [decide_eq_true hl, if_pos hl]
        exact ⟨rfl, fun y hy => ⟨e, rfl, by cases hy; exact ⟨t2, hv⟩⟩⟩
      · rw [decide_eq_false hl, if_neg hl]
        exact i2 l
theorem HasI2.gd {K : PySem.W.Frag} {w : World} {mg : Str → Option Value} {h : Heap} {x : Str} {tab : List (List Nat × Int)} (X : K.In h) (G : h.Ns mainGlobals mg) (H : HasI2 K w x tab) : GDI K w mg x tab := by
  obtain ⟨d, es, n, a, l, k, z, v, s⟩ := H
  refine ⟨d, es, n, PySem.W.mg_of X G a, ⟨l, He.keysLit_of k, z⟩, fun y => ?_⟩
  obtain ⟨i1, i2⟩ := find_tabI k v s
  obtain ⟨j1, j2⟩ := i2 y
  refine ⟨(es.toList.find? (·.key.isStr (tx y))).map (·.val), ?_, by rw [Option.isSome_map]; exact j1, fun q hq => ?_⟩
  · unfold PySem.W.nsIn
    rw [l]
    show (match es.toList.find? (·.key.isStr (tx y)) with
      | some e => some (some e.val)
      | none => if es.toList.any (·.refKey) then none else some none) = _
    cases e : es.toList.find? (·.key.isStr (tx y)) with
    | some en => rfl
    | none =>
      show (if es.toList.any (·.refKey) = true then none else some none) = _
      rw [if_neg (by rw [i1]; exact Bool.false_ne_true)]
      rfl
  · obtain ⟨en, h1, h2⟩ := j2 q hq
    exact ⟨en.val, by rw [h1]; rfl, h2⟩
section
variable {K : PySem.W.Frag} {w : World} {σ : L2.St} {H : Hp} {te : TE} {d : Addr} {tab : List (List Nat × Int)} {l : List Nat} {y : Int}
theorem ev_kget (h : Ev te σ H (.str (tx l))) (hl : ∀ l, ∃ r, PySem.W.nsIn K d (tx l) = some r ∧ r.isSome = (tabI tab l).isSome ∧ ∀ y, tabI tab l = some y → ∃ u, r = some u ∧ RelV (.int y) u) (hy : tabI tab l = some y) :
    Ev (tKGet1 K d (tC (.ref d)) te) σ H (.int y) := fun H1 e Q q => ⟨rfl, h H1 e _ fun H2 e2 => by
  obtain ⟨r, h1, _, h3⟩ := hl l
  obtain ⟨u, h4, h5⟩ := h3 y hy
  exact ⟨tx l, r, .int y, rfl, h1, by rw [h4]; exact h5, q H2 e2⟩⟩
end
end My

set_option Elab.async false
set_option linter.all false
set_option maxRecDepth 100000
set_option maxHeartbeats 4000000
namespace K82
open PySem PySem.Spec PyProof.Rows L2 Evl My
def topS (i : Nat) : Stmt := PySem.Challenge.pw_lineage_k82_whole_bundles.main.body.getD i (.Pass ⟨0, 0, 0, 0⟩)
/-! ### SHA-256 in plain numbers -/
def rot (x b : Nat) : Nat := x / 2 ^ b + x % 2 ^ b * (4294967296 / 2 ^ b)
theorem xor_lt32 {a b : Nat} (ha : a < 2 ^ 32) (hb : b < 2 ^ 32) : a ^^^ b < 2 ^ 32 := Nat.xor_lt_two_pow ha hb
theorem rot_lt {x b : Nat} (hx : x < 2 ^ 32) (hb : b ≤ 25) (h0 : 0 < b) : rot x b < 2 ^ 32 := by
  unfold rot
  have p : 0 < 2 ^ b := Nat.pow_pos (by decide)
  obtain ⟨c, hc⟩ : ∃ c, b + c = 32 := ⟨32 - b, by omega⟩
  have e : (4294967296 : Nat) = 2 ^ b * 2 ^ c := by rw [← Nat.pow_add, hc]
  have d : 4294967296 / 2 ^ b = 2 ^ c := by rw [e, Nat.mul_comm]; exact Nat.mul_div_cancel _ p
  rw [d]
  have h1 : x / 2 ^ b < 2 ^ c := by
    rw [Nat.div_lt_iff_lt_mul p, ← Nat.pow_add, Nat.add_comm, hc]
    exact hx
  have h2 : x % 2 ^ b * 2 ^ c ≤ (2 ^ b - 1) * 2 ^ c := Nat.mul_le_mul_right _ (by have := Nat.mod_lt x p; omega)
  have h3 : (2 ^ b - 1) * 2 ^ c + 2 ^ c = 2 ^ 32 := by
    rw [Nat.sub_mul, Nat.one_mul, Nat.sub_add_cancel (Nat.le_mul_of_pos_left _ p), ← Nat.pow_add, hc]
  omega
def sig (x a b c : Nat) : Nat := rot x a ^^^ rot x b ^^^ rot x c
def ssg (x a b d : Nat) : Nat := rot x a ^^^ rot x b ^^^ x / 2 ^ d
structure R8 where
  (a b c d e f g h : Nat)
def R8.ok (r : R8) : Prop := r.a < 2 ^ 32 ∧ r.b < 2 ^ 32 ∧ r.c < 2 ^ 32 ∧ r.d < 2 ^ 32 ∧ r.e < 2 ^ 32 ∧ r.f < 2 ^ 32 ∧ r.g < 2 ^ 32 ∧ r.h < 2 ^ 32
def R8.list (r : R8) : List Nat := [r.a, r.b, r.c, r.d, r.e, r.f, r.g, r.h]
def fst1 (r : R8) (t w : Nat) : Nat := r.h + sig r.e 6 11 25 + ((r.e &&& r.f) ^^^ ((4294967295 - r.e) &&& r.g)) + t + w
def snd2 (r : R8) : Nat := sig r.a 2 13 22 + ((r.a &&& r.b) ^^^ (r.a &&& r.c) ^^^ (r.b &&& r.c))
def rnd (r : R8) (t w : Nat) : R8 := ⟨(fst1 r t w + snd2 r) % 4294967296, r.a, r.b, r.c, (r.d + fst1 r t w) % 4294967296, r.e, r.f, r.g⟩
def word4 (bl : List Nat) (k : Nat) : Nat := ((bl.getD (4 * k) 0 * 256 + bl.getD (4 * k + 1) 0) * 256 + bl.getD (4 * k + 2) 0) * 256 + bl.getD (4 * k + 3) 0
def wnext (ws : List Nat) (n : Nat) : Nat := (ws.getD (n - 16) 0 + ssg (ws.getD (n - 15) 0) 7 18 3 + ws.getD (n - 7) 0 + ssg (ws.getD (n - 2) 0) 17 19 10) % 4294967296
def wd0 (bl : List Nat) : Nat → List Nat
  | 0 => []
  | k + 1 => wd0 bl k ++ [word4 bl k]
def wds (bl : List Nat) : Nat → List Nat
  | 0 => wd0 bl 16
  | k + 1 => wds bl k ++ [wnext (wds bl k) (16 + k)]
def rnds (r : R8) (ts ws : List Nat) : Nat → R8
  | 0 => r
  | k + 1 => rnd (rnds r ts ws k) (ts.getD k 0) (ws.getD k 0)
def radd (r s : R8) : R8 := ⟨(r.a + s.a) % 4294967296, (r.b + s.b) % 4294967296, (r.c + s.c) % 4294967296, (r.d + s.d) % 4294967296, (r.e + s.e) % 4294967296, (r.f + s.f) % 4294967296, (r.g + s.g) % 4294967296, (r.h + s.h) % 4294967296⟩
/-- a block -/
def blk (r : R8) (bl ts : List Nat) : R8 := radd r (rnds r ts (wds bl 48) 64)
theorem wd0_len (bl : List Nat) : ∀ k, (wd0 bl k).length = k
  | 0 => rfl
  | k + 1 => by rw [wd0, List.length_append, wd0_len bl k]; rfl
theorem wds_len (bl : List Nat) : ∀ k, (wds bl k).length = 16 + k
  | 0 => wd0_len bl 16
  | k + 1 => by rw [wds, List.length_append, wds_len bl k]; rfl
theorem wnext_lt (ws : List Nat) (n : Nat) : wnext ws n < 2 ^ 32 := Nat.mod_lt _ (by decide)
def Oct (bl : List Nat) : Prop := ∀ x ∈ bl, x < 256
theorem Oct.get {bl : List Nat} (h : Oct bl) (i : Nat) : bl.getD i 0 < 256 := by
  rw [List.getD_eq_getElem?_getD]
  cases e : bl[i]? with
  | none => decide
  | some x => exact h x (List.mem_of_getElem? e)
theorem word4_lt {bl : List Nat} (h : Oct bl) (k : Nat) : word4 bl k < 2 ^ 32 := by
  have h0 := h.get (4 * k)
  have h1 := h.get (4 * k + 1)
  have h2 := h.get (4 * k + 2)
  have h3 := h.get (4 * k + 3)
  unfold word4
  omega
theorem wd0_lt {bl : List Nat} (h : Oct bl) : ∀ k, ∀ x ∈ wd0 bl k, x < 2 ^ 32
  | 0, x, hx => by simp [wd0] at hx
  | k + 1, x, hx => by
    rw [wd0, List.mem_append, List.mem_singleton] at hx
    rcases hx with hx | rfl
    · exact wd0_lt h k x hx
    · exact word4_lt h k
theorem wds_lt {bl : List Nat} (h : Oct bl) : ∀ k, ∀ x ∈ wds bl k, x < 2 ^ 32
  | 0, x, hx => wd0_lt h 16 x hx
  | k + 1, x, hx => by
    rw [wds, List.mem_append, List.mem_singleton] at hx
    rcases hx with hx | rfl
    · exact wds_lt h k x hx
    · exact wnext_lt _ _
theorem getD_lt {ws : List Nat} {m : Nat} (h : ∀ x ∈ ws, x < m) (hm : 0 < m) (i : Nat) : ws.getD i 0 < m := by
  rw [List.getD_eq_getElem?_getD]
  cases e : ws[i]? with
  | none => exact hm
  | some x => exact h x (List.mem_of_getElem? e)
theorem sig_lt {x a b c : Nat} (hx : x < 2 ^ 32) (ha : a ≤ 25) (hb : b ≤ 25) (hc : c ≤ 25) (a0 : 0 < a) (b0 : 0 < b) (c0 : 0 < c) : sig x a b c < 2 ^ 32 := xor_lt32 (xor_lt32 (rot_lt hx ha a0) (rot_lt hx hb b0)) (rot_lt hx hc c0)
theorem ssg_lt {x a b d : Nat} (hx : x < 2 ^ 32) (ha : a ≤ 25) (hb : b ≤ 25) (a0 : 0 < a) (b0 : 0 < b) : ssg x a b d < 2 ^ 32 := xor_lt32 (xor_lt32 (rot_lt hx ha a0) (rot_lt hx hb b0)) (Nat.lt_of_le_of_lt (Nat.div_le_self _ _) hx)
theorem and_lt32 {a b : Nat} (ha : a < 2 ^ 32) : a &&& b < 2 ^ 32 := Nat.lt_of_le_of_lt Nat.and_le_left ha
theorem rnd_ok {r : R8} (h : r.ok) (t w : Nat) : (rnd r t w).ok := by
  obtain ⟨h1, h2, h3, h4, h5, h6, h7, h8⟩ := h
  exact ⟨Nat.mod_lt _ (by decide), h1, h2, h3, Nat.mod_lt _ (by decide), h5, h6, h7⟩
theorem rnds_ok {r : R8} (h : r.ok) (ts ws : List Nat) : ∀ k, (rnds r ts ws k).ok
  | 0 => h
  | k + 1 => rnd_ok (rnds_ok h ts ws k) _ _
theorem radd_ok (r s : R8) : (radd r s).ok := ⟨Nat.mod_lt _ (by decide), Nat.mod_lt _ (by decide), Nat.mod_lt _ (by decide), Nat.mod_lt _ (by decide), Nat.mod_lt _ (by decide), Nat.mod_lt _ (by decide), Nat.mod_lt _ (by decide), Nat.mod_lt _ (by decide)⟩
theorem blk_ok (r : R8) (bl ts : List Nat) : (blk r bl ts).ok := radd_ok _ _
/-! the program's way to the same -/
theorem mask32 (x : Nat) : x &&& 4294967295 = x % 4294967296 := Nat.and_two_pow_sub_one_eq_mod x 32
theorem rot_or {x a : Nat} (b : Nat) (hx : x < 2 ^ 32) (hab : a + b = 32) : (x >>> a ||| x <<< b) % 4294967296 = rot x a := by
  have pa : 0 < 2 ^ a := Nat.pow_pos (by decide)
  have e32 : (4294967296 : Nat) = 2 ^ b * 2 ^ a := by rw [← Nat.pow_add, Nat.add_comm b a, hab]
  have hlt : x / 2 ^ a < 2 ^ b := by
    rw [Nat.div_lt_iff_lt_mul pa, ← e32]
    exact hx
  have h1 : x >>> a ||| x <<< b = x <<< b + x / 2 ^ a := by
    rw [Nat.or_comm, Nat.shiftRight_eq_div_pow, Nat.shiftLeft_eq, Nat.mul_comm]
    exact (Nat.two_pow_add_eq_or_of_lt hlt x).symm
  have d : 4294967296 / 2 ^ a = 2 ^ b := by rw [e32]; exact Nat.mul_div_cancel _ pa
  unfold rot
  rw [h1, d, Nat.shiftLeft_eq]
  have h2 : x = 2 ^ a * (x / 2 ^ a) + x % 2 ^ a := (Nat.div_add_mod x (2 ^ a)).symm
  have h3 : x * 2 ^ b = x / 2 ^ a * 4294967296 + x % 2 ^ a * 2 ^ b := by
    conv => lhs; rw [h2]
    rw [Nat.add_mul, e32, Nat.mul_comm (2 ^ a) (x / 2 ^ a), Nat.mul_assoc, Nat.mul_comm (2 ^ a) (2 ^ b)]
  have h4 : x / 2 ^ a + x % 2 ^ a * 2 ^ b < 4294967296 := by
    have z1 : x % 2 ^ a + 1 ≤ 2 ^ a := Nat.mod_lt x pa
    have z2 : (x % 2 ^ a + 1) * 2 ^ b ≤ 2 ^ a * 2 ^ b := Nat.mul_le_mul_right _ z1
    rw [Nat.add_mul, Nat.one_mul, Nat.mul_comm (2 ^ a) (2 ^ b), ← e32] at z2
    omega
  rw [h3]
  omega
theorem sig_prog {x a b c : Nat} (a' b' c' : Nat) (hx : x < 2 ^ 32) (ha : a + a' = 32) (hb : b + b' = 32) (hc : c + c' = 32) :
    ((x >>> a ||| x <<< a') ^^^ (x >>> b ||| x <<< b') ^^^ (x >>> c ||| x <<< c')) &&& 4294967295 = sig x a b c := by
  rw [mask32, show (4294967296 : Nat) = 2 ^ 32 from rfl, Nat.xor_mod_two_pow, Nat.xor_mod_two_pow]
  have e := rot_or a' hx ha
  have e2 := rot_or b' hx hb
  have e3 := rot_or c' hx hc
  rw [show (4294967296 : Nat) = 2 ^ 32 from rfl] at e e2 e3
  rw [e, e2, e3]
  rfl
theorem ssg_prog {x a b d : Nat} (a' b' : Nat) (hx : x < 2 ^ 32) (ha : a + a' = 32) (hb : b + b' = 32) :
    ((x >>> a ||| x <<< a') ^^^ (x >>> b ||| x <<< b') ^^^ x >>> d) &&& 4294967295 = ssg x a b d := by
  rw [mask32, show (4294967296 : Nat) = 2 ^ 32 from rfl, Nat.xor_mod_two_pow, Nat.xor_mod_two_pow]
  have e := rot_or a' hx ha
  have e2 := rot_or b' hx hb
  rw [show (4294967296 : Nat) = 2 ^ 32 from rfl] at e e2
  have e3 : x >>> d % 2 ^ 32 = x / 2 ^ d := by
    rw [Nat.shiftRight_eq_div_pow]
    exact Nat.mod_eq_of_lt (Nat.lt_of_le_of_lt (Nat.div_le_self _ _) hx)
  rw [e, e2, e3]
  rfl
theorem not_and {x y : Nat} (hx : x < 2 ^ 32) : (4294967295 - x) &&& y = (y % 2 ^ 32) - ((y % 2 ^ 32) &&& x) := by
  have h : ∀ i, ((4294967295 - x) &&& y).testBit i = ((y % 2 ^ 32) ^^^ ((y % 2 ^ 32) &&& x)).testBit i := fun i => by
    rw [Nat.testBit_and, Nat.testBit_xor, Nat.testBit_and, show 4294967295 - x = 2 ^ 32 - (x + 1) by omega, Nat.testBit_two_pow_sub_succ hx, Nat.testBit_mod_two_pow]
    cases decide (i < 32) <;> cases x.testBit i <;> cases y.testBit i <;> rfl
  rw [Nat.eq_of_testBit_eq h]
  have e := Bits.nat_xor_add_and (y % 2 ^ 32) ((y % 2 ^ 32) &&& x)
  have e2 : (y % 2 ^ 32) &&& ((y % 2 ^ 32) &&& x) = (y % 2 ^ 32) &&& x := by rw [← Nat.and_assoc, Nat.and_self]
  rw [e2] at e
  omega
theorem word_or {a b c d : Nat} (hb : b < 256) (hc : c < 256) (hd : d < 256) : (a <<< 24 ||| b <<< 16 ||| c <<< 8 ||| d) = ((a * 256 + b) * 256 + c) * 256 + d := by
  have o : ∀ (i q r : Nat), r < 2 ^ i → q <<< i ||| r = q * 2 ^ i + r := fun i q r h => by
    rw [Nat.shiftLeft_eq, Nat.mul_comm q]
    exact (Nat.two_pow_add_eq_or_of_lt h q).symm
  have e1 : c <<< 8 ||| d = c * 256 + d := o 8 c d hd
  have e2 : b <<< 16 ||| (c * 256 + d) = b * 65536 + (c * 256 + d) := o 16 b _ (by omega)
  have e3 : a <<< 24 ||| (b * 65536 + (c * 256 + d)) = a * 16777216 + (b * 65536 + (c * 256 + d)) := o 24 a _ (by omega)
  rw [Nat.or_assoc, Nat.or_assoc, e1, e2, e3]
  omega
theorem radd_map (r R : R8) : (List.range 8).map (fun i => V.int (((r.list.getD i 0 + R.list.getD i 0) % 4294967296 : Nat) : Int)) = nats (radd r R).list := by
  obtain ⟨_, _, _, _, _, _, _, _⟩ := r
  obtain ⟨_, _, _, _, _, _, _, _⟩ := R
  simp [List.range_succ, R8.list, radd, nats]
def turnsC : List Nat := [1116352408, 1899447441, 3049323471, 3921009573, 961987163, 1508970993, 2453635748, 2870763221, 3624381080, 310598401, 607225278, 1426881987, 1925078388, 2162078206, 2614888103, 3248222580, 3835390401, 4022224774, 264347078, 604807628, 770255983, 1249150122, 1555081692, 1996064986, 2554220882, 2821834349, 2952996808, 3210313671, 3336571891, 3584528711, 113926993, 338241895, 666307205, 773529912, 1294757372, 1396182291, 1695183700, 1986661051, 2177026350, 2456956037, 2730485921, 2820302411, 3259730800, 3345764771, 3516065817, 3600352804, 4094571909, 275423344, 430227734, 506948616, 659060556, 883997877, 958139571, 1322822218, 1537002063, 1747873779, 1955562222, 2024104815, 2227730452, 2361852424, 2428436474, 2756734187, 3204031479, 3329325298]
def firstC : R8 := ⟨1779033703, 3144134277, 1013904242, 2773480762, 1359893119, 2600822924, 528734635, 1541459225⟩
theorem first_ok : firstC.ok := by unfold R8.ok; decide
def hexd : List Nat := [48, 49, 50, 51, 52, 53, 54, 55, 56, 57, 97, 98, 99, 100, 101, 102]
theorem hex_str : (Str.ofString "0123456789abcdef") = tx hexd := by decide +kernel
theorem hex_get {n : Nat} (h : n < 16) : hexd[n]? = some (hexd.getD n 0) := by
  rw [List.getD_eq_getElem?_getD, List.getElem?_eq_getElem (show n < hexd.length from h)]
  rfl
def hexL (w : Nat) : Nat → List Nat
  | 0 => []
  | k + 1 => hexd.getD (w / 16 ^ k % 16) 0 :: hexL w k
theorem hexL_len (w : Nat) : ∀ k, (hexL w k).length = k
  | 0 => rfl
  | k + 1 => by rw [hexL, List.length_cons, hexL_len w k]
def hexR (ws : List Nat) : List Nat := ws.flatMap fun w => hexL w 8
theorem hexR_len : ∀ ws : List Nat, (hexR ws).length = 8 * ws.length
  | [] => rfl
  | w :: r => by
    have := hexR_len r
    unfold hexR at this ⊢
    rw [List.flatMap_cons, List.length_append, hexL_len, this, List.length_cons]
    omega
theorem hexR_take {ws : List Nat} {j : Nat} (h : j < ws.length) : hexR (ws.take (j + 1)) = hexR (ws.take j) ++ hexL (ws.getD j 0) 8 := by
  unfold hexR
  rw [List.take_add_one, List.getElem?_eq_getElem h, List.flatMap_append, List.getD_eq_getElem?_getD, List.getElem?_eq_getElem h]
  simp
theorem oct_app {a b : List Nat} (ha : Oct a) (hb : Oct b) : Oct (a ++ b) := fun x hx => (List.mem_append.mp hx).elim (ha x) (hb x)
theorem oct_rep (k : Nat) : Oct (List.replicate k 0) := fun x hx => by rw [(List.mem_replicate.mp hx).2]; decide
end K82

set_option Elab.async false
set_option linter.all false
set_option maxRecDepth 100000
set_option maxHeartbeats 4000000
namespace K82
open PySem PySem.Spec PyProof.Rows L2 Evl My
def zc (n : Nat) : Nat := ((55 - (n : Int)) % 64).toNat
def padP (data : List Nat) : List Nat := data ++ [128] ++ List.replicate (zc data.length) 0 ++ (List.range 8).map fun i => (8 * data.length) >>> (8 * (7 - i)) &&& 255
theorem zc_lt (n : Nat) : zc n < 64 := by unfold zc; omega
theorem zc_cast (n : Nat) : (55 - (n : Int)) % 64 = (zc n : Int) := by unfold zc; omega
theorem padP_len (data : List Nat) : (padP data).length = data.length + 9 + zc data.length := by
  unfold padP
  rw [List.length_append, List.length_append, List.length_append, List.length_replicate, List.length_map, List.length_range, List.length_singleton]
  omega
theorem padP_mod (data : List Nat) : (padP data).length % 64 = 0 := by
  rw [padP_len]
  unfold zc
  omega
theorem not_rule {e g : Nat} (he : e < 2 ^ 32) (hg : g < 2 ^ 32) : Builtin.bitAnd (Builtin.bitNot (e : Int)) (g : Int) = (((4294967295 - e) &&& g : Nat) : Int) := by
  rw [not_and he, Nat.mod_eq_of_lt hg, bitAnd_np (by unfold Builtin.bitNot; omega) (Int.natCast_nonneg _), bitNot_bitNot, Int.toNat_natCast, Int.toNat_natCast]
  have := @Nat.and_le_left g e
  omega
theorem pick_eq {e f g : Nat} : (e &&& f ^^^ (4294967295 - e) &&& g) = ((e &&& f) ^^^ ((4294967295 - e) &&& g)) := rfl
section
variable {P : Program} {w : World} {K : PySem.W.Frag} {mg : Str → Option Value} {base : Heap}
abbrev s_padded : Stmt := topS 17
theorem sc_padded : FnScope ["data", "bits", "found", "at"] ["data"] (defScope s_padded) := ⟨rfl, rfl, rfl, by decide +kernel, rfl, by decide +kernel, by decide +kernel⟩
/- 0 data, 1 bits*, 2 found, 3 at -/
def ok_padded (vs : List V) (H : Hp) (z : List V) : Prop := ∃ (a : Addr) (data : List Nat), vs = [.ref a] ∧ H a = some (.lst (nats data)) ∧ data.length ≤ 30000 ∧ z = nats (padP data)
theorem fn_padded {f : Addr} {fd : FuncData} {k : Nat} (F : Fun K "padded" "padded" s_padded f fd) (N : Nb mg) : FnOk P w K mg base CX0 (k + 1) f fd ["data"] (spL ok_padded) := by
  refine F.ok sc_padded (fun vs H Q E h => ?_) (fun cdv A outer s H vs Q E hr h => ?_)
  · obtain ⟨_, ⟨_, _, rfl, _⟩, _⟩ := h
    rfl
  · obtain ⟨_, ⟨a, data, rfl, hA, hd, rfl⟩, q⟩ := h
    refine ⟨_, (pss_cons (ps_set (i := 1) sc_padded.nd rfl (Or.inr rfl) (pe_op op_mul pe_int (pe_callB call_len_seq (by rfl) N.len PySem.boot_len (pa_cons (pv 0) pa_nil))))
      (pss_cons (ps_set (i := 2) sc_padded.nd rfl (Or.inl rfl) (pe_op op_cat (pe_op op_cat (pv 0) (pe_lst (pa_cons pe_int pa_nil))) (pe_op op_rep (pe_lst (pa_cons pe_int pa_nil)) (pe_op op_mod (pe_op op_sub pe_int (pe_callB call_len_seq (by rfl) N.len PySem.boot_len (pa_cons (pv 0) pa_nil))) pe_int))))
      (pss_one (ps_ret (pe_op op_cat (pv 2) (pe_lc (own := [("at", 3)]) (by rfl) sc_padded.nd (pi_range3 rfl N.range (pa_cons pe_int (pa_cons (pe_un un_neg pe_int) (pa_cons (pe_un un_neg pe_int) pa_nil)))) (blkOk_by (own := [("at", 3)]) (N := ["data", "bits", "found", "at"]) (sc := defScope s_padded) (by decide +kernel)) (fun _ _ _ _ _ => (pg_name (i := 3) sc_padded.nd rfl (Or.inl rfl))) (fun _ _ _ _ _ => pts_nil) (fun _ _ _ _ _ => (pe_op op_and (pe_op op_shr (pv 1) (pe_op op_mul pe_int (pv 3))) pe_int)))))))), ?_⟩
    have hlen : ∀ σ' H', Ex H H' → σ'[0]? = some (some (.ref a)) → Ev (tCB (rLenS K) (tCons (tVar 0) tNil)) σ' H' (.int (data.length : Int)) := fun σ' H' e' s' => by
      have := ev_len (K := K) (ta := tVar 0) (ev_v s') (sq_of (e' a _ hA))
      rw [nats_len] at this
      exact this
    refine q_asg (ev_op (ev_cn 8) (hlen _ _ (Ex.refl _) rfl) (rv_mulN (.inl (by decide)))) fun H1 e1 => ?_
    have zl := zc_lt data.length
    refine q_asgL (xs := nats (data ++ [128] ++ List.replicate (zc data.length) 0)) ?_ fun p2 H2 hp2 e2 h2 => ?_
    · rw [nats_app, nats_app, ← rep_one]
      refine el_cat (evl_n (el_cat (evl_k (ev_v rfl) (e1 a _ hA)) (evl_n (el_lst (ea_cons (ev_cn 128) ea_nil) (by decide))) (by rw [nats_len, nats_len]; simp; omega)))
        (evl_n (el_rep (evl_n (el_lst (ea_cons (ev_cn 0) ea_nil) (by decide))) (ev_is (ev_op (ev_op (ev_cn 55) (hlen _ _ e1 rfl) rv_I0) (ev_cn 64) (rv_I (by decide))) (congrArg V.int (zc_cast _))) (by omega) (by rw [nats_len]; simp; omega))) ?_
      rw [rep_one, ← nats_app, nats_len, nats_len, List.length_append, List.length_replicate, List.length_singleton]
      omega
    have hmap : (List.range 8).map (fun i => V.int (((8 * data.length) >>> (8 * (7 - i)) &&& 255 : Nat) : Int)) = nats ((List.range 8).map fun i => (8 * data.length) >>> (8 * (7 - i)) &&& 255) := by
      unfold nats
      rw [List.map_map]
      rfl
    refine s_retL (xs := nats (padP data)) ?_ fun p3 H3 hp3 e3 h3 => q p3 H3 (fresh_back (e1.trans e2) hp3) ((e1.trans e2).trans e3) h3
    unfold padP
    rw [nats_app, ← hmap]
    refine el_cat (evl_k (ev_v rfl) h2) (evl_n (el_lcR3 (fun i => V.int (((8 * data.length) >>> (8 * (7 - i)) &&& 255 : Nat) : Int)) (ea_cons ev_c (ea_cons (ev_un ev_c ru_neg) (ea_cons (ev_un ev_c ru_neg) ea_nil))) (n := 8) (RgC.neg (by decide) (by decide) (by decide) (by decide)) (by decide) (fun _ => rfl) fun i H3 e3 hi => ?_)) ?_
    · have e7 : (7 : Int) + (i : Nat) * (-1) = ((7 - i : Nat) : Int) := by omega
      rw [e7]
      exact ev_op (ev_op (ev_v rfl) (ev_op (ev_cn 8) (ev_v rfl) (rv_mulN (.inl (by decide)))) rv_shrN) (ev_cn 255) rv_andN
    · rw [nats_len, List.length_map, List.length_range, List.length_append, List.length_append, List.length_replicate, List.length_singleton]
      omega
abbrev s_spread : Stmt := topS 18
theorem sc_spread : FnScope ["block", "words", "at", "one", "two", "low", "high"] ["block"] (defScope s_spread) := ⟨rfl, rfl, rfl, by decide +kernel, rfl, by decide +kernel, by decide +kernel⟩
/- 0 block, 1 words, 2 at, 3 one, 4 two, 5 low, 6 high -/
def ok_spread (K : PySem.W.Frag) (vs : List V) (H : Hp) (z : List V) : Prop := ∃ (b : Addr) (bl : List Nat), vs = [.ref b] ∧ Oct bl ∧ bl.length = 64 ∧ SqL K H b (nats bl) ∧ z = nats (wds bl 48)
theorem fn_spread {f : Addr} {fd : FuncData} {k : Nat} (F : Fun K "spread" "spread" s_spread f fd) (N : Nb mg) (g_MASK : GI mg "MASK" 4294967295) : FnOk P w K mg base CX0 (k + 1) f fd ["block"] (spL (ok_spread K)) := by
  refine F.ok sc_spread (fun vs H Q E h => ?_) (fun cdv A outer s H vs Q E hr h => ?_)
  · obtain ⟨_, ⟨_, _, rfl, _⟩, _⟩ := h
    rfl
  · obtain ⟨_, ⟨b, bl, rfl, hoct, hbl, hB, hz⟩, q⟩ := h
    rw [hz] at q
    refine ⟨_, (pss_cons (ps_set (i := 1) sc_spread.nd rfl (Or.inl rfl) (pe_lst pa_nil))
      (pss_cons (ps_for PassesOwn.never rfl (pi_range3 rfl N.range (pa_cons pe_int (pa_cons pe_int (pa_cons pe_int pa_nil)))) (pg_name (i := 2) sc_spread.nd rfl (Or.inl rfl)) (pss_one (ps_expr (pe_bm PySem.F.plainAttrs_list PySem.F.slot_list_append PySem.F.type_list_append mt_append (pv 1) (pa_cons (pe_op op_or (pe_op op_or (pe_op op_or (pe_op op_shl (pe_ix ix_list (pv 0) (pv 2) (fun _ _ => rfl)) pe_int) (pe_op op_shl (pe_ix ix_list (pv 0) (pe_op op_add (pv 2) pe_int) (fun _ _ => rfl)) pe_int)) (pe_op op_shl (pe_ix ix_list (pv 0) (pe_op op_add (pv 2) pe_int) (fun _ _ => rfl)) pe_int)) (pe_ix ix_list (pv 0) (pe_op op_add (pv 2) pe_int) (fun _ _ => rfl))) pa_nil)))))
      (pss_cons (ps_for PassesOwn.never rfl (pi_range2 rfl N.range (pa_cons pe_int (pa_cons pe_int pa_nil))) (pg_name (i := 2) sc_spread.nd rfl (Or.inl rfl)) (pss_cons (ps_par (i := 3) (j := 4) (by rfl) sc_spread.nd rfl rfl (by decide) rfl rfl (pa_cons (pe_ix ix_list (pv 1) (pe_op op_sub (pv 2) pe_int) (fun _ _ => rfl)) (pa_cons (pe_ix ix_list (pv 1) (pe_op op_sub (pv 2) pe_int) (fun _ _ => rfl)) pa_nil)) (by rfl))
      (pss_cons (ps_set (i := 5) sc_spread.nd rfl (Or.inl rfl) (pe_op op_xor (pe_op op_xor (pe_op op_or (pe_op op_shr (pv 3) pe_int) (pe_op op_shl (pv 3) pe_int)) (pe_op op_or (pe_op op_shr (pv 3) pe_int) (pe_op op_shl (pv 3) pe_int))) (pe_op op_shr (pv 3) pe_int)))
      (pss_cons (ps_set (i := 6) sc_spread.nd rfl (Or.inl rfl) (pe_op op_xor (pe_op op_xor (pe_op op_or (pe_op op_shr (pv 4) pe_int) (pe_op op_shl (pv 4) pe_int)) (pe_op op_or (pe_op op_shr (pv 4) pe_int) (pe_op op_shl (pv 4) pe_int))) (pe_op op_shr (pv 4) pe_int)))
      (pss_one (ps_expr (pe_bm PySem.F.plainAttrs_list PySem.F.slot_list_append PySem.F.type_list_append mt_append (pv 1) (pa_cons (pe_op op_and (pe_op op_add (pe_op op_add (pe_op op_add (pe_ix ix_list (pv 1) (pe_op op_sub (pv 2) pe_int) (fun _ _ => rfl)) (pe_op op_and (pv 5) (pe_gi g_MASK))) (pe_ix ix_list (pv 1) (pe_op op_sub (pv 2) pe_int) (fun _ _ => rfl))) (pe_op op_and (pv 6) (pe_gi g_MASK))) (pe_gi g_MASK)) pa_nil))))))))
      (pss_one (ps_ret (pv 1)))))), ?_⟩
    refine q_asgL (el_lst ea_nil (by decide)) fun p H1 hp e1 h1 => ?_
    refine q_forR3 (n := 16) (ea_cons (ev_cn 0) (ea_cons (ev_cn 64) (ea_cons (ev_cn 4) ea_nil))) (by unfold RgC; decide) (fun i σ H' => Ex H H' ∧ H' p = some (.lst (nats (wd0 bl i))) ∧ ∃ y, σ = [some (.ref b), some (.ref p), y, none, none, none, none])
      (fun H2 e2 => ⟨e1.trans e2, e2 p _ h1, none, rfl⟩) ?_ ?_
    · rintro i σ H' hi ⟨e, hw, y, rfl⟩
      have e4 : ((0 : Nat) : Int) + (i : Nat) * ((4 : Nat) : Int) = ((4 * i : Nat) : Int) := by omega
      rw [e4]
      have hB' := ex_l e hB
      have g : ∀ j, j < 64 → (nats bl)[j]? = some (.int ((bl.getD j 0 : Nat) : Int)) := fun j hj => nats_get (by omega)
      have lt := fun j => hoct.get j
      have l64 : ∀ j, bl.getD j 0 < 2 ^ 64 := fun j => Nat.lt_trans (lt j) (by decide)
      refine s_app (v := .int (word4 bl i : Nat)) hw (ev_v rfl) (ev_is (ev_op (ev_op (ev_op (ev_op (ev_ixL (ev_v rfl) (ev_v rfl) hB' (g _ (by omega))) (ev_cn 24) (rv_shlN (l64 _) (by decide)))
        (ev_op (ev_ixL (ev_v rfl) (ev_op (ev_v rfl) (ev_cn 1) rv_addN) hB' (g _ (by omega))) (ev_cn 16) (rv_shlN (l64 _) (by decide))) rv_orN)
        (ev_op (ev_ixL (ev_v rfl) (ev_op (ev_v rfl) (ev_cn 2) rv_addN) hB' (g _ (by omega))) (ev_cn 8) (rv_shlN (l64 _) (by decide))) rv_orN)
        (ev_ixL (ev_v rfl) (ev_op (ev_v rfl) (ev_cn 3) rv_addN) hB' (g _ (by omega))) rv_orN) ?_) (by rw [nats_len, wd0_len]; omega) fun H2 e2 => ?_
      · rw [word_or (lt _) (lt _) (lt _)]
        rfl
      · refine ⟨(e.trans e2).mut hp, ?_, some (.int ((4 * i : Nat) : Int)), rfl⟩
        rw [upd_same, wd0, nats_app]
        rfl
    rintro σ H2 ⟨e2, h2, y, rfl⟩
    refine q_forR2N (lo := 16) (n := 64) (ea_cons (ev_cn 16) (ea_cons (ev_cn 64) ea_nil)) (by decide) (fun i σ H' => Ex H H' ∧ H' p = some (.lst (nats (wds bl i))) ∧ ∃ y y3 y4 y5 y6, σ = [some (.ref b), some (.ref p), y, y3, y4, y5, y6])
      (fun H3 e3 => ⟨e2.trans e3, e3 p _ h2, _, _, _, _, _, rfl⟩) ?_ ?_
    · rintro i σ H' hi ⟨e, hw, y, y3, y4, y5, y6, rfl⟩
      have wl := wds_len bl i
      have lt := getD_lt (wds_lt hoct i) (by decide)
      have l64 : ∀ j, (wds bl i).getD j 0 < 2 ^ 64 := fun j => Nat.lt_trans (lt j) (by decide)
      have g : ∀ j, j < 16 + i → (nats (wds bl i))[j]? = some (.int (((wds bl i).getD j 0 : Nat) : Int)) := fun j hj => nats_get (by omega)
      have ix : ∀ (d : Nat), d ≤ 16 → 0 < d → ∀ σ' H3, Ex H' H3 → σ'[1]? = some (some (.ref p)) → σ'[2]? = some (some (.int ((16 + i : Nat) : Int))) → Ev (tOp (rIxL K) (tVar 1) (tOp (rI0 fun i j => .int (i - j)) (tVar 2) (tC (.int (d : Int))))) σ' H3 (.int (((wds bl i).getD (16 + i - d) 0 : Nat) : Int)) :=
        fun d hd d0 σ' H3 e3 s3 s4 => ev_ixL (ev_v s3) (ev_op (ev_v s4) (ev_cn d) (rv_subN (by omega))) (sq_of (e3 p _ hw)) (g _ (by omega))
      -- one, two
      refine q_par (ea_cons (ix 15 (by decide) (by decide) _ _ (Ex.refl _) rfl rfl) (ea_cons (ix 2 (by decide) (by decide) _ _ (Ex.refl _) rfl rfl) ea_nil)) fun H3 e3 => ?_
      have E3 := e3
      refine q_asg (ev_op (ev_op (ev_op (ev_op (ev_v rfl) (ev_cn 7) rv_shrN) (ev_op (ev_v rfl) (ev_cn 25) (rv_shlN (l64 _) (by decide))) rv_orN) (ev_op (ev_op (ev_v rfl) (ev_cn 18) rv_shrN) (ev_op (ev_v rfl) (ev_cn 14) (rv_shlN (l64 _) (by decide))) rv_orN) rv_xorN) (ev_op (ev_v rfl) (ev_cn 3) rv_shrN) rv_xorN) fun H4 e4 => ?_
      refine q_asg (ev_op (ev_op (ev_op (ev_op (ev_v rfl) (ev_cn 17) rv_shrN) (ev_op (ev_v rfl) (ev_cn 15) (rv_shlN (l64 _) (by decide))) rv_orN) (ev_op (ev_op (ev_v rfl) (ev_cn 19) rv_shrN) (ev_op (ev_v rfl) (ev_cn 13) (rv_shlN (l64 _) (by decide))) rv_orN) rv_xorN) (ev_op (ev_v rfl) (ev_cn 10) rv_shrN) rv_xorN) fun H5 e5 => ?_
      have E5 := (e3.trans e4).trans e5
      refine s_app (v := .int (wnext (wds bl i) (16 + i) : Nat)) (E5 p _ hw) (ev_v rfl) (ev_is (ev_op (ev_op (ev_op (ev_op (ix 16 (by decide) (by decide) _ _ E5 rfl rfl) (ev_op (ev_v rfl) (ev_cn 4294967295) rv_andN) rv_addN) (ix 7 (by decide) (by decide) _ _ E5 rfl rfl) rv_addN) (ev_op (ev_v rfl) (ev_cn 4294967295) rv_andN) rv_addN) (ev_cn 4294967295) rv_andN) ?_) (by rw [nats_len]; omega) fun H6 e6 => ?_
      · rw [ssg_prog 25 14 (lt _) rfl rfl, ssg_prog 15 13 (lt _) rfl rfl, mask32]
        rfl
      · refine ⟨(e.trans (E5.trans e6)).mut hp, ?_, _, _, _, _, _, rfl⟩
        rw [upd_same, wds, nats_app]
        rfl
    rintro σ H3 ⟨e3, h3, y, y3, y4, y5, y6, rfl⟩
    refine s_ret (ev_v rfl) fun H4 e4 => ?_
    exact q p H4 (hp) (e3.trans e4) (e4 p _ h3)
end
end K82

set_option Elab.async false
set_option linter.all false
set_option maxRecDepth 100000
set_option maxHeartbeats 4000000
namespace K82
open PySem PySem.Spec PyProof.Rows L2 Evl My
theorem mod_mask (x : Nat) : x &&& 4294967295 = x % 4294967296 := mask32 x
theorem get8 {K : PySem.W.Frag} {r : R8} : nats r.list = [.int (r.a : Int), .int (r.b : Int), .int (r.c : Int), .int (r.d : Int), .int (r.e : Int), .int (r.f : Int), .int (r.g : Int), .int (r.h : Int)] := rfl
theorem list8 (r : R8) : (nats r.list).length = 8 := rfl
theorem list88 (r R : R8) : (nats r.list).length = (nats R.list).length := (list8 r).trans (list8 R).symm
theorem fst1_prog {r : R8} (h : r.ok) (t w : Nat) : r.h + (((r.e >>> 6 ||| r.e <<< 26) ^^^ (r.e >>> 11 ||| r.e <<< 21) ^^^ (r.e >>> 25 ||| r.e <<< 7)) &&& 4294967295) + ((r.e &&& r.f) ^^^ ((4294967295 - r.e) &&& r.g)) + t + w = fst1 r t w := by
  obtain ⟨_, _, _, _, he, _, _, _⟩ := h
  rw [sig_prog 26 21 7 he rfl rfl rfl]
  rfl
theorem snd2_prog {r : R8} (h : r.ok) : (((r.a >>> 2 ||| r.a <<< 30) ^^^ (r.a >>> 13 ||| r.a <<< 19) ^^^ (r.a >>> 22 ||| r.a <<< 10)) &&& 4294967295) + ((r.a &&& r.b) ^^^ (r.a &&& r.c) ^^^ (r.b &&& r.c)) = snd2 r := by
  obtain ⟨ha, _, _, _, _, _, _, _⟩ := h
  rw [sig_prog 30 19 10 ha rfl rfl rfl]
  rfl
section
variable {P : Program} {w : World} {K : PySem.W.Frag} {mg : Str → Option Value} {base : Heap}
abbrev s_mixed : Stmt := topS 19
theorem sc_mixed : FnScope ["state", "words", "a", "b", "c", "d", "e", "f", "g", "h", "turn", "word", "low", "first", "high", "second", "one", "other"] ["state", "words"] (defScope s_mixed) := ⟨rfl, rfl, rfl, by decide +kernel, rfl, by decide +kernel, by decide +kernel⟩
/- 0 state, 1 words, 2 a, 3 b, 4 c, 5 d, 6 e, 7 f, 8 g, 9 h, 10 turn, 11 word, 12 low, 13 first, 14 high, 15 second, 16 one, 17 other -/
def ok_mixed (K : PySem.W.Frag) (vs : List V) (H : Hp) (z : List V) : Prop := ∃ (r : R8) (W : List Nat) (a b : Addr), vs = [.ref a, .ref b] ∧ r.ok ∧ (∀ x ∈ W, x < 2 ^ 32) ∧ W.length = 64 ∧ SqL K H a (nats r.list) ∧ SqL K H b (nats W) ∧ z = nats (radd r (rnds r turnsC W 64)).list
theorem turns_lt : ∀ x ∈ turnsC, x < 2 ^ 32 := by decide +kernel
theorem turns_len : turnsC.length = 64 := by decide +kernel
theorem fn_mixed {f : Addr} {fd : FuncData} {k : Nat} (F : Fun K "mixed" "mixed" s_mixed f fd) (N : Nb mg) (g_MASK : GI mg "MASK" 4294967295) (g_TURNS : GT K mg "TURNS" (nats turnsC)) : FnOk P w K mg base CX0 (k + 1) f fd ["state", "words"] (spL (ok_mixed K)) := by
  refine F.ok sc_mixed (fun vs H Q E h => ?_) (fun cdv A outer s H vs Q E hr h => ?_)
  · obtain ⟨_, ⟨_, _, _, _, rfl, _⟩, _⟩ := h
    rfl
  · obtain ⟨_, ⟨r, W, pa, pb, rfl, hr8, hW, hWl, hA, hB, hz⟩, q⟩ := h
    rw [hz] at q
    refine ⟨_, (pss_cons (ps_asg (pv 0) (pg_unl rfl (pgs_cons (pg_name (i := 2) sc_mixed.nd rfl (Or.inl rfl)) (pgs_cons (pg_name (i := 3) sc_mixed.nd rfl (Or.inl rfl)) (pgs_cons (pg_name (i := 4) sc_mixed.nd rfl (Or.inl rfl)) (pgs_cons (pg_name (i := 5) sc_mixed.nd rfl (Or.inl rfl)) (pgs_cons (pg_name (i := 6) sc_mixed.nd rfl (Or.inl rfl)) (pgs_cons (pg_name (i := 7) sc_mixed.nd rfl (Or.inl rfl)) (pgs_cons (pg_name (i := 8) sc_mixed.nd rfl (Or.inl rfl)) (pgs_cons (pg_name (i := 9) sc_mixed.nd rfl (Or.inl rfl)) pgs_nil))))))))))
      (pss_cons (ps_for PassesOwn.never rfl (pi_zs true false rfl N.zip (pa_cons (pe_gt g_TURNS) (pa_cons (pv 1) pa_nil)) (pk_cons pe_bl pk_nil)) (pg_tup rfl (pgs_cons (pg_name (i := 10) sc_mixed.nd rfl (Or.inl rfl)) (pgs_cons (pg_name (i := 11) sc_mixed.nd rfl (Or.inl rfl)) pgs_nil))) (pss_cons (ps_set (i := 12) sc_mixed.nd rfl (Or.inl rfl) (pe_op op_xor (pe_op op_xor (pe_op op_or (pe_op op_shr (pv 6) pe_int) (pe_op op_shl (pv 6) pe_int)) (pe_op op_or (pe_op op_shr (pv 6) pe_int) (pe_op op_shl (pv 6) pe_int))) (pe_op op_or (pe_op op_shr (pv 6) pe_int) (pe_op op_shl (pv 6) pe_int))))
      (pss_cons (ps_set (i := 13) sc_mixed.nd rfl (Or.inl rfl) (pe_op op_add (pe_op op_add (pe_op op_add (pe_op op_add (pv 9) (pe_op op_and (pv 12) (pe_gi g_MASK))) (pe_op op_xor (pe_op op_and (pv 6) (pv 7)) (pe_op op_and (pe_un un_inv (pv 6)) (pv 8)))) (pv 10)) (pv 11)))
      (pss_cons (ps_set (i := 14) sc_mixed.nd rfl (Or.inl rfl) (pe_op op_xor (pe_op op_xor (pe_op op_or (pe_op op_shr (pv 2) pe_int) (pe_op op_shl (pv 2) pe_int)) (pe_op op_or (pe_op op_shr (pv 2) pe_int) (pe_op op_shl (pv 2) pe_int))) (pe_op op_or (pe_op op_shr (pv 2) pe_int) (pe_op op_shl (pv 2) pe_int))))
      (pss_cons (ps_set (i := 15) sc_mixed.nd rfl (Or.inl rfl) (pe_op op_add (pe_op op_and (pv 14) (pe_gi g_MASK)) (pe_op op_xor (pe_op op_xor (pe_op op_and (pv 2) (pv 3)) (pe_op op_and (pv 2) (pv 4))) (pe_op op_and (pv 3) (pv 4)))))
      (pss_one (ps_asg (pe_tup (pa_cons (pe_op op_and (pe_op op_add (pv 13) (pv 15)) (pe_gi g_MASK)) (pa_cons (pv 2) (pa_cons (pv 3) (pa_cons (pv 4) (pa_cons (pe_op op_and (pe_op op_add (pv 5) (pv 13)) (pe_gi g_MASK)) (pa_cons (pv 6) (pa_cons (pv 7) (pa_cons (pv 8) pa_nil))))))))) (pg_tup rfl (pgs_cons (pg_name (i := 2) sc_mixed.nd rfl (Or.inl rfl)) (pgs_cons (pg_name (i := 3) sc_mixed.nd rfl (Or.inl rfl)) (pgs_cons (pg_name (i := 4) sc_mixed.nd rfl (Or.inl rfl)) (pgs_cons (pg_name (i := 5) sc_mixed.nd rfl (Or.inl rfl)) (pgs_cons (pg_name (i := 6) sc_mixed.nd rfl (Or.inl rfl)) (pgs_cons (pg_name (i := 7) sc_mixed.nd rfl (Or.inl rfl)) (pgs_cons (pg_name (i := 8) sc_mixed.nd rfl (Or.inl rfl)) (pgs_cons (pg_name (i := 9) sc_mixed.nd rfl (Or.inl rfl)) pgs_nil))))))))))))))))
      (pss_one (ps_ret (pe_lc (own := [("one", 16), ("other", 17)]) (by rfl) sc_mixed.nd (pi_zs false false rfl N.zip (pa_cons (pv 0) (pa_cons (pe_lst (pa_cons (pv 2) (pa_cons (pv 3) (pa_cons (pv 4) (pa_cons (pv 5) (pa_cons (pv 6) (pa_cons (pv 7) (pa_cons (pv 8) (pa_cons (pv 9) pa_nil))))))))) pa_nil)) (pk_cons pe_bl pk_nil)) (blkOk_by (own := [("one", 16), ("other", 17)]) (N := ["state", "words", "a", "b", "c", "d", "e", "f", "g", "h", "turn", "word", "low", "first", "high", "second", "one", "other"]) (sc := defScope s_mixed) (by decide +kernel)) (fun _ _ _ _ _ => (show PG _ _ (gTup K 2 _) from pg_tup rfl (pgs_cons (pg_name (i := 16) sc_mixed.nd rfl (Or.inl rfl)) (pgs_cons (pg_name (i := 17) sc_mixed.nd rfl (Or.inl rfl)) pgs_nil)))) (fun _ _ _ _ _ => pts_nil) (fun _ _ _ _ _ => (pe_op op_and (pe_op op_add (pv 16) (pv 17)) (pe_gi g_MASK)))))))), ?_⟩
    have htl := turns_lt
    have htn := turns_len
    generalize turnsC = TC at q htl htn ⊢
    -- a .. h = state
    refine q_unl (vs := nats r.list) [2, 3, 4, 5, 6, 7, 8, 9] (ev_v rfl) hA rfl rfl fun H1 e1 => ?_
    -- the turns
    refine q_forZ (xs := nats TC) (ys := nats W) (ez_gt (ev_v rfl) (ex_l e1 hB)) (by rw [nats_len, nats_len, htn, hWl]) (fun H2 i σ H' => Ex H2 H' ∧ ∃ y10 y11 y12 y13 y14 y15 y16 y17, i ≤ 64 ∧ σ = [some (.ref pa), some (.ref pb), some (.int ((rnds r TC W i).a : Int)), some (.int ((rnds r TC W i).b : Int)), some (.int ((rnds r TC W i).c : Int)),
        some (.int ((rnds r TC W i).d : Int)), some (.int ((rnds r TC W i).e : Int)), some (.int ((rnds r TC W i).f : Int)), some (.int ((rnds r TC W i).g : Int)), some (.int ((rnds r TC W i).h : Int)), y10, y11, y12, y13, y14, y15, y16, y17])
      (fun H2 e2 => ⟨Ex.refl _, _, _, _, _, _, _, _, _, Nat.zero_le _, rfl⟩) (fun H2 i σ' H' p => p.1) ?_ ?_
    · rintro H2 i x y σ H' e2 hx hy ⟨e, y10, y11, y12, y13, y14, y15, y16, y17, hi, rfl⟩ H3 e3
      obtain ⟨rfl, hi1⟩ := getD_of hx
      obtain ⟨rfl, hi2⟩ := getD_of hy
      have ok := rnds_ok hr8 TC W i
      have l := ok
      obtain ⟨l1, l2, l3, l4, l5, l6, l7, l8⟩ := l
      have b64 : ∀ {n : Nat}, n < 2 ^ 32 → n < 2 ^ 64 := fun h => Nat.lt_trans h (by decide)
      generalize hr' : rnds r TC W i = r' at ok l1 l2 l3 l4 l5 l6 l7 l8
      generalize hT : TC.getD i 0 = t
      generalize hw' : W.getD i 0 = w'
      refine q_asg (ev_op (ev_op (ev_op (ev_op (ev_v rfl) (ev_cn 6) rv_shrN) (ev_op (ev_v rfl) (ev_cn 26) (rv_shlN (b64 l5) (by decide))) rv_orN) (ev_op (ev_op (ev_v rfl) (ev_cn 11) rv_shrN) (ev_op (ev_v rfl) (ev_cn 21) (rv_shlN (b64 l5) (by decide))) rv_orN) rv_xorN)
        (ev_op (ev_op (ev_v rfl) (ev_cn 25) rv_shrN) (ev_op (ev_v rfl) (ev_cn 7) (rv_shlN (b64 l5) (by decide))) rv_orN) rv_xorN) fun H4 e4 => ?_
      refine q_asg (v := .int (fst1 r' t w' : Nat)) (ev_is (ev_op (ev_op (ev_op (ev_op (ev_v rfl) (ev_op (ev_v rfl) (ev_cn 4294967295) rv_andN) rv_addN) (ev_op (ev_op (ev_v rfl) (ev_v rfl) rv_andN) (ev_op (ev_un (ev_v rfl) ru_inv) (ev_v rfl) (rv_is rv_I0 (congrArg V.int (not_rule l5 l7)))) rv_xorN) rv_addN) (ev_v rfl) rv_addN) (ev_v rfl) rv_addN) (congrArg (fun n : Nat => V.int (n : Int)) (fst1_prog ok t w'))) fun H5 e5 => ?_
      refine q_asg (ev_op (ev_op (ev_op (ev_op (ev_v rfl) (ev_cn 2) rv_shrN) (ev_op (ev_v rfl) (ev_cn 30) (rv_shlN (b64 l1) (by decide))) rv_orN) (ev_op (ev_op (ev_v rfl) (ev_cn 13) rv_shrN) (ev_op (ev_v rfl) (ev_cn 19) (rv_shlN (b64 l1) (by decide))) rv_orN) rv_xorN)
        (ev_op (ev_op (ev_v rfl) (ev_cn 22) rv_shrN) (ev_op (ev_v rfl) (ev_cn 10) (rv_shlN (b64 l1) (by decide))) rv_orN) rv_xorN) fun H6 e6 => ?_
      refine q_asg (v := .int (snd2 r' : Nat)) (ev_is (ev_op (ev_op (ev_v rfl) (ev_cn 4294967295) rv_andN) (ev_op (ev_op (ev_op (ev_v rfl) (ev_v rfl) rv_andN) (ev_op (ev_v rfl) (ev_v rfl) rv_andN) rv_xorN) (ev_op (ev_v rfl) (ev_v rfl) rv_andN) rv_xorN) rv_addN) (congrArg (fun n : Nat => V.int (n : Int)) (snd2_prog ok))) fun H7 e7 => ?_
      -- the eight at once
      refine s_tupN [2, 3, 4, 5, 6, 7, 8, 9] (eu_tup (ea_cons (ev_is (ev_op (ev_op (ev_v rfl) (ev_v rfl) rv_addN) (ev_cn 4294967295) rv_andN) (congrArg (fun n : Nat => V.int (n : Int)) (mod_mask _))) (ea_cons (ev_v rfl) (ea_cons (ev_v rfl) (ea_cons (ev_v rfl) (ea_cons (ev_is (ev_op (ev_op (ev_v rfl) (ev_v rfl) rv_addN) (ev_cn 4294967295) rv_andN) (congrArg (fun n : Nat => V.int (n : Int)) (mod_mask _))) (ea_cons (ev_v rfl) (ea_cons (ev_v rfl) (ea_cons (ev_v rfl) ea_nil)))))))) (by show 8 ≤ 100000; decide)) rfl rfl fun H8 e8 => ?_
      have er : rnds r TC W (i + 1) = rnd r' t w' := by rw [rnds, hr', hT, hw']
      show Ex H2 H8 ∧ _
      rw [er]
      exact ⟨(((((e.trans e3).trans e4).trans e5).trans e6).trans e7).trans e8, _, _, _, _, _, _, _, _, by omega, rfl⟩
    · rintro H2 σ H' e2 ⟨e, y10, y11, y12, y13, y14, y15, y16, y17, hi, rfl⟩
      rw [nats_len, htn]
      have E := (e1.trans e2).trans e
      generalize rnds r TC W 64 = R at q ⊢
      refine s_retL (el_lcZ (xs := nats r.list) (ys := nats R.list) (fun i => .int (((r.list.getD i 0 + R.list.getD i 0) % 4294967296 : Nat) : Int)) (ez_vn (ev_v rfl) (ex_l E hA) (el_lst (ea_cons (ev_v rfl) (ea_cons (ev_v rfl) (ea_cons (ev_v rfl) (ea_cons (ev_v rfl) (ea_cons (ev_v rfl) (ea_cons (ev_v rfl) (ea_cons (ev_v rfl) (ea_cons (ev_v rfl) ea_nil)))))))) (by show 8 ≤ 100000; decide))) (list88 r R) (by rw [list8]; decide) (fun _ _ => rfl) (fun i x y H3 e3 hx hy => ?_)) fun p3 H3 hp3 e3 h3 => ?_
      · obtain ⟨rfl, _⟩ := getD_of hx
        obtain ⟨rfl, _⟩ := getD_of hy
        exact ev_is (ev_op (ev_op (ev_v rfl) (ev_v rfl) rv_addN) (ev_cn 4294967295) rv_andN) (congrArg (fun n : Nat => V.int (n : Int)) (mod_mask _))
      · rw [list8, radd_map] at h3
        exact q p3 H3 (fresh_back E hp3) (E.trans e3) h3
end
end K82

set_option Elab.async false
set_option linter.all false
set_option maxRecDepth 100000
set_option maxHeartbeats 4000000
namespace K82
open PySem PySem.Spec PyProof.Rows L2 Evl My
/-- the state behind so many blocks -/
def stN (pd : List Nat) : Nat → R8
  | 0 => firstC
  | i + 1 => radd (stN pd i) (rnds (stN pd i) turnsC (wds ((pd.drop (64 * i)).take 64) 48) 64)
theorem stN_ok (pd : List Nat) : ∀ i, (stN pd i).ok
  | 0 => first_ok
  | i + 1 => radd_ok _ _
def shaN (data : List Nat) : List Nat := hexR (stN (padP data) ((padP data).length / 64)).list
theorem hex_shift (w : Nat) : (List.range 8).map (fun k => hexd.getD (w >>> (28 - 4 * k) &&& 15) 0) = hexL w 8 := by
  have e : ∀ n, w >>> (4 * n) &&& 15 = w / 16 ^ n % 16 := fun n => by
    rw [show (15 : Nat) = 2 ^ 4 - 1 from rfl, Nat.and_two_pow_sub_one_eq_mod, Nat.shiftRight_eq_div_pow, Nat.pow_mul]
  have h : ∀ k, k < 8 → hexd.getD (w >>> (28 - 4 * k) &&& 15) 0 = hexd.getD (w / 16 ^ (7 - k) % 16) 0 := fun k hk => by
    rw [show 28 - 4 * k = 4 * (7 - k) by omega, e]
  rw [List.map_congr_left fun k hk => h k (List.mem_range.mp hk)]
  rfl
theorem sum_ones {α : Type} : ∀ l : List α, (l.map fun _ => 1).sum = l.length
  | [] => rfl
  | _ :: r => by rw [List.map_cons, List.sum_cons, sum_ones r, List.length_cons, Nat.add_comm]
theorem rg4 : RgC 28 (-1) (-4) 8 := by unfold RgC; decide
theorem oct_drop {l : List Nat} (h : Oct l) (n m : Nat) : Oct ((l.drop n).take m) := fun x hx => h x (List.mem_of_mem_drop (List.mem_of_mem_take hx))
theorem oct_padP {data : List Nat} (h : Oct data) : Oct (padP data) := by
  unfold padP
  refine oct_app (oct_app (oct_app h fun x hx => by rw [List.mem_singleton.mp hx]; decide) (oct_rep _)) fun x hx => ?_
  obtain ⟨i, _, rfl⟩ := List.mem_map.mp hx
  exact Nat.lt_of_le_of_lt Nat.and_le_right (by decide)
theorem flat_hex (RL : List Nat) : ∀ j, j ≤ RL.length → flat2 8 (fun i k => V.str (tx [hexd.getD (RL.getD i 0 >>> (28 - 4 * k) &&& 15) 0])) j = ((hexR (RL.take j)).map fun c => tx [c]).map V.str
  | 0, _ => rfl
  | j + 1, h => by
    rw [flat2, flat_hex RL j (by omega), hexR_take (by omega), List.map_append, List.map_append, ← hex_shift, List.map_map, List.map_map]
    rfl
section
variable {P : Program} {w : World} {K : PySem.W.Frag} {mg : Str → Option Value} {base : Heap}
abbrev s_sha : Stmt := topS 20
theorem sc_sha : FnScope ["data", "state", "octets", "at", "digits", "word", "shift"] ["data"] (defScope s_sha) := ⟨rfl, rfl, rfl, by decide +kernel, rfl, by decide +kernel, by decide +kernel⟩
/- 0 data, 1 state, 2 octets, 3 at, 4 digits*, 5 word, 6 shift -/
def ok_sha (vs : List V) (H : Hp) (z : V) : Prop := ∃ (a : Addr) (data : List Nat), vs = [.ref a] ∧ H a = some (.lst (nats data)) ∧ data.length ≤ 30000 ∧ Oct data ∧ z = .str (tx (shaN data))
theorem nl (xs : List Nat) (n : Nat) (h : xs.length = n) : (nats xs).length = n := by rw [nats_len, h]
theorem fn_sha {f : Addr} {fd : FuncData} {k : Nat} (F : Fun K "sha" "sha" s_sha f fd) (N : Nb mg) (g_FIRST : GT K mg "FIRST" (nats firstC.list)) (C_padded : Cal P w K mg base k "padded" ["data"] (spL ok_padded)) (C_spread : Cal P w K mg base k "spread" ["block"] (spL (ok_spread K)))
    (C_mixed : Cal P w K mg base k "mixed" ["state", "words"] (spL (ok_mixed K))) : FnOk P w K mg base CX0 (k + 1) f fd ["data"] (spV ok_sha) := by
  refine F.ok sc_sha (fun vs H Q E h => ?_) (fun cdv A outer s H vs Q E hr h => ?_)
  · obtain ⟨_, ⟨_, _, rfl, _⟩, _⟩ := h
    rfl
  · obtain ⟨_, ⟨a, data, rfl, hA, hd, hoct, hz⟩, q⟩ := h
    rw [hz] at q
    refine ⟨_, (pss_cons (ps_set (i := 1) sc_sha.nd rfl (Or.inl rfl) (pe_callTy call_list_of (by rfl) N.list PyProof.Rows.boot_list (pa_cons (pe_gt g_FIRST) pa_nil)))
      (pss_cons (ps_set (i := 2) sc_sha.nd rfl (Or.inl rfl) (pe_cal C_padded hr (pa_cons (pe_callTy call_list_of (by rfl) N.list PyProof.Rows.boot_list (pa_cons (pv 0) pa_nil)) pa_nil)))
      (pss_cons (ps_for PassesOwn.never rfl (pi_range3 rfl N.range (pa_cons pe_int (pa_cons (pe_callB call_len_seq (by rfl) N.len PySem.boot_len (pa_cons (pv 2) pa_nil)) (pa_cons pe_int pa_nil)))) (pg_name (i := 3) sc_sha.nd rfl (Or.inl rfl)) (pss_one (ps_set (i := 1) sc_sha.nd rfl (Or.inl rfl) (pe_cal C_mixed hr (pa_cons (pv 1) (pa_cons (pe_cal C_spread hr (pa_cons (pe_slice sl_list (pv 2) (po_some (pv 3)) (po_some (pe_op op_add (pv 3) pe_int))) pa_nil)) pa_nil))))))
      (pss_cons (ps_set (i := 4) sc_sha.nd rfl (Or.inr rfl) pe_str)
      (pss_one (ps_ret (pe_join pe_str (pe_lc2 (own := [("word", 5), ("shift", 6)]) (vs1 := [6]) (by rfl) sc_sha.nd (pi_list (pv 1)) (blkOk_by (own := [("word", 5), ("shift", 6)]) (N := ["data", "state", "octets", "at", "digits", "word", "shift"]) (sc := defScope s_sha) (by decide +kernel)) (by decide) (fun _ _ _ _ _ => (pg_name (i := 5) sc_sha.nd rfl (Or.inl rfl))) (fun _ _ _ _ _ => pts_nil) (fun _ _ _ _ _ => (pi_range3 rfl N.range (pa_cons pe_int (pa_cons (pe_un un_neg pe_int) (pa_cons (pe_un un_neg pe_int) pa_nil))))) (fun _ _ _ _ _ => (pg_name (i := 6) sc_sha.nd rfl (Or.inl rfl))) (fun _ _ _ _ _ => pts_nil) (fun _ _ _ _ _ => (pe_ix ix_str (pv 4) (pe_op op_and (pe_op op_shr (pv 5) (pv 6)) pe_int) (fun _ _ => rfl))))))))))), ?_⟩
    have hfo := first_ok
    have hok := stN_ok (padP data)
    have h0 : stN (padP data) 0 = firstC := rfl
    have hst : ∀ i, stN (padP data) (i + 1) = radd (stN (padP data) i) (rnds (stN (padP data) i) turnsC (wds (((padP data).drop (64 * i)).take 64) 48) 64) := fun _ => rfl
    have hpo := oct_padP hoct
    have hpm := padP_mod data
    have hpl := padP_len data
    have zl := zc_lt data.length
    unfold shaN at q
    -- state
    refine q_asgL (xs := nats firstC.list) (fun H0 e Q q => fun a' ha => ⟨a', nats firstC.list, rfl, .inr (ha _), fun l hl => q l _ hl (Ex.new hl) upd_same⟩) fun p1 H1 hp1 e1 h1 => ?_
    -- octets
    refine q_asgL (xs := nats (padP data)) (el_calP (eap_l (el_list (ev_v rfl) (sq_of (e1 a _ hA))) eap_nil) fun vs H2 e2 hv => ?_) fun p2 H2 hp2 e2 h2 => ?_
    · obtain ⟨b, _, rfl, hb, rfl⟩ := hv
      exact ⟨b, data, rfl, hb, hd, rfl⟩
    generalize padP data = PD at h2 hst hpo hpm hpl hok h0 q
    generalize stN PD = S at hst hok h0 q
    have E2 := e1.trans e2
    have hlen : Ev (tCB (rLenS K) (tCons (tVar 2) tNil)) [some (.ref a), some (.ref p1), some (.ref p2), none, none, none, none] H2 (.int (PD.length : Int)) := by
      have := ev_len (K := K) (σ := [some (.ref a), some (.ref p1), some (.ref p2), none, none, none, none]) (ta := tVar 2) (ev_v rfl) (sq_of h2)
      rw [nats_len] at this
      exact this
    have hn : (PD.length + 64 - 1) / 64 = PD.length / 64 := by omega
    refine q_forR3 (n := PD.length / 64) (ea_cons (ev_cn 0) (ea_cons hlen (ea_cons (ev_cn 64) ea_nil))) (by rw [← hn]; exact rgC_up (by omega) (by decide) (by decide))
      (fun i σ H' => Ex H2 H' ∧ ∃ p y, H' p = some (.lst (nats (S i).list)) ∧ σ = [some (.ref a), some (.ref p), some (.ref p2), y, none, none, none]) (fun H3 e3 => ⟨e3, p1, none, ?_, rfl⟩) ?_ ?_
    · rw [h0]
      exact e3 p1 _ (e2 p1 _ h1)
    · rintro i σ H' hi ⟨e, p, y, hp, rfl⟩
      have e64 : ((0 : Nat) : Int) + (i : Nat) * ((64 : Nat) : Int) = ((64 * i : Nat) : Int) := by omega
      rw [e64]
      have hcut : cutV (nats PD) (some ((64 * i : Nat) : Int)) (some ((64 * i + 64 : Nat) : Int)) = nats ((PD.drop (64 * i)).take 64) := by
        rw [cutV_mid _ _ _ (by rw [nats_len]; omega), nats_take, nats_drop, show 64 * i + 64 - 64 * i = 64 by omega]
      have hbl : ((PD.drop (64 * i)).take 64).length = 64 := by rw [List.length_take, List.length_drop]; omega
      have hbo := oct_drop hpo (64 * i) 64
      rw [hst]
      generalize (PD.drop (64 * i)).take 64 = BL at hcut hbl hbo ⊢
      have hwl := wds_len BL 48
      have hwt := wds_lt hbo 48
      have hok' := hok i
      refine s_asgL (xs := nats (radd (S i) (rnds (S i) turnsC (wds BL 48) 64)).list) (el_calP (eap_v (ev_v rfl) (eap_l (xs := nats (wds BL 48)) (el_calP (eap_l (xs := nats BL) (by
          rw [← hcut]
          exact el_sl (ev_v rfl) (eo_some (ev_v rfl)) (eo_some (ev_op (ev_v rfl) (ev_cn 64) rv_addN)) (sq_of (e p2 _ h2))) eap_nil) fun vs H4 e4 hv => ?_) eap_nil)) fun vs H5 e5 hv => ?_) fun p3 H6 hp3 e6 h6 => ?_
      · obtain ⟨b, _, rfl, hb, rfl⟩ := hv
        exact ⟨b, BL, rfl, hbo, hbl, sq_of hb, rfl⟩
      · obtain ⟨_, rfl, b, _, rfl, hb, rfl⟩ := hv
        exact ⟨S i, wds BL 48, p, b, rfl, hok', hwt, hwl, sq_of (e5 p _ hp), sq_of hb, rfl⟩
      · exact ⟨e.trans e6, p3, _, h6, rfl⟩
    · rintro σ H' ⟨e, p, y, hp, rfl⟩
      have hSl : (S (PD.length / 64)).list.length = 8 := rfl
      generalize (S (PD.length / 64)).list = RL at hp q hSl
      refine q_asg (ev_cs hexd hex_str) fun H3 e3 => ?_
      have fl : flat2 8 (fun i k => V.str (tx [hexd.getD (RL.getD i 0 >>> (28 - 4 * k) &&& 15) 0])) (nats RL).length = ((hexR RL).map fun c => tx [c]).map V.str := by
        rw [nats_len, flat_hex RL _ (Nat.le_refl _), List.take_of_length_le (Nat.le_refl _)]
      -- ''.join
      refine ⟨⟨_, rfl⟩, ?_⟩
      refine (el_lc2 (K := K) (xs := nats RL) (fun i k => V.str (tx [hexd.getD (RL.getD i 0 >>> (28 - 4 * k) &&& 15) 0])) (ev_v rfl) (sq_of (e3 p _ hp)) rg4 (by rw [nats_len, hSl]; decide) (fun _ => rfl) (fun _ _ => rfl)
        (fun i x H4 e4 hx => ea_cons ev_c (ea_cons (ev_un ev_c ru_neg) (ea_cons (ev_un ev_c ru_neg) ea_nil))) (fun i k x H4 e4 hx hk => ?_)) H3 (Ex.refl _) _ fun p4 H4 hp4 e4 h4 => ?_
      · obtain ⟨rfl, hi⟩ := getD_of hx
        have e7 : (28 : Int) + (k : Nat) * (-4) = ((28 - 4 * k : Nat) : Int) := by omega
        rw [e7]
        exact ev_op (ev_v rfl) (ev_op (ev_op (ev_v rfl) (ev_v rfl) rv_shrN) (ev_cn 15) rv_andN) (rv_ixSn (by decide) (hex_get (Nat.lt_of_le_of_lt Nat.and_le_right (by decide))))
      · rw [fl] at h4
        refine ⟨_, p4, (hexR RL).map fun c => tx [c], rfl, rfl, .inl (sq_of h4), ?_, ?_⟩
        · have e1 : ((hexR RL).map fun c => tx [c]).map (·.length) = (hexR RL).map fun _ => 1 := by
            rw [List.map_map]
            rfl
          rw [e1, sum_ones, List.length_map, hexR_len, hSl]
          decide
        · have e0 : (Str.ofString "") = tx [] := by decide +kernel
          show Q (.str (Txt.join (Str.ofString "") _)) H4
          rw [e0, My.join_ones]
          exact q H4 (((E2.trans e).trans e3).trans e4)
end
end K82

set_option Elab.async false
set_option linter.all false
set_option maxRecDepth 100000
set_option maxHeartbeats 4000000
namespace K82
open PySem PySem.Spec PyProof.Rows L2 Evl My
def signsS : Str := Str.ofString " !\"#$&'()*+,-./0123456789:;<=>?@ABCDEFGHIJKLMNOPQRSTUVWXYZ[\\]^_`abcdefghijklmnopqrstuvwxyz{|}~\n"
theorem signs_eq : signsS = tx sgns := by decide +kernel
theorem signs_at : ∀ c ∈ sgns, ∃ r, Builtin.Str.occurrences (tx sgns) (tx [c]) 0 (tx sgns).length 1 = sgn c :: r := by
  have h : ∀ c ∈ sgns, Builtin.Str.occurrences (tx sgns) (tx [c]) 0 (tx sgns).length 1 = [sgn c] := by decide +kernel
  intro c hc
  exact ⟨[], h c hc⟩
section
variable {P : Program} {w : World} {K : PySem.W.Frag} {mg : Str → Option Value} {base : Heap}
abbrev s_number_told : Stmt := topS 8
theorem sc_number_told : FnScope ["number", "found"] ["number"] (defScope s_number_told) := ⟨rfl, rfl, rfl, by decide +kernel, rfl, by decide +kernel, by decide +kernel⟩
/- 0 number, 1 found -/
def ok_number_told (vs : List V) (H : Hp) (z : List V) : Prop := ∃ n : Nat, vs = [.int (n : Int)] ∧ n < 2 ^ 64 ∧ z = nats (sev n)
theorem fn_number_told {f : Addr} {fd : FuncData} {k : Nat} (F : Fun K "number_told" "number_told" s_number_told f fd) (N : Nb mg) : FnOk P w K mg base CX0 (k + 1) f fd ["number"] (spL ok_number_told) := by
  refine F.ok sc_number_told (fun vs H Q E h => ?_) (fun cdv A outer s H vs Q E hr h => ?_)
  · obtain ⟨_, ⟨_, rfl, _⟩, _⟩ := h
    rfl
  · obtain ⟨_, ⟨n, rfl, hn, hz⟩, q⟩ := h
    rw [hz] at q
    have hsl : (sev n).length ≤ 10 := sev_len 9 n (Nat.lt_of_lt_of_le hn (by decide))
    refine ⟨_, (pss_cons (ps_set (i := 1) sc_number_told.nd rfl (Or.inl rfl) (pe_lst pa_nil))
      (pss_cons (ps_while PassesOwn.never (pt_cmpR op_gt (pv 0) pe_int (nomark _)) (pss_cons (ps_expr (pe_bm PySem.F.plainAttrs_list PySem.F.slot_list_append PySem.F.type_list_append mt_append (pv 1) (pa_cons (pe_op op_add pe_int (pe_op op_mod (pv 0) pe_int)) pa_nil)))
      (pss_one (ps_set (i := 0) sc_number_told.nd rfl (Or.inl rfl) (pe_op op_fdiv (pv 0) pe_int)))))
      (pss_one (ps_ret (pe_op op_cat (pv 1) (pe_lst (pa_cons (pv 0) pa_nil))))))), ?_⟩
    refine q_asgL (el_lst ea_nil (by decide)) fun p H1 hp e1 h1 => ?_
    refine q_while (fun m σ H' => Ex H H' ∧ ∃ pre, H' p = some (.lst (nats pre)) ∧ pre ++ sev m = sev n ∧ σ = [some (.int (m : Int)), some (.ref p)]) n ⟨e1, [], h1, rfl, rfl⟩ ?_
    rintro m σ H' ⟨e, pre, hP, hs, rfl⟩
    have hl : pre.length ≤ 10 := by
      have := congrArg List.length hs
      rw [List.length_append] at this
      omega
    refine ⟨decide ((127 : Int) < (m : Int)), et_test (ev_op (ev_v rfl) (ev_cn 127) rv_I0), fun hb H2 e2 => ⟨fun σ2 H2 => ∃ m', m' < m ∧ (Ex H H2 ∧ ∃ pre, H2 p = some (.lst (nats pre)) ∧ pre ++ sev m' = sev n ∧ σ2 = [some (.int (m' : Int)), some (.ref p)]), fun _ _ h => h, ?_⟩, fun hb H2 e2 => ?_⟩
    · have hm : 127 < m := by
        have := of_decide_eq_true hb
        omega
      refine q_app (e2 p _ hP) (ev_v rfl) (ev_op (ev_cn 128) (ev_op (ev_v rfl) (ev_cn 128) (rv_modN (by decide))) rv_addN) (by rw [nats_len]; omega) fun H3 e3 => ?_
      refine s_asg (ev_op (ev_v rfl) (ev_cn 128) (rv_divN (by decide) (by decide))) fun H4 e4 => ?_
      refine ⟨m / 128, by omega, (((e.trans e2).trans e3).mut hp).trans e4, pre ++ [128 + m % 128], ?_, ?_, rfl⟩
      · rw [nats_app]
        exact e4 p _ upd_same
      · rw [List.append_assoc]
        rw [sev_ge (show ¬ m < 128 by omega)] at hs
        exact hs
    · have hm : m < 128 := by
        have := of_decide_eq_false hb
        omega
      rw [sev_lt hm] at hs
      refine s_retL (xs := nats (sev n)) ?_ fun p2 H3 hp2 e3 h3 => q p2 H3 (fresh_back (e.trans e2) hp2) ((e.trans e2).trans e3) h3
      rw [← hs, nats_app]
      exact el_cat (evl_k (ev_v rfl) (e2 p _ hP)) (evl_n (el_lst (ea_cons (ev_v rfl) ea_nil) (by show 1 ≤ 100000; decide))) (by rw [nats_len, nats_len, List.length_singleton]; omega)
theorem el_pre {σ : L2.St} {H : Hp} {tb : TE} {c n : Nat} (h : Ev tb σ H (.int (n : Int))) (hn : n < 2 ^ 64) : EvL (tOp rCat (tLst (tCons (tC (.int (c : Int))) tNil)) (tCall (spL ok_number_told) [] E0 (tCons tb tNil))) σ H (nats (c :: sev n)) := by
  have hsl : (sev n).length ≤ 10 := sev_len 9 _ (Nat.lt_of_lt_of_le hn (by decide))
  rw [show c :: sev n = [c] ++ sev n from rfl, nats_app]
  exact el_cat (evl_n (el_lst (ea_cons (ev_cn c) ea_nil) (by show 1 ≤ 100000; decide))) (evl_n (el_cal (ea_cons h ea_nil) fun _ _ => ⟨n, rfl, hn, rfl⟩)) (by rw [nats_len, nats_len, List.length_singleton]; omega)
abbrev s_text_told : Stmt := topS 9
theorem sc_text_told : FnScope ["text", "found", "sign"] ["text"] (defScope s_text_told) := ⟨rfl, rfl, rfl, by decide +kernel, rfl, by decide +kernel, by decide +kernel⟩
/- 0 text, 1 found, 2 sign -/
def ok_text_told (vs : List V) (H : Hp) (z : List V) : Prop := ∃ l : List Nat, vs = [.str (tx l)] ∧ l.length ≤ 1000 ∧ (∀ c ∈ l, c ∈ sgns) ∧ z = nats (octs (.str l))
theorem fn_text_told {f : Addr} {fd : FuncData} {k : Nat} (F : Fun K "text_told" "text_told" s_text_told f fd) (N : Nb mg) (g_SIGNS : GS mg "SIGNS" signsS) (C_number_told : Cal P w K mg base k "number_told" ["number"] (spL ok_number_told)) : FnOk P w K mg base CX0 (k + 1) f fd ["text"] (spL ok_text_told) := by
  refine F.ok sc_text_told (fun vs H Q E h => ?_) (fun cdv A outer s H vs Q E hr h => ?_)
  · obtain ⟨_, ⟨_, rfl, _⟩, _⟩ := h
    rfl
  · obtain ⟨_, ⟨l, rfl, hl, hs, hz⟩, q⟩ := h
    rw [hz] at q
    refine ⟨_, (pss_cons (ps_set (i := 1) sc_text_told.nd rfl (Or.inl rfl) (pe_op op_cat (pe_lst (pa_cons pe_int pa_nil)) (pe_cal C_number_told hr (pa_cons (pe_callB call_len_str (by rfl) N.len PySem.boot_len (pa_cons (pv 0) pa_nil)) pa_nil))))
      (pss_cons (ps_for PassesOwn.never rfl (pi_str (pv 0)) (pg_name (i := 2) sc_text_told.nd rfl (Or.inl rfl)) (pss_cons (ps_if (pt_cmpR op_notIn_sign (pv 2) (pe_gs g_SIGNS) rfl) (pss_one ps_never) pss_nil)
      (pss_one (ps_expr (pe_bm PySem.F.plainAttrs_list PySem.F.slot_list_append PySem.F.type_list_append mt_append (pv 1) (pa_cons (pe_bm PySem.F.plainAttrs_str PySem.F.slot_str_index PySem.F.type_str_index mt_sindex (pe_gs g_SIGNS) (pa_cons (pv 2) pa_nil)) pa_nil))))))
      (pss_one (ps_ret (pv 1))))), ?_⟩
    have hsl : (sev l.length).length ≤ 10 := sev_len 9 _ (Nat.lt_of_le_of_lt hl (by decide))
    refine q_asgL (xs := nats ([5] ++ sev l.length)) (by
      rw [nats_app]
      exact el_cat (evl_n (el_lst (ea_cons (ev_cn 5) ea_nil) (by decide))) (evl_n (el_cal (ea_cons (ev_lenS (ev_v rfl) (by omega)) ea_nil) fun _ _ => ⟨l.length, rfl, by omega, rfl⟩)) (by rw [nats_len, nats_len, List.length_singleton]; omega)) fun p H1 hp e1 h1 => ?_
    refine q_forS (l := l) (ev_v rfl) (fun i σ H' => Ex H H' ∧ H' p = some (.lst (nats ([5] ++ sev l.length ++ (l.take i).map sgn))) ∧ ∃ y, σ = [some (.str (tx l)), some (.ref p), y]) (fun H2 e2 => ⟨e1.trans e2, ?_, none, rfl⟩) ?_ ?_
    · rw [List.take_zero, List.map_nil, List.append_nil]
      exact e2 p _ h1
    · rintro i c σ H' hc ⟨e, hP, y, rfl⟩
      have hcs := hs c (List.mem_of_getElem? hc)
      obtain ⟨r, ho⟩ := signs_at c hcs
      refine q_when (b := false) (et_test (ev_is (ev_op (ev_v rfl) ev_c (rv_val fun H1 _ Q q => ⟨c, signsS, rfl, rfl, q⟩)) (by rw [signs_eq]; show V.bl (!decide (c ∈ sgns)) = _; rw [decide_eq_true hcs]; rfl))) (fun z => nomatch z) fun _ H2 e2 => ?_
      have hlen : (l.take i).length ≤ l.length := by rw [List.length_take]; omega
      refine s_app (e2 p _ hP) (ev_v rfl) (ev_sidx (i := sgn c) (r := r) (ev_c (v := .str signsS)) (ev_v rfl) (by rw [signs_eq]; exact ho)) (by rw [nats_len, List.length_append, List.length_append, List.length_map, List.length_singleton]; omega) fun H3 e3 => ?_
      refine ⟨((e.trans e2).trans e3).mut hp, ?_, _, rfl⟩
      rw [upd_same, List.take_add_one, hc, List.map_append, ← List.append_assoc, nats_app ([5] ++ sev l.length ++ _) (List.map sgn (some c).toList)]
      rfl
    · rintro σ H' ⟨e, hP, y, rfl⟩
      rw [List.take_of_length_le (Nat.le_refl _)] at hP
      exact s_ret (ev_v rfl) fun H2 e2 => q p H2 hp (e.trans e2) (e2 p _ hP)
abbrev s_told_at : Stmt := topS 10
theorem sc_told_at : FnScope ["value", "tuples", "found", "one"] ["value", "tuples"] (defScope s_told_at) := ⟨rfl, rfl, rfl, by decide +kernel, rfl, by decide +kernel, by decide +kernel⟩
/- 0 value, 1 tuples, 2 found, 3 one -/
def ok_told_at (h : Nat) (vs : List V) (H : Hp) (z : List V) : Prop := ∃ (v : V) (d : D) (t : Nat), vs = [v, .int (t : Int)] ∧ Rep H v d ∧ Pln d ∧ height d < h ∧ t + height d ≤ 40 ∧ (octs d).length ≤ 20000 ∧ z = nats (octs d)
theorem fn_told_at {f : Addr} {fd : FuncData} {k h : Nat} (F : Fun K "told_at" "told_at" s_told_at f fd) (N : Nb mg) (g_MOST_TUPLES : GI mg "MOST_TUPLES" 40) (C_number_told : Cal P w K mg base k "number_told" ["number"] (spL ok_number_told))
    (C_text_told : Cal P w K mg base k "text_told" ["text"] (spL ok_text_told)) (C_told_at : Cal P w K mg base k "told_at" ["value", "tuples"] (spL (ok_told_at h))) : FnOk P w K mg base CX0 (k + 1) f fd ["value", "tuples"] (spL (ok_told_at (h + 1))) := by
  refine F.ok sc_told_at (fun vs H Q E h => ?_) (fun cdv A outer s H vs Q E hr h => ?_)
  · obtain ⟨_, ⟨_, _, _, rfl, _⟩, _⟩ := h
    rfl
  · obtain ⟨_, ⟨v, d, t, rfl, hR, hp, hh, ht, ho, hz⟩, q⟩ := h
    rw [hz] at q
    refine ⟨_, (pss_cons (ps_if (pt_cmpR op_isN (pv 0) pe_non (nomark _)) (pss_one (ps_ret (pe_lst (pa_cons pe_int pa_nil)))) pss_nil)
      (pss_cons (ps_if (pt_val (pe_callB call_isi (by rfl) N.isinstance PyProof.Rows.boot_isinstance (pa_cons (pv 0) (pa_cons (pe_bltn (v := .ty "bool") (by rfl) N.bool PyProof.Rows.boot_bool rfl) pa_nil)))) (pss_one (ps_ret (pe_lst (pa_cons (pe_ifExp (pt_val (pv 0)) pe_int pe_int) pa_nil)))) pss_nil)
      (pss_cons (ps_if (pt_val (pe_callB call_isi (by rfl) N.isinstance PyProof.Rows.boot_isinstance (pa_cons (pv 0) (pa_cons (pe_bltn (v := .ty "int") (by rfl) N.int PyProof.Rows.boot_int rfl) pa_nil)))) (pss_one (ps_ret (pe_ifExp (pt_cmpR op_ge (pv 0) pe_int (nomark _)) (pe_op op_cat (pe_lst (pa_cons pe_int pa_nil)) (pe_cal C_number_told hr (pa_cons (pv 0) pa_nil))) (pe_op op_cat (pe_lst (pa_cons pe_int pa_nil)) (pe_cal C_number_told hr (pa_cons (pe_op op_sub (pe_un un_neg (pv 0)) pe_int) pa_nil)))))) pss_nil)
      (pss_cons (ps_if (pt_val (pe_callB call_isi (by rfl) N.isinstance PyProof.Rows.boot_isinstance (pa_cons (pv 0) (pa_cons (pe_bltn (v := .ty "str") (by rfl) N.str PyProof.Rows.boot_str rfl) pa_nil)))) (pss_one (ps_ret (pe_cal C_text_told hr (pa_cons (pv 0) pa_nil)))) pss_nil)
      (pss_cons (ps_if (PW.pt (pw_or (pt_not (pt_val (pe_callB call_isi (by rfl) N.isinstance PyProof.Rows.boot_isinstance (pa_cons (pv 0) (pa_cons (pe_bltn (v := .ty "tuple") (by rfl) N.tuple PyProof.Rows.boot_tuple rfl) pa_nil))))) (pw_or1 (pt_cmpR op_eq (pv 1) (pe_gi g_MOST_TUPLES) (nomark _))))) (pss_one ps_never) pss_nil)
      (pss_cons (ps_set (i := 2) sc_told_at.nd rfl (Or.inl rfl) (pe_op op_cat (pe_lst (pa_cons pe_int pa_nil)) (pe_cal C_number_told hr (pa_cons (pe_callB call_len_seq (by rfl) N.len PySem.boot_len (pa_cons (pv 0) pa_nil)) pa_nil))))
      (pss_cons (ps_for PassesOwn.never rfl (pi_tup (pv 0)) (pg_name (i := 3) sc_told_at.nd rfl (Or.inl rfl)) (pss_one (ps_expr (pe_bm PySem.F.plainAttrs_list PySem.F.slot_list_extend PySem.F.type_list_extend mt_extend (pv 2) (pa_cons (pe_cal C_told_at hr (pa_cons (pv 3) (pa_cons (pe_op op_add (pv 1) pe_int) pa_nil))) pa_nil)))))
      (pss_one (ps_ret (pv 2)))))))))), ?_⟩
    have isi : ∀ {v : V} {d : D} {T : String} {σ : L2.St} {H' : Hp} {b : Bool}, Ex H H' → Rep H v d → σ[0]? = some (some v) → kitB (tyD d) T = some b → EvT (tTest (tCB (rIsi K) (tCons (tVar 0) (tCons (tC (.ty T)) tNil)))) σ H' b := fun e r hv hk => et_test (ev_isi (ev_v hv) (r.mono e) hk)
    refine q_when (et_isN (ev_v rfl)) (fun hb H1 e1 => ?_) fun hb H1 e1 => ?_
    · have hv := of_decide_eq_true hb
      subst hv
      cases hR
      exact s_retL (xs := nats [0]) (el_lst (ea_cons (ev_cn 0) ea_nil) (by decide)) fun p2 H3 hp2 e3 h3 => q p2 H3 (fresh_back e1 hp2) (e1.trans e3) h3
    cases hR with
    | non => exact (of_decide_eq_false hb rfl).elim
    | bl b =>
      refine q_when (isi e1 (.bl b) rfl (b := true) (by rfl)) (fun _ H2 e2 => ?_) (fun z => nomatch z)
      refine s_retL (xs := nats (octs (.bl b))) (el_lst (ea_cons (ev_if (b := b) (et_B (ev_v rfl)) (fun hb => by subst hb; exact ev_cn 2) (fun hb => by subst hb; exact ev_cn 1)) ea_nil) (by show 1 ≤ 100000; decide)) fun p2 H3 hp2 e3 h3 => q p2 H3 (fresh_back (e1.trans e2) hp2) ((e1.trans e2).trans e3) h3
    | int i =>
      refine q_when (isi e1 (.int i) rfl (b := false) (by rfl)) (fun z => nomatch z) fun _ H2 e2 => ?_
      refine q_when (isi (e1.trans e2) (.int i) rfl (b := true) (by rfl)) (fun _ H3 e3 => ?_) (fun z => nomatch z)
      have E3 := (e1.trans e2).trans e3
      rw [Pln] at hp
      refine s_retL (xs := nats (octs (.int i))) ?_ fun p2 H3 hp2 e3 h3 => q p2 H3 (fresh_back E3 hp2) (E3.trans e3) h3
      refine el_if (b := decide (0 ≤ i)) (et_test (ev_op (ev_v rfl) (ev_cn 0) rv_I0)) (fun hb => ?_) fun hb => ?_
      · have h0 := of_decide_eq_true hb
        rw [octs, if_pos h0]
        exact el_pre (c := 3) (n := i.toNat) (ev_is (ev_v (v := .int i) rfl) (by rw [Int.toNat_of_nonneg h0])) (by omega)
      · have h0 := of_decide_eq_false hb
        rw [octs, if_neg h0]
        exact el_pre (c := 4) (n := (-i - 1).toNat) (ev_is (ev_op (ev_un (ev_v (v := .int i) rfl) ru_neg) (ev_cn 1) rv_I0) (by rw [Int.toNat_of_nonneg (by omega)]; rfl)) (by omega)
    | str l =>
      refine q_when (isi e1 (.str l) rfl (b := false) (by rfl)) (fun z => nomatch z) fun _ H2 e2 => ?_
      refine q_when (isi (e1.trans e2) (.str l) rfl (b := false) (by rfl)) (fun z => nomatch z) fun _ H3 e3 => ?_
      refine q_when (isi ((e1.trans e2).trans e3) (.str l) rfl (b := true) (by rfl)) (fun _ H4 e4 => ?_) (fun z => nomatch z)
      have E4 := ((e1.trans e2).trans e3).trans e4
      rw [Pln] at hp
      exact s_retL (xs := nats (octs (.str l))) (el_cal (ea_cons (ev_v rfl) ea_nil) fun _ _ => ⟨l, rfl, hp.1, hp.2, rfl⟩) fun p2 H3 hp2 e3 h3 => q p2 H3 (fresh_back E4 hp2) (E4.trans e3) h3
    | @tup a vs ds e r =>
      have R : Rep H (.ref a) (.tup ds) := .tup e r
      refine q_when (isi e1 R rfl (b := false) (by rfl)) (fun z => nomatch z) fun _ H2 e2 => ?_
      refine q_when (isi (e1.trans e2) R rfl (b := false) (by rfl)) (fun z => nomatch z) fun _ H3 e3 => ?_
      refine q_when (isi ((e1.trans e2).trans e3) R rfl (b := false) (by rfl)) (fun z => nomatch z) fun _ H4 e4 => ?_
      have E4 := ((e1.trans e2).trans e3).trans e4
      rw [Pln] at hp
      have hh4 : heightL ds < h := by rw [height] at hh; omega
      have ht4 : t + 1 + heightL ds ≤ 40 := by rw [height] at ht; omega
      have hl := r.len
      refine q_when (b := false) (et_or (b := false) (et_not (isi E4 R rfl (b := true) (by rfl))) fun _ => et_test (ev_is (ev_op (ev_v rfl) ev_c (rv_eq rfl)) (congrArg V.bl (decide_eq_false fun z => by
        have := V.int.inj z
        omega)))) (fun z => nomatch z) fun _ H5 e5 => ?_
      have E5 := E4.trans e5
      have ho2 : (sev ds.length).length + (octsL ds).length ≤ 19999 := by
        rw [octs, List.length_cons, List.length_append] at ho
        omega
      refine q_asgL (xs := nats (6 :: sev ds.length)) (el_pre (c := 6) (n := ds.length) (ev_is (ev_lenT (ev_v rfl) (st_of (E5 a _ e))) (by rw [hl])) (by omega)) fun p H6 hp6 e6 h6 => ?_
      have hp0 := fresh_back E5 hp6
      refine q_forT (K := K) (xs := vs) (ev_v rfl) (st_of (e6 a _ (E5 a _ e))) (fun i σ H' => Ex H H' ∧ H' p = some (.lst (nats (6 :: (sev ds.length ++ octsL (ds.take i))))) ∧ ∃ y, σ = [some (.ref a), some (.int (t : Int)), some (.ref p), y]) (fun H7 e7 => ⟨(E5.trans e6).trans e7, ?_, none, rfl⟩) (fun i σ' H' _ ⟨e', _⟩ => st_of (e' a _ e)) ?_ ?_
      · rw [List.take_zero, octsL, List.append_nil]
        exact e7 p _ h6
      · rintro i x σ H' hx ⟨e', hP, y, rfl⟩
        obtain ⟨d, hd, rd⟩ := r.get' hx
        have g1 := heightL_get hd
        have g2 := octsL_part hd
        show tDrop _ _ _ _
        refine s_extL (xs := nats (6 :: (sev ds.length ++ octsL (ds.take i)))) (ys := nats (octs d)) hP (fun H8 e8 => ev_v rfl) (el_cal (ea_cons (ev_v rfl) (ea_cons (ev_op (ev_v rfl) (ev_cn 1) rv_addN) ea_nil)) fun H8 e8 => ⟨x, d, t + 1, rfl, rd.mono (e'.trans e8), PlnL_get hp.2 hd, by omega, by omega, by omega, rfl⟩) (by rw [nats_len, nats_len, List.length_cons, List.length_append]; omega) fun H8 e8 => ?_
        refine ⟨(e'.trans e8).mut hp0, ?_, _, rfl⟩
        rw [upd_same, ← nats_app, List.cons_append, List.append_assoc, ← octsL_take hd]
      · rintro σ H' ⟨e', hP, y, rfl⟩
        rw [List.take_of_length_le (by omega)] at hP
        exact s_ret (ev_v rfl) fun H9 e9 => q p H9 hp0 (e'.trans e9) (e9 p _ hP)
    | lst e r => exact hp.elim
theorem cal_told_at {f : Addr} {fd : FuncData} {k : Nat} (F : Fun K "told_at" "told_at" s_told_at f fd) (hb : Binds K fd ["value", "tuples"] []) (hk : PySem.W.keepIn K (.ref f) = true) (hm : mg "told_at" = some (.ref f)) (N : Nb mg) (g_MOST_TUPLES : GI mg "MOST_TUPLES" 40)
    (C_number_told : Cal P w K mg base k "number_told" ["number"] (spL ok_number_told)) (C_text_told : Cal P w K mg base k "text_told" ["text"] (spL ok_text_told)) : ∀ h, Cal P w K mg base (k + h) "told_at" ["value", "tuples"] (spL (ok_told_at h))
  | 0 => ⟨f, fd, ⟨fun vs H Q E h => by obtain ⟨_, ⟨_, _, _, _, _, _, h, _⟩, _⟩ := h; exact (Nat.not_lt_zero _ h).elim, fun A outer s H args us vs Q E _ _ _ _ h => by obtain ⟨_, ⟨_, _, _, _, _, _, h, _⟩, _⟩ := h; exact (Nat.not_lt_zero _ h).elim⟩, hb, hk, hm⟩
  | h + 1 => ⟨f, fd, fn_told_at F N g_MOST_TUPLES (C_number_told.mono (Nat.le_add_right k h)) (C_text_told.mono (Nat.le_add_right k h)) (cal_told_at F hb hk hm N g_MOST_TUPLES C_number_told C_text_told h), hb, hk, hm⟩
abbrev s_told : Stmt := topS 11
theorem sc_told : FnScope ["value"] ["value"] (defScope s_told) := ⟨rfl, rfl, rfl, by decide +kernel, rfl, by decide +kernel, by decide +kernel⟩
def ok_told (vs : List V) (H : Hp) (z : List V) : Prop := ∃ (v : V) (d : D), vs = [v] ∧ Rep H v d ∧ Pln d ∧ height d < 4 ∧ (octs d).length ≤ 20000 ∧ z = nats (octs d)
theorem fn_told {f : Addr} {fd : FuncData} {k : Nat} (F : Fun K "told" "told" s_told f fd) (N : Nb mg) (C_told_at : Cal P w K mg base k "told_at" ["value", "tuples"] (spL (ok_told_at 4))) : FnOk P w K mg base CX0 (k + 1) f fd ["value"] (spL ok_told) := by
  refine F.ok sc_told (fun vs H Q E h => ?_) (fun cdv A outer s H vs Q E hr h => ?_)
  · obtain ⟨_, ⟨_, _, rfl, _⟩, _⟩ := h
    rfl
  · obtain ⟨_, ⟨v, d, rfl, hR, hp, hh, ho, hz⟩, q⟩ := h
    rw [hz] at q
    refine ⟨_, (pss_one (ps_ret (pe_cal C_told_at hr (pa_cons (pv 0) (pa_cons pe_int pa_nil))))), ?_⟩
    exact s_retL (xs := nats (octs d)) (el_cal (ea_cons (ev_v rfl) (ea_cons (ev_cn 0) ea_nil)) fun H1 e1 => ⟨v, d, 0, rfl, hR.mono e1, hp, hh, by omega, ho, rfl⟩) fun p2 H3 hp2 e3 h3 => q p2 H3 hp2 e3 h3
end
end K82

set_option Elab.async false
set_option linter.all false
set_option maxRecDepth 100000
set_option maxHeartbeats 4000000
namespace K82
open PySem PySem.Spec PyProof.Rows L2 Evl My
def digL : List Nat := [48, 49, 50, 51, 52, 53, 54, 55, 56, 57]
theorem dig_eq : (Str.ofString "0123456789") = tx digL := by decide +kernel
def madeP (signs : List Nat) (most : Nat) (l : List Nat) : Bool := decide (1 ≤ l.length) && decide (l.length ≤ most) && l.all fun c => decide (c ∈ signs)
def nameP (l : List Nat) : Bool := madeP (digL ++ [97, 98, 99, 100, 101, 102]) 20 l && decide (l.length = 20)
/-- a text or another plain scalar -/
def Tst (d : D) (g : List Nat → Bool) (z : V) : Prop := (∃ l, d = .str l ∧ l.length ≤ 1000 ∧ z = .bl (g l)) ∨ (kitB (tyD d) "str" = some false ∧ z = .bl false)
section
variable {P : Program} {w : World} {K : PySem.W.Frag} {mg : Str → Option Value} {base : Heap}
abbrev s_made_of : Stmt := topS 28
theorem sc_made_of : FnScope ["value", "signs", "most", "sign"] ["value", "signs", "most"] (defScope s_made_of) := ⟨rfl, rfl, rfl, by decide +kernel, rfl, by decide +kernel, by decide +kernel⟩
/- 0 value, 1 signs*, 2 most, 3 sign -/
def ok_made_of (vs : List V) (H : Hp) (z : V) : Prop := ∃ (v : V) (d : D) (signs : List Nat) (most : Nat), vs = [v, .str (tx signs), .int (most : Int)] ∧ Rep H v d ∧ signs.length ≤ 100 ∧ Tst d (madeP signs most) z
theorem fn_made_of {f : Addr} {fd : FuncData} {k : Nat} (F : Fun K "made_of" "made_of" s_made_of f fd) (N : Nb mg) : FnOk P w K mg base CX0 (k + 1) f fd ["value", "signs", "most"] (spV ok_made_of) := by
  refine F.ok sc_made_of (fun vs H Q E h => ?_) (fun cdv A outer s H vs Q E hr h => ?_)
  · obtain ⟨_, ⟨_, _, _, _, rfl, _⟩, _⟩ := h
    rfl
  · obtain ⟨z, ⟨v, d, signs, most, rfl, hR, hs, hT⟩, q⟩ := h
    refine ⟨_, (pss_one (ps_ret (pe_and (pe_callB call_isi (by rfl) N.isinstance PyProof.Rows.boot_isinstance (pa_cons (pv 0) (pa_cons (pe_bltn (v := .ty "str") (by rfl) N.str PyProof.Rows.boot_str rfl) pa_nil))) (pe_and (pe_chain op_le op_le pe_int (pe_callB call_len_str (by rfl) N.len PySem.boot_len (pa_cons (pv 0) pa_nil)) (pv 2)) (pe_one (pe_callB (cr_all rfl) (by rfl) N.all PyProof.Rows.boot_all (pa_cons (pe_lc (own := [("sign", 3)]) (by rfl) sc_made_of.nd (pi_str (pv 0)) (blkOk_by (own := [("sign", 3)]) (N := ["value", "signs", "most", "sign"]) (sc := defScope s_made_of) (by decide +kernel)) (fun _ _ _ _ _ => (pg_name (i := 3) sc_made_of.nd rfl (Or.inl rfl))) (fun _ _ _ _ _ => pts_nil) (fun _ _ _ _ _ => (pe_cmpR op_in_sign (pv 3) (pv 1) rfl))) pa_nil))))))), ?_⟩
    rcases hT with ⟨l, rfl, hl, rfl⟩ | ⟨hk, rfl⟩
    · cases hR
      refine s_ret (ev_is (ev_andV (a := true) (ev_isi (ev_v rfl) (.str l) (by rfl)) fun _ => ev_andV (ev_chain (ev_cn 1) (ev_lenS (ev_v rfl) (by omega)) rv_I0 (fun _ => ev_v rfl) (fun _ => rv_I0)) fun _ => ev_all (bs := l.map fun c => decide (c ∈ signs)) ?_) ?_) fun H1 e1 => q H1 e1
      · rw [List.map_map]
        exact el_lcS (fun c => .bl (decide (c ∈ signs))) (ev_v rfl) (by omega) (fun _ => rfl) fun c H1 e1 hc => ev_op (ev_v rfl) (ev_v rfl) rv_inSn
      · have e : (l.map fun c => decide (c ∈ signs)).all id = l.all fun c => decide (c ∈ signs) := by rw [List.all_map]; rfl
        rw [e, Bool.true_and]
        unfold madeP
        congr 3
        · exact decide_eq_decide.mpr (by omega)
        · exact decide_eq_decide.mpr (by omega)
    · exact s_ret (ev_is (ev_andV (a := false) (b := false) (ev_isi (ev_v rfl) hR hk) (fun z => nomatch z)) rfl) fun H1 e1 => q H1 e1
abbrev s_is_name : Stmt := topS 29
theorem sc_is_name : FnScope ["value"] ["value"] (defScope s_is_name) := ⟨rfl, rfl, rfl, by decide +kernel, rfl, by decide +kernel, by decide +kernel⟩
def ok_is (g : List Nat → Bool) (vs : List V) (H : Hp) (z : V) : Prop := ∃ (v : V) (d : D), vs = [v] ∧ Rep H v d ∧ Tst d g z
theorem made_true {signs : List Nat} {most : Nat} {l : List Nat} (h : madeP signs most l = true) : 1 ≤ l.length := by
  unfold madeP at h
  rw [Bool.and_eq_true, Bool.and_eq_true] at h
  exact of_decide_eq_true h.1.1
theorem fn_is_name {f : Addr} {fd : FuncData} {k : Nat} (F : Fun K "is_name" "is_name" s_is_name f fd) (N : Nb mg) (g_DIGITS_names : GS mg "DIGITS_names" (tx digL)) (g_NAME_DIGITS : GI mg "NAME_DIGITS" 20) (C_made_of : Cal P w K mg base k "made_of" ["value", "signs", "most"] (spV ok_made_of)) : FnOk P w K mg base CX0 (k + 1) f fd ["value"] (spV (ok_is nameP)) := by
  refine F.ok sc_is_name (fun vs H Q E h => ?_) (fun cdv A outer s H vs Q E hr h => ?_)
  · obtain ⟨_, ⟨_, _, rfl, _⟩, _⟩ := h
    rfl
  · obtain ⟨z, ⟨v, d, rfl, hR, hT⟩, q⟩ := h
    refine ⟨_, (pss_one (ps_ret (pe_and (pe_cal C_made_of hr (pa_cons (pv 0) (pa_cons (pe_op op_add_str (pe_gs g_DIGITS_names) pe_str) (pa_cons (pe_gi g_NAME_DIGITS) pa_nil)))) (pe_one (pe_cmpR op_eq (pe_callB call_len_str (by rfl) N.len PySem.boot_len (pa_cons (pv 0) pa_nil)) (pe_gi g_NAME_DIGITS) (nomark _)))))), ?_⟩
    have args : EvA (tCons (tVar 0) (tCons (tOp (fun x y H Q => ∃ i j, x = .str i ∧ y = .str j ∧ i.length + j.length ≤ sizeLine ∧ Q (.str (i ++ j)) H) (tC (.str (tx digL))) (tC (.str "abcdef"))) (tCons (tC (.int 20)) tNil))) [some v] H [v, .str (tx (digL ++ [97, 98, 99, 100, 101, 102])), .int ((20 : Nat) : Int)] :=
      ea_cons (ev_v rfl) (ea_cons (ev_op ev_c (ev_cs [97, 98, 99, 100, 101, 102] (by decide +kernel)) (rv_addS (by decide))) (ea_cons ev_c ea_nil))
    rcases hT with ⟨l, rfl, hl, rfl⟩ | ⟨hk, rfl⟩
    · refine s_ret (ev_is (ev_andV (a := madeP (digL ++ [97, 98, 99, 100, 101, 102]) 20 l) (ev_cal args fun H1 e1 => ⟨v, _, _, 20, rfl, hR.mono e1, by decide, .inl ⟨l, rfl, hl, rfl⟩⟩) fun _ => ?_) rfl) fun H1 e1 => q H1 e1
      cases hR
      exact ev_is (ev_op (ev_lenS (ev_v rfl) (by omega)) ev_c (rv_eq rfl)) (congrArg V.bl (decide_eq_decide.mpr ⟨fun h => by have := V.int.inj h; omega, fun h => by rw [h]; rfl⟩))
    · exact s_ret (ev_is (ev_andV (a := false) (b := false) (ev_cal args fun H1 e1 => ⟨v, _, _, 20, rfl, hR.mono e1, by decide, .inr ⟨hk, rfl⟩⟩) (fun z => nomatch z)) rfl) fun H1 e1 => q H1 e1
abbrev s_name_of : Stmt := topS 27
theorem sc_name_of : FnScope ["value"] ["value"] (defScope s_name_of) := ⟨rfl, rfl, rfl, by decide +kernel, rfl, by decide +kernel, by decide +kernel⟩
def ok_name_of (vs : List V) (H : Hp) (z : V) : Prop := ∃ (v : V) (d : D), vs = [v] ∧ Rep H v d ∧ Pln d ∧ height d < 4 ∧ (octs d).length ≤ 20000 ∧ z = .str (tx ((shaN (octs d)).take 20))
theorem shaN_len (data : List Nat) : (shaN data).length = 64 := by
  unfold shaN
  rw [hexR_len]
  rfl
theorem fn_name_of {f : Addr} {fd : FuncData} {k : Nat} (F : Fun K "name_of" "name_of" s_name_of f fd) (N : Nb mg) (g_NAME_DIGITS : GI mg "NAME_DIGITS" 20) (C_sha : Cal P w K mg base k "sha" ["data"] (spV ok_sha)) (C_told : Cal P w K mg base k "told" ["value"] (spL ok_told)) : FnOk P w K mg base CX0 (k + 1) f fd ["value"] (spV ok_name_of) := by
  refine F.ok sc_name_of (fun vs H Q E h => ?_) (fun cdv A outer s H vs Q E hr h => ?_)
  · obtain ⟨_, ⟨_, _, rfl, _⟩, _⟩ := h
    rfl
  · obtain ⟨_, ⟨v, d, rfl, hR, hp, hh, ho, hz⟩, q⟩ := h
    rw [hz] at q
    refine ⟨_, (pss_one (ps_ret (pe_slice sl_str (pe_cal C_sha hr (pa_cons (pe_cal C_told hr (pa_cons (pv 0) pa_nil)) pa_nil)) po_none (po_some (pe_gi g_NAME_DIGITS))))), ?_⟩
    have hsl := shaN_len (octs d)
    have hoo := octs_oct d hp
    refine s_ret (v := .str (tx ((shaN (octs d)).take 20))) ?_ fun H1 e1 => q H1 e1
    generalize hS : shaN (octs d) = S at hsl ⊢
    rw [← cutS_take]
    exact ev_slS (ev_calP (eap_l (el_cal (ea_cons (ev_v rfl) ea_nil) fun H1 e1 => ⟨v, d, rfl, hR.mono e1, hp, hh, ho, rfl⟩) eap_nil) fun vs H1 e1 hv => by
      obtain ⟨a, _, rfl, ha, rfl⟩ := hv
      exact ⟨a, octs d, rfl, ha, by omega, hoo, by rw [hS]⟩) eo_none (eo_some (ev_cn 20)) (by omega)
end
end K82

set_option Elab.async false
set_option linter.all false
set_option maxRecDepth 100000
set_option maxHeartbeats 4000000
namespace K82
open PySem PySem.Spec PyProof.Rows L2 Evl My
theorem filt_true {α : Type} (l : List α) : l.filter (fun _ => true) = l := List.filter_eq_self.mpr fun _ _ => rfl
def strB (g : L → Bool) : D → Bool
  | .str l => g l
  | _ => false
def strV (g : L → Bool) : V → Bool
  | .str s => g s.cps.toList
  | _ => false
def strOf : D → L
  | .str l => l
  | _ => []
mutual
def Fit : D → Prop
  | .str l => l.length ≤ 1000
  | .tup ds => ds.length ≤ 1000 ∧ FitL ds
  | .non => True
  | .bl _ => True
  | .int _ => True
  | .lst _ => True
def FitL : List D → Prop
  | [] => True
  | d :: ds => Fit d ∧ FitL ds
end
def letL : List Nat := (List.range 26).map (· + 97)
def wordP (l : List Nat) : Bool := madeP (letL ++ digL) 12 l && decide (l.headD 0 ∈ letL)
theorem q_run {t tz : TS} {D : Ends} {σ : L2.St} {H : Hp} (h : t { D with nx := tz D } σ H) : tSeq t tz D σ H := h
/-- an own class of errors, as a name of the module -/
def GX (mg : Str → Option Value) (x : Str) : Prop := ∃ C : Addr, mg x = some (.ref C)
theorem FitL_get : ∀ {ds : List D} {i : Nat} {d : D}, FitL ds → ds[i]? = some d → Fit d
  | [], _, _, _, h => nomatch h
  | d :: ds, 0, _, p, h => by cases h; rw [FitL] at p; exact p.1
  | d :: ds, i + 1, _, p, h => by rw [FitL] at p; exact FitL_get (ds := ds) (i := i) p.2 h
theorem FitL_mem {ds : List D} {d : D} (p : FitL ds) (h : d ∈ ds) : Fit d := by
  obtain ⟨i, hi, he⟩ := List.getElem_of_mem h
  exact FitL_get p (show ds[i]? = some d by rw [List.getElem?_eq_getElem hi, he])
theorem tst_of {d : D} {g : L → Bool} (h : Fit d) : Tst d g (.bl (strB g d)) := by
  cases d with
  | str l => rw [Fit] at h; exact .inl ⟨l, rfl, h, rfl⟩
  | _ => exact .inr ⟨rfl, rfl⟩
theorem strV_rep {H : Hp} {v : V} {d : D} (g : L → Bool) (h : Rep H v d) : strV g v = strB g d := by cases h <;> rfl
theorem strV_reps {H : Hp} (g : L → Bool) : ∀ {vs : List V} {ds : List D}, Reps H vs ds → vs.map (fun v => V.bl (strV g v)) = (ds.map (strB g)).map V.bl
  | _, [], h => by cases h; rfl
  | _, d :: ds, h => by
    cases h with
    | cons h1 r1 => rw [List.map_cons, List.map_cons, List.map_cons, strV_reps g r1, strV_rep g h1]
theorem all_strs (g : L → Bool) : ∀ {ds : List D}, ds.all (strB g) = true → ds = (ds.map strOf).map .str
  | [], _ => rfl
  | d :: ds, h => by
    rw [List.all_cons, Bool.and_eq_true] at h
    rw [List.map_cons, List.map_cons, ← all_strs g h.2]
    cases d with
    | str l => rfl
    | _ => exact nomatch h.1
theorem txs_filter (g : L → Bool) (ks : List L) : ((txs ks).filter (strV g)).map (fun z => z) = txs (ks.filter g) := by
  rw [List.map_id']
  unfold txs
  rw [List.filter_map]
  rfl
theorem txs_mem {v : V} {ks : List L} (h : v ∈ txs ks) : ∃ k ∈ ks, v = .str (tx k) := by
  unfold txs at h
  obtain ⟨k, hk, rfl⟩ := List.mem_map.mp h
  exact ⟨k, hk, rfl⟩
def prefP (l : L) : Bool := decide (l.length ≤ 20) && l.all fun c => decide (c ∈ hexd)
def riseB (ps : List L) : Bool := (List.range (ps.length - 1)).all fun i => decide (ps.getD i [] < ps.getD (i + 1) [])
def namesB : D → Bool
  | .tup ds => ds.all (strB nameP) && riseB (ds.map strOf)
  | _ => false
section
variable {P : Program} {w : World} {K : PySem.W.Frag} {mg : Str → Option Value} {base : Heap}
abbrev s_is_prefix : Stmt := topS 72
theorem sc_is_prefix : FnScope ["value", "sign"] ["value"] (defScope s_is_prefix) := ⟨rfl, rfl, rfl, by decide +kernel, rfl, by decide +kernel, by decide +kernel⟩
theorem fn_is_prefix {f : Addr} {fd : FuncData} {k : Nat} (F : Fun K "is_prefix" "is_prefix" s_is_prefix f fd) (N : Nb mg) (g_DIGITS_talker : GS mg "DIGITS_talker" (tx hexd)) (g_LONGEST : GI mg "LONGEST" 20) : FnOk P w K mg base CX0 (k + 1) f fd ["value"] (spV (ok_is prefP)) := by
  refine F.ok sc_is_prefix (fun vs H Q E h => ?_) (fun cdv A outer s H vs Q E hr h => ?_)
  · obtain ⟨_, ⟨_, _, rfl, _⟩, _⟩ := h
    rfl
  · obtain ⟨z, ⟨v, d, rfl, hR, hT⟩, q⟩ := h
    refine ⟨_, (pss_one (ps_ret (pe_and (pe_callB call_isi (by rfl) N.isinstance PyProof.Rows.boot_isinstance (pa_cons (pv 0) (pa_cons (pe_bltn (v := .ty "str") (by rfl) N.str PyProof.Rows.boot_str rfl) pa_nil))) (pe_and (pe_cmpR op_le (pe_callB call_len_str (by rfl) N.len PySem.boot_len (pa_cons (pv 0) pa_nil)) (pe_gi g_LONGEST) (nomark _)) (pe_one (pe_callB (cr_all rfl) (by rfl) N.all PyProof.Rows.boot_all (pa_cons (pe_lc (own := [("sign", 1)]) (by rfl) sc_is_prefix.nd (pi_str (pv 0)) (blkOk_by (own := [("sign", 1)]) (N := ["value", "sign"]) (sc := defScope s_is_prefix) (by decide +kernel)) (fun _ _ _ _ _ => (pg_name (i := 1) sc_is_prefix.nd rfl (Or.inl rfl))) (fun _ _ _ _ _ => pts_nil) (fun _ _ _ _ _ => (pe_cmpR op_in_sign (pv 1) (pe_gs g_DIGITS_talker) rfl))) pa_nil))))))), ?_⟩
    rcases hT with ⟨l, rfl, hl, rfl⟩ | ⟨hk, rfl⟩
    · cases hR
      refine s_ret (ev_is (ev_andV (a := true) (ev_isi (ev_v rfl) (.str l) (by rfl)) fun _ => ev_andV (ev_op (ev_lenS (ev_v rfl) (by omega)) (ev_cn 20) rv_I0) fun _ => ev_all (bs := l.map fun c => decide (c ∈ hexd)) ?_) ?_) fun H1 e1 => q H1 e1
      · rw [List.map_map]
        exact el_lcS (fun c => .bl (decide (c ∈ hexd))) (ev_v rfl) (by omega) (fun _ => rfl) fun c H1 e1 hc => ev_op (ev_v rfl) ev_c rv_inSn
      · have e : (l.map fun c => decide (c ∈ hexd)).all id = l.all fun c => decide (c ∈ hexd) := by rw [List.all_map]; rfl
        rw [e, Bool.true_and]
        unfold prefP
        congr 2
        exact decide_eq_decide.mpr (by omega)
    · exact s_ret (ev_is (ev_andV (a := false) (b := false) (ev_isi (ev_v rfl) hR hk) (fun z => nomatch z)) rfl) fun H1 e1 => q H1 e1
theorem rv_ltS {a b : L} {H : Hp} : RV (fun x y H Q => ∃ i j, x = .str i ∧ y = .str j ∧ Q (.bl (decide (i.cps.toList < j.cps.toList))) H) (.str (tx a)) (.str (tx b)) H (.bl (decide (a < b))) := rv_val fun H1 _ Q q => ⟨tx a, tx b, rfl, rfl, q⟩
abbrev s_are_names : Stmt := topS 73
theorem sc_are_names : FnScope ["value", "one", "at"] ["value"] (defScope s_are_names) := ⟨rfl, rfl, rfl, by decide +kernel, rfl, by decide +kernel, by decide +kernel⟩
def ok_are_names (vs : List V) (H : Hp) (z : V) : Prop := ∃ (v : V) (d : D), vs = [v] ∧ Rep H v d ∧ Fit d ∧ z = .bl (namesB d)
theorem fn_are_names {f : Addr} {fd : FuncData} {k : Nat} (F : Fun K "are_names" "are_names" s_are_names f fd) (N : Nb mg) (C_is_name : Cal P w K mg base k "is_name" ["value"] (spV (ok_is nameP))) : FnOk P w K mg base CX0 (k + 1) f fd ["value"] (spV ok_are_names) := by
  refine F.ok sc_are_names (fun vs H Q E h => ?_) (fun cdv A outer s H vs Q E hr h => ?_)
  · obtain ⟨_, ⟨_, _, rfl, _⟩, _⟩ := h
    rfl
  · obtain ⟨_, ⟨v, d, rfl, hR, hF, hz⟩, q⟩ := h
    rw [hz] at q
    refine ⟨_, (pss_cons (ps_if (PW.pt (pw_or (pt_not (pt_val (pe_callB call_isi (by rfl) N.isinstance PyProof.Rows.boot_isinstance (pa_cons (pv 0) (pa_cons (pe_bltn (v := .ty "tuple") (by rfl) N.tuple PyProof.Rows.boot_tuple rfl) pa_nil))))) (pw_or1 (pt_not (pt_val (pe_callB (cr_all rfl) (by rfl) N.all PyProof.Rows.boot_all (pa_cons (pe_lc (own := [("one", 1)]) (by rfl) sc_are_names.nd (pi_tup (pv 0)) (blkOk_by (own := [("one", 1)]) (N := ["value", "one", "at"]) (sc := defScope s_are_names) (by decide +kernel)) (fun _ _ _ _ _ => (pg_name (i := 1) sc_are_names.nd rfl (Or.inl rfl))) (fun _ _ _ _ _ => pts_nil) (fun _ _ _ _ _ => (pe_cal C_is_name hr (pa_cons (pv 1) pa_nil)))) pa_nil))))))) (pss_one (ps_ret pe_bl)) pss_nil)
      (pss_one (ps_ret (pe_callB (cr_all rfl) (by rfl) N.all PyProof.Rows.boot_all (pa_cons (pe_lc (own := [("at", 2)]) (by rfl) sc_are_names.nd (pi_range1 rfl N.range (pa_cons (pe_op op_sub (pe_callB call_len_seq (by rfl) N.len PySem.boot_len (pa_cons (pv 0) pa_nil)) pe_int) pa_nil)) (blkOk_by (own := [("at", 2)]) (N := ["value", "one", "at"]) (sc := defScope s_are_names) (by decide +kernel)) (fun _ _ _ _ _ => (pg_name (i := 2) sc_are_names.nd rfl (Or.inl rfl))) (fun _ _ _ _ _ => pts_nil) (fun _ _ _ _ _ => (pe_cmpR op_lt_str (pe_ix (r := rIxT K) ix_tup (pv 0) (pv 2) (fun _ _ => rfl)) (pe_ix (r := rIxT K) ix_tup (pv 0) (pe_op op_add (pv 2) pe_int) (fun _ _ => rfl)) (nomark _)))) pa_nil))))), ?_⟩
    cases d with
    | tup ds =>
      rw [Fit] at hF
      have hR0 := hR
      cases hR with
      | @tup a vs _ ha rs =>
        have hlen := rs.len
        refine q_when (b := !(ds.all (strB nameP))) (et_is (et_or (a := false) (b := !(ds.all (strB nameP))) (et_not (et_test (ev_isi (b := true) (ev_v rfl) hR0 rfl))) fun _ => et_not (et_test (ev_is (ev_all (bs := ds.map (strB nameP)) ?_) (by rw [List.all_map]; rfl)))) (Bool.false_or _)) (fun hb H1 e1 => ?_) fun hb H1 e1 => ?_
        · rw [← strV_reps nameP rs]
          refine el_is (el_lcT (fun _ => true) (fun v => .bl (strV nameP v)) (ev_v rfl) (st_of ha) (by omega) (fun _ => rfl) (fun x H2 e2 hx => et_yes) fun x H2 e2 hx _ => ?_) (by rw [filt_true])
          obtain ⟨i, hi, he⟩ := List.getElem_of_mem hx
          obtain ⟨d, hd, hr⟩ := rs.get' (show vs[i]? = some x by rw [List.getElem?_eq_getElem hi, he])
          rw [strV_rep nameP hr]
          exact ev_cal (ea_cons (ev_v rfl) ea_nil) fun H3 e3 => ⟨x, d, rfl, hr.mono (e2.trans e3), tst_of (FitL_get hF.2 hd)⟩
        · have : namesB (.tup ds) = false := by
            show (ds.all (strB nameP) && riseB (ds.map strOf)) = false
            cases h : ds.all (strB nameP) with
            | true => rw [h] at hb; exact nomatch hb
            | false => rfl
          rw [this] at q
          exact s_ret ev_c fun H2 e2 => q H2 (e1.trans e2)
        · have hall : ds.all (strB nameP) = true := by
            cases h : ds.all (strB nameP) with
            | true => rfl
            | false => rw [h] at hb; exact nomatch hb
          have hds := all_strs nameP hall
          generalize hps : ds.map strOf = ps at hds
          have hpl : ps.length = ds.length := by rw [← hps, List.length_map]
          rw [hds] at rs
          have hvs := reps_strs rs
          subst hvs
          have hn : namesB (.tup ds) = riseB ps := by
            show (ds.all (strB nameP) && riseB (ds.map strOf)) = riseB ps
            rw [hall, hps, Bool.true_and]
          rw [hn] at q
          refine s_ret (ev_is (ev_all (bs := (List.range (ps.length - 1)).map fun i => decide (ps.getD i [] < ps.getD (i + 1) [])) ?_) (by rw [List.all_map]; rfl)) fun H2 e2 => q H2 (e1.trans e2)
          have hS : ∀ {H2 : Hp}, Ex H1 H2 → SqT K H2 a (txs ps) := fun e2 => st_of ((e1.trans e2) _ _ ha)
          by_cases h0 : ps.length = 0
          · have hps0 : ps = [] := List.length_eq_zero_iff.mp h0
            subst hps0
            exact el_lcR0 (n := -1) (ea_cons (ev_op (ev_is (ev_lenT (ev_v rfl) (hS (Ex.refl _))) (by rfl)) ev_c rv_I0) ea_nil) (by decide)
          · refine el_is (el_lcR1 (n := ((ps.length : Int) - 1)) (fun _ => true) (fun i => .bl (decide (ps.getD i [] < ps.getD (i + 1) []))) (ea_cons (ev_op (ev_is (ev_lenT (ev_v rfl) (hS (Ex.refl _))) (by rw [txs_len])) ev_c rv_I0) ea_nil) (by omega) (fun _ => rfl) (fun i H2 e2 hi => et_yes) fun i H2 e2 hi _ => ?_) ?_
            · have h1 : i < ps.length := by omega
              have h2 : i + 1 < ps.length := by omega
              exact ev_op (ev_ixT (j := i) (ev_v rfl) (ev_v rfl) (hS e2) (txs_get (getD_some h1))) (ev_ixT (j := i + 1) (ev_v rfl) (ev_op (ev_v rfl) (ev_cn 1) rv_addN) (hS e2) (txs_get (getD_some h2))) rv_ltS
            · rw [given_all, List.map_map, show ((ps.length : Int) - 1).toNat = ps.length - 1 by omega]
              rfl
    | _ =>
      exact q_when (b := true) (et_or (a := true) (b := true) (et_not (a := false) (et_test (ev_isi (ev_v rfl) hR rfl))) (fun z => nomatch z)) (fun _ H1 e1 => s_ret ev_c fun H2 e2 => q H2 (e1.trans e2)) (fun z => nomatch z)
abbrev s_is_message : Stmt := topS 74
theorem sc_is_message : FnScope ["value", "word", "name"] ["value"] (defScope s_is_message) := ⟨rfl, rfl, rfl, by decide +kernel, rfl, by decide +kernel, by decide +kernel⟩
/- 0 value*, 1 word, 2 name -/
def wDig : L := [100, 105, 103, 101, 115, 116]
def wLst : L := [108, 105, 115, 116]
def wWnt : L := [119, 97, 110, 116]
def wHav : L := [104, 97, 118, 101]
def numB : D → Bool
  | .int i => decide (0 ≤ i)
  | _ => false
def startB (p : D) : D → Bool
  | .tup ds => (ds.map strOf).all fun k => decide (k.take (strOf p).length = strOf p)
  | _ => false
def msgB (w : L) : List D → Bool
  | [p, n, x] => decide (w = wDig) && (numB n && (strB prefP p && strB nameP x))
  | [p, ns] => decide (w = wLst) && (strB prefP p && (namesB ns && startB p ns))
  | [ns] => if w = wWnt then namesB ns else decide (w = wHav) && isTD ns
  | _ => false
inductive Msq : D → Bool → Prop
  | non {d : D} : isTD d = false → Msq d false
  | nil : Msq (.tup []) false
  | wrd (w : L) (r : List D) : Msq (.tup (.str w :: r)) (msgB w r)
def tupB : List D → Bool
  | [ns] => isTD ns
  | _ => false
theorem msg_dig {r : List D} (h : r.length = 3) : ∃ p n x, r = [p, n, x] := match r, h with
  | [p, n, x], _ => ⟨p, n, x, rfl⟩
theorem msg_lst {r : List D} (h : r.length = 2) : ∃ p n, r = [p, n] := match r, h with
  | [p, n], _ => ⟨p, n, rfl⟩
theorem msg_wnt {r : List D} (h : r.length = 1) : ∃ p, r = [p] := match r, h with
  | [p], _ => ⟨p, rfl⟩
theorem msg_hav {w : L} {r : List D} (h1 : (decide (w = wDig) && decide (r.length + 1 = 4)) = false) (h2 : (decide (w = wLst) && decide (r.length + 1 = 3)) = false) (h3 : (decide (w = wWnt) && decide (r.length + 1 = 2)) = false) : msgB w r = (decide (w = wHav) && (decide (r.length + 1 = 2) && tupB r)) := by
  match r with
  | [] => simp [msgB]
  | [ns] =>
    have : ¬ w = wWnt := fun z => by
      subst z
      simp at h3
    simp [msgB, this, tupB]
  | [p, ns] =>
    have : ¬ w = wLst := fun z => by
      subst z
      simp at h2
    simp [msgB, this, tupB]
  | [p, n, x] =>
    have : ¬ w = wDig := fun z => by
      subst z
      simp at h1
    simp [msgB, this, tupB]
  | p :: n :: x :: y :: r => simp [msgB, tupB]
theorem and_dec {a b : Prop} [Decidable a] [Decidable b] (h : (decide a && decide b) = true) : a ∧ b := by
  rw [Bool.and_eq_true] at h
  exact ⟨of_decide_eq_true h.1, of_decide_eq_true h.2⟩
def ok_is_message (vs : List V) (H : Hp) (z : V) : Prop := ∃ (v : V) (d : D) (b : Bool), vs = [v] ∧ Rep H v d ∧ Fit d ∧ Msq d b ∧ z = .bl b
theorem bl_and {a b c d e : Bool} (h : a = c) (g : c = true → b = d) : (a && b) = (c && d) := by
  cases c with
  | true => rw [h, g rfl]
  | false => rw [h]; rfl
theorem fn_is_message {f : Addr} {fd : FuncData} {k : Nat} (F : Fun K "is_message" "is_message" s_is_message f fd) (N : Nb mg) (C_is_name : Cal P w K mg base k "is_name" ["value"] (spV (ok_is nameP))) (C_is_prefix : Cal P w K mg base k "is_prefix" ["value"] (spV (ok_is prefP))) (C_are_names : Cal P w K mg base k "are_names" ["value"] (spV ok_are_names)) : FnOk P w K mg base CX0 (k + 1) f fd ["value"] (spV ok_is_message) := by
  refine F.ok sc_is_message (fun vs H Q E h => ?_) (fun cdv A outer s H vs Q E hr h => ?_)
  · obtain ⟨_, ⟨_, _, _, rfl, _⟩, _⟩ := h
    rfl
  · obtain ⟨_, ⟨v, d, b, rfl, hR, hF, hM, hz⟩, q⟩ := h
    rw [hz] at q
    refine ⟨_, (pss_cons (ps_if (PW.pt (pw_or (pt_not (pt_val (pe_callB call_isi (by rfl) N.isinstance PyProof.Rows.boot_isinstance (pa_cons (pv 0) (pa_cons (pe_bltn (v := .ty "tuple") (by rfl) N.tuple PyProof.Rows.boot_tuple rfl) pa_nil))))) (pw_or1 (pt_not (pt_truth (pv 0) (by intro _; rfl)))))) (pss_one (ps_ret pe_bl)) pss_nil)
      (pss_cons (ps_set (i := 1) sc_is_message.nd rfl (Or.inl rfl) (pe_ix ix_tup (pv 0) pe_int (fun _ _ => rfl)))
      (pss_cons (ps_if (PW.pt (pw_and (pt_cmpR op_eq (pv 1) pe_str (nomark _)) (pw_and1 (pt_cmpR op_eq (pe_callB call_len_seq (by rfl) N.len PySem.boot_len (pa_cons (pv 0) pa_nil)) pe_int (nomark _))))) (pss_cons (ps_if (PW.pt (pw_or (pt_not (pt_val (pe_callB call_isi (by rfl) N.isinstance PyProof.Rows.boot_isinstance (pa_cons (pe_ix ix_tup (pv 0) pe_int (fun _ _ => rfl)) (pa_cons (pe_bltn (v := .ty "int") (by rfl) N.int PyProof.Rows.boot_int rfl) pa_nil))))) (pw_or (pt_val (pe_callB call_isi (by rfl) N.isinstance PyProof.Rows.boot_isinstance (pa_cons (pe_ix ix_tup (pv 0) pe_int (fun _ _ => rfl)) (pa_cons (pe_bltn (v := .ty "bool") (by rfl) N.bool PyProof.Rows.boot_bool rfl) pa_nil)))) (pw_or1 (pt_cmpR op_lt (pe_ix ix_tup (pv 0) pe_int (fun _ _ => rfl)) pe_int (nomark _)))))) (pss_one (ps_ret pe_bl)) pss_nil)
      (pss_one (ps_ret (pe_and (pe_cal C_is_prefix hr (pa_cons (pe_ix ix_tup (pv 0) pe_int (fun _ _ => rfl)) pa_nil)) (pe_one (pe_cal C_is_name hr (pa_cons (pe_ix ix_tup (pv 0) pe_int (fun _ _ => rfl)) pa_nil))))))) pss_nil)
      (pss_cons (ps_if (PW.pt (pw_and (pt_cmpR op_eq (pv 1) pe_str (nomark _)) (pw_and1 (pt_cmpR op_eq (pe_callB call_len_seq (by rfl) N.len PySem.boot_len (pa_cons (pv 0) pa_nil)) pe_int (nomark _))))) (pss_one (ps_ret (pe_and (pe_cal C_is_prefix hr (pa_cons (pe_ix ix_tup (pv 0) pe_int (fun _ _ => rfl)) pa_nil)) (pe_and (pe_cal C_are_names hr (pa_cons (pe_ix ix_tup (pv 0) pe_int (fun _ _ => rfl)) pa_nil)) (pe_one (pe_callB (cr_all rfl) (by rfl) N.all PyProof.Rows.boot_all (pa_cons (pe_lc (own := [("name", 2)]) (by rfl) sc_is_message.nd (pi_tup (pe_ix ix_tup (pv 0) pe_int (fun _ _ => rfl))) (blkOk_by (own := [("name", 2)]) (N := ["value", "word", "name"]) (sc := defScope s_is_message) (by decide +kernel)) (fun _ _ _ _ _ => (pg_name (i := 2) sc_is_message.nd rfl (Or.inl rfl))) (fun _ _ _ _ _ => pts_nil) (fun _ _ _ _ _ => (show PE _ _ (tBM K "str" rStarts _ _) from (pe_bm PySem.F.plainAttrs_str PySem.F.slot_str_startswith PySem.F.type_str_startswith mt_startswith (pv 2) (pa_cons (pe_ix (r := rIxT K) ix_tup (pv 0) pe_int (fun _ _ => rfl)) pa_nil))))) pa_nil))))))) pss_nil)
      (pss_cons (ps_if (PW.pt (pw_and (pt_cmpR op_eq (pv 1) pe_str (nomark _)) (pw_and1 (pt_cmpR op_eq (pe_callB call_len_seq (by rfl) N.len PySem.boot_len (pa_cons (pv 0) pa_nil)) pe_int (nomark _))))) (pss_one (ps_ret (pe_cal C_are_names hr (pa_cons (pe_ix ix_tup (pv 0) pe_int (fun _ _ => rfl)) pa_nil)))) pss_nil)
      (pss_one (ps_ret (pe_and (pe_cmpR op_eq (pv 1) pe_str (nomark _)) (pe_and (pe_cmpR op_eq (pe_callB call_len_seq (by rfl) N.len PySem.boot_len (pa_cons (pv 0) pa_nil)) pe_int (nomark _)) (pe_one (pe_callB call_isi (by rfl) N.isinstance PyProof.Rows.boot_isinstance (pa_cons (pe_ix ix_tup (pv 0) pe_int (fun _ _ => rfl)) (pa_cons (pe_bltn (v := .ty "tuple") (by rfl) N.tuple PyProof.Rows.boot_tuple rfl) pa_nil))))))))))))), ?_⟩
    cases hM with
    | non hn =>
      exact q_when (b := true) (et_or (a := true) (b := true) (et_not (a := false) (et_test (ev_isi (ev_v rfl) hR (by rw [kTD, hn])))) (fun z => nomatch z)) (fun _ H1 e1 => s_ret ev_c fun H2 e2 => q H2 (e1.trans e2)) (fun z => nomatch z)
    | nil =>
      have hR0 := hR
      cases hR with
      | @tup a vs _ ha rs =>
        cases rs
        exact q_when (b := true) (et_or (a := false) (b := true) (et_not (et_test (ev_isi (b := true) (ev_v rfl) hR0 rfl))) fun _ => et_not (et_truT (xs := []) (evt_k (ev_v rfl) (st_of ha)))) (fun _ H1 e1 => s_ret ev_c fun H2 e2 => q H2 (e1.trans e2)) (fun z => nomatch z)
    | wrd w r =>
      have hR0 := hR
      rw [Fit] at hF
      obtain ⟨hl, hF⟩ := hF
      rw [FitL] at hF
      cases hR with
      | @tup a vs _ ha rs =>
        have hlen := rs.len
        cases rs with
        | @cons _ _ us _ rw1 rs =>
          cases rw1
          refine q_when (b := false) (et_or (a := false) (b := false) (et_not (et_test (ev_isi (b := true) (ev_v rfl) hR0 rfl))) fun _ => et_not (et_truT (xs := _ :: us) (evt_k (ev_v rfl) (st_of ha)))) (fun z => nomatch z) fun _ H1 e1 => ?_
          refine q_asg (v := .str (tx w)) (ev_ixT (j := 0) (ev_v rfl) (ev_cn 0) (st_of (e1 _ _ ha)) rfl) fun H2 e2 => ?_
          have E2 := e1.trans e2
          rw [List.length_cons, List.length_cons] at hlen
          rw [List.length_cons] at hl
          have lenE : ∀ {H3 : Hp} {n : Nat}, Ex H2 H3 → Ev (tOp rEq (tCB (rLenS K) (tCons (tVar 0) tNil)) (tC (.int (n : Int)))) [some (.ref a), some (.str (tx w)), none] H3 (.bl (decide (r.length + 1 = n))) := fun {H3 n} e3 =>
            ev_is (ev_op (ev_is (ev_lenT (ev_v rfl) (st_of ((E2.trans e3) _ _ ha))) (show _ = V.int ((r.length + 1 : Nat) : Int) by rw [List.length_cons, show us.length = r.length by omega])) (ev_cn n) (rv_eq rfl)) (congrArg V.bl (decide_eq_decide.mpr ⟨fun h => by have := V.int.inj h; omega, fun h => by rw [h]⟩))
          have wrdE : ∀ {H3 : Hp} {l : L} {s : Str}, s = tx l → Ev (tOp rEq (tVar 1) (tC (.str s))) [some (.ref a), some (.str (tx w)), none] H3 (.bl (decide (w = l))) := fun {H3 l s} hs => by
            rw [hs]
            exact ev_eqS (ev_v rfl) ev_c
          have isP : ∀ {H3 : Hp} {σ : L2.St} {te : TE} {v : V} {d : D}, Ex H H3 → Ev te σ H3 v → Rep H v d → Fit d → Ev (tCall (spV (ok_is prefP)) [] E0 (tCons te tNil)) σ H3 (.bl (strB prefP d)) := fun {H3 σ te v d} e3 hv hr hf => ev_cal (ea_cons hv ea_nil) fun H4 e4 => ⟨v, d, rfl, hr.mono (e3.trans e4), tst_of hf⟩
          have isN : ∀ {H3 : Hp} {σ : L2.St} {te : TE} {v : V} {d : D}, Ex H H3 → Ev te σ H3 v → Rep H v d → Fit d → Ev (tCall (spV (ok_is nameP)) [] E0 (tCons te tNil)) σ H3 (.bl (strB nameP d)) := fun {H3 σ te v d} e3 hv hr hf => ev_cal (ea_cons hv ea_nil) fun H4 e4 => ⟨v, d, rfl, hr.mono (e3.trans e4), tst_of hf⟩
          have isA : ∀ {H3 : Hp} {σ : L2.St} {te : TE} {v : V} {d : D}, Ex H H3 → Ev te σ H3 v → Rep H v d → Fit d → Ev (tCall (spV ok_are_names) [] E0 (tCons te tNil)) σ H3 (.bl (namesB d)) := fun {H3 σ te v d} e3 hv hr hf => ev_cal (ea_cons hv ea_nil) fun H4 e4 => ⟨v, d, rfl, hr.mono (e3.trans e4), hf, rfl⟩
          refine q_when (b := decide (w = wDig) && decide (r.length + 1 = 4)) (et_and (et_test (wrdE (by decide +kernel))) fun _ => et_test (lenE (n := 4) (Ex.refl _))) (fun hb H3 e3 => ?_) fun hb1 H3 e3 => ?_
          · obtain ⟨hw, hn⟩ := and_dec hb
            subst hw
            obtain ⟨p, n, x, rfl⟩ := msg_dig (r := r) (by omega)
            cases rs with
            | @cons vp _ _ _ rp rs => cases rs with
              | @cons vn _ _ _ rn rs => cases rs with
                | @cons vx _ _ _ rx rs =>
                  cases rs
                  rw [FitL, FitL, FitL] at hF
                  have E3 := E2.trans e3
                  have hm : msgB wDig [p, n, x] = (numB n && (strB prefP p && strB nameP x)) := by simp [msgB]
                  rw [hm] at q
                  have ix2 : ∀ {H4 : Hp}, Ex H3 H4 → Ev (tOp (rIxT K) (tVar 0) (tC (.int 2))) [some (.ref a), some (.str (tx wDig)), none] H4 vn := fun e4 => ev_ixT (j := 2) (ev_v rfl) (ev_cn 2) (st_of ((E3.trans e4) _ _ ha)) rfl
                  refine q_when (b := !(numB n)) ?_ (fun hb H4 e4 => ?_) fun hb H4 e4 => ?_
                  · cases rn with
                    | int i =>
                      refine et_is (et_or (a := false) (b := decide (i < 0)) (et_not (et_test (ev_isi (b := true) (ix2 (Ex.refl _)) (.int i) rfl))) fun _ => et_is (et_or (a := false) (b := decide (i < 0)) (et_test (ev_isi (ix2 (Ex.refl _)) (.int i) rfl)) fun _ => et_test (ev_op (ix2 (Ex.refl _)) ev_c rv_I0)) (Bool.false_or _)) ?_
                      rw [Bool.false_or]
                      show decide (i < 0) = !decide (0 ≤ i)
                      rw [← decide_not]
                      exact decide_eq_decide.mpr (by omega)
                    | bl b => exact et_or (a := false) (b := true) (et_not (et_test (ev_isi (b := true) (ix2 (Ex.refl _)) (.bl b) rfl))) fun _ => et_or (a := true) (b := true) (et_test (ev_isi (ix2 (Ex.refl _)) (.bl b) rfl)) (fun z => nomatch z)
                    | non => exact et_or (a := true) (b := true) (et_not (a := false) (et_test (ev_isi (b := false) (ix2 (Ex.refl _)) .non rfl))) (fun z => nomatch z)
                    | str l => exact et_or (a := true) (b := true) (et_not (a := false) (et_test (ev_isi (b := false) (ix2 (Ex.refl _)) (.str l) rfl))) (fun z => nomatch z)
                    | tup h1 h2 => exact et_or (a := true) (b := true) (et_not (a := false) (et_test (ev_isi (b := false) (ix2 (Ex.refl _)) (Rep.tup (E3 _ _ h1) (h2.mono E3)) rfl))) (fun z => nomatch z)
                    | lst h1 h2 => exact et_or (a := true) (b := true) (et_not (a := false) (et_test (ev_isi (b := false) (ix2 (Ex.refl _)) (Rep.lst (E3 _ _ h1) (h2.mono E3)) rfl))) (fun z => nomatch z)
                  · have : numB n = false := by
                      cases h : numB n with
                      | true => rw [h] at hb; exact nomatch hb
                      | false => rfl
                    rw [this] at q
                    exact s_ret ev_c fun H5 e5 => q H5 ((E3.trans e4).trans e5)
                  · have : numB n = true := by
                      cases h : numB n with
                      | true => rfl
                      | false => rw [h] at hb; exact nomatch hb
                    rw [this, Bool.true_and] at q
                    have E4 := E3.trans e4
                    exact s_ret (ev_andV (isP E4 (ev_ixT (j := 1) (ev_v rfl) (ev_cn 1) (st_of (E4 _ _ ha)) rfl) rp hF.2.1) fun _ => isN E4 (ev_ixT (j := 3) (ev_v rfl) (ev_cn 3) (st_of (E4 _ _ ha)) rfl) rx hF.2.2.2.1) fun H5 e5 => q H5 (E4.trans e5)
          have E3 := E2.trans e3
          refine q_when (b := decide (w = wLst) && decide (r.length + 1 = 3)) (et_and (et_test (wrdE (by decide +kernel))) fun _ => et_test (lenE (n := 3) e3)) (fun hb H4 e4 => ?_) fun hb2 H4 e4 => ?_
          · obtain ⟨hw, hn⟩ := and_dec hb
            subst hw
            obtain ⟨p, ns, rfl⟩ := msg_lst (r := r) (by omega)
            cases rs with
            | @cons vp _ _ _ rp rs => cases rs with
              | @cons vn _ _ _ rn rs =>
                cases rs
                rw [FitL, FitL] at hF
                have E4 := E3.trans e4
                have hm : msgB wLst [p, ns] = (strB prefP p && (namesB ns && startB p ns)) := by simp [msgB]
                rw [hm] at q
                have ix1 : ∀ {H5 : Hp} {σ : L2.St}, Ex H4 H5 → σ[0]? = some (some (.ref a)) → Ev (tOp (rIxT K) (tVar 0) (tC (.int 1))) σ H5 vp := fun e5 hv => ev_ixT (j := 1) (ev_v hv) (ev_cn 1) (st_of ((E4.trans e5) _ _ ha)) rfl
                have ix2 : ∀ {H5 : Hp} {σ : L2.St}, Ex H4 H5 → σ[0]? = some (some (.ref a)) → Ev (tOp (rIxT K) (tVar 0) (tC (.int 2))) σ H5 vn := fun e5 hv => ev_ixT (j := 2) (ev_v hv) (ev_cn 2) (st_of ((E4.trans e5) _ _ ha)) rfl
                refine s_ret (ev_andV (isP E4 (ix1 (Ex.refl _) rfl) rp hF.2.1) fun hp => ev_andV (isA E4 (ix2 (Ex.refl _) rfl) rn hF.2.2.1) fun hns => ?_) fun H5 e5 => q H5 (E4.trans e5)
                cases rp with
                | str lp =>
                  cases rn with
                  | @tup b ws ds hb rs =>
                    have hns : (ds.all (strB nameP) && riseB (ds.map strOf)) = true := hns
                    rw [Bool.and_eq_true] at hns
                    have hds := all_strs nameP hns.1
                    have hdl : ds.length ≤ 1000 := by
                      have := hF.2.2.1
                      rw [Fit] at this
                      exact this.1
                    generalize hps : ds.map strOf = ps at hds
                    have hpl : ps.length = ds.length := by rw [← hps, List.length_map]
                    rw [hds] at rs
                    have hvs := reps_strs rs
                    subst hvs
                    have hst : startB (.str lp) (.tup ds) = (ps.map fun k => decide (k.take lp.length = lp)).all id := by
                      rw [List.all_map]
                      show (ds.map strOf).all _ = _
                      rw [hps]
                      rfl
                    rw [hst]
                    refine ev_all (el_is (el_lcT (xs := txs ps) (fun _ => true) (fun v => .bl (strV (fun k => decide (k.take lp.length = lp)) v)) (ix2 (Ex.refl _) rfl) (st_of (E4 _ _ hb)) (by rw [txs_len]; omega) (fun _ => rfl) (fun x H5 e5 hx => et_yes) fun x H5 e5 hx _ => ?_) ?_)
                    · obtain ⟨k, hk, rfl⟩ := txs_mem hx
                      exact ev_starts (ev_v rfl) (ix1 e5 rfl)
                    · rw [filt_true]
                      unfold txs
                      rw [List.map_map, List.map_map]
                      rfl
                  | _ => exact nomatch hns
                | _ => exact nomatch hp
          have E4 := E3.trans e4
          refine q_when (b := decide (w = wWnt) && decide (r.length + 1 = 2)) (et_and (et_test (wrdE (by decide +kernel))) fun _ => et_test (lenE (n := 2) (e3.trans e4))) (fun hb H5 e5 => ?_) fun hb3 H5 e5 => ?_
          · obtain ⟨hw, hn⟩ := and_dec hb
            subst hw
            obtain ⟨ns, rfl⟩ := msg_wnt (r := r) (by omega)
            cases rs with
            | @cons vp _ _ _ rp rs =>
              cases rs
              rw [FitL] at hF
              have E5 := E4.trans e5
              have hm : msgB wWnt [ns] = namesB ns := by simp [msgB]
              rw [hm] at q
              exact s_ret (isA E5 (ev_ixT (j := 1) (ev_v rfl) (ev_cn 1) (st_of (E5 _ _ ha)) rfl) rp hF.2.1) fun H6 e6 => q H6 (E5.trans e6)
          have E5 := E4.trans e5
          rw [msg_hav hb1 hb2 hb3] at q
          refine s_ret (ev_andV (wrdE (by decide +kernel)) fun _ => ev_andV (lenE (n := 2) ((e3.trans e4).trans e5)) fun h2 => ?_) fun H6 e6 => q H6 (E5.trans e6)
          have h2 := of_decide_eq_true h2
          obtain ⟨ns, rfl⟩ := msg_wnt (r := r) (by omega)
          cases rs with
          | @cons vp _ _ _ rp rs =>
            cases rs
            exact ev_isi (ev_ixT (j := 1) (ev_v rfl) (ev_cn 1) (st_of (E5 _ _ ha)) rfl) (rp.mono E5) (kTD ns)
abbrev s_is_word : Stmt := topS 30
theorem sc_is_word : FnScope ["value"] ["value"] (defScope s_is_word) := ⟨rfl, rfl, rfl, by decide +kernel, rfl, by decide +kernel, by decide +kernel⟩
theorem fn_is_word {f : Addr} {fd : FuncData} {k : Nat} (F : Fun K "is_word" "is_word" s_is_word f fd) (N : Nb mg) (g_DIGITS_names : GS mg "DIGITS_names" (tx digL)) (g_LETTERS : GS mg "LETTERS" (tx letL)) (g_LONGEST_WORD : GI mg "LONGEST_WORD" 12) (C_made_of : Cal P w K mg base k "made_of" ["value", "signs", "most"] (spV ok_made_of)) : FnOk P w K mg base CX0 (k + 1) f fd ["value"] (spV (ok_is wordP)) := by
  refine F.ok sc_is_word (fun vs H Q E h => ?_) (fun cdv A outer s H vs Q E hr h => ?_)
  · obtain ⟨_, ⟨_, _, rfl, _⟩, _⟩ := h
    rfl
  · obtain ⟨z, ⟨v, d, rfl, hR, hT⟩, q⟩ := h
    refine ⟨_, (pss_one (ps_ret (pe_and (pe_cal C_made_of hr (pa_cons (pv 0) (pa_cons (pe_op op_add_str (pe_gs g_LETTERS) (pe_gs g_DIGITS_names)) (pa_cons (pe_gi g_LONGEST_WORD) pa_nil)))) (pe_one (pe_cmpR op_in_sign (pe_ix ix_str (pv 0) pe_int (fun _ _ => rfl)) (pe_gs g_LETTERS) rfl))))), ?_⟩
    have args : EvA (tCons (tVar 0) (tCons (tOp (fun x y H Q => ∃ i j, x = .str i ∧ y = .str j ∧ i.length + j.length ≤ sizeLine ∧ Q (.str (i ++ j)) H) (tC (.str (tx letL))) (tC (.str (tx digL)))) (tCons (tC (.int 12)) tNil))) [some v] H [v, .str (tx (letL ++ digL)), .int ((12 : Nat) : Int)] :=
      ea_cons (ev_v rfl) (ea_cons (ev_op ev_c ev_c (rv_addS (by decide))) (ea_cons ev_c ea_nil))
    rcases hT with ⟨l, rfl, hl, rfl⟩ | ⟨hk, rfl⟩
    · refine s_ret (ev_is (ev_andV (a := madeP (letL ++ digL) 12 l) (b := decide (l.headD 0 ∈ letL)) (ev_cal args fun H1 e1 => ⟨v, _, _, 12, rfl, hR.mono e1, by decide, .inl ⟨l, rfl, hl, rfl⟩⟩) fun hm => ?_) rfl) fun H1 e1 => q H1 e1
      cases hR
      have h1 := made_true hm
      have h0 : l[0]? = some (l.headD 0) := by
        cases l with
        | nil => exact absurd h1 (by decide)
        | cons a r => rfl
      exact ev_op (ev_op (ev_v rfl) (ev_cn 0) (rv_ixSn (by omega) h0)) ev_c rv_inSn
    · exact s_ret (ev_is (ev_andV (a := false) (b := false) (ev_cal args fun H1 e1 => ⟨v, _, _, 12, rfl, hR.mono e1, by decide, .inr ⟨hk, rfl⟩⟩) (fun z => nomatch z)) rfl) fun H1 e1 => q H1 e1
abbrev s_is_plain : Stmt := topS 12
theorem sc_is_plain : FnScope ["value"] ["value"] (defScope s_is_plain) := ⟨rfl, rfl, rfl, by decide +kernel, rfl, by decide +kernel, by decide +kernel⟩
/- 0 value -/
def ok_is_plain (vs : List V) (H : Hp) (z : V) : Prop := ∃ (v : V) (d : D), vs = [v] ∧ Rep H v d ∧ Pln d ∧ height d < 4 ∧ (octs d).length ≤ 20000 ∧ z = .bl true
theorem fn_is_plain {f : Addr} {fd : FuncData} {k : Nat} (F : Fun K "is_plain" "is_plain" s_is_plain f fd) (N : Nb mg) (X_Misvalued : GX mg "Misvalued") (C_told : Cal P w K mg base k "told" ["value"] (spL ok_told)) : FnOk P w K mg base CX0 (k + 1) f fd ["value"] (spV ok_is_plain) := by
  refine F.ok sc_is_plain (fun vs H Q E h => ?_) (fun cdv A outer s H vs Q E hr h => ?_)
  · obtain ⟨_, ⟨_, _, rfl, _⟩, _⟩ := h
    rfl
  · obtain ⟨_, ⟨v, d, rfl, hR, hp, hh, ho, hz⟩, q⟩ := h
    rw [hz] at q
    obtain ⟨CE, g_Misvalued⟩ := X_Misvalued
    refine ⟨_, (pss_cons (ps_try_only rfl rfl ⟨rfl, by decide, .inl g_Misvalued⟩ takesN (fun W pn xe tk _ => (pss_one (ps_expr (pe_cal C_told hr (pa_cons (pv 0) pa_nil))))) (fun a oe cls d pn _ _ => (pss_one (ps_ret pe_bl))))
      (pss_one (ps_ret pe_bl))), ?_⟩
    have key : ∀ {D : Ends}, (∀ H1, Ex H H1 → D.nx [some v] H1) → tDrop (tCall (spL ok_told) [] E0 (tCons (tVar 0) tNil)) D [some v] H := fun {D} k => r_dropE (el_cal (ok := ok_told) (ea_cons (ev_v rfl) ea_nil) (fun H1 e1 => ⟨v, d, rfl, hR.mono e1, hp, hh, ho, rfl⟩) H (Ex.refl _) _ fun p H1 hp1 e1 h1 => k H1 e1)
    refine q_run (key (D := { nx := tRet (tC (.bl true)) { nx := fun _ H' => Q .non H', rt := Q }, rt := Q }) fun H1 e1 => ?_)
    exact s_ret (σ := [some v]) (D := { nx := fun _ H' => Q .non H', rt := Q }) (v := .bl true) ev_c fun H2 e2 => q H2 (e1.trans e2)
end
end K82

set_option Elab.async false
set_option linter.all false
set_option maxRecDepth 100000
set_option maxHeartbeats 4000000
namespace K82
open PySem PySem.Spec PyProof.Rows L2 Evl My
def Hx (l : L) : Prop := ∀ c ∈ l, c ∈ hexd
theorem hx_small : ∀ c ∈ hexd, c < 128 := by decide
theorem hx_sgns : ∀ c ∈ hexd, c ∈ sgns := by decide +kernel
theorem hexL_hx (w : Nat) : ∀ k, Hx (hexL w k)
  | 0 => fun c hc => by
    rw [hexL] at hc
    exact nomatch hc
  | k + 1 => fun c hc => by
    rw [hexL] at hc
    rcases List.mem_cons.mp hc with rfl | hc
    · exact List.mem_of_getElem? (hex_get (Nat.mod_lt _ (by decide)))
    · exact hexL_hx w k c hc
theorem hexR_hx (ws : List Nat) : Hx (hexR ws) := fun c hc => by
  unfold hexR at hc
  obtain ⟨w, _, hc⟩ := List.mem_flatMap.mp hc
  exact hexL_hx w 8 c hc
def nmP (l : L) : Prop := l.length = 20 ∧ ∀ c ∈ l, c ∈ hexd
def nmD (d : D) : L := (shaN (octs d)).take 20
theorem nmD_ok (d : D) : nmP (nmD d) := by
  unfold nmD nmP
  refine ⟨by rw [List.length_take, shaN_len]; rfl, fun c hc => ?_⟩
  have := List.mem_of_mem_take hc
  unfold shaN at this
  exact hexR_hx _ c this
/-! sayings -/
def wPat : L := [112, 97, 116, 99, 104]
def wVot : L := [118, 111, 116, 101]
def wTak : L := [116, 97, 107, 101]
def wDro : L := [100, 114, 111, 112]
def wMak : L := [109, 97, 107, 101]
def wMai : L := [109, 97, 105, 110]
def wIn : L := [105, 110]
inductive G4 where
  | patch (fd : L)
  | vote (x w : L)
  | take (x : L)
  | drop (xs : List L)
def kdG : G4 → L
  | .patch _ => wPat
  | .vote _ _ => wVot
  | .take _ => wTak
  | .drop _ => wDro
def bodyG : G4 → D
  | .patch fd => .tup [.tup [.str wMak, .str fd]]
  | .vote x w => .tup [.str x, .str wIn, .str w]
  | .take x => .tup [.str wMai, .str x]
  | .drop xs => .tup [.str wMai, .tup (xs.map .str)]
def rstG : G4 → List (L × L)
  | .patch _ => []
  | .vote x _ => [(wPat, x)]
  | .take x => [(wPat, x)]
  | .drop xs => xs.map fun x => (wTak, x)
def pairD (p : L × L) : D := .tup [.str p.1, .str p.2]
structure Sg where
  au : L
  n : Nat
  g : G4
def restD (g : G4) : D := .tup ((rstG g).map pairD)
def sayD (s : Sg) : D := .tup [.str (kdG s.g), .str s.au, .int (s.n : Nat), restD s.g, bodyG s.g]
def people : List L := [[97, 110, 110], [98, 111, 98], [101, 118, 101]]
def OkG : G4 → Prop
  | .patch fd => fd ∈ ([[102, 105, 108, 101], [100, 105, 114]] : List L)
  | .vote x w => nmP x ∧ w ∈ ([[121, 101, 115], [110, 111]] : List L)
  | .take x => nmP x
  | .drop xs => 1 ≤ xs.length ∧ xs.length ≤ 2 ∧ (∀ x ∈ xs, nmP x) ∧ xs.Nodup ∧ xs.Pairwise (fun a b => leF a b = true)
structure OkS (s : Sg) : Prop where
  au : s.au ∈ people
  n1 : 1 ≤ s.n
  n2 : s.n ≤ 20
  g : OkG s.g
theorem okg_rest {g : G4} (h : OkG g) : ∀ p ∈ rstG g, nmP p.2 ∧ (p.1 = wPat ∨ p.1 = wTak) := by
  cases g with
  | patch fd => exact fun p hp => nomatch hp
  | vote x w => intro p hp; rw [List.mem_singleton.mp hp]; exact ⟨h.1, .inl rfl⟩
  | take x => intro p hp; rw [List.mem_singleton.mp hp]; exact ⟨h, .inl rfl⟩
  | drop xs =>
    intro p hp
    obtain ⟨x, hx, rfl⟩ := List.mem_map.mp hp
    exact ⟨h.2.2.1 x hx, .inr rfl⟩
theorem okg_few {g : G4} (h : OkG g) : (rstG g).length ≤ 2 := by
  cases g with
  | patch fd => exact Nat.zero_le _
  | vote x w => show 1 ≤ 2; decide
  | take x => show 1 ≤ 2; decide
  | drop xs => show (xs.map _).length ≤ 2; rw [List.length_map]; exact h.2.1
theorem nm_octs {x : L} (h : nmP x) : (octs (.str x)).length = 22 ∧ Pln (.str x) ∧ height (.str x) = 0 := by
  refine ⟨?_, ?_, by simp [height]⟩
  · rw [octs, List.length_cons, List.length_append, List.length_map, h.1, sev_lt (show 20 < 128 by decide)]
    rfl
  · rw [Pln]
    exact ⟨by rw [h.1]; decide, fun c hc => hx_sgns c (h.2 c hc)⟩
theorem str_oct {l : L} (h : l.length < 128) : (octs (.str l)).length = l.length + 2 := by
  rw [octs, List.length_cons, List.length_append, List.length_map, sev_lt h]
  simp only [List.length_cons, List.length_nil]
  omega
theorem tup_oct {ds : List D} (h : ds.length < 128) : (octs (.tup ds)).length = (octsL ds).length + 2 := by
  rw [octs, List.length_cons, List.length_append, sev_lt h]
  simp only [List.length_cons, List.length_nil]
  omega
theorem octsL_cons (d : D) (ds : List D) : (octsL (d :: ds)).length = (octs d).length + (octsL ds).length := by rw [octsL, List.length_append]
theorem octsL_nil : (octsL []).length = 0 := by rw [octsL]; rfl
theorem kd_ok (g : G4) : (kdG g).length ≤ 5 ∧ ∀ c ∈ kdG g, c ∈ sgns := by
  have h : ∀ w ∈ [wPat, wVot, wTak, wDro], w.length ≤ 5 ∧ ∀ c ∈ w, c ∈ sgns := by decide +kernel
  cases g with
  | patch fd => exact h wPat (by simp)
  | vote x w => exact h wVot (by simp)
  | take x => exact h wTak (by simp)
  | drop xs => exact h wDro (by simp)
theorem pairs_ok : ∀ {ps : List (L × L)}, (∀ p ∈ ps, nmP p.2 ∧ (p.1 = wPat ∨ p.1 = wTak)) → ps.length ≤ 2 → (octsL (ps.map pairD)).length ≤ 40 * ps.length ∧ PlnL (ps.map pairD) ∧ heightL (ps.map pairD) ≤ 1
  | [], _, _ => ⟨by rw [List.map_nil, octsL]; exact Nat.le_refl _, by rw [List.map_nil, PlnL]; trivial, by rw [List.map_nil, heightL]; exact Nat.zero_le _⟩
  | p :: ps, h, hl => by
    obtain ⟨i1, i2, i3⟩ := pairs_ok (ps := ps) (fun x hx => h x (by simp [hx])) (by rw [List.length_cons] at hl; omega)
    obtain ⟨hn, hk⟩ := h p (by simp)
    obtain ⟨a1, a2, a3⟩ := nm_octs hn
    have hkw : p.1.length ≤ 5 ∧ ∀ c ∈ p.1, c ∈ sgns := by
      rcases hk with e | e <;> rw [e] <;> exact ⟨by decide, by decide +kernel⟩
    have hk2 := str_oct (l := p.1) (by omega)
    refine ⟨?_, ?_, ?_⟩
    · rw [List.map_cons, octsL_cons, List.length_cons]
      have : (octs (pairD p)).length ≤ 40 := by
        unfold pairD
        rw [tup_oct (ds := [.str p.1, .str p.2]) (show 2 < 128 by decide), octsL_cons, octsL_cons, octsL_nil, hk2, a1]
        omega
      omega
    · rw [List.map_cons, PlnL]
      refine ⟨?_, i2⟩
      unfold pairD
      rw [Pln, PlnL, PlnL, PlnL, Pln]
      exact ⟨by show 2 ≤ 1000; decide, ⟨by omega, hkw.2⟩, a2, trivial⟩
    · rw [List.map_cons, heightL]
      unfold pairD at i3 ⊢
      simp only [height, heightL]
      omega
theorem body_ok {g : G4} (h : OkG g) : Pln (bodyG g) ∧ height (bodyG g) ≤ 2 ∧ (octs (bodyG g)).length ≤ 200 := by
  cases g with
  | patch fd =>
    have h : fd = [102, 105, 108, 101] ∨ fd = [100, 105, 114] := by simpa [OkG] using h
    rcases h with rfl | rfl
    · exact ⟨plnB_ok _ (by decide +kernel), by decide, by decide +kernel⟩
    · exact ⟨plnB_ok _ (by decide +kernel), by decide, by decide +kernel⟩
  | vote x w =>
    obtain ⟨hx, hw⟩ := h
    obtain ⟨a1, a2, a3⟩ := nm_octs hx
    have hw : w = [121, 101, 115] ∨ w = [110, 111] := by simpa using hw
    have hw2 : w.length ≤ 3 ∧ ∀ c ∈ w, c ∈ sgns := by
      rcases hw with e | e <;> rw [e] <;> exact ⟨by decide, by decide +kernel⟩
    have hk2 := str_oct (l := w) (by omega)
    have hi : ∀ c ∈ wIn, c ∈ sgns := by decide +kernel
    refine ⟨?_, ?_, ?_⟩
    · unfold bodyG
      rw [Pln, PlnL, PlnL, PlnL, PlnL, Pln, Pln]
      exact ⟨by show 3 ≤ 1000; decide, ⟨by rw [hx.1]; decide, fun c hc => hx_sgns c (hx.2 c hc)⟩, ⟨by decide, hi⟩, by rw [Pln]; exact ⟨by omega, hw2.2⟩, trivial⟩
    · unfold bodyG
      simp [height, heightL]
    · unfold bodyG
      rw [tup_oct (ds := [.str x, .str wIn, .str w]) (show 3 < 128 by decide), octsL_cons, octsL_cons, octsL_cons, octsL_nil, a1, hk2, str_oct (l := wIn) (by decide), show wIn.length = 2 from rfl]
      omega
  | take x =>
    obtain ⟨a1, a2, a3⟩ := nm_octs h
    have hi : ∀ c ∈ wMai, c ∈ sgns := by decide +kernel
    refine ⟨?_, ?_, ?_⟩
    · unfold bodyG
      rw [Pln, PlnL, PlnL, PlnL, Pln]
      exact ⟨by show 2 ≤ 1000; decide, ⟨by decide, hi⟩, a2, trivial⟩
    · unfold bodyG
      simp [height, heightL]
    · unfold bodyG
      rw [tup_oct (ds := [.str wMai, .str x]) (show 2 < 128 by decide), octsL_cons, octsL_cons, octsL_nil, a1, str_oct (l := wMai) (by decide), show wMai.length = 4 from rfl]
      decide
  | drop xs =>
    obtain ⟨h1, h2, h3, _⟩ := h
    have hi : ∀ c ∈ wMai, c ∈ sgns := by decide +kernel
    have hx : ∀ ys : List L, (∀ y ∈ ys, nmP y) → ys.length ≤ 2 → (octsL (ys.map .str)).length ≤ 22 * ys.length ∧ PlnL (ys.map .str) ∧ heightL (ys.map .str) = 0 := by
      intro ys
      induction ys with
      | nil => intro _ _; exact ⟨by rw [List.map_nil, octsL]; exact Nat.le_refl _, by rw [List.map_nil, PlnL]; trivial, by rw [List.map_nil, heightL]⟩
      | cons y r ih =>
        intro hy hl
        obtain ⟨i1, i2, i3⟩ := ih (fun z hz => hy z (by simp [hz])) (by rw [List.length_cons] at hl; omega)
        obtain ⟨a1, a2, a3⟩ := nm_octs (hy y (by simp))
        refine ⟨?_, ?_, ?_⟩
        · rw [List.map_cons, octsL, List.length_append, a1, List.length_cons]; omega
        · rw [List.map_cons, PlnL]; exact ⟨a2, i2⟩
        · rw [List.map_cons, heightL, i3, a3]; rfl
    obtain ⟨i1, i2, i3⟩ := hx xs h3 h2
    refine ⟨?_, ?_, ?_⟩
    · unfold bodyG
      rw [Pln, PlnL, PlnL, PlnL, Pln, Pln]
      exact ⟨by show 2 ≤ 1000; decide, ⟨by decide, hi⟩, ⟨by rw [List.length_map]; omega, i2⟩, trivial⟩
    · unfold bodyG
      simp [height, heightL, i3]
    · unfold bodyG
      rw [tup_oct (ds := [.str wMai, .tup (xs.map .str)]) (show 2 < 128 by decide), octsL_cons, octsL_cons, octsL_nil, str_oct (l := wMai) (by decide), tup_oct (show (xs.map D.str).length < 128 by rw [List.length_map]; omega), show wMai.length = 4 from rfl]
      omega
theorem say_ok {s : Sg} (h : OkS s) : Pln (sayD s) ∧ height (sayD s) < 4 ∧ (octs (sayD s)).length ≤ 20000 := by
  obtain ⟨b1, b2, b3⟩ := body_ok h.g
  obtain ⟨r1, r2, r3⟩ := pairs_ok (okg_rest h.g) (okg_few h.g)
  have hf := okg_few h.g
  have hp : ∀ p ∈ people, p.length ≤ 3 ∧ ∀ c ∈ p, c ∈ sgns := by decide +kernel
  have hau := hp _ h.au
  have hkd := kd_ok s.g
  have hn1 := h.n1
  have hn2 := h.n2
  refine ⟨?_, ?_, ?_⟩
  · unfold sayD restD
    rw [Pln, PlnL, PlnL, PlnL, PlnL, PlnL, PlnL, Pln, Pln, Pln, Pln]
    exact ⟨by show 5 ≤ 1000; decide, ⟨by omega, hkd.2⟩, ⟨by omega, hau.2⟩, by omega, ⟨by rw [List.length_map]; omega, r2⟩, b1, trivial⟩
  · unfold sayD restD
    simp only [height, heightL]
    omega
  · unfold sayD restD
    rw [tup_oct (ds := [.str (kdG s.g), .str s.au, .int (s.n : Nat), .tup ((rstG s.g).map pairD), bodyG s.g]) (show 5 < 128 by decide), octsL_cons, octsL_cons, octsL_cons, octsL_cons, octsL_cons, octsL_nil, str_oct (l := kdG s.g) (by omega), str_oct (l := s.au) (by omega)]
    have ho : (octs (.int (s.n : Nat))).length = 2 := by
      rw [octs, if_pos (by omega), Int.toNat_natCast, sev_lt (by omega)]
      rfl
    have hr : (octs (.tup ((rstG s.g).map pairD))).length ≤ 90 := by
      rw [tup_oct (show ((rstG s.g).map pairD).length < 128 by rw [List.length_map]; omega)]
      omega
    rw [ho]
    omega
def nmS (s : Sg) : L := nmD (sayD s)
end K82

set_option Elab.async false
set_option linter.all false
set_option maxRecDepth 100000
set_option maxHeartbeats 4000000
namespace K82
open PySem PySem.Spec PyProof.Rows L2 Evl My
def lenT : List (L × Int) := [(wMak, 2), ([112, 108, 97, 99, 101], 5), ([103, 111, 110, 101], 3), ([108, 105, 110, 101], 5), ([99, 117, 116], 2), ([104, 101, 97, 108], 2), ([111, 114, 100, 101, 114], 3)]
def kindsV : List V := [.str "patch", .str "take", .str "drop", .str "vote", .str "release"]
def fdL : List L := [[102, 105, 108, 101], [100, 105, 114]]
def mkD (fd : L) : D := .tup [.str wMak, .str fd]
section
variable {K : PySem.W.Frag} {σ : L2.St} {H : Hp} {ta : TE} {x : V} {xs : List V}
theorem ev_niGT (ha : Ev ta σ H x) (hx : flatV x = true) (hf : xs.all flatV = true) : Ev (tOp (rIn K true) ta (tGT K xs)) σ H (.bl (!inV x xs)) := fun H1 e Q q =>
  ha H1 e _ fun H2 e2 => fun a h => ⟨a, xs, rfl, Or.inr (h H2), hx, hf, q H2 e2⟩
theorem mk_at {fd : L} {v : V} (h : Rep H v (mkD fd)) : ∃ a, v = .ref a ∧ H a = some (.tup [.str (tx wMak), .str (tx fd)]) := by
  unfold mkD at h
  cases h with
  | tup e r => cases r with
    | cons r0 r => cases r with
      | cons r1 r => cases r; cases r0; cases r1; exact ⟨_, rfl, e⟩
theorem bd_at {fd : L} {v : V} (h : Rep H v (.tup [mkD fd])) : ∃ a b, v = .ref a ∧ H a = some (.tup [.ref b]) ∧ H b = some (.tup [.str (tx wMak), .str (tx fd)]) ∧ Rep H (.ref b) (mkD fd) := by
  cases h with
  | tup e r => cases r with
    | cons r0 r =>
      cases r
      obtain ⟨b, rfl, hb⟩ := mk_at r0
      exact ⟨_, b, rfl, e, hb, r0⟩
end
section
variable {P : Program} {w : World} {K : PySem.W.Frag} {mg : Str → Option Value} {base : Heap}
theorem fd_in {fd : L} (h : fd ∈ fdL) : inV (.str (tx fd)) [.str (tx [102, 105, 108, 101]), .str (tx [100, 105, 114])] = true := by
  have : ∀ f ∈ fdL, inV (.str (tx f)) [.str (tx [102, 105, 108, 101]), .str (tx [100, 105, 114])] = true := by decide +kernel
  exact this fd h
abbrev s_change_right : Stmt := topS 40
theorem sc_change_right : FnScope ["change", "kind", "parent", "one"] ["change"] (defScope s_change_right) := ⟨rfl, rfl, rfl, by decide +kernel, rfl, by decide +kernel, by decide +kernel⟩
def ok_change (vs : List V) (H : Hp) (z : V) : Prop := ∃ (v : V) (fd : L), vs = [v] ∧ Rep H v (mkD fd) ∧ fd ∈ fdL ∧ z = .bl true
theorem fn_change_right {f : Addr} {fd : FuncData} {k : Nat} (F : Fun K "change_right" "change_right" s_change_right f fd) (N : Nb mg) (g_LENGTHS : GDI K w mg "LENGTHS" lenT) : FnOk P w K mg base CX0 (k + 1) f fd ["change"] (spV ok_change) := by
  refine F.ok sc_change_right (fun vs H Q E h => ?_) (fun cdv A outer s H vs Q E hr h => ?_)
  · obtain ⟨_, ⟨_, _, rfl, _⟩, _⟩ := h
    rfl
  · obtain ⟨_, ⟨v, fd, rfl, hR, hfd, hz⟩, q⟩ := h
    rw [hz] at q
    obtain ⟨dL, esL, nL, m_LENGTHS, D_LENGTHS, hl⟩ := g_LENGTHS
    refine ⟨_, (pss_cons (ps_if (PW.pt (pw_or (pt_not (pt_val (pe_callB call_isi (by rfl) N.isinstance PyProof.Rows.boot_isinstance (pa_cons (pv 0) (pa_cons (pe_bltn (v := .ty "tuple") (by rfl) N.tuple PyProof.Rows.boot_tuple rfl) pa_nil))))) (pw_or (pt_not (pt_truth (pv 0) (by intro _; rfl))) (pw_or1 (pt_not (pt_val (pe_callB call_isi (by rfl) N.isinstance PyProof.Rows.boot_isinstance (pa_cons (pe_ix ix_tup (pv 0) pe_int (fun _ _ => rfl)) (pa_cons (pe_bltn (v := .ty "str") (by rfl) N.str PyProof.Rows.boot_str rfl) pa_nil))))))))) (pss_one (ps_ret pe_bl)) pss_nil)
      (pss_cons (ps_set (i := 1) sc_change_right.nd rfl (Or.inl rfl) (pe_ix ix_tup (pv 0) pe_int (fun _ _ => rfl)))
      (pss_cons (ps_if (pt_cmpR op_ne (pe_kget1 D_LENGTHS (pe_gr m_LENGTHS) (pv 1) ⟨rfl, rfl, rfl, rfl⟩) (pe_callB call_len_seq (by rfl) N.len PySem.boot_len (pa_cons (pv 0) pa_nil)) (nomark _)) (pss_one (ps_ret pe_bl)) pss_nil)
      (pss_cons (ps_if (pt_cmpR op_eq (pv 1) pe_str (nomark _)) (pss_one (ps_ret (pe_cmpR op_in_seq (pe_ix ix_tup (pv 0) pe_int (fun _ _ => rfl)) (pe_tup (pa_cons pe_str (pa_cons pe_str pa_nil))) rfl))) pss_nil)
      pss_never)))), ?_⟩
    obtain ⟨a, rfl, ha⟩ := mk_at hR
    refine q_when (b := false) (et_or (a := false) (b := false) (et_not (a := true) (et_test (ev_isi (ev_v rfl) hR rfl))) fun _ => et_or (a := false) (b := false) (et_not (a := true) (et_truT (evt_k (ev_v rfl) (st_of ha)))) fun _ => et_not (a := true) (et_test (ev_isi (d := .str wMak) (ev_ixT (j := 0) (ev_v rfl) (ev_cn 0) (st_of ha) rfl) (.str _) rfl))) (fun z => nomatch z) fun _ H1 e1 => ?_
    refine q_asg (v := .str (tx wMak)) (ev_ixT (j := 0) (ev_v rfl) (ev_cn 0) (st_of (e1 _ _ ha)) rfl) fun H2 e2 => ?_
    have E2 := e1.trans e2
    refine q_when (b := false) (et_test (ev_is (ev_op (ev_kget (y := 2) (ev_v rfl) hl rfl) (ev_is (ev_lenT (ev_v rfl) (st_of (E2 _ _ ha))) (show _ = V.int 2 from rfl)) (rv_ne rfl)) (congrArg V.bl (show (!decide (V.int 2 = V.int 2)) = false by decide)))) (fun z => nomatch z) fun _ H3 e3 => ?_
    have E3 := E2.trans e3
    refine q_when (b := true) (et_is (et_test (ev_eqS (b := wMak) (ev_v rfl) (ev_cs _ (by decide +kernel)))) (decide_eq_true rfl)) (fun _ H4 e4 => ?_) (fun z => nomatch z)
    exact s_ret (ev_is (ev_inU (ev_ixT (j := 1) (ev_v rfl) (ev_cn 1) (st_of ((E3.trans e4) _ _ ha)) rfl) (eu_tup (ea_cons (ev_cs [102, 105, 108, 101] (by decide +kernel)) (ea_cons (ev_cs [100, 105, 114] (by decide +kernel)) ea_nil)) (by show 2 ≤ 100000; decide)) rfl rfl) (congrArg V.bl (fd_in hfd))) fun H5 e5 => q H5 ((E3.trans e4).trans e5)
def ok_body (vs : List V) (H : Hp) (z : V) : Prop := ∃ (v : V) (fd : L), vs = [v] ∧ Rep H v (.tup [mkD fd]) ∧ fd ∈ fdL ∧ z = .bl true
abbrev s_body_right : Stmt := topS 41
theorem sc_body_right : FnScope ["body", "change"] ["body"] (defScope s_body_right) := ⟨rfl, rfl, rfl, by decide +kernel, rfl, by decide +kernel, by decide +kernel⟩
theorem fn_body_right {f : Addr} {fd : FuncData} {k : Nat} (F : Fun K "body_right" "body_right" s_body_right f fd) (N : Nb mg) (g_MOST_CHANGES : GI mg "MOST_CHANGES" 60) (C_change_right : Cal P w K mg base k "change_right" ["change"] (spV ok_change)) : FnOk P w K mg base CX0 (k + 1) f fd ["body"] (spV ok_body) := by
  refine F.ok sc_body_right (fun vs H Q E h => ?_) (fun cdv A outer s H vs Q E hr h => ?_)
  · obtain ⟨_, ⟨_, _, rfl, _⟩, _⟩ := h
    rfl
  · obtain ⟨_, ⟨v, fd, rfl, hR, hfd, hz⟩, q⟩ := h
    rw [hz] at q
    refine ⟨_, (pss_one (ps_ret (pe_and (pe_chain op_le op_le pe_int (pe_callB call_len_seq (by rfl) N.len PySem.boot_len (pa_cons (pv 0) pa_nil)) (pe_gi g_MOST_CHANGES)) (pe_one (pe_callB (cr_all rfl) (by rfl) N.all PyProof.Rows.boot_all (pa_cons (pe_lc (own := [("change", 1)]) (by rfl) sc_body_right.nd (pi_tup (pv 0)) (blkOk_by (own := [("change", 1)]) (N := ["body", "change"]) (sc := defScope s_body_right) (by decide +kernel)) (fun _ _ _ _ _ => (pg_name (i := 1) sc_body_right.nd rfl (Or.inl rfl))) (fun _ _ _ _ _ => pts_nil) (fun _ _ _ _ _ => (pe_cal C_change_right hr (pa_cons (pv 1) pa_nil)))) pa_nil)))))), ?_⟩
    obtain ⟨a, b, rfl, ha, hb, hrb⟩ := bd_at hR
    refine s_ret (ev_is (ev_andV (a := true) (b := true) (ev_chain (k := true) (m := true) (ev_cn 1) (ev_is (ev_lenT (ev_v rfl) (st_of ha)) (show _ = V.int ((1 : Nat) : Int) from rfl)) (rv_is rv_I0 rfl) (fun _ => ev_c) fun _ => rv_is rv_I0 rfl) fun _ => ev_is (ev_all (bs := [true]) (el_is (el_lcT (fun _ => true) (fun _ => .bl true) (ev_v rfl) (st_of ha) (by show 1 ≤ 40000; decide) (fun _ => rfl) (fun x H1 e1 hx => et_yes) fun x H1 e1 hx _ => ?_) rfl)) rfl) rfl) fun H1 e1 => q H1 e1
    rw [List.mem_singleton.mp hx]
    exact ev_cal (ea_cons (ev_v rfl) ea_nil) fun H2 e2 => ⟨_, fd, rfl, hrb.mono (e1.trans e2), hfd, rfl⟩
abbrev s_lists_of : Stmt := topS 45
theorem sc_lists_of : FnScope ["change"] ["change"] (defScope s_lists_of) := ⟨rfl, rfl, rfl, by decide +kernel, rfl, by decide +kernel, by decide +kernel⟩
def ok_none (vs : List V) (H : Hp) (z : List V) : Prop := ∃ (v : V) (fd : L), vs = [v] ∧ Rep H v (mkD fd) ∧ z = []
theorem fn_lists_of {f : Addr} {fd : FuncData} {k : Nat} (F : Fun K "lists_of" "lists_of" s_lists_of f fd) (N : Nb mg) : FnOk P w K mg base CX0 (k + 1) f fd ["change"] (spL ok_none) := by
  refine F.ok sc_lists_of (fun vs H Q E h => ?_) (fun cdv A outer s H vs Q E hr h => ?_)
  · obtain ⟨_, ⟨_, _, rfl, _⟩, _⟩ := h
    rfl
  · obtain ⟨_, ⟨v, fd, rfl, hR, hz⟩, q⟩ := h
    rw [hz] at q
    refine ⟨_, (pss_cons (ps_if (pt_cmpR op_eq (pe_ix ix_tup (pv 0) pe_int (fun _ _ => rfl)) pe_str (nomark _)) (pss_one (ps_ret (pe_lst (pa_cons (pe_ix ix_tup (pv 0) pe_int (fun _ _ => rfl)) pa_nil)))) pss_nil)
      (pss_cons (ps_if (pt_cmpR op_eq (pe_ix ix_tup (pv 0) pe_int (fun _ _ => rfl)) pe_str (nomark _)) (pss_one (ps_ret (pe_lst (pa_cons (pe_ix ix_tup (pv 0) pe_int (fun _ _ => rfl)) pa_nil)))) pss_nil)
      (pss_one (ps_ret (pe_ifExp (pt_cmpR op_eq (pe_ix ix_tup (pv 0) pe_int (fun _ _ => rfl)) pe_str (nomark _)) (pe_lst (pa_cons (pe_ix ix_tup (pv 0) pe_int (fun _ _ => rfl)) (pa_cons (pe_ix ix_tup (pv 0) pe_int (fun _ _ => rfl)) pa_nil))) (pe_lst pa_nil)))))), ?_⟩
    obtain ⟨a, rfl, ha⟩ := mk_at hR
    have wd : ∀ {H2 : Hp} {s : Str} {l : L}, Ex H H2 → s = tx l → wMak ≠ l → EvT (tTest (tOp rEq (tOp (rIxT K) (tVar 0) (tC (.int 0))) (tC (.str s)))) [some (.ref a)] H2 false := fun {H2 s l} e2 hs hn => by
      rw [hs]
      exact et_is (et_test (ev_eqS (ev_ixT (j := 0) (ev_v rfl) (ev_cn 0) (st_of (e2 _ _ ha)) rfl) ev_c)) (decide_eq_false hn)
    refine q_when (wd (l := [112, 108, 97, 99, 101]) (Ex.refl _) (by decide +kernel) (by decide)) (fun z => nomatch z) fun _ H1 e1 => ?_
    refine q_when (wd (l := [103, 111, 110, 101]) e1 (by decide +kernel) (by decide)) (fun z => nomatch z) fun _ H2 e2 => ?_
    exact s_retL (el_if (b := false) (wd (l := [108, 105, 110, 101]) (e1.trans e2) (by decide +kernel) (by decide)) (fun z => nomatch z) fun _ => el_lst ea_nil (by decide)) fun p H3 hp e3 h3 => q p H3 (fresh_back (e1.trans e2) hp) ((e1.trans e2).trans e3) h3
abbrev s_ids_of : Stmt := topS 47
theorem sc_ids_of : FnScope ["change", "ids", "one"] ["change"] (defScope s_ids_of) := ⟨rfl, rfl, rfl, by decide +kernel, rfl, by decide +kernel, by decide +kernel⟩
theorem fn_ids_of {f : Addr} {fd : FuncData} {k : Nat} (F : Fun K "ids_of" "ids_of" s_ids_of f fd) (N : Nb mg) : FnOk P w K mg base CX0 (k + 1) f fd ["change"] (spL ok_none) := by
  refine F.ok sc_ids_of (fun vs H Q E h => ?_) (fun cdv A outer s H vs Q E hr h => ?_)
  · obtain ⟨_, ⟨_, _, rfl, _⟩, _⟩ := h
    rfl
  · obtain ⟨_, ⟨v, fd, rfl, hR, hz⟩, q⟩ := h
    rw [hz] at q
    refine ⟨_, (pss_cons (ps_if (pt_cmpR op_eq (pe_ix ix_tup (pv 0) pe_int (fun _ _ => rfl)) pe_str (nomark _)) (pss_one (ps_ret (pe_lst pa_nil))) pss_nil)
      pss_never), ?_⟩
    obtain ⟨a, rfl, ha⟩ := mk_at hR
    exact q_when (b := true) (et_is (et_test (ev_eqS (b := wMak) (ev_ixT (j := 0) (ev_v rfl) (ev_cn 0) (st_of ha) rfl) (ev_cs _ (by decide +kernel)))) (decide_eq_true rfl)) (fun _ H1 e1 => s_retL (el_lst ea_nil (by decide)) fun p H3 hp e3 h3 => q p H3 (fresh_back e1 hp) (e1.trans e3) h3) (fun z => nomatch z)
abbrev s_wanted : Stmt := topS 48
theorem sc_wanted : FnScope ["change", "kind", "told", "lists", "ids", "one"] ["change"] (defScope s_wanted) := ⟨rfl, rfl, rfl, by decide +kernel, rfl, by decide +kernel, by decide +kernel⟩
theorem fn_wanted {f : Addr} {fd : FuncData} {k : Nat} (F : Fun K "wanted" "wanted" s_wanted f fd) (N : Nb mg) : FnOk P w K mg base CX0 (k + 1) f fd ["change"] (spL ok_none) := by
  refine F.ok sc_wanted (fun vs H Q E h => ?_) (fun cdv A outer s H vs Q E hr h => ?_)
  · obtain ⟨_, ⟨_, _, rfl, _⟩, _⟩ := h
    rfl
  · obtain ⟨_, ⟨v, fd, rfl, hR, hz⟩, q⟩ := h
    rw [hz] at q
    refine ⟨_, (pss_cons (ps_set (i := 1) sc_wanted.nd rfl (Or.inr rfl) (pe_ix ix_tup (pv 0) pe_int (fun _ _ => rfl)))
      (pss_cons (ps_if (pt_cmpR op_eq (pv 1) pe_str (nomark _)) (pss_one (ps_ret (pe_lst pa_nil))) pss_nil)
      pss_never)), ?_⟩
    obtain ⟨a, rfl, ha⟩ := mk_at hR
    refine q_asg (v := .str (tx wMak)) (ev_ixT (j := 0) (ev_v rfl) (ev_cn 0) (st_of ha) rfl) fun H0 e0 => ?_
    exact q_when (b := true) (et_is (et_test (ev_eqS (b := wMak) (ev_v rfl) (ev_cs _ (by decide +kernel)))) (decide_eq_true rfl)) (fun _ H1 e1 => s_retL (el_lst ea_nil (by decide)) fun p H3 hp e3 h3 => q p H3 (fresh_back (e0.trans e1) hp) ((e0.trans e1).trans e3) h3) (fun z => nomatch z)
abbrev s_lists_rise : Stmt := topS 46
theorem sc_lists_rise : FnScope ["change", "ids"] ["change"] (defScope s_lists_rise) := ⟨rfl, rfl, rfl, by decide +kernel, rfl, by decide +kernel, by decide +kernel⟩
def ok_mk1 (vs : List V) (H : Hp) (z : V) : Prop := ∃ (v : V) (fd : L), vs = [v] ∧ Rep H v (mkD fd) ∧ z = .bl true
theorem fn_lists_rise {f : Addr} {fd : FuncData} {k : Nat} (F : Fun K "lists_rise" "lists_rise" s_lists_rise f fd) (N : Nb mg) (C_lists_of : Cal P w K mg base k "lists_of" ["change"] (spL ok_none)) : FnOk P w K mg base CX0 (k + 1) f fd ["change"] (spV ok_mk1) := by
  refine F.ok sc_lists_rise (fun vs H Q E h => ?_) (fun cdv A outer s H vs Q E hr h => ?_)
  · obtain ⟨_, ⟨_, _, rfl, _⟩, _⟩ := h
    rfl
  · obtain ⟨_, ⟨v, fd, rfl, hR, hz⟩, q⟩ := h
    rw [hz] at q
    refine ⟨_, (pss_cons (ps_if (PW.pt (pw_and (pt_cmpR op_eq (pe_ix ix_tup (pv 0) pe_int (fun _ _ => rfl)) pe_str (nomark _)) (pw_and1 (pt_cmpR op_eq (pe_ix ix_tup (pv 0) pe_int (fun _ _ => rfl)) (pe_ix ix_tup (pv 0) pe_int (fun _ _ => rfl)) (nomark _))))) (pss_one (ps_ret pe_bl)) pss_nil)
      (pss_one (ps_ret (pe_callB (cr_all rfl) (by rfl) N.all PyProof.Rows.boot_all (pa_cons (pe_lc (own := [("ids", 1)]) (by rfl) sc_lists_rise.nd (pi_list (pe_cal C_lists_of hr (pa_cons (pv 0) pa_nil))) (blkOk_by (own := [("ids", 1)]) (N := ["change", "ids"]) (sc := defScope s_lists_rise) (by decide +kernel)) (fun _ _ _ _ _ => (pg_name (i := 1) sc_lists_rise.nd rfl (Or.inl rfl))) (fun _ _ _ _ _ => pts_nil) (fun _ _ _ _ _ => pe_never)) pa_nil))))), ?_⟩
    obtain ⟨a, rfl, ha⟩ := mk_at hR
    refine q_when (b := false) (et_and (a := false) (b := false) (et_is (et_test (ev_eqS (b := [111, 114, 100, 101, 114]) (ev_ixT (j := 0) (ev_v rfl) (ev_cn 0) (st_of ha) rfl) (ev_cs _ (by decide +kernel)))) (by decide)) (fun z => nomatch z)) (fun z => nomatch z) fun _ H1 e1 => ?_
    exact s_ret (ev_is (ev_all (bs := []) (el_lcF (xs := []) (fun _ => true) (fun _ => .non) (el_cal (ea_cons (ev_v rfl) ea_nil) fun H2 e2 => ⟨_, fd, rfl, hR.mono (e1.trans e2), rfl⟩) (by decide) (fun _ => rfl) (fun x H1 e1 hx => nomatch hx) fun x H1 e1 hx _ => nomatch hx)) rfl) fun H2 e2 => q H2 (e1.trans e2)
abbrev s_body_order : Stmt := topS 44
theorem sc_body_order : FnScope ["body", "change"] ["body"] (defScope s_body_order) := ⟨rfl, rfl, rfl, by decide +kernel, rfl, by decide +kernel, by decide +kernel⟩
def ok_bd1 (vs : List V) (H : Hp) (z : V) : Prop := ∃ (v : V) (fd : L), vs = [v] ∧ Rep H v (.tup [mkD fd]) ∧ z = .bl true
theorem fn_body_order {f : Addr} {fd : FuncData} {k : Nat} (F : Fun K "body_order" "body_order" s_body_order f fd) (N : Nb mg) (C_lists_rise : Cal P w K mg base k "lists_rise" ["change"] (spV ok_mk1)) : FnOk P w K mg base CX0 (k + 1) f fd ["body"] (spV ok_bd1) := by
  refine F.ok sc_body_order (fun vs H Q E h => ?_) (fun cdv A outer s H vs Q E hr h => ?_)
  · obtain ⟨_, ⟨_, _, rfl, _⟩, _⟩ := h
    rfl
  · obtain ⟨_, ⟨v, fd, rfl, hR, hz⟩, q⟩ := h
    rw [hz] at q
    refine ⟨_, (pss_one (ps_ret (pe_callB (cr_all rfl) (by rfl) N.all PyProof.Rows.boot_all (pa_cons (pe_lc (own := [("change", 1)]) (by rfl) sc_body_order.nd (pi_tup (pv 0)) (blkOk_by (own := [("change", 1)]) (N := ["body", "change"]) (sc := defScope s_body_order) (by decide +kernel)) (fun _ _ _ _ _ => (pg_name (i := 1) sc_body_order.nd rfl (Or.inl rfl))) (fun _ _ _ _ _ => pts_nil) (fun _ _ _ _ _ => (pe_cal C_lists_rise hr (pa_cons (pv 1) pa_nil)))) pa_nil)))), ?_⟩
    obtain ⟨a, b, rfl, ha, hb, hrb⟩ := bd_at hR
    refine s_ret (ev_is (ev_all (bs := [true]) (el_is (el_lcT (fun _ => true) (fun _ => .bl true) (ev_v rfl) (st_of ha) (by show 1 ≤ 40000; decide) (fun _ => rfl) (fun x H1 e1 hx => et_yes) fun x H1 e1 hx _ => ?_) rfl)) rfl) fun H1 e1 => q H1 e1
    rw [List.mem_singleton.mp hx]
    exact ev_cal (ea_cons (ev_v rfl) ea_nil) fun H2 e2 => ⟨_, fd, rfl, hrb.mono (e1.trans e2), rfl⟩
abbrev s_own_objects : Stmt := topS 50
theorem sc_own_objects : FnScope ["body", "change", "kind", "ids", "one"] ["body", "change"] (defScope s_own_objects) := ⟨rfl, rfl, rfl, by decide +kernel, rfl, by decide +kernel, by decide +kernel⟩
/- 0 body*, 1 change*, 2 kind, 3 ids, 4 one -/
def ok_own1 (vs : List V) (H : Hp) (z : V) : Prop := ∃ (b v : V) (fd : L), vs = [b, v] ∧ Rep H v (mkD fd) ∧ z = .bl true
theorem fn_own_objects {f : Addr} {fd : FuncData} {k : Nat} (F : Fun K "own_objects" "own_objects" s_own_objects f fd) (N : Nb mg) : FnOk P w K mg base CX0 (k + 1) f fd ["body", "change"] (spV ok_own1) := by
  refine F.ok sc_own_objects (fun vs H Q E h => ?_) (fun cdv A outer s H vs Q E hr h => ?_)
  · obtain ⟨_, ⟨_, _, _, rfl, _⟩, _⟩ := h
    rfl
  · obtain ⟨_, ⟨b, v, fd, rfl, hR, hz⟩, q⟩ := h
    rw [hz] at q
    refine ⟨_, (pss_cons (ps_set (i := 2) sc_own_objects.nd rfl (Or.inl rfl) (pe_ix ix_tup (pv 1) pe_int (fun _ _ => rfl)))
      (pss_cons (ps_if (pt_cmpR op_in_seq (pv 2) (pe_tup (pa_cons pe_str (pa_cons pe_str (pa_cons pe_str pa_nil)))) rfl) pss_never pss_nil)
      (pss_cons (ps_if (PW.pt (pw_and (pt_cmpR op_eq (pv 2) pe_str (nomark _)) (pw_and1 (pt_val pe_never)))) pss_never pss_nil)
      (pss_one (ps_ret pe_bl))))), ?_⟩
    obtain ⟨a, rfl, ha⟩ := mk_at hR
    refine q_asg (v := .str (tx wMak)) (ev_ixT (j := 0) (ev_v rfl) (ev_cn 0) (st_of ha) rfl) fun H0 e0 => ?_
    refine q_when (b := false) (et_is (et_test (ev_inU (ev_v rfl) (eu_tup (ea_cons (ev_cs [112, 108, 97, 99, 101] (by decide +kernel)) (ea_cons (ev_cs [103, 111, 110, 101] (by decide +kernel)) (ea_cons (ev_cs [108, 105, 110, 101] (by decide +kernel)) ea_nil))) (by show 3 ≤ 100000; decide)) rfl rfl)) (by decide +kernel)) (fun z => nomatch z) fun _ H1 e1 => ?_
    refine q_when (b := false) (et_and (a := false) (b := false) (et_is (et_test (ev_eqS (b := [111, 114, 100, 101, 114]) (ev_v rfl) (ev_cs _ (by decide +kernel)))) (by decide)) (fun z => nomatch z)) (fun z => nomatch z) fun _ H2 e2 => ?_
    exact s_ret ev_c fun H3 e3 => q H3 (((e0.trans e1).trans e2).trans e3)
abbrev s_own_right : Stmt := topS 49
theorem sc_own_right : FnScope ["body", "index", "change", "one", "kinds"] ["body"] (defScope s_own_right) := ⟨rfl, rfl, rfl, by decide +kernel, rfl, by decide +kernel, by decide +kernel⟩
/- 0 body, 1 index, 2 change, 3 one, 4 kinds -/
theorem fn_own_right {f : Addr} {fd : FuncData} {k : Nat} (F : Fun K "own_right" "own_right" s_own_right f fd) (N : Nb mg) (C_wanted : Cal P w K mg base k "wanted" ["change"] (spL ok_none)) (C_own_objects : Cal P w K mg base k "own_objects" ["body", "change"] (spV ok_own1)) : FnOk P w K mg base CX0 (k + 1) f fd ["body"] (spV ok_bd1) := by
  refine F.ok sc_own_right (fun vs H Q E h => ?_) (fun cdv A outer s H vs Q E hr h => ?_)
  · obtain ⟨_, ⟨_, _, rfl, _⟩, _⟩ := h
    rfl
  · obtain ⟨_, ⟨v, fd, rfl, hR, hz⟩, q⟩ := h
    rw [hz] at q
    refine ⟨_, (pss_cons (ps_for PassesOwn.never rfl (pi_enumT rfl N.enumerate (pa_cons (pv 0) pa_nil)) (pg_tup rfl (pgs_cons (pg_name (i := 1) sc_own_right.nd rfl (Or.inl rfl)) (pgs_cons (pg_name (i := 2) sc_own_right.nd rfl (Or.inl rfl)) pgs_nil))) (pss_cons (ps_for PassesOwn.never rfl (pi_list (pe_cal C_wanted hr (pa_cons (pv 2) pa_nil))) (pg_tup rfl (pgs_cons (pg_name (i := 3) sc_own_right.nd rfl (Or.inl rfl)) (pgs_cons (pg_name (i := 4) sc_own_right.nd rfl (Or.inl rfl)) pgs_nil))) (pss_one ps_never))
      (pss_one (ps_if (pt_not (pt_val (pe_cal C_own_objects hr (pa_cons (pv 0) (pa_cons (pv 2) pa_nil))))) (pss_one (ps_ret pe_bl)) pss_nil))))
      (pss_one (ps_ret pe_bl))), ?_⟩
    obtain ⟨a, b, rfl, ha, hb, hrb⟩ := bd_at hR
    refine q_forET (xs := [.ref b]) (ev_v rfl) (st_of ha) (fun i σ' H' => Ex H H' ∧ ∃ y1 y2 y3 y4, σ' = [some (.ref a), y1, y2, y3, y4]) (fun H1 e1 => ⟨e1, none, none, none, none, rfl⟩) (fun i σ' H' _ h => st_of (h.1 _ _ ha)) ?_ ?_
    · rintro i x σ' H' H2 hx ⟨e, y1, y2, y3, y4, rfl⟩ e2
      have hxb : x = .ref b := by
        have := List.mem_of_getElem? hx
        exact List.mem_singleton.mp this
      subst hxb
      have E2 := e.trans e2
      refine q_forNL (xs := []) (el_cal (ea_cons (ev_v rfl) ea_nil) fun H3 e3 => ⟨_, fd, rfl, hrb.mono (E2.trans e3), rfl⟩) (fun p i σ' H' => Ex H2 H' ∧ SqL K H' p [] ∧ σ' = [some (.ref a), some (.int _), some (.ref b), y3, y4]) (fun p H3 hp e3 h3 => ⟨e3, sq_of h3, rfl⟩) (fun p i σ' H' _ h => h.2.1) (fun p i x σ' H' hx => nomatch hx) fun p σ' H' ⟨e3, _, hσ⟩ => ?_
      subst hσ
      have E3 := E2.trans e3
      exact s_when (b := false) (et_not (a := true) (et_B (ev_cal (ea_cons (ev_v rfl) (ea_cons (ev_v rfl) ea_nil)) fun H4 e4 => ⟨_, _, fd, rfl, hrb.mono (E3.trans e4), rfl⟩))) (fun z => nomatch z) fun _ H4 e4 => ⟨E3.trans e4, _, _, _, _, rfl⟩
    · rintro σ' H' ⟨e, y1, y2, y3, y4, rfl⟩
      exact s_ret ev_c fun H3 e3 => q H3 (e.trans e3)
end
end K82

set_option Elab.async false
set_option linter.all false
set_option maxRecDepth 100000
set_option maxHeartbeats 4000000
namespace K82
open PySem PySem.Spec PyProof.Rows L2 Evl My
theorem hex_dig : ∀ c ∈ hexd, c ∈ digL ++ [97, 98, 99, 100, 101, 102] := by decide
theorem name_ok {l : L} (h : nmP l) : nameP l = true := by
  unfold nameP madeP
  rw [Bool.and_eq_true, Bool.and_eq_true, Bool.and_eq_true, List.all_eq_true]
  refine ⟨⟨⟨decide_eq_true (by rw [h.1]; decide), decide_eq_true (by rw [h.1]; decide)⟩, fun c hc => decide_eq_true (hex_dig c (h.2 c hc))⟩, decide_eq_true h.1⟩
theorem tx_dec {a b : L} : decide (a = b) = decide (a = b) := rfl
section
variable {K : PySem.W.Frag}
theorem eu_dropT {σ : L2.St} {H : Hp} {ta tb : TE} {a : Addr} {x : L} {ws : List L} (ha : Ev ta σ H (.ref a)) (hb : Ev tb σ H (.int ((1 : Nat) : Int))) (hS : SqT K H a (txs (x :: ws))) : EvU (tSl (rSlT K) ta (tPart tb) tNoPart) σ H (txs ws) := fun H1 e Q q =>
  ha H1 e _ fun H2 e2 => (eo_some hb) H2 (e.trans e2) _ fun H3 e3 => (eo_none (σ := σ) (H := H3)) H3 (Ex.refl H3) _ fun H4 e4 => ⟨a, _, rfl, ex_t (((e.trans e2).trans e3).trans e4) hS, fun z => by
    have h1 := z.1
    rw [HT.sIx_nat, txs_len, List.length_cons] at h1
    omega, fun p hp => q p _ (fresh_back ((e2.trans e3).trans e4) hp) (((e2.trans e3).trans e4).trans (Ex.new hp)) (by
    rw [upd_same, cutV_drop]
    rfl)⟩
end
theorem rise_two {xs : List L} (hd : xs.Nodup) (hs : xs.Pairwise (fun a b => leF a b = true)) : ((List.range (xs.length - 1)).map fun i => decide (xs.getD i [] < xs.getD (i + 1) [])).all id = true := by
  rw [List.all_map, List.all_eq_true]
  intro i hi
  have hi : i < xs.length - 1 := List.mem_range.mp hi
  refine decide_eq_true ?_
  have h1 : i < xs.length := by omega
  have h2 : i + 1 < xs.length := by omega
  rw [List.getD_eq_getElem?_getD, List.getD_eq_getElem?_getD, List.getElem?_eq_getElem h1, List.getElem?_eq_getElem h2]
  show xs[i] < xs[i + 1]
  have hle := (List.pairwise_iff_getElem.mp hs) i (i + 1) h1 h2 (by omega)
  have hne : xs[i] ≠ xs[i + 1] := (List.pairwise_iff_getElem.mp hd) i (i + 1) h1 h2 (by omega)
  unfold leF at hle
  rw [decide_eq_true_eq] at hle
  rcases List.le_iff_lt_or_eq.mp (show xs[i] ≤ xs[i + 1] from hle) with h | h
  · exact h
  · exact absurd h hne
section
variable {P : Program} {w : World} {K : PySem.W.Frag} {mg : Str → Option Value} {base : Heap}
abbrev s_is_number : Stmt := topS 59
theorem sc_is_number : FnScope ["value", "low", "high"] ["value", "low", "high"] (defScope s_is_number) := ⟨rfl, rfl, rfl, by decide +kernel, rfl, by decide +kernel, by decide +kernel⟩
def ok_num (vs : List V) (H : Hp) (z : V) : Prop := ∃ n lo hi : Int, vs = [.int n, .int lo, .int hi] ∧ lo ≤ n ∧ n ≤ hi ∧ z = .bl true
theorem fn_is_number {f : Addr} {fd : FuncData} {k : Nat} (F : Fun K "is_number" "is_number" s_is_number f fd) (N : Nb mg) : FnOk P w K mg base CX0 (k + 1) f fd ["value", "low", "high"] (spV ok_num) := by
  refine F.ok sc_is_number (fun vs H Q E h => ?_) (fun cdv A outer s H vs Q E hr h => ?_)
  · obtain ⟨_, ⟨_, _, _, rfl, _⟩, _⟩ := h
    rfl
  · obtain ⟨_, ⟨n, lo, hi, rfl, h1, h2, hz⟩, q⟩ := h
    rw [hz] at q
    refine ⟨_, (pss_one (ps_ret (pe_and (pe_callB call_isi (by rfl) N.isinstance PyProof.Rows.boot_isinstance (pa_cons (pv 0) (pa_cons (pe_bltn (v := .ty "int") (by rfl) N.int PyProof.Rows.boot_int rfl) pa_nil))) (pe_and (pe_not (pe_callB call_isi (by rfl) N.isinstance PyProof.Rows.boot_isinstance (pa_cons (pv 0) (pa_cons (pe_bltn (v := .ty "bool") (by rfl) N.bool PyProof.Rows.boot_bool rfl) pa_nil)))) (pe_one (pe_chain op_le op_le (pv 1) (pv 0) (pv 2))))))), ?_⟩
    exact s_ret (ev_is (ev_andV (a := true) (b := true) (ev_isi (ev_v rfl) (.int n) rfl) fun _ => ev_is (ev_andV (a := true) (b := true) (ev_notV (a := false) (ev_isi (ev_v rfl) (.int n) rfl)) fun _ => ev_is (ev_chain (k := true) (m := true) (ev_v rfl) (ev_v rfl) (rv_is rv_I0 (congrArg V.bl (decide_eq_true h1))) (fun _ => ev_v rfl) fun _ => rv_is rv_I0 (congrArg V.bl (decide_eq_true h2))) rfl) rfl) rfl) fun H1 e1 => q H1 e1
abbrev s_names_right : Stmt := topS 60
theorem sc_names_right : FnScope ["value", "low", "high", "one"] ["value", "low", "high"] (defScope s_names_right) := ⟨rfl, rfl, rfl, by decide +kernel, rfl, by decide +kernel, by decide +kernel⟩
def ok_names (vs : List V) (H : Hp) (z : V) : Prop := ∃ (v : V) (xs : List L) (lo hi : Nat), vs = [v, .int (lo : Int), .int (hi : Int)] ∧ Rep H v (.tup (xs.map .str)) ∧ (∀ x ∈ xs, nmP x) ∧ lo ≤ xs.length ∧ xs.length ≤ hi ∧ hi ≤ 100 ∧ z = .bl true
theorem fn_names_right {f : Addr} {fd : FuncData} {k : Nat} (F : Fun K "names_right" "names_right" s_names_right f fd) (N : Nb mg) (C_is_name : Cal P w K mg base k "is_name" ["value"] (spV (ok_is nameP))) : FnOk P w K mg base CX0 (k + 1) f fd ["value", "low", "high"] (spV ok_names) := by
  refine F.ok sc_names_right (fun vs H Q E h => ?_) (fun cdv A outer s H vs Q E hr h => ?_)
  · obtain ⟨_, ⟨_, _, _, _, rfl, _⟩, _⟩ := h
    rfl
  · obtain ⟨_, ⟨v, xs, lo, hi, rfl, hR, hn, h1, h2, h3, hz⟩, q⟩ := h
    rw [hz] at q
    refine ⟨_, (pss_one (ps_ret (pe_and (pe_callB call_isi (by rfl) N.isinstance PyProof.Rows.boot_isinstance (pa_cons (pv 0) (pa_cons (pe_bltn (v := .ty "tuple") (by rfl) N.tuple PyProof.Rows.boot_tuple rfl) pa_nil))) (pe_and (pe_chain op_le op_le (pv 1) (pe_callB call_len_seq (by rfl) N.len PySem.boot_len (pa_cons (pv 0) pa_nil)) (pv 2)) (pe_one (pe_callB (cr_all rfl) (by rfl) N.all PyProof.Rows.boot_all (pa_cons (pe_lc (own := [("one", 3)]) (by rfl) sc_names_right.nd (pi_tup (pv 0)) (blkOk_by (own := [("one", 3)]) (N := ["value", "low", "high", "one"]) (sc := defScope s_names_right) (by decide +kernel)) (fun _ _ _ _ _ => (pg_name (i := 3) sc_names_right.nd rfl (Or.inl rfl))) (fun _ _ _ _ _ => pts_nil) (fun _ _ _ _ _ => (pe_cal C_is_name hr (pa_cons (pv 3) pa_nil)))) pa_nil))))))), ?_⟩
    obtain ⟨a, rfl, ha⟩ := rep_strs hR
    refine s_ret (ev_is (ev_andV (a := true) (b := true) (ev_isi (ev_v rfl) hR rfl) fun _ => ev_is (ev_andV (a := true) (b := true) (ev_is (ev_chain (k := true) (m := true) (ev_v rfl) (ev_is (ev_lenT (ev_v rfl) (st_of ha)) (by rw [txs_len])) (rv_is rv_I0 (congrArg V.bl (decide_eq_true (by omega)))) (fun _ => ev_v rfl) fun _ => rv_is rv_I0 (congrArg V.bl (decide_eq_true (by omega)))) rfl) fun _ => ev_is (ev_all (bs := xs.map fun _ => true) (el_is (el_lcT (fun _ => true) (fun _ => .bl true) (ev_v rfl) (st_of ha) (by rw [txs_len]; omega) (fun _ => rfl) (fun x H1 e1 hx => et_yes) fun x H1 e1 hx _ => ?_) ?_)) ?_) rfl) rfl) fun H1 e1 => q H1 e1
    · obtain ⟨k, hk, rfl⟩ := txs_mem hx
      exact ev_is (ev_cal (z := .bl (nameP k)) (ea_cons (ev_v rfl) ea_nil) fun H2 e2 => ⟨_, .str k, rfl, .str k, .inl ⟨k, rfl, by rw [(hn k hk).1]; decide, rfl⟩⟩) (by rw [name_ok (hn k hk)])
    · rw [filt_true]
      unfold txs
      rw [List.map_map, List.map_map]
      rfl
    · rw [List.all_map]
      exact congrArg V.bl (List.all_eq_true.mpr fun _ _ => rfl)
abbrev s_shape_right : Stmt := topS 62
theorem sc_shape_right : FnScope ["kind", "body", "one"] ["kind", "body"] (defScope s_shape_right) := ⟨rfl, rfl, rfl, by decide +kernel, rfl, by decide +kernel, by decide +kernel⟩
def ok_shape (vs : List V) (H : Hp) (z : V) : Prop := (∃ (v : V) (g : G4), vs = [.str (tx (kdG g)), v] ∧ Rep H v (bodyG g) ∧ OkG g ∧ z = .bl true) ∨ (∃ v : V, vs = [.str (tx wVot), v] ∧ Rep H v (.tup []) ∧ z = .bl false)
theorem fn_shape_right {f : Addr} {fd : FuncData} {k : Nat} (F : Fun K "shape_right" "shape_right" s_shape_right f fd) (N : Nb mg) (g_MOST_TAKES : GI mg "MOST_TAKES" 60) (C_body_right : Cal P w K mg base k "body_right" ["body"] (spV ok_body)) (C_is_word : Cal P w K mg base k "is_word" ["value"] (spV (ok_is wordP))) (C_is_name : Cal P w K mg base k "is_name" ["value"] (spV (ok_is nameP))) (C_names_right : Cal P w K mg base k "names_right" ["value", "low", "high"] (spV ok_names)) : FnOk P w K mg base CX0 (k + 1) f fd ["kind", "body"] (spV ok_shape) := by
  refine F.ok sc_shape_right (fun vs H Q E h => ?_) (fun cdv A outer s H vs Q E hr h => ?_)
  · obtain ⟨_, h | h, _⟩ := h
    · obtain ⟨_, _, rfl, _⟩ := h; rfl
    · obtain ⟨_, rfl, _⟩ := h; rfl
  · obtain ⟨z, hz, q⟩ := h
    have kd : ∀ {H1 : Hp} {v : V} {s : Str} {kw l : L}, s = tx l → EvT (tTest (tOp rEq (tVar 0) (tC (.str s)))) [some (.str (tx kw)), some v] H1 (decide (kw = l)) := fun {H1 v s kw l} hs => by
      rw [hs]
      exact et_test (ev_eqS (ev_v rfl) ev_c)
    have isN : ∀ {H1 : Hp} {σ : L2.St} {te : TE} {x : L}, nmP x → Ev te σ H1 (.str (tx x)) → Ev (tCall (spV (ok_is nameP)) [] E0 (tCons te tNil)) σ H1 (.bl true) := fun {H1 σ te x} hx he => ev_is (ev_cal (z := .bl (nameP x)) (ea_cons he ea_nil) fun H2 e2 => ⟨_, .str x, rfl, .str x, .inl ⟨x, rfl, by rw [hx.1]; decide, rfl⟩⟩) (by rw [name_ok hx])
    have isW : ∀ {H1 : Hp} {σ : L2.St} {te : TE} , Ev te σ H1 (.str (tx wMai)) → Ev (tCall (spV (ok_is wordP)) [] E0 (tCons te tNil)) σ H1 (.bl true) := fun {H1 σ te} he => ev_is (ev_cal (z := .bl (wordP wMai)) (ea_cons he ea_nil) fun H2 e2 => ⟨_, .str wMai, rfl, .str wMai, .inl ⟨wMai, rfl, by decide, rfl⟩⟩) (by rw [show wordP wMai = true by decide +kernel])
    rcases hz with ⟨v, g, rfl, hR, hg, rfl⟩ | ⟨v, rfl, hR, rfl⟩
    · refine ⟨_, (pss_cons (ps_if (pt_cmpR op_eq (pv 0) pe_str (nomark _)) (pss_one (ps_ret (pe_cal C_body_right hr (pa_cons (pv 1) pa_nil)))) pss_nil)
      (pss_cons (ps_if (pt_cmpR op_eq (pv 0) pe_str (nomark _)) pss_never pss_nil)
      (pss_cons (ps_if (pt_cmpR op_eq (pv 0) pe_str (nomark _)) (pss_one (ps_ret (pe_and (pe_cmpR op_eq (pe_callB call_len_seq (by rfl) N.len PySem.boot_len (pa_cons (pv 1) pa_nil)) pe_int (nomark _)) (pe_and (pe_cal C_is_word hr (pa_cons (pe_ix ix_tup (pv 1) pe_int (fun _ _ => rfl)) pa_nil)) (pe_one (pe_cal C_names_right hr (pa_cons (pe_ix ix_tup (pv 1) pe_int (fun _ _ => rfl)) (pa_cons pe_int (pa_cons (pe_gi g_MOST_TAKES) pa_nil))))))))) pss_nil)
      (pss_cons (ps_if (pt_cmpR op_eq (pv 0) pe_str (nomark _)) (pss_one (ps_ret (pe_and (pe_cmpR op_eq (pe_callB call_len_seq (by rfl) N.len PySem.boot_len (pa_cons (pv 1) pa_nil)) pe_int (nomark _)) (pe_and (pe_cal C_is_word hr (pa_cons (pe_ix ix_tup (pv 1) pe_int (fun _ _ => rfl)) pa_nil)) (pe_one (pe_cal C_is_name hr (pa_cons (pe_ix ix_tup (pv 1) pe_int (fun _ _ => rfl)) pa_nil))))))) pss_nil)
      (pss_one (ps_ret (pe_and (pe_cmpR op_eq (pe_callB call_len_seq (by rfl) N.len PySem.boot_len (pa_cons (pv 1) pa_nil)) pe_int (nomark _)) (pe_and (pe_cal C_is_name hr (pa_cons (pe_ix ix_tup (pv 1) pe_int (fun _ _ => rfl)) pa_nil)) (pe_and (pe_cmpR op_in_seq (pe_ix ix_tup (pv 1) pe_int (fun _ _ => rfl)) (pe_tup (pa_cons pe_str (pa_cons pe_str pa_nil))) rfl) (pe_one (pe_cmpR op_in_seq (pe_ix ix_tup (pv 1) pe_int (fun _ _ => rfl)) (pe_tup (pa_cons pe_str (pa_cons pe_str pa_nil))) rfl))))))))))), ?_⟩
      cases g with
      | patch fd =>
        exact q_when (b := true) (et_is (kd (v := v) (l := wPat) (by decide +kernel)) (by first | decide | rfl)) (fun _ H1 e1 => s_ret (ev_cal (ea_cons (ev_v rfl) ea_nil) fun H2 e2 => ⟨v, fd, rfl, hR.mono (e1.trans e2), hg, rfl⟩) fun H2 e2 => q H2 (e1.trans e2)) (fun z => nomatch z)
      | drop xs =>
        refine q_when (b := false) (et_is (kd (v := v) (l := wPat) (by decide +kernel)) (by first | decide | rfl)) (fun z => nomatch z) fun _ H1 e1 => ?_
        refine q_when (b := false) (et_is (kd (v := v) (l := [114, 101, 108, 101, 97, 115, 101]) (by decide +kernel)) (by first | decide | rfl)) (fun z => nomatch z) fun _ H2 e2 => ?_
        refine q_when (b := true) (et_is (kd (v := v) (l := wDro) (by decide +kernel)) (by first | decide | rfl)) (fun _ H3 e3 => ?_) (fun z => nomatch z)
        have E3 := (e1.trans e2).trans e3
        unfold bodyG at hR
        cases hR with
        | @tup a us _ ha rs => cases rs with
          | cons r0 rs => cases rs with
            | cons r1 rs =>
              cases rs
              cases r0
              have ha3 := E3 _ _ ha
              exact s_ret (ev_is (ev_andV (a := true) (b := true) (ev_is (ev_op (ev_is (ev_lenT (ev_v rfl) (st_of ha3)) (show _ = V.int 2 from rfl)) ev_c (rv_eq rfl)) (congrArg V.bl (show decide (V.int 2 = V.int 2) = true by decide))) fun _ => ev_is (ev_andV (a := true) (b := true) (isW (ev_ixT (j := 0) (ev_v rfl) (ev_cn 0) (st_of ha3) rfl)) fun _ => ev_cal (ea_cons (ev_ixT (j := 1) (ev_v rfl) (ev_cn 1) (st_of ha3) rfl) (ea_cons (ev_cn 1) (ea_cons (ev_cn 60) ea_nil))) fun H4 e4 => ⟨_, xs, 1, 60, rfl, r1.mono (E3.trans e4), hg.2.2.1, hg.1, by have := hg.2.1; omega, by decide, rfl⟩) rfl) rfl) fun H4 e4 => q H4 (E3.trans e4)
      | take x =>
        refine q_when (b := false) (et_is (kd (v := v) (l := wPat) (by decide +kernel)) (by first | decide | rfl)) (fun z => nomatch z) fun _ H1 e1 => ?_
        refine q_when (b := false) (et_is (kd (v := v) (l := [114, 101, 108, 101, 97, 115, 101]) (by decide +kernel)) (by first | decide | rfl)) (fun z => nomatch z) fun _ H2 e2 => ?_
        refine q_when (b := false) (et_is (kd (v := v) (l := wDro) (by decide +kernel)) (by first | decide | rfl)) (fun z => nomatch z) fun _ H3 e3 => ?_
        refine q_when (b := true) (et_is (kd (v := v) (l := wTak) (by decide +kernel)) (by first | decide | rfl)) (fun _ H4 e4 => ?_) (fun z => nomatch z)
        have E4 := ((e1.trans e2).trans e3).trans e4
        unfold bodyG at hR
        cases hR with
        | @tup a us _ ha rs => cases rs with
          | cons r0 rs => cases rs with
            | cons r1 rs =>
              cases rs
              cases r0
              cases r1
              have ha4 := E4 _ _ ha
              exact s_ret (ev_is (ev_andV (a := true) (b := true) (ev_is (ev_op (ev_is (ev_lenT (ev_v rfl) (st_of ha4)) (show _ = V.int 2 from rfl)) ev_c (rv_eq rfl)) (congrArg V.bl (show decide (V.int 2 = V.int 2) = true by decide))) fun _ => ev_is (ev_andV (a := true) (b := true) (isW (ev_ixT (j := 0) (ev_v rfl) (ev_cn 0) (st_of ha4) rfl)) fun _ => isN hg (ev_ixT (j := 1) (ev_v rfl) (ev_cn 1) (st_of ha4) rfl)) rfl) rfl) fun H5 e5 => q H5 (E4.trans e5)
      | vote x w =>
        refine q_when (b := false) (et_is (kd (v := v) (l := wPat) (by decide +kernel)) (by first | decide | rfl)) (fun z => nomatch z) fun _ H1 e1 => ?_
        refine q_when (b := false) (et_is (kd (v := v) (l := [114, 101, 108, 101, 97, 115, 101]) (by decide +kernel)) (by first | decide | rfl)) (fun z => nomatch z) fun _ H2 e2 => ?_
        refine q_when (b := false) (et_is (kd (v := v) (l := wDro) (by decide +kernel)) (by first | decide | rfl)) (fun z => nomatch z) fun _ H3 e3 => ?_
        refine q_when (b := false) (et_is (kd (v := v) (l := wTak) (by decide +kernel)) (by first | decide | rfl)) (fun z => nomatch z) fun _ H4 e4 => ?_
        have E4 := ((e1.trans e2).trans e3).trans e4
        unfold bodyG at hR
        cases hR with
        | @tup a us _ ha rs => cases rs with
          | cons r0 rs => cases rs with
            | cons r1 rs => cases rs with
              | cons r2 rs =>
                cases rs
                cases r0
                cases r1
                cases r2
                have ha4 := E4 _ _ ha
                have hyn : inV (.str (tx w)) [.str (tx [121, 101, 115]), .str (tx [110, 111])] = true := by
                  have : ∀ f ∈ ([[121, 101, 115], [110, 111]] : List L), inV (.str (tx f)) [.str (tx [121, 101, 115]), .str (tx [110, 111])] = true := by decide +kernel
                  exact this w hg.2
                refine s_ret (ev_is (ev_andV (a := true) (b := true) (ev_is (ev_op (ev_is (ev_lenT (ev_v rfl) (st_of ha4)) (show _ = V.int 3 from rfl)) ev_c (rv_eq rfl)) (congrArg V.bl (show decide (V.int 3 = V.int 3) = true by decide))) fun _ => ev_is (ev_andV (a := true) (b := true) (isN hg.1 (ev_ixT (j := 0) (ev_v rfl) (ev_cn 0) (st_of ha4) rfl)) fun _ => ev_is (ev_andV (a := true) (b := true) (ev_is (ev_inU (ev_ixT (j := 1) (ev_v rfl) (ev_cn 1) (st_of ha4) rfl) (eu_tup (ea_cons (ev_cs wIn (by decide +kernel)) (ea_cons (ev_cs [111, 117, 116] (by decide +kernel)) ea_nil)) (by show 2 ≤ 100000; decide)) rfl rfl) (congrArg V.bl (show _ = true by decide +kernel))) fun _ => ev_is (ev_inU (ev_ixT (j := 2) (ev_v rfl) (ev_cn 2) (st_of ha4) rfl) (eu_tup (ea_cons (ev_cs [121, 101, 115] (by decide +kernel)) (ea_cons (ev_cs [110, 111] (by decide +kernel)) ea_nil)) (by show 2 ≤ 100000; decide)) rfl rfl) (congrArg V.bl hyn)) rfl) rfl) rfl) fun H5 e5 => q H5 (E4.trans e5)
    · refine ⟨_, (pss_cons (ps_if (pt_cmpR op_eq (pv 0) pe_str (nomark _)) (pss_one (ps_ret (pe_cal C_body_right hr (pa_cons (pv 1) pa_nil)))) pss_nil)
      (pss_cons (ps_if (pt_cmpR op_eq (pv 0) pe_str (nomark _)) pss_never pss_nil)
      (pss_cons (ps_if (pt_cmpR op_eq (pv 0) pe_str (nomark _)) (pss_one (ps_ret (pe_and (pe_cmpR op_eq (pe_callB call_len_seq (by rfl) N.len PySem.boot_len (pa_cons (pv 1) pa_nil)) pe_int (nomark _)) (pe_and (pe_cal C_is_word hr (pa_cons (pe_ix ix_tup (pv 1) pe_int (fun _ _ => rfl)) pa_nil)) (pe_one (pe_cal C_names_right hr (pa_cons (pe_ix ix_tup (pv 1) pe_int (fun _ _ => rfl)) (pa_cons pe_int (pa_cons (pe_gi g_MOST_TAKES) pa_nil))))))))) pss_nil)
      (pss_cons (ps_if (pt_cmpR op_eq (pv 0) pe_str (nomark _)) (pss_one (ps_ret (pe_and (pe_cmpR op_eq (pe_callB call_len_seq (by rfl) N.len PySem.boot_len (pa_cons (pv 1) pa_nil)) pe_int (nomark _)) (pe_and (pe_cal C_is_word hr (pa_cons (pe_ix ix_tup (pv 1) pe_int (fun _ _ => rfl)) pa_nil)) (pe_one (pe_cal C_is_name hr (pa_cons (pe_ix ix_tup (pv 1) pe_int (fun _ _ => rfl)) pa_nil))))))) pss_nil)
      (pss_one (ps_ret (pe_and (pe_cmpR op_eq (pe_callB call_len_seq (by rfl) N.len PySem.boot_len (pa_cons (pv 1) pa_nil)) pe_int (nomark _)) (pe_and (pe_cal C_is_name hr (pa_cons (pe_ix ix_tup (pv 1) pe_int (fun _ _ => rfl)) pa_nil)) (pe_and (pe_cmpR op_in_seq (pe_ix ix_tup (pv 1) pe_int (fun _ _ => rfl)) (pe_tup (pa_cons pe_str (pa_cons pe_str pa_nil))) rfl) (pe_one (pe_cmpR op_in_seq (pe_ix ix_tup (pv 1) pe_int (fun _ _ => rfl)) (pe_tup (pa_cons pe_str (pa_cons pe_str pa_nil))) rfl))))))))))), ?_⟩
      refine q_when (b := false) (et_is (kd (v := v) (l := wPat) (by decide +kernel)) (by first | decide | rfl)) (fun z => nomatch z) fun _ H1 e1 => ?_
      refine q_when (b := false) (et_is (kd (v := v) (l := [114, 101, 108, 101, 97, 115, 101]) (by decide +kernel)) (by first | decide | rfl)) (fun z => nomatch z) fun _ H2 e2 => ?_
      refine q_when (b := false) (et_is (kd (v := v) (l := wDro) (by decide +kernel)) (by first | decide | rfl)) (fun z => nomatch z) fun _ H3 e3 => ?_
      refine q_when (b := false) (et_is (kd (v := v) (l := wTak) (by decide +kernel)) (by first | decide | rfl)) (fun z => nomatch z) fun _ H4 e4 => ?_
      have E4 := ((e1.trans e2).trans e3).trans e4
      cases hR with
      | @tup a us _ ha rs =>
        cases rs
        exact s_ret (ev_is (ev_andV (a := false) (b := false) (ev_is (ev_op (ev_is (ev_lenT (ev_v rfl) (st_of (E4 _ _ ha))) (show _ = V.int 0 from rfl)) ev_c (rv_eq rfl)) (congrArg V.bl (show decide (V.int 0 = V.int 3) = false by decide))) (fun z => nomatch z)) rfl) fun H5 e5 => q H5 (E4.trans e5)
abbrev s_rising : Stmt := topS 63
theorem sc_rising : FnScope ["values", "one", "other"] ["values"] (defScope s_rising) := ⟨rfl, rfl, rfl, by decide +kernel, rfl, by decide +kernel, by decide +kernel⟩
/- 0 values, 1 one, 2 other -/
def ok_rising (vs : List V) (H : Hp) (z : V) : Prop := ∃ (v : V) (xs : List L), vs = [v] ∧ Rep H v (.tup (xs.map .str)) ∧ 1 ≤ xs.length ∧ xs.length ≤ 2 ∧ xs.Nodup ∧ xs.Pairwise (fun a b => leF a b = true) ∧ z = .bl true
theorem fn_rising {f : Addr} {fd : FuncData} {k : Nat} (F : Fun K "rising" "rising" s_rising f fd) (N : Nb mg) : FnOk P w K mg base CX0 (k + 1) f fd ["values"] (spV ok_rising) := by
  refine F.ok sc_rising (fun vs H Q E h => ?_) (fun cdv A outer s H vs Q E hr h => ?_)
  · obtain ⟨_, ⟨_, _, rfl, _⟩, _⟩ := h
    rfl
  · obtain ⟨_, ⟨v, xs, rfl, hR, h1, h2, hd, hs, hz⟩, q⟩ := h
    rw [hz] at q
    refine ⟨_, (pss_one (ps_ret (pe_callB (cr_all rfl) (by rfl) N.all PyProof.Rows.boot_all (pa_cons (pe_lc (own := [("one", 1), ("other", 2)]) (by rfl) sc_rising.nd (pi_zf rfl N.zip (pa_cons (pv 0) (pa_cons (pe_slice sl_tup (pv 0) (po_some pe_int) po_none) pa_nil)) (pk_cons pe_bl pk_nil)) (blkOk_by (own := [("one", 1), ("other", 2)]) (N := ["values", "one", "other"]) (sc := defScope s_rising) (by decide +kernel)) (fun _ _ _ _ _ => (show PG _ _ (gTup K 2 _) from pg_tup rfl (pgs_cons (pg_name (i := 1) sc_rising.nd rfl (Or.inl rfl)) (pgs_cons (pg_name (i := 2) sc_rising.nd rfl (Or.inl rfl)) pgs_nil)))) (fun _ _ _ _ _ => pts_nil) (fun _ _ _ _ _ => (pe_cmpR op_lt_str (pv 1) (pv 2) (nomark _)))) pa_nil)))), ?_⟩
    obtain ⟨a, rfl, ha⟩ := rep_strs hR
    obtain ⟨x, r, hxr⟩ : ∃ x r, xs = x :: r := by
      cases xs with
      | nil => exact absurd h1 (by decide)
      | cons x r => exact ⟨x, r, rfl⟩
    have hrl : r.length = xs.length - 1 := by rw [hxr, List.length_cons]; omega
    refine s_ret (ev_is (ev_all (bs := (List.range (xs.length - 1)).map fun i => decide (xs.getD i [] < xs.getD (i + 1) [])) ?_) (by rw [rise_two hd hs])) fun H1 e1 => q H1 e1
    rw [List.map_map]
    refine el_lcZF (xs := txs xs) (ys := txs r) (a := 0) (b := 0) (xs.length - 1) (fun i => .bl (decide (xs.getD i [] < xs.getD (i + 1) []))) (fun H1 e Q' q' => r_cons (r_ev (ev_v (v := .ref a) rfl) (Ex.refl _) fun H2 e2 => r_cons (eu_dropT (x := x) (ws := r) (ev_v (v := .ref a) rfl) (ev_cn 1) (st_of (by rw [← hxr]; exact (e.trans e2) _ _ ha)) H2 (Ex.refl _) _ fun p H3 hp e3 h3 => r_nil (q' a p H3 (e2.trans e3) (st_of ((e.trans (e2.trans e3)) _ _ ha)) (st_of h3))))) (by rw [txs_len, txs_len, hrl]; omega) (by rw [txs_len]; omega) (fun _ _ => rfl) fun i u1 u2 H1 e1 hu1 hu2 => ?_
    obtain ⟨rfl, hi1, hg1⟩ := txs_get' hu1
    obtain ⟨rfl, hi2, hg2⟩ := txs_get' hu2
    have hsh : r.getD i [] = xs.getD (i + 1) [] := by rw [hxr]; rfl
    rw [hsh]
    exact ev_op (ev_v rfl) (ev_v rfl) rv_ltS
abbrev s_order_right : Stmt := topS 64
theorem sc_order_right : FnScope ["kind", "body", "one"] ["kind", "body"] (defScope s_order_right) := ⟨rfl, rfl, rfl, by decide +kernel, rfl, by decide +kernel, by decide +kernel⟩
def ok_order (vs : List V) (H : Hp) (z : V) : Prop := ∃ (v : V) (g : G4), vs = [.str (tx (kdG g)), v] ∧ Rep H v (bodyG g) ∧ OkG g ∧ z = .bl true
theorem fn_order_right {f : Addr} {fd : FuncData} {k : Nat} (F : Fun K "order_right" "order_right" s_order_right f fd) (N : Nb mg) (C_body_order : Cal P w K mg base k "body_order" ["body"] (spV ok_bd1)) (C_rising : Cal P w K mg base k "rising" ["values"] (spV ok_rising)) : FnOk P w K mg base CX0 (k + 1) f fd ["kind", "body"] (spV ok_order) := by
  refine F.ok sc_order_right (fun vs H Q E h => ?_) (fun cdv A outer s H vs Q E hr h => ?_)
  · obtain ⟨_, ⟨_, _, rfl, _⟩, _⟩ := h
    rfl
  · obtain ⟨_, ⟨v, g, rfl, hR, hg, hz⟩, q⟩ := h
    rw [hz] at q
    refine ⟨_, (pss_cons (ps_if (pt_cmpR op_eq (pv 0) pe_str (nomark _)) (pss_one (ps_ret (pe_cal C_body_order hr (pa_cons (pv 1) pa_nil)))) pss_nil)
      (pss_cons (ps_if (pt_cmpR op_eq (pv 0) pe_str (nomark _)) (pss_one (ps_ret (pe_cal C_rising hr (pa_cons (pe_ix ix_tup (pv 1) pe_int (fun _ _ => rfl)) pa_nil)))) pss_nil)
      (pss_cons (ps_if (pt_cmpR op_eq (pv 0) pe_str (nomark _)) pss_never pss_nil)
      (pss_one (ps_ret pe_bl))))), ?_⟩
    have kd : ∀ {H1 : Hp} {s : Str} {kw l : L}, s = tx l → EvT (tTest (tOp rEq (tVar 0) (tC (.str s)))) [some (.str (tx kw)), some v] H1 (decide (kw = l)) := fun {H1 s kw l} hs => by
      rw [hs]
      exact et_test (ev_eqS (ev_v rfl) ev_c)
    cases g with
    | patch fd =>
      exact q_when (b := true) (et_is (kd (l := wPat) (by decide +kernel)) (by first | decide | rfl)) (fun _ H1 e1 => s_ret (ev_cal (ea_cons (ev_v rfl) ea_nil) fun H2 e2 => ⟨v, fd, rfl, hR.mono (e1.trans e2), rfl⟩) fun H2 e2 => q H2 (e1.trans e2)) (fun z => nomatch z)
    | drop xs =>
      refine q_when (b := false) (et_is (kd (l := wPat) (by decide +kernel)) (by first | decide | rfl)) (fun z => nomatch z) fun _ H1 e1 => ?_
      refine q_when (b := true) (et_is (kd (l := wDro) (by decide +kernel)) (by first | decide | rfl)) (fun _ H3 e3 => ?_) (fun z => nomatch z)
      have E3 := e1.trans e3
      unfold bodyG at hR
      cases hR with
      | @tup a us _ ha rs => cases rs with
        | cons r0 rs => cases rs with
          | cons r1 rs =>
            cases rs
            cases r0
            exact s_ret (ev_cal (ea_cons (ev_ixT (j := 1) (ev_v rfl) (ev_cn 1) (st_of (E3 _ _ ha)) rfl) ea_nil) fun H4 e4 => ⟨_, xs, rfl, r1.mono (E3.trans e4), hg.1, hg.2.1, hg.2.2.2.1, hg.2.2.2.2, rfl⟩) fun H4 e4 => q H4 (E3.trans e4)
    | take x =>
      refine q_when (b := false) (et_is (kd (l := wPat) (by decide +kernel)) (by first | decide | rfl)) (fun z => nomatch z) fun _ H1 e1 => ?_
      refine q_when (b := false) (et_is (kd (l := wDro) (by decide +kernel)) (by first | decide | rfl)) (fun z => nomatch z) fun _ H2 e2 => ?_
      refine q_when (b := false) (et_is (kd (l := [114, 101, 108, 101, 97, 115, 101]) (by decide +kernel)) (by first | decide | rfl)) (fun z => nomatch z) fun _ H3 e3 => ?_
      exact s_ret ev_c fun H4 e4 => q H4 (((e1.trans e2).trans e3).trans e4)
    | vote x w =>
      refine q_when (b := false) (et_is (kd (l := wPat) (by decide +kernel)) (by first | decide | rfl)) (fun z => nomatch z) fun _ H1 e1 => ?_
      refine q_when (b := false) (et_is (kd (l := wDro) (by decide +kernel)) (by first | decide | rfl)) (fun z => nomatch z) fun _ H2 e2 => ?_
      refine q_when (b := false) (et_is (kd (l := [114, 101, 108, 101, 97, 115, 101]) (by decide +kernel)) (by first | decide | rfl)) (fun z => nomatch z) fun _ H3 e3 => ?_
      exact s_ret ev_c fun H4 e4 => q H4 (((e1.trans e2).trans e3).trans e4)
end
end K82

set_option Elab.async false
set_option linter.all false
set_option maxRecDepth 100000
set_option maxHeartbeats 4000000
namespace K82
open PySem PySem.Spec PyProof.Rows L2 Evl My
/-! pairs of texts as keys -/
def itD : It1 → D
  | .inl n => .int n
  | .inr l => .str l
def keyD (k : List It1) : D := .tup (k.map itD)
def keyP (p : L × L) : List It1 := [.inr p.1, .inr p.2]
def mkP (p : L × L) : List Key := [.inr (tx p.1), .inr (tx p.2)]
theorem mkP_key (p : L × L) : (mkP p).map kI = keyP p := rfl
theorem mkP_inj {p q : L × L} : mkP p = mkP q ↔ p = q := ⟨fun h => by
  injection h with h1 h2
  injection h2 with h2
  exact Prod.ext (inr_tx.mp h1) (inr_tx.mp h2), fun h => by rw [h]⟩
theorem pair_key (p : L × L) : pairD p = keyD (keyP p) := rfl
theorem reps_it (H : Hp) : ∀ k : List It1, Reps H (k.map itV) (k.map itD)
  | [] => .nil
  | .inl n :: k => .cons (.int n) (reps_it H k)
  | .inr l :: k => .cons (.str l) (reps_it H k)
theorem at_keys {H : Hp} : ∀ {ts : List TK}, (∀ t ∈ ts, H t.1 = some (.tup (t.2.map itV))) → Reps H (ts.map fun t => V.ref t.1) ((ts.map (·.2)).map keyD)
  | [], _ => .nil
  | t :: ts, h => .cons (.tup (h t (by simp)) (reps_it H t.2)) (at_keys fun u hu => h u (by simp [hu]))
theorem nol_pair (p : L × L) : NoL (pairD p) := by
  unfold pairD
  simp [NoL, NoLL]
/-- how the rests of a saying stand: sorted already -/
theorem keys_sorted {g : G4} (h : OkG g) : (rstG g).map keyP = sortK ((rstG g).map keyP) := by
  refine sortK_unique (List.Perm.refl _) ?_
  cases g with
  | patch fd => exact .nil
  | vote x w => exact List.pairwise_singleton _ _
  | take x => exact List.pairwise_singleton _ _
  | drop xs =>
    obtain ⟨_, _, _, _, hs⟩ := h
    show ((xs.map fun x => (wTak, x)).map keyP).Pairwise _
    rw [List.map_map, List.pairwise_map]
    refine hs.imp fun {a b} hab => ?_
    show lexT [.inr wTak, .inr b] [.inr wTak, .inr a] = false
    unfold leF at hab
    rw [decide_eq_true_eq] at hab
    unfold lexT
    rw [lex_self, lex_cons]
    show (strKind.blt b a || (!strKind.blt a b && lexLt itemOrd [] [])) = false
    have hb : strKind.blt b a = false := by
      show decide (b < a) = false
      exact decide_eq_false hab
    rw [hb, Bool.false_or]
    show (_ && false) = false
    rw [Bool.and_false]
def dtP (l : List (L × L)) : List (List Key × V) := l.map fun p => (mkP p, V.bl true)
theorem dtP_snoc {l : List (L × L)} {p : L × L} (h : p ∉ l) : putK (dtP l) (mkP p) (V.bl true) = dtP (l ++ [p]) := by
  have e : (dtP l).any (fun kv => decide (kv.1 = mkP p)) = false := by
    rw [List.any_eq_false]
    intro kv hkv
    obtain ⟨q, hq, rfl⟩ := List.mem_map.mp hkv
    intro z
    have := mkP_inj.mp (of_decide_eq_true z)
    exact h (by rw [← this]; exact hq)
  unfold putK
  rw [e, if_neg (by decide)]
  unfold dtP
  rw [List.map_append]
  rfl
section
variable {σ : L2.St} {H : Hp} {D : Ends} {g gg : TG} {wi wi1 : TI} {tt : TT} {vs : List Nat} {tk tv : TE}
theorem r_asgDc2z (h : wi σ H fun J H1 => ∀ Dl, H1 Dl = none → ∃ W : Nat → Nat → Hp → Prop, (∃ m, W 0 m (upd H1 Dl (.dT []))) ∧ ∀ i m H, W i m H →
  (J.stop i H ∧ gg (.ref Dl) σ H D.nx) ∨ (J.go i H ∧ ∃ Nx : Hp → Prop, (∀ H', Nx H' → ∃ m', m' < m ∧ W (i + 1) m' H') ∧ ∀ x H', J.yld i H x H' → g x (wipe σ vs) H' fun σ2 H2 => wipe σ2 vs = wipe σ vs ∧ tt σ2 H2 fun b H3 =>
    if b = true then wi1 σ2 H3 fun J1 H4 => J1.stop 0 H4 ∧ Nx H4 else Nx H3)) : tAsg (tDc2z wi g tt wi1 vs) gg D σ H := h
theorem r_asgT1 (h : ∀ p, H p = none → tk σ (upd H p (.dT [])) fun x H1 => tv σ H1 fun y H2 => ∃ (b : Addr) (ks : List Key), x = .ref b ∧ H2 b = some (.tup (ks.map kV)) ∧ H2 p = some (.dT []) ∧ gg (.ref p) σ (upd H2 p (.dT [(ks, y)])) D.nx) : tAsg (tDispT1 tk tv) gg D σ H := h
theorem r_asgDcT (h : wi σ H fun J H1 => ∀ D1, H1 D1 = none → ∃ W : Nat → Nat → Hp → Prop, (∃ m, W 0 m (upd H1 D1 (.dT []))) ∧ ∀ i m H, W i m H →
  (J.stop i H ∧ gg (.ref D1) σ H D.nx) ∨ (J.go i H ∧ ∃ Nx : Hp → Prop, (∀ H', Nx H' → ∃ m', m' < m ∧ W (i + 1) m' H') ∧ ∀ x H', J.yld i H x H' → g x (wipe σ vs) H' fun σ2 H2 => wipe σ2 vs = wipe σ vs ∧ tt σ2 H2 fun b H3 =>
    if b = true then tk σ2 H3 fun y H4 => tv σ2 H4 fun z H5 => ∃ kvs k kb, y = .ref kb ∧ H5 kb = some (.tup (k.map kV)) ∧ H5 D1 = some (.dT kvs) ∧ kvs.length < sizeLine ∧ Nx (upd H5 D1 (.dT (putK kvs k z))) else Nx H3)) : tAsg (tDcT wi g tt tk tv vs) gg D σ H := h
theorem r_iTup {K : PySem.W.Frag} {te : TE} {R : It → Hp → Prop} {a : Addr} {xs : List V} (h : te σ H fun v H1 => ∃ a, v = .ref a ∧ (∃ xs, SqT K H1 a xs) ∧ R (Itt K a) H1) : iTup K te σ H R := h
end
section
variable {P : Program} {w : World} {K : PySem.W.Frag} {mg : Str → Option Value} {base : Heap}
abbrev s_spoken : Stmt := topS 65
theorem sc_spoken : FnScope ["kind", "body", "found", "change", "one", "name"] ["kind", "body"] (defScope s_spoken) := ⟨rfl, rfl, rfl, by decide +kernel, rfl, by decide +kernel, by decide +kernel⟩
/- 0 kind, 1 body, 2 found, 3 change, 4 one, 5 name -/
def ok_spoken (vs : List V) (H : Hp) (d : D) : Prop := ∃ (v : V) (g : G4), vs = [.str (tx (kdG g)), v] ∧ Rep H v (bodyG g) ∧ OkG g ∧ d = restD g
theorem fn_spoken {f : Addr} {fd : FuncData} {k : Nat} (F : Fun K "spoken" "spoken" s_spoken f fd) (N : Nb mg) (C_ids_of : Cal P w K mg base k "ids_of" ["change"] (spL ok_none)) : FnOk P w K mg base CX0 (k + 1) f fd ["kind", "body"] (spD ok_spoken) := by
  refine F.ok sc_spoken (fun vs H Q E h => ?_) (fun cdv A outer s H vs Q E hr h => ?_)
  · obtain ⟨_, ⟨_, _, rfl, _⟩, _⟩ := h
    rfl
  · obtain ⟨_, ⟨v, g, rfl, hR, hg, hz⟩, q⟩ := h
    rw [hz] at q
    refine ⟨_, (pss_cons (ps_if (pt_cmpR op_eq (pv 0) pe_str (nomark _)) (pss_one (ps_setDc2z (i := 2) (own := [("change", 3), ("one", 4)]) (by rfl) sc_spoken.nd rfl rfl (sw_trueD rfl rfl rfl (by decide +kernel)) (pi_tup (pv 1)) (blkOk_by (own := [("change", 3), ("one", 4)]) (N := ["kind", "body", "found", "change", "one", "name"]) (sc := defScope s_spoken) (by decide +kernel)) (fun _ _ _ _ _ => (pg_name (i := 3) sc_spoken.nd rfl (Or.inl rfl))) (fun _ _ _ _ _ => pts_nil) (fun _ _ _ _ _ => (show PI _ _ _ (iList K _) from pi_list (pe_cal C_ids_of hr (pa_cons (pv 3) pa_nil)))))) (pss_one (ps_if (pt_cmpR op_in_seq (pv 0) (pe_tup (pa_cons pe_str (pa_cons pe_str pa_nil))) rfl) (pss_one (ps_set (i := 2) sc_spoken.nd rfl (Or.inl rfl) (pe_dispT1 (hu_of hr) (pe_tup (pa_cons pe_str (pa_cons (pe_ifExp (pt_cmpR op_eq (pv 0) pe_str (nomark _)) (pe_ix ix_tup (pv 1) pe_int (fun _ _ => rfl)) (pe_ix ix_tup (pv 1) pe_int (fun _ _ => rfl))) pa_nil))) pe_bl))) (pss_one (ps_if (pt_cmpR op_eq (pv 0) pe_str (nomark _)) (pss_one (ps_setDcT (i := 2) (own := [("name", 5)]) (hu_of hr) (by rfl) sc_spoken.nd rfl rfl (sw_trueD rfl rfl rfl (by decide +kernel)) (pi_tup (pe_ix ix_tup (pv 1) pe_int (fun _ _ => rfl))) (blkOk_by (own := [("name", 5)]) (N := ["kind", "body", "found", "change", "one", "name"]) (sc := defScope s_spoken) (by decide +kernel)) (fun _ _ _ _ _ => (pg_name (i := 5) sc_spoken.nd rfl (Or.inl rfl))) (fun _ _ _ _ _ => pts_nil) (fun _ _ _ _ _ => (pe_tup (pa_cons pe_str (pa_cons (pv 5) pa_nil)))) (fun _ _ _ _ _ => pe_bl))) pss_never)))))
      (pss_one (ps_ret (pe_callTy call_tuple_of (by rfl) N.tuple PyProof.Rows.boot_tuple (pa_cons (pe_callB (cr_sortedTD rfl) (by rfl) N.sorted PyProof.Rows.boot_sorted (pa_cons (pv 2) pa_nil)) pa_nil))))), ?_⟩
    have fin : ∀ {H1 : Hp} {d : Addr} {σ : L2.St}, Ex H H1 → H1 d = some (.dT (dtP (rstG g))) → σ[2]? = some (some (.ref d)) → ∀ Q' : VK, (∀ v H2, Ex H H2 → Rep H2 v (restD g) → Q' v H2) → tCB (rTupS K) (tCons (tCB rSortTD (tCons (tVar 2) tNil)) tNil) σ H1 Q' := fun {H1 d σ} e1 h1 hv Q' q' => by
      have hsort : EvD (tCB rSortTD (tCons (tVar 2) tNil)) σ H1 (.lst ((rstG g).map pairD)) := fun H5 e5 Q5 q5 => by
        refine r_cb (r_cons (r_var hv (r_nil ⟨d, dtP (rstG g), fun _ => true, rfl, .inl (e5 _ _ h1), fun t ht => ?_, ?_, fun ts' p h1 h2 h3 h4 => ?_⟩)))
        · obtain ⟨z, _, rfl⟩ := List.mem_map.mp ht
          exact ⟨rfl, fun z => nomatch z⟩
        · unfold dtP
          rw [List.length_map]
          have := okg_few hg
          omega
        · refine q5 (.ref p) _ (Ex.new h4) ?_
          have hk : ts'.map (·.2) = (rstG g).map keyP := by
            rw [keys_sorted hg]
            refine sortK_unique ?_ (List.pairwise_map.mpr h2)
            have e : (dtP (rstG g)).map (fun t => t.1.map kI) = (rstG g).map keyP := by
              unfold dtP
              rw [List.map_map]
              exact List.map_congr_left fun z _ => mkP_key z
            rw [← e]
            exact h1
          have hr := at_keys (H := upd H5 p (.lst (ts'.map fun t => V.ref t.1))) fun t ht => (Ex.new h4) _ _ (h3 t ht)
          rw [hk, List.map_map] at hr
          exact .lst upd_same hr
      exact ed_tupL hsort (nol_all fun p _ => nol_pair p) H1 (Ex.refl _) _ fun v H2 e2 r2 => q' v H2 (e1.trans e2) r2
    have kd : ∀ {H1 : Hp} {y : Option V} {s : Str} {kw l : L}, s = tx l → EvT (tTest (tOp rEq (tVar 0) (tC (.str s)))) [some (.str (tx kw)), some v, none, none, none, none] H1 (decide (kw = l)) := fun {H1 y s kw l} hs => by
      rw [hs]
      exact et_test (ev_eqS (ev_v rfl) ev_c)
    cases g with
    | patch fd =>
      obtain ⟨a, b, rfl, ha, hb, hrb⟩ := bd_at hR
      refine q_if (b := true) (et_is (kd (l := wPat) (y := none) (by decide +kernel)) (by first | decide | rfl)) (fun _ H1 e1 => ?_) (fun z => nomatch z)
      refine r_asgDc2z (r_ev (ev_v (v := .ref a) rfl) (Ex.refl _) fun H2 e2 => ⟨a, rfl, ⟨_, st_of ((e1.trans e2) _ _ ha)⟩, fun Dl hD => ?_⟩)
      have E2 := e1.trans e2
      refine ⟨fun i m H' => m = 1 - i ∧ i ≤ 1 ∧ Ex H2 H' ∧ H' Dl = some (.dT []), ⟨1, rfl, Nat.zero_le _, Ex.new hD, upd_same⟩, ?_⟩
      rintro i m H' ⟨rfl, hi, ex, hd⟩
      by_cases hlt : i < 1
      · have e0 : i = 0 := by omega
        subst e0
        refine .inr ⟨⟨[.ref b], .ref b, st_of (ex _ _ (E2 _ _ ha)), rfl⟩, fun H' => Ex H2 H' ∧ H' Dl = some (.dT []), fun H3 p => ⟨0, by decide, rfl, by decide, p⟩, fun y H3 hy => ?_⟩
        obtain ⟨rfl, hy⟩ := hy
        have ey : y = .ref b := Option.some.inj (hy [.ref b] (st_of (ex _ _ (E2 _ _ ha)))).symm
        subst ey
        refine ⟨rfl, tyes_ (iteT ?_)⟩
        refine el_cal (ok := ok_none) (vs := [.ref b]) (xs := []) (ea_cons (ev_v rfl) ea_nil) (fun H4 e4 => ⟨_, fd, rfl, hrb.mono ((E2.trans ex).trans e4), rfl⟩) _ (Ex.refl _) _ fun p H4 hp e4 h4 => ?_
        exact ⟨p, rfl, ⟨[], sq_of h4⟩, ⟨[], sq_of h4, Nat.le_refl _⟩, ex.trans e4, e4 _ _ hd⟩
      · have e0 : i = 1 := by omega
        subst e0
        refine .inl ⟨⟨_, st_of (ex _ _ (E2 _ _ ha)), Nat.le_refl _⟩, ?_⟩
        exact r_ret (fin (E2.trans ex) (d := Dl) hd rfl _ fun v H3 e3 r3 => q v H3 e3 r3)
    | take x =>
      refine q_if (b := false) (et_is (kd (l := wPat) (y := none) (by decide +kernel)) (by first | decide | rfl)) (fun z => nomatch z) fun _ H1 e1 => ?_
      refine s_if (D := { nx := _, rt := _, ct := _, bk := _ }) (b := true) (et_is (et_test (ev_inU (ev_v rfl) (eu_tup (ea_cons (ev_cs wTak (by decide +kernel)) (ea_cons (ev_cs wVot (by decide +kernel)) ea_nil)) (by show 2 ≤ 100000; decide)) rfl rfl)) (by show inV (.str (tx wTak)) _ = true; decide +kernel)) (fun _ H2 e2 => ?_) (fun z => nomatch z)
      have E2 := e1.trans e2
      unfold bodyG at hR
      cases hR with
      | @tup a us _ ha rs => cases rs with
        | cons r0 rs => cases rs with
          | cons r1 rs =>
            cases rs
            cases r0
            cases r1
            refine r_asgT1 fun p hp => ?_
            refine eu_tup (ea_cons (ev_cs wPat (by decide +kernel)) (ea_cons (ev_if (b := true) (et_is (kd (l := wTak) (y := none) (by decide +kernel)) (by first | decide | rfl)) (fun _ => ev_ixT (j := 1) (ev_v rfl) (ev_cn 1) (st_of ((Ex.new hp) _ _ (E2 _ _ ha))) rfl) (fun z => nomatch z)) ea_nil)) (by show 2 ≤ 100000; decide) _ (Ex.refl _) _ fun b H3 hb e3 h3 => ?_
            refine r_c ⟨b, mkP (wPat, x), rfl, h3, e3 _ _ upd_same, ?_⟩
            exact r_ret (fin (((E2.trans (Ex.new hp)).trans e3).mut (fresh_back E2 hp)) (d := p) upd_same rfl _ fun v H4 e4 r4 => q v H4 e4 r4)
    | vote x w =>
      refine q_if (b := false) (et_is (kd (l := wPat) (y := none) (by decide +kernel)) (by first | decide | rfl)) (fun z => nomatch z) fun _ H1 e1 => ?_
      refine s_if (D := { nx := _, rt := _, ct := _, bk := _ }) (b := true) (et_is (et_test (ev_inU (ev_v rfl) (eu_tup (ea_cons (ev_cs wTak (by decide +kernel)) (ea_cons (ev_cs wVot (by decide +kernel)) ea_nil)) (by show 2 ≤ 100000; decide)) rfl rfl)) (by show inV (.str (tx wVot)) _ = true; decide +kernel)) (fun _ H2 e2 => ?_) (fun z => nomatch z)
      have E2 := e1.trans e2
      unfold bodyG at hR
      cases hR with
      | @tup a us _ ha rs => cases rs with
        | cons r0 rs =>
          cases r0
          refine r_asgT1 fun p hp => ?_
          refine eu_tup (ea_cons (ev_cs wPat (by decide +kernel)) (ea_cons (ev_if (b := false) (et_is (kd (l := wTak) (y := none) (by decide +kernel)) (by first | decide | rfl)) (fun z => nomatch z) fun _ => ev_ixT (j := 0) (ev_v rfl) (ev_cn 0) (st_of ((Ex.new hp) _ _ (E2 _ _ ha))) rfl) ea_nil)) (by show 2 ≤ 100000; decide) _ (Ex.refl _) _ fun b H3 hb e3 h3 => ?_
          refine r_c ⟨b, mkP (wPat, x), rfl, h3, e3 _ _ upd_same, ?_⟩
          exact r_ret (fin (((E2.trans (Ex.new hp)).trans e3).mut (fresh_back E2 hp)) (d := p) upd_same rfl _ fun v H4 e4 r4 => q v H4 e4 r4)
    | drop xs =>
      refine q_if (b := false) (et_is (kd (l := wPat) (y := none) (by decide +kernel)) (by first | decide | rfl)) (fun z => nomatch z) fun _ H1 e1 => ?_
      refine s_if (D := { nx := _, rt := _, ct := _, bk := _ }) (b := false) (et_is (et_test (ev_inU (ev_v rfl) (eu_tup (ea_cons (ev_cs wTak (by decide +kernel)) (ea_cons (ev_cs wVot (by decide +kernel)) ea_nil)) (by show 2 ≤ 100000; decide)) rfl rfl)) (by show inV (.str (tx wDro)) _ = false; decide +kernel)) (fun z => nomatch z) fun _ H2 e2 => ?_
      refine s_if (D := { nx := _, rt := _, ct := _, bk := _ }) (b := true) (et_is (kd (l := wDro) (y := none) (by decide +kernel)) (by first | decide | rfl)) (fun _ H3 e3 => ?_) (fun z => nomatch z)
      have E3 := (e1.trans e2).trans e3
      obtain ⟨hl1, hl2, hnm, hnd, _⟩ := id hg
      unfold bodyG at hR
      cases hR with
      | @tup a us _ ha rs => cases rs with
        | cons r0 rs => cases rs with
          | cons r1 rs =>
            cases rs
            cases r0
            obtain ⟨b, rfl, hb⟩ := rep_strs r1
            refine r_asgDcT ((ev_ixT (j := 1) (v := .ref b) (ev_v rfl) (ev_cn 1) (st_of (E3 _ _ ha)) rfl) H3 (Ex.refl _) _ fun H4 e4 => ⟨b, rfl, ⟨_, st_of ((E3.trans e4) _ _ hb)⟩, fun Dl hD => ?_⟩)
            have E4 := E3.trans e4
            have hbH := fun (H' : Hp) (ex : Ex H4 H') => st_of (K := K) (ex _ _ (E4 _ _ hb))
            refine ⟨fun i m H' => m = xs.length - i ∧ i ≤ xs.length ∧ Ex H4 H' ∧ H' Dl = some (.dT (dtP ((xs.take i).map fun x => (wTak, x)))), ⟨xs.length, rfl, Nat.zero_le _, Ex.new hD, upd_same⟩, ?_⟩
            rintro i m H' ⟨rfl, hi, ex, hd⟩
            by_cases hlt : i < xs.length
            · have gx : xs[i]? = some xs[i] := List.getElem?_eq_getElem hlt
              have gv : (txs xs)[i]? = some (.str (tx xs[i])) := txs_get gx
              refine .inr ⟨⟨txs xs, _, hbH _ ex, gv⟩, fun H' => Ex H4 H' ∧ H' Dl = some (.dT (dtP ((xs.take (i + 1)).map fun x => (wTak, x)))), fun H3 p => ⟨xs.length - (i + 1), by omega, rfl, hlt, p⟩, fun y H5 hy => ?_⟩
              obtain ⟨rfl, hy⟩ := hy
              have ey : y = .str (tx xs[i]) := Option.some.inj ((hy _ (hbH _ ex)).symm.trans gv)
              subst ey
              refine ⟨rfl, tyes_ (iteT ?_)⟩
              refine eu_tup (ea_cons (ev_cs wTak (by decide +kernel)) (ea_cons (ev_v (v := .str (tx xs[i])) rfl) ea_nil)) (by show 2 ≤ 100000; decide) _ (Ex.refl _) _ fun kb H6 hkb e6 h6 => ?_
              refine r_c ⟨_, mkP (wTak, xs[i]), kb, rfl, h6, e6 _ _ hd, sz_lt (by unfold dtP; rw [List.length_map, List.length_map, List.length_take]; omega), (ex.trans e6).mut hD, ?_⟩
              rw [upd_same, dtP_snoc, List.take_add_one, gx, List.map_append]
              · rfl
              · intro hm
                obtain ⟨z, hz, he⟩ := List.mem_map.mp hm
                have hz2 : z = xs[i] := (Prod.mk.inj he).2
                subst hz2
                obtain ⟨j, hj, hje⟩ := List.getElem_of_mem hz
                rw [List.length_take] at hj
                rw [List.getElem_take] at hje
                exact (List.pairwise_iff_getElem.mp hnd) j i (by omega) hlt (by omega) hje
            · have e0 : i = xs.length := by omega
              subst e0
              rw [List.take_of_length_le (Nat.le_refl _)] at hd
              refine .inl ⟨⟨txs xs, hbH _ ex, by rw [txs_len]; exact Nat.le_refl _⟩, ?_⟩
              exact r_ret (fin (E4.trans ex) (d := Dl) hd rfl _ fun v H6 e6 r6 => q v H6 e6 r6)
end
end K82

set_option Elab.async false
set_option linter.all false
set_option maxRecDepth 100000
set_option maxHeartbeats 4000000
namespace K82
open PySem PySem.Spec PyProof.Rows L2 Evl My
def small (l : L) : Bool := l.all fun c => decide (c < 1114112)
theorem str_ok {l : L} (h : small l = true) : PyData.strOk (tx l) = true := by
  unfold PyData.strOk tx
  rw [Array.all_eq_true_iff_forall_mem]
  intro c hc
  have : c ∈ l := by simpa using hc
  have := List.all_eq_true.mp h c this
  exact this
theorem hx_sm {l : L} (h : Hx l) : small l = true := by
  unfold small
  rw [List.all_eq_true]
  intro c hc
  exact decide_eq_true (Nat.lt_trans (hx_small c (h c hc)) (by decide))
theorem pairs_lay : ∀ {ps : List (L × L)}, (∀ p ∈ ps, nmP p.2 ∧ (p.1 = wPat ∨ p.1 = wTak)) → PyData.canLayAll0 (pyDL (ps.map pairD)) = true ∧ PyData.depthAll (pyDL (ps.map pairD)) ≤ 1
  | [], _ => ⟨by rw [List.map_nil, pyDL, PyData.canLayAll0], by rw [List.map_nil, pyDL, PyData.depthAll]; exact Nat.zero_le _⟩
  | p :: ps, h => by
    obtain ⟨a, b⟩ := pairs_lay (ps := ps) fun q hq => h q (by simp [hq])
    obtain ⟨h2, h1⟩ := h p (by simp)
    have s1 : PyData.strOk (tx p.1) = true := by
      rcases h1 with e | e <;> rw [e] <;> decide +kernel
    have s2 := str_ok (hx_sm h2.2)
    refine ⟨?_, ?_⟩
    · rw [List.map_cons, pyDL, PyData.canLayAll0, a]
      unfold pairD
      simp only [pyD, pyDL, PyData.canLay0, PyData.canLayAll0, s1, s2]
      rfl
    · rw [List.map_cons, pyDL, PyData.depthAll]
      have : PyData.depth (pyD (pairD p)) = 1 := by
        unfold pairD
        simp only [pyD, pyDL, PyData.depth, PyData.depthAll]
        rfl
      omega
theorem rest_shaped {g : G4} (h : OkG g) : SeqAt.shaped (pyD (restD g)) = true := by
  obtain ⟨a, b⟩ := pairs_lay (okg_rest h)
  unfold SeqAt.shaped restD
  rw [pyD, PyData.canLay0, a, PyData.depth, Bool.true_and]
  exact decide_eq_true (by omega)
theorem rest_refl {g : G4} (h : OkG g) : PyData.eqv (pyD (restD g)) (pyD (restD g)) = true := SeqAt.eqv_refl _ (SeqAt.canLay_of_shaped (rest_shaped h))
/-- what is no saying, of what the law tries -/
def oddS : D := .tup [.str wVot, .str [97, 110, 110], .int ((1 : Nat) : Int), .tup [], .tup []]
inductive WellD : D → V → Prop
  | say {s : Sg} : OkS s → WellD (sayD s) .non
  | int : WellD (.int 7) (.str "shape")
  | non : WellD .non (.str "shape")
  | odd : WellD oddS (.str "body")
theorem odd_ok : Pln oddS ∧ height oddS < 4 ∧ (octs oddS).length ≤ 20000 := ⟨plnB_ok _ (by decide +kernel), by decide, by decide +kernel⟩
theorem au_word : ∀ l ∈ people, wordP l = true ∧ l.length ≤ 3 := by decide +kernel
section
variable {P : Program} {w : World} {K : PySem.W.Frag} {mg : Str → Option Value} {base : Heap}
theorem kind_inL : ∀ w ∈ [wPat, wVot, wTak, wDro], inV (.str (tx w)) kindsV = true := by decide +kernel
theorem kdG_in (g : G4) : kdG g ∈ [wPat, wVot, wTak, wDro] := by
  cases g <;> simp [kdG]
theorem kinds_flat : kindsV.all flatV = true := by decide
theorem ev_isNN {te : TE} {σ : L2.St} {H : Hp} {v : V} (h : Ev te σ H v) : Ev (tOp (fun x y H Q => y = .non ∧ Q (.bl (!decide (x = .non))) H) te (tC .non)) σ H (.bl (!decide (v = .non))) := fun H1 e Q q =>
  h H1 e _ fun H2 e2 => ⟨rfl, q H2 e2⟩
abbrev s_well_made : Stmt := topS 66
theorem sc_well_made : FnScope ["value", "kind", "author", "number", "rests", "body"] ["value"] (defScope s_well_made) := ⟨rfl, rfl, rfl, by decide +kernel, rfl, by decide +kernel, by decide +kernel⟩
/- 0 value, 1 kind, 2 author, 3 number, 4 rests, 5 body -/
def ok_well (vs : List V) (H : Hp) (z : V) : Prop := ∃ (v : V) (d : D), vs = [v] ∧ Rep H v d ∧ WellD d z
theorem fn_well_made {f : Addr} {fd : FuncData} {k : Nat} (F : Fun K "well_made" "well_made" s_well_made f fd) (N : Nb mg) (g_KINDS : GT K mg "KINDS" kindsV) (g_MOST_NUMBER : GI mg "MOST_NUMBER" 1000000) (C_is_plain : Cal P w K mg base k "is_plain" ["value"] (spV ok_is_plain)) (C_is_word : Cal P w K mg base k "is_word" ["value"] (spV (ok_is wordP))) (C_is_number : Cal P w K mg base k "is_number" ["value", "low", "high"] (spV ok_num)) (C_shape_right : Cal P w K mg base k "shape_right" ["kind", "body"] (spV ok_shape)) (C_order_right : Cal P w K mg base k "order_right" ["kind", "body"] (spV ok_order)) (C_own_right : Cal P w K mg base k "own_right" ["body"] (spV ok_bd1)) (C_spoken : Cal P w K mg base k "spoken" ["kind", "body"] (spD ok_spoken)) : FnOk P w K mg base CX0 (k + 1) f fd ["value"] (spV ok_well) := by
  refine F.ok sc_well_made (fun vs H Q E h => ?_) (fun cdv A outer s H vs Q E hr h => ?_)
  · obtain ⟨_, ⟨_, _, rfl, _⟩, _⟩ := h
    rfl
  · obtain ⟨z, ⟨v, d, rfl, hR, hW⟩, q⟩ := h
    refine ⟨_, (pss_cons (ps_if (PW.pt (pw_or (pt_not (pt_val (pe_callB call_isi (by rfl) N.isinstance PyProof.Rows.boot_isinstance (pa_cons (pv 0) (pa_cons (pe_bltn (v := .ty "tuple") (by rfl) N.tuple PyProof.Rows.boot_tuple rfl) pa_nil))))) (pw_or (pt_cmpR op_ne (pe_callB call_len_seq (by rfl) N.len PySem.boot_len (pa_cons (pv 0) pa_nil)) pe_int (nomark _)) (pw_or1 (pt_not (pt_val (pe_cal C_is_plain hr (pa_cons (pv 0) pa_nil)))))))) (pss_one (ps_ret pe_str)) pss_nil)
      (pss_cons (ps_asg (pv 0) (pg_tup rfl (pgs_cons (pg_name (i := 1) sc_well_made.nd rfl (Or.inl rfl)) (pgs_cons (pg_name (i := 2) sc_well_made.nd rfl (Or.inl rfl)) (pgs_cons (pg_name (i := 3) sc_well_made.nd rfl (Or.inl rfl)) (pgs_cons (pg_name (i := 4) sc_well_made.nd rfl (Or.inl rfl)) (pgs_cons (pg_name (i := 5) sc_well_made.nd rfl (Or.inl rfl)) pgs_nil)))))))
      (pss_cons (ps_if (PW.pt (pw_or (pt_not (pt_val (pe_callB call_isi (by rfl) N.isinstance PyProof.Rows.boot_isinstance (pa_cons (pv 1) (pa_cons (pe_bltn (v := .ty "str") (by rfl) N.str PyProof.Rows.boot_str rfl) pa_nil))))) (pw_or (pt_not (pt_val (pe_callB call_isi (by rfl) N.isinstance PyProof.Rows.boot_isinstance (pa_cons (pv 2) (pa_cons (pe_bltn (v := .ty "str") (by rfl) N.str PyProof.Rows.boot_str rfl) pa_nil))))) (pw_or1 (pt_val (pe_callB call_isi (by rfl) N.isinstance PyProof.Rows.boot_isinstance (pa_cons (pv 3) (pa_cons (pe_bltn (v := .ty "bool") (by rfl) N.bool PyProof.Rows.boot_bool rfl) pa_nil)))))))) (pss_one (ps_ret pe_str)) pss_nil)
      (pss_cons (ps_if (PW.pt (pw_or (pt_not (pt_val (pe_callB call_isi (by rfl) N.isinstance PyProof.Rows.boot_isinstance (pa_cons (pv 3) (pa_cons (pe_bltn (v := .ty "int") (by rfl) N.int PyProof.Rows.boot_int rfl) pa_nil))))) (pw_or (pt_not (pt_val (pe_callB call_isi (by rfl) N.isinstance PyProof.Rows.boot_isinstance (pa_cons (pv 4) (pa_cons (pe_bltn (v := .ty "tuple") (by rfl) N.tuple PyProof.Rows.boot_tuple rfl) pa_nil))))) (pw_or1 (pt_not (pt_val (pe_callB call_isi (by rfl) N.isinstance PyProof.Rows.boot_isinstance (pa_cons (pv 5) (pa_cons (pe_bltn (v := .ty "tuple") (by rfl) N.tuple PyProof.Rows.boot_tuple rfl) pa_nil))))))))) (pss_one (ps_ret pe_str)) pss_nil)
      (pss_cons (ps_if (pt_cmpR op_notIn_seq (pv 1) (pe_gt g_KINDS) rfl) (pss_one (ps_ret pe_str)) pss_nil)
      (pss_cons (ps_if (pt_not (pt_val (pe_cal C_is_word hr (pa_cons (pv 2) pa_nil)))) (pss_one (ps_ret pe_str)) pss_nil)
      (pss_cons (ps_if (pt_not (pt_val (pe_cal C_is_number hr (pa_cons (pv 3) (pa_cons pe_int (pa_cons (pe_gi g_MOST_NUMBER) pa_nil)))))) (pss_one (ps_ret pe_str)) pss_nil)
      (pss_cons (ps_if (pt_not (pt_val (pe_cal C_shape_right hr (pa_cons (pv 1) (pa_cons (pv 5) pa_nil))))) (pss_one (ps_ret pe_str)) pss_nil)
      (pss_cons (ps_if (pt_not (pt_val (pe_cal C_order_right hr (pa_cons (pv 1) (pa_cons (pv 5) pa_nil))))) (pss_one (ps_ret pe_str)) pss_nil)
      (pss_cons (ps_if (PW.pt (pw_and (pt_cmpR op_eq (pv 1) pe_str (nomark _)) (pw_and1 (pt_not (pt_val (pe_cal C_own_right hr (pa_cons (pv 5) pa_nil))))))) (pss_one (ps_ret pe_str)) pss_nil)
      (pss_one (ps_ret (pe_ifExp (pt_cmpR (op_eqD hr.units) (pv 4) (pe_cal C_spoken hr (pa_cons (pv 1) (pa_cons (pv 5) pa_nil))) (nomark _)) pe_non pe_str))))))))))))), ?_⟩
    have hcs : ((d = .int 7 ∨ d = .non) ∧ z = .str "shape") ∨ ∃ (kw au : L) (n : Nat) (rd bd : List D), d = .tup [.str kw, .str au, .int (n : Int), .tup rd, .tup bd] ∧ Pln d ∧ height d < 4 ∧ (octs d).length ≤ 20000 ∧ kw ∈ [wPat, wVot, wTak, wDro] ∧ au ∈ people ∧ 1 ≤ n ∧ n ≤ 20 ∧ ((∃ g, kw = kdG g ∧ D.tup rd = restD g ∧ D.tup bd = bodyG g ∧ OkG g ∧ z = .non) ∨ (kw = wVot ∧ D.tup bd = .tup [] ∧ z = .str "body")) := by
      cases hW with
      | @say s hs =>
        obtain ⟨p1, p2, p3⟩ := say_ok hs
        have hbd : ∃ bd, bodyG s.g = .tup bd := by
          cases s.g <;> exact ⟨_, rfl⟩
        obtain ⟨bd, hbd⟩ := hbd
        exact .inr ⟨kdG s.g, s.au, s.n, (rstG s.g).map pairD, bd, by rw [← hbd]; rfl, p1, p2, p3, kdG_in _, hs.au, hs.n1, hs.n2, .inl ⟨s.g, rfl, rfl, hbd.symm, hs.g, rfl⟩⟩
      | int => exact .inl ⟨.inl rfl, rfl⟩
      | non => exact .inl ⟨.inr rfl, rfl⟩
      | odd =>
        obtain ⟨p1, p2, p3⟩ := odd_ok
        exact .inr ⟨wVot, _, 1, [], [], rfl, p1, p2, p3, by simp, by decide, by decide, by decide, .inr ⟨rfl, rfl, rfl⟩⟩
    rcases hcs with ⟨hd, rfl⟩ | ⟨kw, au, n, rd, bd, hd, hp, hh, ho, hkw, hau, h1, h2, hc⟩
    · exact q_when (b := true) (et_or (a := true) (b := true) (et_not (a := false) (et_test (ev_isi (ev_v rfl) hR (by rcases hd with rfl | rfl <;> rfl)))) (fun z => nomatch z)) (fun _ H1 e1 => s_ret ev_c fun H2 e2 => q H2 (e1.trans e2)) (fun z => nomatch z)
    · subst hd
      have hR0 := hR
      cases hR with
      | @tup a us _ ha rs => cases rs with
        | cons r0 rs => cases rs with
          | cons r1 rs => cases rs with
            | cons r2 rs => cases rs with
              | cons r3 rs => cases rs with
                | cons r4 rs =>
                  cases rs
                  cases r0
                  cases r1
                  cases r2
                  have r3' := r3
                  have r4' := r4
                  cases r3' with
                  | @tup ra _ _ hra _ => cases r4' with
                    | @tup ba _ _ hba _ =>
                      refine q_when (b := false) (et_or (a := false) (b := false) (et_not (a := true) (et_test (ev_isi (ev_v rfl) hR0 rfl))) fun _ => et_or (a := false) (b := false) (et_test (ev_is (ev_op (ev_is (ev_lenT (ev_v rfl) (st_of ha)) (show _ = V.int 5 from rfl)) ev_c (rv_ne rfl)) (congrArg V.bl (show (!decide (V.int 5 = V.int 5)) = false by decide)))) fun _ => et_not (a := true) (et_B (ev_cal (ea_cons (ev_v rfl) ea_nil) fun H1 e1 => ⟨_, _, rfl, hR0.mono e1, hp, hh, ho, rfl⟩))) (fun z => nomatch z) fun _ H1 e1 => ?_
                      refine s_unt (D := { nx := _, rt := _, ct := _, bk := _ }) (vs := [.str (tx kw), .str (tx au), .int (n : Int), .ref ra, .ref ba]) [1, 2, 3, 4, 5] (ev_v rfl) (st_of (e1 _ _ ha)) rfl rfl fun H2 e2 => ?_
                      have E2 := e1.trans e2
                      refine q_when (b := false) (et_or (a := false) (b := false) (et_not (a := true) (et_test (ev_isi (ev_v rfl) (.str kw) rfl))) fun _ => et_or (a := false) (b := false) (et_not (a := true) (et_test (ev_isi (ev_v rfl) (.str au) rfl))) fun _ => et_test (ev_isi (ev_v rfl) (.int (n : Int)) rfl)) (fun z => nomatch z) fun _ H3 e3 => ?_
                      have E3 := E2.trans e3
                      refine q_when (b := false) (et_or (a := false) (b := false) (et_not (a := true) (et_test (ev_isi (ev_v rfl) (.int (n : Int)) rfl))) fun _ => et_or (a := false) (b := false) (et_not (a := true) (et_test (ev_isi (ev_v rfl) (r3.mono E3) rfl))) fun _ => et_not (a := true) (et_test (ev_isi (ev_v rfl) (r4.mono E3) rfl))) (fun z => nomatch z) fun _ H4 e4 => ?_
                      have E4 := E3.trans e4
                      refine q_when (b := false) (et_is (et_test (ev_niGT (ev_v rfl) rfl kinds_flat)) (by rw [kind_inL kw hkw]; rfl)) (fun z => nomatch z) fun _ H5 e5 => ?_
                      have E5 := E4.trans e5
                      refine q_when (b := false) (et_not (a := true) (et_B (ev_is (ev_cal (z := .bl (wordP au)) (ea_cons (ev_v rfl) ea_nil) fun H6 e6 => ⟨_, .str au, rfl, .str au, .inl ⟨au, rfl, by have := (au_word au hau).2; omega, rfl⟩⟩) (by rw [(au_word au hau).1])))) (fun z => nomatch z) fun _ H6 e6 => ?_
                      have E6 := E5.trans e6
                      refine q_when (b := false) (et_not (a := true) (et_B (ev_cal (ea_cons (ev_v rfl) (ea_cons (ev_cn 1) (ea_cons ev_c ea_nil))) fun H7 e7 => ⟨_, _, _, rfl, by omega, by omega, rfl⟩))) (fun z => nomatch z) fun _ H7 e7 => ?_
                      have E7 := E6.trans e7
                      rcases hc with ⟨g, hkd, hrd, hbd, hg, rfl⟩ | ⟨hkd, hbd, rfl⟩
                      · rw [hbd] at r4
                        rw [hrd] at r3
                        subst hkd
                        refine q_when (b := false) (et_not (a := true) (et_B (ev_cal (ea_cons (ev_v rfl) (ea_cons (ev_v rfl) ea_nil)) fun H8 e8 => .inl ⟨_, g, rfl, r4.mono (E7.trans e8), hg, rfl⟩))) (fun z => nomatch z) fun _ H8 e8 => ?_
                        have E8 := E7.trans e8
                        refine q_when (b := false) (et_not (a := true) (et_B (ev_cal (ea_cons (ev_v rfl) (ea_cons (ev_v rfl) ea_nil)) fun H9 e9 => ⟨_, g, rfl, r4.mono (E8.trans e9), hg, rfl⟩))) (fun z => nomatch z) fun _ H9 e9 => ?_
                        have E9 := E8.trans e9
                        refine q_when (b := false) (et_is (et_and (a := decide (kdG g = wPat)) (b := false) (et_test (ev_eqS (ev_v rfl) (ev_cs wPat (by decide +kernel)))) fun hk => et_not (a := true) (et_B (ev_cal (ea_cons (ev_v rfl) ea_nil) fun H10 e10 => ?_))) (Bool.and_false _)) (fun z => nomatch z) fun _ H10 e10 => ?_
                        · have hk := of_decide_eq_true hk
                          cases g with
                          | patch fd => exact ⟨_, fd, rfl, r4.mono (E9.trans e10), rfl⟩
                          | vote x w => exact absurd hk (show ¬ wVot = wPat by decide)
                          | take x => exact absurd hk (show ¬ wTak = wPat by decide)
                          | drop xs => exact absurd hk (show ¬ wDro = wPat by decide)
                        have E10 := E9.trans e10
                        exact s_ret (ev_if (b := true) (et_test (ev_is (ev_eqDD (evd_v (ev_v rfl) (r3.mono E10)) (ed_cal (ea_cons (ev_v rfl) (ea_cons (ev_v rfl) ea_nil)) fun H11 e11 => ⟨_, g, rfl, r4.mono (E10.trans e11), hg, rfl⟩) (rest_shaped hg) (rest_shaped hg)) (congrArg V.bl (rest_refl hg)))) (fun _ => ev_c) (fun z => nomatch z)) fun H11 e11 => q H11 (E10.trans e11)
                      · rw [hbd] at r4
                        subst hkd
                        exact q_when (b := true) (et_not (a := false) (et_B (ev_cal (ea_cons (ev_v rfl) (ea_cons (ev_v rfl) ea_nil)) fun H8 e8 => .inr ⟨_, rfl, r4.mono (E7.trans e8), rfl⟩))) (fun _ H8 e8 => s_ret ev_c fun H9 e9 => q H9 ((E7.trans e8).trans e9)) (fun z => nomatch z)
abbrev s_saying : Stmt := topS 67
theorem sc_saying : FnScope ["kind", "author", "number", "body", "rests", "found", "reason"] ["kind", "author", "number", "body"] (defScope s_saying) := ⟨rfl, rfl, rfl, by decide +kernel, rfl, by decide +kernel, by decide +kernel⟩
/- 0 kind, 1 author, 2 number, 3 body, 4 rests, 5 found, 6 reason -/
def ok_saying (vs : List V) (H : Hp) (d : D) : Prop := ∃ (v : V) (s : Sg), vs = [.str (tx (kdG s.g)), .str (tx s.au), .int (s.n : Int), v] ∧ Rep H v (bodyG s.g) ∧ OkS s ∧ d = sayD s
theorem fn_saying {f : Addr} {fd : FuncData} {k : Nat} (F : Fun K "saying" "saying" s_saying f fd) (N : Nb mg) (g_KINDS : GT K mg "KINDS" kindsV) (C_is_plain : Cal P w K mg base k "is_plain" ["value"] (spV ok_is_plain)) (C_shape_right : Cal P w K mg base k "shape_right" ["kind", "body"] (spV ok_shape)) (C_spoken : Cal P w K mg base k "spoken" ["kind", "body"] (spD ok_spoken)) (C_well_made : Cal P w K mg base k "well_made" ["value"] (spV ok_well)) : FnOk P w K mg base CX0 (k + 1) f fd ["kind", "author", "number", "body"] (spD ok_saying) := by
  refine F.ok sc_saying (fun vs H Q E h => ?_) (fun cdv A outer s H vs Q E hr h => ?_)
  · obtain ⟨_, ⟨_, _, rfl, _⟩, _⟩ := h
    rfl
  · obtain ⟨_, ⟨v, s, rfl, hR, hs, hz⟩, q⟩ := h
    rw [hz] at q
    refine ⟨_, (pss_cons (ps_if (PW.pt (pw_or (pt_cmpR op_notIn_seq (pv 0) (pe_gt g_KINDS) rfl) (pw_or (pt_not (pt_val (pe_callB call_isi (by rfl) N.isinstance PyProof.Rows.boot_isinstance (pa_cons (pv 3) (pa_cons (pe_bltn (v := .ty "tuple") (by rfl) N.tuple PyProof.Rows.boot_tuple rfl) pa_nil))))) (pw_or1 (pt_not (pt_val (pe_cal C_is_plain hr (pa_cons (pv 3) pa_nil)))))))) (pss_one (ps_set (i := 4) sc_saying.nd rfl (Or.inl rfl) (pe_tup pa_nil))) (pss_one (ps_set (i := 4) sc_saying.nd rfl (Or.inl rfl) (pe_ifExp (pt_val (pe_cal C_shape_right hr (pa_cons (pv 0) (pa_cons (pv 3) pa_nil)))) (pe_cal C_spoken hr (pa_cons (pv 0) (pa_cons (pv 3) pa_nil))) (pe_tup pa_nil)))))
      (pss_cons (ps_set (i := 5) sc_saying.nd rfl (Or.inl rfl) (pe_tup (pa_cons (pv 0) (pa_cons (pv 1) (pa_cons (pv 2) (pa_cons (pv 4) (pa_cons (pv 3) pa_nil)))))))
      (pss_cons (ps_set (i := 6) sc_saying.nd rfl (Or.inl rfl) (pe_cal C_well_made hr (pa_cons (pv 5) pa_nil)))
      (pss_cons (ps_if (pt_cmpR op_notN (pv 6) pe_non (nomark _)) (pss_one ps_never) pss_nil)
      (pss_one (ps_ret (pv 5))))))), ?_⟩
    obtain ⟨b1, b2, b3⟩ := body_ok hs.g
    refine q_if (b := false) (et_or (a := false) (b := false) (et_is (et_test (ev_niGT (ev_v rfl) rfl kinds_flat)) (by rw [kind_inL _ (kdG_in s.g)]; rfl)) fun _ => et_or (a := false) (b := false) (et_not (a := true) (et_test (ev_isi (ev_v rfl) hR (by cases s.g <;> rfl)))) fun _ => et_not (a := true) (et_B (ev_cal (ea_cons (ev_v rfl) ea_nil) fun H1 e1 => ⟨_, _, rfl, hR.mono e1, b1, by omega, by omega, rfl⟩))) (fun z => nomatch z) fun _ H1 e1 => ?_
    refine q_asgD (ed_if (b := true) (et_B (ev_cal (ea_cons (ev_v rfl) (ea_cons (ev_v rfl) ea_nil)) fun H2 e2 => .inl ⟨_, s.g, rfl, hR.mono (e1.trans e2), hs.g, rfl⟩)) (fun _ => ed_cal (ea_cons (ev_v rfl) (ea_cons (ev_v rfl) ea_nil)) fun H2 e2 => ⟨_, s.g, rfl, hR.mono (e1.trans e2), hs.g, rfl⟩) (fun z => nomatch z)) fun u H2 e2 r2 => ?_
    have E2 := e1.trans e2
    refine q_asgD (d := sayD s) (ed_tup (er_cons (evd_v (ev_v rfl) (.str _)) (er_cons (evd_v (ev_v rfl) (.str _)) (er_cons (evd_v (ev_v rfl) (.int _)) (er_cons (evd_v (ev_v rfl) r2) (er_cons (evd_v (ev_v rfl) (hR.mono E2)) er_nil))))) (by show 5 ≤ 100000; decide)) fun t H3 e3 r3 => ?_
    have E3 := E2.trans e3
    refine q_asg (v := .non) (ev_cal (ea_cons (ev_v rfl) ea_nil) fun H4 e4 => ⟨_, _, rfl, r3.mono e4, .say hs⟩) fun H4 e4 => ?_
    refine q_when (b := false) (et_test (ev_is (ev_isNN (ev_v rfl)) rfl)) (fun z => nomatch z) fun _ H5 e5 => ?_
    exact s_retD (evd_v (ev_v rfl) (r3.mono (e4.trans e5))) fun v2 H6 e6 r6 => q v2 H6 (((E3.trans e4).trans e5).trans e6) r6
end
end K82

set_option Elab.async false
set_option linter.all false
set_option maxRecDepth 100000
set_option maxHeartbeats 4000000
namespace K82
open PySem PySem.Spec PyProof.Rows L2 Evl My
/-! sayings by names -/
inductive KvAt (f : L → Sg) (H : Hp) : List (Key × V) → List L → Prop
  | nil : KvAt f H [] []
  | cons {k : L} {v : V} {kvs : List (Key × V)} {ks : List L} : Rep H v (sayD (f k)) → KvAt f H kvs ks → KvAt f H ((keyT k, v) :: kvs) (k :: ks)
theorem KvAt.keys {f : L → Sg} {H : Hp} {kvs : List (Key × V)} {ks : List L} (h : KvAt f H kvs ks) : kvs.map (·.1) = ks.map keyT := by
  induction h with
  | nil => rfl
  | cons _ _ ih => rw [List.map_cons, List.map_cons, ih]
theorem KvAt.len {f : L → Sg} {H : Hp} {kvs : List (Key × V)} {ks : List L} (h : KvAt f H kvs ks) : kvs.length = ks.length := by
  have := congrArg List.length h.keys
  rwa [List.length_map, List.length_map] at this
theorem keyT_ne {a b : L} (h : ¬ a = b) : ¬ keyT a = keyT b := fun z => h (inr_tx.mp z)
theorem KvAt.val {f : L → Sg} {H : Hp} {kvs : List (Key × V)} {ks : List L} (h : KvAt f H kvs ks) {k : L} (hk : k ∈ ks) : ∃ v, valV kvs (keyT k) = some v ∧ Rep H v (sayD (f k)) := by
  induction h with
  | nil => exact nomatch hk
  | @cons j v kvs ks r _ ih =>
    by_cases e : j = k
    · subst e
      exact ⟨v, valV_pos (p := (keyT j, v)) rfl, r⟩
    · rw [valV_neg (p := (keyT j, v)) (keyT_ne e)]
      rcases List.mem_cons.mp hk with h | h
      · exact absurd h.symm e
      · exact ih h
theorem nol_say (s : Sg) : NoL (sayD s) := by
  have hb : NoL (bodyG s.g) := by
    cases s.g with
    | drop xs =>
      unfold bodyG
      rw [NoL, NoLL, NoLL, NoLL, NoL, NoL]
      exact ⟨trivial, nol_all fun x _ => by rw [NoL]; trivial, trivial⟩
    | _ => simp [bodyG, NoL, NoLL]
  unfold sayD restD
  rw [NoL, NoLL, NoLL, NoLL, NoLL, NoLL, NoLL, NoL, NoL, NoL, NoL]
  exact ⟨trivial, trivial, trivial, nol_all fun p _ => nol_pair p, hb, trivial⟩
theorem KvAt.keepT {f : L → Sg} {H H1 : Hp} {kvs : List (Key × V)} {ks : List L} (kt : ∀ a us, H a = some (.tup us) → H1 a = some (.tup us)) (h : KvAt f H kvs ks) : KvAt f H1 kvs ks := by
  induction h with
  | nil => exact .nil
  | cons r _ ih => exact .cons (Rep.keepT kt (nol_say _) r) ih
theorem KvAt.mono {f : L → Sg} {H H1 : Hp} {kvs : List (Key × V)} {ks : List L} (e : Ex H H1) (h : KvAt f H kvs ks) : KvAt f H1 kvs ks := h.keepT fun a us ha => e _ _ ha
theorem KvAt.snoc {f : L → Sg} {H : Hp} {kvs : List (Key × V)} {ks : List L} {k : L} {v : V} (h : KvAt f H kvs ks) (r : Rep H v (sayD (f k))) : KvAt f H (kvs ++ [(keyT k, v)]) (ks ++ [k]) := by
  induction h with
  | nil => exact .cons r .nil
  | cons r1 _ ih => exact .cons r1 ih
theorem KvAt.over {f f' : L → Sg} {H : Hp} {kvs : List (Key × V)} {ks : List L} {k : L} {v : V} (h : KvAt f H kvs ks) (hf : ∀ x, x ≠ k → f' x = f x) (r : Rep H v (sayD (f' k))) : KvAt f' H (kvs.map fun kv => if kv.1 = keyT k then (kv.1, v) else kv) ks := by
  induction h with
  | nil => exact .nil
  | @cons j u kvs ks r1 _ ih =>
    rw [List.map_cons]
    by_cases e : j = k
    · subst e
      rw [if_pos rfl]
      exact .cons r ih
    · rw [if_neg (keyT_ne e)]
      exact .cons (by rw [hf j e]; exact r1) ih
theorem KvAt.same {f f' : L → Sg} {H : Hp} {kvs : List (Key × V)} {ks : List L} (h : KvAt f H kvs ks) (hf : ∀ x ∈ ks, f' x = f x) : KvAt f' H kvs ks := by
  induction h with
  | nil => exact .nil
  | @cons j u kvs ks r1 _ ih => exact .cons (by rw [hf j (by simp)]; exact r1) (ih fun x hx => hf x (by simp [hx]))
theorem KvAt.put {f f' : L → Sg} {H : Hp} {kvs : List (Key × V)} {ks : List L} {k : L} {v : V} (h : KvAt f H kvs ks) (hf : ∀ x, x ≠ k → f' x = f x) (r : Rep H v (sayD (f' k))) : KvAt f' H (putK kvs (keyT k) v) (addF ks k) := by
  unfold putK addF
  rw [valV_any, keyT_in h.keys]
  by_cases hk : k ∈ ks
  · rw [decide_eq_true hk, if_pos rfl, if_pos hk]
    exact h.over hf r
  · rw [decide_eq_false hk, if_neg (by decide), if_neg hk]
    exact (h.same fun x hx => hf x fun e => hk (by rw [← e]; exact hx)).snoc r
theorem KvAt.merge {f : L → Sg} {H : Hp} {more : List (Key × V)} {ms : List L} (h : KvAt f H more ms) : ∀ {kvs : List (Key × V)} {ks : List L}, KvAt f H kvs ks → KvAt f H (mergeK kvs more) (ms.foldl addF ks) := by
  induction h with
  | nil => exact fun h => h
  | cons r _ ih => exact fun h => ih (h.put (fun _ _ => rfl) r)
def HdAt (f : L → Sg) (H : Hp) (d : Addr) (ks : List L) : Prop := ∃ kvs : List (Key × V), H d = some (.dK kvs) ∧ KvAt f H kvs ks
theorem HdAt.mono {f : L → Sg} {H H' : Hp} {d : Addr} {ks : List L} (e : Ex H H') (h : HdAt f H d ks) : HdAt f H' d ks := by
  obtain ⟨kvs, h1, h2⟩ := h
  exact ⟨kvs, e _ _ h1, h2.mono e⟩
/-! what rests lead to -/
def rs (f : L → Sg) (k : L) : List L := (rstG (f k).g).map (·.2)
inductive Reach (f : L → Sg) (x : L) : L → Prop
  | base : Reach f x x
  | step {y z : L} : Reach f x y → z ∈ rs f y → Reach f x z
structure Clo (f : L → Sg) (ks : List L) : Prop where
  nd : ks.Nodup
  ok : ∀ k ∈ ks, OkS (f k) ∧ nmS (f k) = k
  rest : ∀ k ∈ ks, ∀ y ∈ rs f k, y ∈ ks
  few : ks.length ≤ 100
theorem Clo.nm {f : L → Sg} {ks : List L} (h : Clo f ks) : ∀ k ∈ ks, nmP k := fun k hk => by
  rw [← (h.ok k hk).2]
  exact nmD_ok _
theorem Reach.mem {f : L → Sg} {ks : List L} (h : Clo f ks) {x y : L} (hx : x ∈ ks) (r : Reach f x y) : y ∈ ks := by
  induction r with
  | base => exact hx
  | step _ hz ih => exact h.rest _ ih _ hz
noncomputable def pickP (p : L → Prop) (ks : List L) : List L := sortF (ks.filter fun y => @decide (p y) (Classical.propDecidable _))
theorem pick_mem {p : L → Prop} {ks : List L} {y : L} : y ∈ pickP p ks ↔ y ∈ ks ∧ p y := by
  unfold pickP
  rw [sort_mem, List.mem_filter]
  exact and_congr_right fun _ => ⟨fun h => @of_decide_eq_true _ (Classical.propDecidable _) h, fun h => @decide_eq_true _ (Classical.propDecidable _) h⟩
theorem pick_nodup {p : L → Prop} {ks : List L} (h : ks.Nodup) : (pickP p ks).Nodup := sort_nodup (h.filter _)
theorem pick_len (p : L → Prop) (ks : List L) : (pickP p ks).length ≤ ks.length := by
  unfold pickP
  rw [sort_len]
  exact List.length_filter_le _ _
theorem nodup_perm : ∀ {a b : List L}, a.Nodup → b.Nodup → (∀ x, x ∈ a ↔ x ∈ b) → a.Perm b := fun ha hb h => (List.perm_ext_iff_of_nodup ha hb).mpr h
theorem sort_pick {p : L → Prop} {ks fs : List L} (hk : ks.Nodup) (hf : fs.Nodup) (h : ∀ y, y ∈ fs ↔ y ∈ ks ∧ p y) : sortF fs = pickP p ks := sort_unique (sort_sorted _) (sort_sorted _) (nodup_perm (sort_nodup hf) (pick_nodup hk) fun x => by rw [sort_mem, pick_mem, h])
/-! readings -/
theorem say_at {H : Hp} {v : V} {s : Sg} (h : Rep H v (sayD s)) : ∃ a r us b, v = .ref a ∧ H a = some (.tup [.str (tx (kdG s.g)), .str (tx s.au), .int (s.n : Int), .ref r, b]) ∧ H r = some (.tup us) ∧ Reps H us ((rstG s.g).map pairD) := by
  unfold sayD restD at h
  cases h with
  | tup ha rs => cases rs with
    | cons r0 rs => cases rs with
      | cons r1 rs => cases rs with
        | cons r2 rs => cases rs with
          | cons r3 rs => cases rs with
            | cons r4 rs =>
              cases rs
              cases r0
              cases r1
              cases r2
              cases r3 with
              | tup hr rr => exact ⟨_, _, _, _, rfl, ha, hr, rr⟩
theorem pair_at {H : Hp} {v : V} {p : L × L} (h : Rep H v (pairD p)) : ∃ a, v = .ref a ∧ H a = some (.tup [.str (tx p.1), .str (tx p.2)]) := by
  unfold pairD at h
  cases h with
  | tup ha rs => cases rs with
    | cons r0 rs => cases rs with
      | cons r1 rs =>
        cases rs
        cases r0
        cases r1
        exact ⟨_, rfl, ha⟩
section
variable {K : PySem.W.Frag} {σ : L2.St} {H : Hp} {te tl : TE} {kvs : List (Key × V)} {d : Addr} {ks : List L}
theorem el_sortKv (h : Ev te σ H (.ref d)) (hd : H d = some (.dK kvs)) (hk : kvs.map (·.1) = ks.map keyT) (hn : ks.length ≤ 100000) : EvL (tCB rSortDA (tCons te tNil)) σ H (txs (sortF ks)) := fun H1 e Q q =>
  h H1 e _ fun H2 e2 => ⟨d, kvs, ks.map tx, rfl, .inl ((e.trans e2) d _ hd), by rw [hk, List.map_map]; rfl, by rw [List.length_map]; exact hn, fun ys p hp hs hn => by
    have := sorted_is hp hs
    subst this
    rw [List.map_map]
    exact q p _ (fresh_back e2 hn) (e2.trans (Ex.new hn)) upd_same⟩
theorem r_dcTE {Q : VK} {g : TG} {tt : TT} {tk tv : TE} {vs : List Nat} {xs : List V} (hl : EvP tl σ H (IsT K xs)) (Pv : Hp → Addr → Nat → Hp → Prop) (h0 : ∀ H1 D, Ex H H1 → H1 D = none → Pv H1 D 0 (upd H1 D (.dK []))) (hs0 : ∀ H1 D i H', Pv H1 D i H' → ∀ a, SqT K H1 a xs → SqT K H' a xs)
    (hs : ∀ H1 D, Ex H H1 → H1 D = none → ∀ i x H', xs[i]? = some x → Pv H1 D i H' → g x (wipe σ vs) H' fun σ2 H2 => wipe σ2 vs = wipe σ vs ∧ tt σ2 H2 fun b H3 =>
      if b = true then tk σ2 H3 fun y H4 => tv σ2 H4 fun z H5 => ∃ kvs k, y = kV k ∧ H5 D = some (.dK kvs) ∧ kvs.length < sizeLine ∧ Pv H1 D (i + 1) (upd H5 D (.dK (putK kvs k z))) else Pv H1 D (i + 1) H3) (hd : ∀ H1 D H', Ex H H1 → H1 D = none → Pv H1 D xs.length H' → Q (.ref D) H') : tDc (iTup K tl) g tt tk tv vs σ H Q :=
  hl H (Ex.refl H) _ fun v H1 e1 ⟨a, hv, hS⟩ => ⟨a, hv, ⟨xs, hS⟩, fun D hD => dc_tup (Pv H1 D) (h0 H1 D e1 hD) (fun i H' _ p => hs0 H1 D i H' p a hS) (hs H1 D e1 hD) fun H' p => hd H1 D H' e1 hD p⟩
end
theorem r_dupd {td te : TE} {σ : L2.St} {H : Hp} {Q : VK} (h : td σ H fun x H1 => ∃ a, x = .ref a ∧ IsD H1 a ∧ te σ H1 fun y H2 => ∃ (b : Addr) (kvs more : List (Key × V)), y = .ref b ∧ a ≠ b ∧ H2 a = some (.dK kvs) ∧ H2 b = some (.dK more) ∧ kvs.length + more.length ≤ 100000 ∧ Q .non (upd H2 a (.dK (mergeK kvs more)))) : tDUpd td te σ H Q := h
theorem snoc {α : Type} {l : List α} (h : l ≠ []) : ∃ a x, l = a ++ [x] := ⟨l.dropLast, l.getLast h, (List.dropLast_concat_getLast h).symm⟩
theorem dk_val {fs : List L} {y : L} : (valV (dkS fs) (.inr (tx y))).isSome = decide (y ∈ fs) := by
  rw [← valV_any]
  exact dkS_any fs y
section
variable {P : Program} {w : World} {K : PySem.W.Frag} {mg : Str → Option Value} {base : Heap}
abbrev s_reached : Stmt := topS 52
theorem sc_reached : FnScope ["sayings", "name", "found", "left", "here", "_", "rest"] ["sayings", "name"] (defScope s_reached) := ⟨rfl, rfl, rfl, by decide +kernel, rfl, by decide +kernel, by decide +kernel⟩
/- 0 sayings, 1 name, 2 found, 3 left, 4 here, 5 _, 6 rest -/
def ok_reached (vs : List V) (H : Hp) (d : D) : Prop := ∃ (a : Addr) (f : L → Sg) (ks : List L) (x : L), vs = [.ref a, .str (tx x)] ∧ HdAt f H a ks ∧ Clo f ks ∧ x ∈ ks ∧ d = .tup ((pickP (Reach f x) ks).map .str)
theorem fn_reached {f : Addr} {fd : FuncData} {k : Nat} (F : Fun K "reached" "reached" s_reached f fd) (N : Nb mg) : FnOk P w K mg base CX0 (k + 1) f fd ["sayings", "name"] (spD ok_reached) := by
  refine F.ok sc_reached (fun vs H Q E h => ?_) (fun cdv A outer s H vs Q E hr h => ?_)
  · obtain ⟨_, ⟨_, _, _, _, rfl, _⟩, _⟩ := h
    rfl
  · obtain ⟨_, ⟨a, f, ks, x, rfl, ⟨kvs, hk, hkv⟩, hc, hx, hz⟩, q⟩ := h
    rw [hz] at q
    refine ⟨_, (pss_cons (ps_set (i := 2) sc_reached.nd rfl (Or.inl rfl) (pe_disp (pps_cons (pv 1) pe_bl pps_nil) rfl rfl (fun z => nomatch z) (by decide)))
      (pss_cons (ps_set (i := 3) sc_reached.nd rfl (Or.inl rfl) (pe_lst (pa_cons (pv 1) pa_nil)))
      (pss_cons (ps_while PassesOwn.never (pt_truth (pv 3) (by intro _; rfl)) (pss_cons (ps_set (i := 4) sc_reached.nd rfl (Or.inl rfl) (pe_bm0 PySem.F.plainAttrs_list PySem.F.slot_list_pop PySem.F.type_list_pop mt_pop (pv 3)))
      (pss_one (ps_if (pt_cmp (pc_din (hu_of hr) (pv 4) (pv 0))) (pss_one (ps_for PassesOwn.never rfl (pi_tup (pe_ix ix_tup (pe_dget (hu_of hr) (pv 0) (pv 4) (fun _ _ => rfl)) pe_int (fun _ _ => rfl))) (pg_tup rfl (pgs_cons (pg_name (i := 5) sc_reached.nd rfl (Or.inl rfl)) (pgs_cons (pg_name (i := 6) sc_reached.nd rfl (Or.inl rfl)) pgs_nil))) (pss_one (ps_if (pt_cmp (pc_dnotin (hu_of hr) (pv 6) (pv 2))) (pss_cons (ps_dput (hu_of hr) (pv 2) (pv 6) pe_bl rfl)
      (pss_one (ps_expr (pe_bm PySem.F.plainAttrs_list PySem.F.slot_list_append PySem.F.type_list_append mt_append (pv 3) (pa_cons (pv 6) pa_nil))))) pss_nil)))) pss_nil))))
      (pss_one (ps_ret (pe_callTy call_tuple_of (by rfl) N.tuple PyProof.Rows.boot_tuple (pa_cons (pe_callB (cr_sortedDA rfl) (by rfl) N.sorted PyProof.Rows.boot_sorted (pa_cons (pv 2) pa_nil)) pa_nil))))))), ?_⟩
    refine r_asg (fun dF hdF => r_var rfl (r_c ⟨upd_same, [(keyT x, .bl true)], rfl, by show 1 ≤ 15; decide, ?_⟩))
    have hmk : mergeK [] [(keyT x, V.bl true)] = dkS [x] := rfl
    rw [hmk]
    have EF : Ex H (upd (upd H dF (.dK [])) dF (.dK (dkS [x]))) := (Ex.new hdF).mut hdF
    have hF0 : (upd (upd H dF (.dK [])) dF (.dK (dkS [x]))) dF = some (.dK (dkS [x])) := upd_same
    generalize upd (upd H dF (.dK [])) dF (.dK (dkS [x])) = H0 at EF hF0 ⊢
    have hSF : a ≠ dF := fun z => by rw [z, hdF] at hk; exact nomatch hk
    refine q_asgL (xs := txs [x]) (el_lst (ea_cons (ev_v rfl) ea_nil) (by show 1 ≤ 100000; decide)) fun qL H2 hqL e2 h2 => ?_
    have hqL0 := fresh_back EF hqL
    have hqF : dF ≠ qL := fun z => by rw [← z, hF0] at hqL; exact nomatch hqL
    have hqS : a ≠ qL := fun z => by rw [← z, hk] at hqL0; exact nomatch hqL0
    have hfew := hc.few
    let St : List L → List L → Hp → Prop := fun fs qs H' => Ex H H' ∧ H' dF = some (.dK (dkS fs)) ∧ H' qL = some (.lst (txs qs)) ∧ fs.Nodup ∧ (∀ y ∈ fs, Reach f x y) ∧ (∀ y ∈ qs, y ∈ fs) ∧ x ∈ fs ∧ qs.length ≤ 200
    let W : Nat → L2.St → Hp → Prop := fun m σ' H' => ∃ (fs qs : List L) (y4 y5 y6 : Option V), m = 2 * (ks.length - fs.length) + qs.length ∧ St fs qs H' ∧ (∀ y ∈ fs, y ∈ qs ∨ ∀ z ∈ rs f y, z ∈ fs) ∧ m ≤ 2 * ks.length + 1 ∧ σ' = [some (.ref a), some (.str (tx x)), some (.ref dF), some (.ref qL), y4, y5, y6]
    have hxl : 1 ≤ ks.length := List.length_pos_of_mem hx
    refine q_while W (2 * (ks.length - 1) + 1) ⟨[x], [x], none, none, none, rfl, ⟨EF.trans e2, e2 _ _ hF0, h2, by simp, fun y h => by
      rw [List.mem_singleton.mp h]
      exact .base, fun y h => h, by simp, by show 1 ≤ 200; decide⟩, fun y h => .inl h, by omega, rfl⟩ ?_
    rintro m σ' H' ⟨fs, qs, y4, y5, y6, hm, ⟨e', hF', hQ', hfn, hfs, hqs, hx', hql⟩, hcl, hmb, rfl⟩
    by_cases hq0 : qs = []
    · subst hq0
      refine ⟨false, fun H3 e3 Q' q' => r_ev (ev_v (v := .ref qL) rfl) (Ex.refl _) fun H4 e4 => ⟨false, .inl ⟨[], sq_of ((e3.trans e4) _ _ hQ'), rfl⟩, q' H4 e4⟩, (fun z => nomatch z), fun _ H3 e3 => ?_⟩
      have E3 := e'.trans e3
      have hall : ∀ y, Reach f x y → y ∈ fs := fun y h => by
        induction h with
        | base => exact hx'
        | step _ hy ih => exact (hcl _ ih).resolve_left (by simp) _ hy
      have hmem : ∀ y, y ∈ fs ↔ y ∈ ks ∧ Reach f x y := fun y => ⟨fun h => ⟨(hfs y h).mem hc hx, hfs y h⟩, fun h => hall y h.2⟩
      have hfl := nodup_sub hfn (fun z hz => ((hmem z).mp hz).1)
      exact s_retD (ed_txs (eu_tupL (el_is (el_sortD (ev_v rfl) (e3 _ _ hF') (by omega)) (by rw [sort_pick hc.nd hfn hmem]; rfl)))) fun v H4 e4 r4 => q v H4 (E3.trans e4) r4
    · obtain ⟨qs', y, rfl⟩ := snoc hq0
      refine ⟨true, fun H3 e3 Q' q' => r_ev (ev_v (v := .ref qL) rfl) (Ex.refl _) fun H4 e4 => ⟨true, .inl ⟨txs (qs' ++ [y]), sq_of ((e3.trans e4) _ _ hQ'), by unfold txs; rw [List.map_append]; cases qs' <;> rfl⟩, q' H4 e4⟩, fun _ H3 e3 => ⟨fun σ2 H2 => ∃ m', m' < m ∧ W m' σ2 H2, fun _ _ h => h, ?_⟩, fun z => nomatch z⟩
      have E3 := e'.trans e3
      refine r_asg (r_bm0 (r_ev (ev_v (v := .ref qL) rfl) (Ex.refl _) fun H4 e4 => ⟨.inl ⟨rfl, _, sq_of ((e3.trans e4) _ _ hQ')⟩, qL, txs (qs' ++ [y]), .str (tx y), rfl, rfl, (e3.trans e4) _ _ hQ', ?_, ?_⟩))
      · rw [txs_len, List.length_append]
        exact txs_get (by rw [List.getElem?_append_right (by show _ ≤ qs'.length + 1 - 1; omega)]; show [y][qs'.length + 1 - 1 - qs'.length]? = _; rw [show qs'.length + 1 - 1 - qs'.length = 0 by omega]; rfl)
      have hdl : (txs (qs' ++ [y])).dropLast = txs qs' := by
        unfold txs
        rw [List.map_append]
        exact List.dropLast_concat
      rw [hdl]
      have E4 := E3.trans e4
      have hF4 := (e3.trans e4) _ _ hF'
      have Eq : Ex H (upd H4 qL (.lst (txs qs'))) := E4.mut hqL0
      have hFq : (upd H4 qL (.lst (txs qs'))) dF = some (.dK (dkS fs)) := by rw [upd_ne hqF]; exact hF4
      have hQq : (upd H4 qL (.lst (txs qs'))) qL = some (.lst (txs qs')) := upd_same
      generalize upd H4 qL (.lst (txs qs')) = H5 at Eq hFq hQq ⊢
      have hyf := hqs y (by simp)
      have hyr := hfs y hyf
      have hyk := hyr.mem hc hx
      rw [List.length_append] at hm hql
      have hm : m = 2 * (ks.length - fs.length) + (qs'.length + 1) := hm
      have hql : qs'.length + 1 ≤ 200 := hql
      obtain ⟨vy, hvy, hry⟩ := hkv.val hyk
      obtain ⟨ya, yr, us, yb, rfl, hya, hyR, hus⟩ := say_at hry
      have hul := hus.len
      rw [List.length_map] at hul
      refine s_if (D := { nx := _, rt := _, ct := _, bk := _ }) (b := true) (et_B (ev_is (ev_din (ev_v rfl) (Eq _ _ hk) (ev_v rfl)) (by rw [show (Sum.inr (tx y) : Key) = keyT y from rfl, keyT_in hkv.keys, decide_eq_true hyk]))) (fun _ H6 e6 => ?_) (fun z => nomatch z)
      have E6 := Eq.trans e6
      refine s_forT (xs := us) (ev_ixT (j := 3) (v := .ref yr) (ev_dget (ev_v rfl) (E6 _ _ hk) (ev_v rfl) hvy) (ev_cn 3) (st_of (E6 _ _ hya)) rfl) (st_of (E6 _ _ hyR)) (fun i σ' H' => ∃ (fs2 qs2 : List L) (y5 y6 : Option V), St fs2 qs2 H' ∧ 2 * (ks.length - fs2.length) + qs2.length ≤ 2 * (ks.length - fs.length) + qs'.length ∧ (∀ z ∈ fs2, z = y ∨ z ∈ qs2 ∨ ∀ u ∈ rs f z, u ∈ fs2) ∧ (∀ (j : Nat) (z : L), j < i → (rs f y)[j]? = some z → z ∈ fs2) ∧ qs2.length ≤ qs'.length + i ∧ qs2.length + fs.length ≤ fs2.length + qs'.length ∧ σ' = [some (.ref a), some (.str (tx x)), some (.ref dF), some (.ref qL), some (.str (tx y)), y5, y6]) (fun H7 e7 => ⟨fs, qs', _, _, ⟨E6.trans e7, (e6.trans e7) _ _ hFq, (e6.trans e7) _ _ hQq, hfn, hfs, fun z hz => hqs z (List.mem_append_left _ hz), hx', by omega⟩, Nat.le_refl _, fun z hz => by
          rcases hcl z hz with h | h
          · rcases List.mem_append.mp h with h | h
            · exact .inr (.inl h)
            · exact .inl (List.mem_singleton.mp h)
          · exact .inr (.inr h), fun j z hj => absurd hj (by omega), Nat.le_refl _, Nat.le_of_eq (Nat.add_comm _ _), rfl⟩) (fun i σ' H' _ h => by
          obtain ⟨_, _, _, _, h, _⟩ := h
          exact st_of (h.1 _ _ hyR)) ?_ ?_
      · rintro i v σ' H' hv ⟨fs2, qs2, y5, y6, ⟨g1, g2, g3, g4, g5, g6, g7, g8⟩, hle, hcl2, hdn, hq2, hq3, rfl⟩
        obtain ⟨dp, hdp, hrp⟩ := hus.get' hv
        rw [List.getElem?_map] at hdp
        obtain ⟨pp, hpp, rfl⟩ := Option.map_eq_some_iff.mp hdp
        obtain ⟨pa, rfl, hpa⟩ := pair_at hrp
        have hrz : (rs f y)[i]? = some pp.2 := by
          unfold rs
          rw [List.getElem?_map, hpp]
          rfl
        have hzm : pp.2 ∈ rs f y := List.mem_of_getElem? hrz
        have hzr : Reach f x pp.2 := .step hyr hzm
        have hzk := hzr.mem hc hx
        refine ⟨_, _, rfl, st_of (g1 _ _ hpa), rfl, _, _, rfl, _, _, rfl, rfl, ?_⟩
        refine s_when (b := !decide (pp.2 ∈ fs2)) (et_B (ev_is (ev_dni (ev_v rfl) g2 (ev_v rfl)) (by rw [dk_val]))) (fun hb H7 e7 => ?_) fun hb H7 e7 => ?_
        · rw [Bool.not_eq_true'] at hb
          have hyn := of_decide_eq_false hb
          have hnd2 : (fs2 ++ [pp.2]).Nodup := by
            rw [List.nodup_append]
            refine ⟨g4, by simp, fun c hc d hd => ?_⟩
            rw [List.mem_singleton.mp hd]
            exact fun e => hyn (e ▸ hc)
          have hsub2 : fs2.length + 1 ≤ ks.length := by
            have := nodup_sub (a := fs2 ++ [pp.2]) (b := ks) hnd2 (fun z hz => by
              rcases List.mem_append.mp hz with hz | hz
              · exact (g5 z hz).mem hc hx
              · rw [List.mem_singleton.mp hz]
                exact hzk)
            rw [List.length_append] at this
            exact this
          refine q_dput (kvs := dkS fs2) (e7 _ _ g2) ev_c (ev_v rfl) (ev_v rfl) (by unfold dkS; rw [List.length_map]; omega) fun H8 e8 => ?_
          rw [dkS_put, if_neg hyn]
          have E8 : Ex H H8 := (g1.trans e7).trans e8
          have hQd : (upd H8 dF (.dK (dkS (fs2 ++ [pp.2])))) qL = some (.lst (txs qs2)) := by rw [upd_ne hqF.symm]; exact (e7.trans e8) _ _ g3
          have Ed : Ex H (upd H8 dF (.dK (dkS (fs2 ++ [pp.2])))) := E8.mut hdF
          have hFd : (upd H8 dF (.dK (dkS (fs2 ++ [pp.2])))) dF = some (.dK (dkS (fs2 ++ [pp.2]))) := upd_same
          generalize upd H8 dF (.dK (dkS (fs2 ++ [pp.2]))) = H9 at hQd Ed hFd ⊢
          refine r_dropE (r_bm (r_ev (ev_v (v := .ref qL) rfl) (Ex.refl _) fun H10 e10 => ⟨.inl ⟨rfl, _, sq_of (e10 _ _ hQd)⟩, r_cons (r_var rfl (r_nil ⟨qL, txs qs2, _, rfl, rfl, e10 _ _ hQd, sz_lt (by rw [txs_len]; omega), ?_⟩))⟩))
          refine ⟨fs2 ++ [pp.2], qs2 ++ [pp.2], _, _, ⟨(Ed.trans e10).mut hqL0, ?_, ?_, hnd2, ?_, ?_, ?_, ?_⟩, ?_, ?_, ?_, ?_, ?_, rfl⟩
          · rw [upd_ne hqF]
            exact e10 _ _ hFd
          · rw [upd_same]
            unfold txs
            rw [List.map_append]
            rfl
          · intro z hz
            rcases List.mem_append.mp hz with hz | hz
            · exact g5 z hz
            · rw [List.mem_singleton.mp hz]
              exact hzr
          · intro z hz
            rcases List.mem_append.mp hz with hz | hz
            · exact List.mem_append_left _ (g6 z hz)
            · exact List.mem_append_right _ hz
          · exact List.mem_append_left _ g7
          · rw [List.length_append]
            show qs2.length + 1 ≤ 200
            have := nodup_sub hnd2 (b := ks) (fun z hz => by
              rcases List.mem_append.mp hz with hz | hz
              · exact (g5 z hz).mem hc hx
              · rw [List.mem_singleton.mp hz]
                exact hzk)
            omega
          · rw [List.length_append, List.length_append]
            show 2 * (ks.length - (fs2.length + 1)) + (qs2.length + 1) ≤ _
            omega
          · intro z hz
            rcases List.mem_append.mp hz with hz | hz
            · rcases hcl2 z hz with h | h | h
              · exact .inl h
              · exact .inr (.inl (List.mem_append_left _ h))
              · exact .inr (.inr fun u hu => List.mem_append_left _ (h u hu))
            · exact .inr (.inl (List.mem_append_right _ hz))
          · intro j z hj hz
            by_cases hji : j = i
            · subst hji
              rw [hrz] at hz
              cases hz
              exact List.mem_append_right _ (by simp)
            · exact List.mem_append_left _ (hdn j z (by omega) hz)
          · rw [List.length_append]
            show qs2.length + 1 ≤ _
            omega
          · rw [List.length_append, List.length_append]
            show qs2.length + 1 + _ ≤ fs2.length + 1 + _
            omega
        · rw [Bool.not_eq_false'] at hb
          have hyn := of_decide_eq_true hb
          refine ⟨fs2, qs2, _, _, ⟨g1.trans e7, e7 _ _ g2, e7 _ _ g3, g4, g5, g6, g7, g8⟩, hle, hcl2, fun j z hj hz => ?_, by omega, hq3, rfl⟩
          by_cases hji : j = i
          · subst hji
            rw [hrz] at hz
            cases hz
            exact hyn
          · exact hdn j z (by omega) hz
      · rintro σ' H' ⟨fs2, qs2, y5, y6, hst, hle, hcl2, hdn, hq2, hq3, rfl⟩
        refine ⟨_, ?_, fs2, qs2, _, _, _, rfl, hst, fun z hz => ?_, by omega, rfl⟩
        · omega
        · rcases hcl2 z hz with h | h | h
          · subst h
            refine .inr fun u hu => ?_
            obtain ⟨j, hj, hju⟩ := List.getElem_of_mem hu
            have hj2 : j < us.length := by
              unfold rs at hj
              rw [List.length_map] at hj
              omega
            exact hdn j u hj2 (by rw [List.getElem?_eq_getElem hj, hju])
          · exact .inl h
          · exact .inr h
abbrev s_closure : Stmt := topS 53
theorem sc_closure : FnScope ["sayings", "name", "one"] ["sayings", "name"] (defScope s_closure) := ⟨rfl, rfl, rfl, by decide +kernel, rfl, by decide +kernel, by decide +kernel⟩
/- 0 sayings*, 1 name, 2 one -/
theorem fn_closure {f : Addr} {fd : FuncData} {k : Nat} (F : Fun K "closure" "closure" s_closure f fd) (N : Nb mg) (C_reached : Cal P w K mg base k "reached" ["sayings", "name"] (spD ok_reached)) : FnOk P w K mg base CX0 (k + 1) f fd ["sayings", "name"] (spD ok_reached) := by
  refine F.ok sc_closure (fun vs H Q E h => ?_) (fun cdv A outer s H vs Q E hr h => ?_)
  · obtain ⟨_, ⟨_, _, _, _, rfl, _⟩, _⟩ := h
    rfl
  · obtain ⟨_, ⟨a, f, ks, x, rfl, ⟨kvs, hk, hkv⟩, hc, hx, hz⟩, q⟩ := h
    rw [hz] at q
    refine ⟨_, (pss_one (ps_ret (pe_callTy call_tuple_of (by rfl) N.tuple PyProof.Rows.boot_tuple (pa_cons (pe_lc (own := [("one", 2)]) (by rfl) sc_closure.nd (pi_tup (pe_cal C_reached hr (pa_cons (pv 0) (pa_cons (pv 1) pa_nil)))) (blkOk_by (own := [("one", 2)]) (N := ["sayings", "name", "one"]) (sc := defScope s_closure) (by decide +kernel)) (fun _ _ _ _ _ => (pg_name (i := 2) sc_closure.nd rfl (Or.inl rfl))) (fun _ _ _ _ _ => (pts_one (pt_cmp (pc_din (hu_of hr) (pv 2) (pv 0))))) (fun _ _ _ _ _ => (pv 2))) pa_nil)))), ?_⟩
    have hfew := hc.few
    have hpl := pick_len (Reach f x) ks
    refine s_retD (ed_txs (eu_tupL (el_is (el_lcTP (fun _ => true) (fun v => v) (evt_d (ed_cal (ea_cons (ev_v rfl) (ea_cons (ev_v rfl) ea_nil)) fun H1 e1 => ⟨a, f, ks, x, rfl, ⟨kvs, e1 _ _ hk, hkv.mono e1⟩, hc, hx, rfl⟩)) (by rw [txs_len]; omega) (fun _ => rfl) (fun v H1 e1 hv => ?_) fun v H1 e1 hv _ => ev_v rfl) ?_))) q
    · obtain ⟨y, hy, rfl⟩ := txs_mem hv
      exact et_B (ev_is (ev_din (ev_v rfl) (e1 _ _ hk) (ev_v rfl)) (by rw [show (Sum.inr (tx y) : Key) = keyT y from rfl, keyT_in hkv.keys, decide_eq_true (pick_mem.mp hy).1]))
    · rw [filt_true, List.map_id']
abbrev s_bundle : Stmt := topS 79
theorem sc_bundle : FnScope ["sayings", "names", "found", "name", "one"] ["sayings", "names"] (defScope s_bundle) := ⟨rfl, rfl, rfl, by decide +kernel, rfl, by decide +kernel, by decide +kernel⟩
/- 0 sayings*, 1 names, 2 found*, 3 name, 4 one -/
def BunP (f : L → Sg) (ns : List L) (y : L) : Prop := ∃ x ∈ ns, Reach f x y
noncomputable def bunD (f : L → Sg) (ks ns : List L) : D := .tup ((pickP (BunP f ns) ks).map fun k => sayD (f k))
def ok_bundle (vs : List V) (H : Hp) (d : D) : Prop := ∃ (a b : Addr) (f : L → Sg) (ks ns : List L), vs = [.ref a, .ref b] ∧ HdAt f H a ks ∧ Clo f ks ∧ H b = some (.tup (txs ns)) ∧ (∀ x ∈ ns, x ∈ ks) ∧ ns.length ≤ 100 ∧ d = bunD f ks ns
theorem fn_bundle {f : Addr} {fd : FuncData} {k : Nat} (F : Fun K "bundle" "bundle" s_bundle f fd) (N : Nb mg) (C_closure : Cal P w K mg base k "closure" ["sayings", "name"] (spD ok_reached)) : FnOk P w K mg base CX0 (k + 1) f fd ["sayings", "names"] (spD ok_bundle) := by
  refine F.ok sc_bundle (fun vs H Q E h => ?_) (fun cdv A outer s H vs Q E hr h => ?_)
  · obtain ⟨_, ⟨_, _, _, _, _, rfl, _⟩, _⟩ := h
    rfl
  · obtain ⟨_, ⟨a, b, f, ks, ns, rfl, ⟨kvs, hk, hkv⟩, hc, hb, hns, hnl, hz⟩, q⟩ := h
    rw [hz] at q
    refine ⟨_, (pss_cons (ps_set (i := 2) sc_bundle.nd rfl (Or.inr rfl) pe_dnewK)
      (pss_cons (ps_for PassesOwn.never rfl (pi_tup (pv 1)) (pg_name (i := 3) sc_bundle.nd rfl (Or.inl rfl)) (pss_one (ps_expr (pe_dupd (pv 2) (pe_dc (own := [("one", 4)]) (by rfl) sc_bundle.nd (pi_tup (pe_cal C_closure hr (pa_cons (pv 0) (pa_cons (pv 3) pa_nil)))) (blkOk_by (own := [("one", 4)]) (N := ["sayings", "names", "found", "name", "one"]) (sc := defScope s_bundle) (by decide +kernel)) (fun _ _ _ _ _ => (pg_name (i := 4) sc_bundle.nd rfl (Or.inl rfl))) (fun _ _ _ _ _ => pts_nil) (fun _ _ _ _ _ => (pv 4)) (fun _ _ _ _ _ => (pe_dget (hu_of hr) (pv 0) (pv 4) (fun _ _ => rfl)))) ⟨rfl, rfl, rfl, rfl⟩))))
      (pss_one (ps_ret (pe_callTy call_tuple_of (by rfl) N.tuple PyProof.Rows.boot_tuple (pa_cons (pe_lc (own := [("name", 3)]) (by rfl) sc_bundle.nd (pi_list (pe_callB (cr_sortedDA rfl) (by rfl) N.sorted PyProof.Rows.boot_sorted (pa_cons (pv 2) pa_nil))) (blkOk_by (own := [("name", 3)]) (N := ["sayings", "names", "found", "name", "one"]) (sc := defScope s_bundle) (by decide +kernel)) (fun _ _ _ _ _ => (pg_name (i := 3) sc_bundle.nd rfl (Or.inl rfl))) (fun _ _ _ _ _ => pts_nil) (fun _ _ _ _ _ => (pe_dget (hu_of hr) (pv 2) (pv 3) (fun _ _ => rfl)))) pa_nil)))))), ?_⟩
    have hfew := hc.few
    refine q_dnew fun dF hdF => ?_
    have hSF : a ≠ dF := fun z => by rw [z, hdF] at hk; exact nomatch hk
    refine q_forT (xs := txs ns) (ev_v rfl) (st_of ((Ex.new hdF) _ _ hb)) (fun i σ' H' => ∃ (es : List L) (evs : List (Key × V)) (y3 y4 : Option V), Ex H H' ∧ H' dF = some (.dK evs) ∧ KvAt f H' evs es ∧ es.Nodup ∧ (∀ y, y ∈ es ↔ BunP f (ns.take i) y) ∧ σ' = [some (.ref a), some (.ref b), some (.ref dF), y3, y4]) (fun H1 e1 => ⟨[], [], none, none, (Ex.new hdF).trans e1, e1 _ _ upd_same, .nil, List.nodup_nil, fun y => ⟨(fun h => nomatch h), (fun ⟨x, hx, _⟩ => nomatch hx)⟩, rfl⟩) (fun i σ' H' _ h => by
      obtain ⟨_, _, _, _, h, _⟩ := h
      exact st_of (h _ _ hb)) ?_ ?_
    · rintro i v σ' H' hv ⟨es, evs, y3, y4, e', hF', hev, hen, hem, rfl⟩
      obtain ⟨rfl, hi, hgx⟩ := txs_get' hv
      have hxk : ns.getD i [] ∈ ks := hns _ (List.mem_of_getElem? hgx)
      generalize hx : ns.getD i [] = x at hxk hgx
      have hpl := pick_len (Reach f x) ks
      refine r_dropE (r_dupd (r_ev (ev_v (v := .ref dF) rfl) (Ex.refl _) fun H1 e1 => ⟨dF, rfl, .inl ⟨evs, .inl (e1 _ _ hF')⟩, ?_⟩))
      have E1 := e'.trans e1
      have hel := nodup_sub hen (b := ks) fun y hy => by
        obtain ⟨z, hz1, hz2⟩ := (hem y).mp hy
        exact hz2.mem hc (hns z (List.mem_of_mem_take hz1))
      have hevl := hev.len
      refine r_dcTE (xs := txs (pickP (Reach f x) ks)) (evt_d (ed_cal (ea_cons (ev_v rfl) (ea_cons (ev_v rfl) ea_nil)) fun H2 e2 => ⟨a, f, ks, x, rfl, ⟨kvs, (E1.trans e2) _ _ hk, hkv.mono (E1.trans e2)⟩, hc, hxk, rfl⟩)) (fun H2 D i H3 => Ex H2 H3 ∧ ∃ mvs, H3 D = some (.dK mvs) ∧ KvAt f H mvs ((pickP (Reach f x) ks).take i)) (fun H2 D e2 hD => ⟨Ex.new hD, [], upd_same, .nil⟩) (fun H2 D i H3 p a S => ex_t p.1 S) ?_ ?_
      · rintro H2 D e2 hD j v H3 hv ⟨e3, mvs, hm, hmv⟩
        obtain ⟨rfl, hj, hgy⟩ := txs_get' hv
        generalize (pickP (Reach f x) ks).getD j [] = y at hgy
        have hyk := (pick_mem.mp (List.mem_of_getElem? hgy)).1
        obtain ⟨vy, hvy, hry⟩ := hkv.val hyk
        have hml := hmv.len
        rw [List.length_take] at hml
        refine ⟨rfl, tyes_ (iteT (r_var rfl (r_ev (ev_dget (ev_v rfl) (((E1.trans e2).trans e3) _ _ hk) (ev_v rfl) hvy) (Ex.refl _) fun H5 e5 => ⟨mvs, keyT y, rfl, e5 _ _ hm, sz_lt (by omega), (e3.trans e5).mut hD, _, upd_same, ?_⟩)))⟩
        rw [List.take_add_one, hgy]
        have hyn : y ∉ (pickP (Reach f x) ks).take j := fun h => by
          obtain ⟨i2, hi2, hie⟩ := List.getElem_of_mem h
          rw [List.length_take] at hi2
          rw [List.getElem_take] at hie
          have hgy2 := List.getElem?_eq_some_iff.mp hgy
          obtain ⟨hjl, hje⟩ := hgy2
          exact (List.pairwise_iff_getElem.mp (pick_nodup (p := Reach f x) hc.nd)) i2 j (by omega) hjl (by omega) (hie.trans hje.symm)
        have := hmv.put (k := y) (v := vy) (f' := f) (fun _ _ => rfl) hry
        unfold addF at this
        rw [if_neg hyn] at this
        exact this
      · rintro H2 D H3 e2 hD ⟨e3, mvs, hm, hmv⟩
        rw [txs_len, List.take_of_length_le (Nat.le_refl _)] at hmv
        have hml := hmv.len
        have E3 := (E1.trans e2).trans e3
        have hFD : dF ≠ D := fun z => by
          have := (e1.trans e2) _ _ hF'
          rw [z, hD] at this
          exact nomatch this
        refine ⟨D, evs, mvs, rfl, hFD, ((e1.trans e2).trans e3) _ _ hF', hm, by omega, ?_⟩
        have kt : ∀ c us, H3 c = some (.tup us) → (upd H3 dF (.dK (mergeK evs mvs))) c = some (.tup us) := fun c us h => by
          rw [upd_ne (ne_kind h (((e1.trans e2).trans e3) _ _ hF') (fun z => nomatch z))]
          exact h
        have h1 : KvAt f H3 (mergeK evs mvs) ((pickP (Reach f x) ks).foldl addF es) := (hmv.mono E3).merge (hev.mono ((e1.trans e2).trans e3))
        refine ⟨_, _, _, _, E3.mut hdF, upd_same, h1.keepT kt, fold_nodup _ _ hen, fun y => ?_, rfl⟩
        rw [fold_mem, hem, List.take_add_one, hgx, pick_mem]
        constructor
        · rintro (⟨z, hz1, hz2⟩ | ⟨_, hz⟩)
          · exact ⟨z, List.mem_append_left _ hz1, hz2⟩
          · exact ⟨x, List.mem_append_right _ (by simp), hz⟩
        · rintro ⟨z, hz1, hz2⟩
          rcases List.mem_append.mp hz1 with h | h
          · exact .inl ⟨z, h, hz2⟩
          · have : z = x := by simpa using h
            subst this
            exact .inr ⟨hz2.mem hc hxk, hz2⟩
    · rintro σ' H' ⟨es, evs, y3, y4, e', hF', hev, hen, hem, rfl⟩
      rw [txs_len, List.take_of_length_le (Nat.le_refl _)] at hem
      have hel := nodup_sub hen (b := ks) fun y hy => by
        obtain ⟨z, hz1, hz2⟩ := (hem y).mp hy
        exact hz2.mem hc (hns z hz1)
      have hso : sortF es = pickP (BunP f ns) ks := sort_pick hc.nd hen fun y => ⟨fun h => by
        obtain ⟨z, hz1, hz2⟩ := (hem y).mp h
        exact ⟨hz2.mem hc (hns z hz1), z, hz1, hz2⟩, fun h => (hem y).mpr h.2⟩
      have hpl := pick_len (BunP f ns) ks
      refine s_retD (ed_tupL (ed_is (ed_lcM (α := L) .str (fun k => sayD (f k)) (fun _ => true) (l := sortF es) (fun H1 e1 Q' q' => el_sortKv (ev_v rfl) hF' hev.keys (by omega) H1 e1 _ fun p H2 hp e2 h2 => q' _ H2 e2 (.lst h2 (reps_txs _ _))) (by rw [sort_len]; omega) (fun _ => rfl) (fun x _ => by rw [NoL]; trivial) (fun x _ => nol_say _) (fun x z H2 e2 hz hr => et_yes) fun x z H2 e2 hz hr _ => ?_) (by rw [filt_true, hso])) ?_) fun v H1 e1 r1 => q v H1 (e'.trans e1) r1
      · cases hr
        obtain ⟨vx, hvx, hrx⟩ := hev.val (sort_mem.mp hz)
        exact evd_v (ev_dget (ev_v rfl) (e2 _ _ hF') (ev_v rfl) hvx) (hrx.mono e2)
      · exact nol_all fun x _ => nol_say _
end
end K82

set_option Elab.async false
set_option linter.all false
set_option maxRecDepth 100000
set_option maxHeartbeats 4000000
namespace K82
open PySem PySem.Spec PyProof.Rows L2 Evl My
/-! the talker -/
def fldS : Str := "sayings"
def TkAt (C : Addr) (f : L → Sg) (H : Hp) (r d : Addr) (ks : List L) : Prop := (∃ dx, H r = some (.ins C dx [(fldS, .ref d)])) ∧ HdAt f H d ks
theorem TkAt.mono {C : Addr} {f : L → Sg} {H H' : Hp} {r d : Addr} {ks : List L} (e : Ex H H') (h : TkAt C f H r d ks) : TkAt C f H' r d ks := by
  obtain ⟨⟨dx, h1⟩, h2⟩ := h
  exact ⟨⟨dx, e _ _ h1⟩, h2.mono e⟩
structure RT (K : PySem.W.Frag) (mg : Str → Option Value) (C : Addr) : Prop where
  cl : Cls K C
  nS : NoAttr K C "sayings"
theorem fld_none {v : V} {m : Str} (h : m ≠ fldS) : [(fldS, v)].lookup m = none := by
  rw [List.lookup_cons, beq_eq_false_iff_ne.mpr h]
  rfl
def Frm (d : Addr) (H H' : Hp) : Prop := ∀ a o, a ≠ d → H a = some o → H' a = some o
theorem Frm.of {d : Addr} {H H' : Hp} (e : Ex H H') : Frm d H H' := fun a o _ h => e a o h
theorem Frm.trans {d : Addr} {H H1 H2 : Hp} (a : Frm d H H1) (b : Frm d H1 H2) : Frm d H H2 := fun x o n h => b x o n (a x o n h)
theorem Frm.exR {d : Addr} {H H1 H2 : Hp} (a : Frm d H H1) (e : Ex H1 H2) : Frm d H H2 := a.trans (.of e)
theorem Frm.upd {d : Addr} {H : Hp} {o : HO} : Frm d H (upd H d o) := fun x u n h => by rw [upd_ne n]; exact h
theorem Frm.kt {d : Addr} {H H' : Hp} {kvs : List (Key × V)} (hd : H d = some (.dK kvs)) (h : Frm d H H') : ∀ a us, H a = some (.tup us) → H' a = some (.tup us) := fun a us ha => h a _ (ne_kind ha hd (fun z => nomatch z)) ha
theorem nol_odd : NoL oddS := by
  unfold oddS
  simp [NoL, NoLL]
theorem well_nol {d : D} {z : V} (h : WellD d z) : NoL d := by
  cases h with
  | say _ => exact nol_say _
  | int => rw [NoL]; trivial
  | non => rw [NoL]; trivial
  | odd => exact nol_odd
def ItW (f : L → Sg) (x : L) (d : D) : Prop := d = sayD (f x) ∨ ∃ z : Str, WellD d (.str z)
theorem ItW.nol {f : L → Sg} {x : L} {d : D} (h : ItW f x d) : NoL d := by
  rcases h with h | ⟨z, h⟩
  · rw [h]; exact nol_say _
  · exact well_nol h
theorem addF_idem (es : List L) (x : L) : addF (addF es x) x = addF es x := by
  unfold addF
  by_cases h : x ∈ es
  · rw [if_pos h, if_pos h]
  · rw [if_neg h, if_pos (by simp)]
section
variable {σ : L2.St} {H : Hp} {Q : VK} {E : XK}
theorem r_dictD {te : TE} (h : te σ H fun x H1 => ∃ (a : Addr) (kvs : List (Key × V)), x = .ref a ∧ H1 a = some (.dK kvs) ∧ ∀ p, H1 p = none → Q (.ref p) (upd H1 p (.dK kvs))) : tCB rDictD (tCons te tNil) σ H Q := by
  refine r_cb (r_cons ?_)
  have : (fun x H1 => ∃ (a : Addr) (kvs : List (Key × V)), x = .ref a ∧ H1 a = some (.dK kvs) ∧ ∀ p, H1 p = none → Q (.ref p) (upd H1 p (.dK kvs))) = fun x H1 => tNil σ H1 fun xs H2 => rDictD (x :: xs) H2 Q := by
    funext x H1
    refine propext ⟨fun ⟨a, kvs, h1, h2, h3⟩ => ⟨a, kvs, by rw [h1], h2, h3⟩, fun ⟨a, kvs, h1, h2, h3⟩ => ⟨a, kvs, (List.cons.inj h1).1, h2, h3⟩⟩
  rw [← this]
  exact h
theorem r_meth {C : Addr} {m : Str} {sp : Sp} {ta : TE} {t : TA} (h : ta σ H fun x H1 => ∃ a dx fs, x = .ref a ∧ H1 a = some (.ins C dx fs) ∧ fs.lookup m = none ∧ t σ H1 fun vs H2 => sp (.ref a :: vs) H2 Q E) : tMeth C m sp [] E ta t σ H Q := by
  have : (fun x H1 => ∃ a dx fs, x = V.ref a ∧ H1 a = some (.ins C dx fs) ∧ fs.lookup m = none ∧ t σ H1 fun vs H2 => sp (.ref a :: vs) H2 Q E) = fun x H1 => ∃ a dx fs, x = .ref a ∧ H1 a = some (.ins C dx fs) ∧ fs.lookup m = none ∧ t σ H1 fun vs H2 => sp (x :: (vs ++ [])) H2 Q E := by
    funext x H1
    refine propext ⟨fun ⟨a, dx, fs, h1, h2, h3, h4⟩ => ⟨a, dx, fs, h1, h2, h3, ?_⟩, fun ⟨a, dx, fs, h1, h2, h3, h4⟩ => ⟨a, dx, fs, h1, h2, h3, ?_⟩⟩
    · subst h1
      simpa only [List.append_nil] using h4
    · subst h1
      simpa only [List.append_nil] using h4
  unfold tMeth
  rw [← this]
  exact h
theorem r_dsetd {td ty tx : TE} (h : td σ H fun x H1 => ∃ a, x = .ref a ∧ IsD H1 a ∧ ty σ H1 fun y H2 => tx σ H2 fun z H3 => ∃ (kvs : List (Key × V)) (k : Key), H3 a = some (.dK kvs) ∧ y = kV k ∧ kvs.length < sizeLine ∧
  (∀ v, valV kvs k = some v → Q v H3) ∧ (valV kvs k = none → Q z (upd H3 a (.dK (putK kvs k z))))) : tDSetd td ty tx σ H Q := h
end
section
variable {P : Program} {w : World} {K : PySem.W.Frag} {mg : Str → Option Value} {base : Heap} {C : Addr}
abbrev s_Talker___init__ : Stmt := inClass (topS 77) 0
theorem sc_Talker___init__ : FnScope ["self", "held"] ["self", "held"] (defScope s_Talker___init__) := ⟨rfl, rfl, rfl, by decide +kernel, rfl, by decide +kernel, by decide +kernel⟩
def sp_init (C : Addr) : Sp := fun vs H Q _ => ∃ (r d dx : Addr) (f : L → Sg) (ks : List L), vs = [.ref r, .ref d] ∧ H r = some (.ins C dx []) ∧ HdAt f H d ks ∧ ∀ H' d2, (∀ a o, a ≠ r → H a = some o → H' a = some o) → H d2 = none → TkAt C f H' r d2 ks → Q .non H'
theorem fn_init {f : Addr} {fd : FuncData} {k : Nat} (F : Fun K "__init__" "Talker.__init__" s_Talker___init__ f fd) (N : Nb mg) (T : RT K mg C) : FnOk P w K mg base CX0 (k + 1) f fd ["self", "held"] (sp_init C) := by
  refine F.ok sc_Talker___init__ (fun vs H Q E h => ?_) (fun cdv A outer s H vs Q E hr h => ?_)
  · obtain ⟨r, d, dx, f, ks, rfl, _⟩ := h
    rfl
  · obtain ⟨r, d, dx, f, ks, rfl, hp, ⟨kvs, h1, h2⟩, q⟩ := h
    refine ⟨_, (pss_one (ps_fld (pv 0) (pe_callTy My.call_dictD (by rfl) N.dict PyProof.Rows.boot_dict (pa_cons (pv 1) pa_nil)) rfl)), ?_⟩
    refine r_dictD (r_var rfl ⟨d, kvs, rfl, h1, fun p hp0 => ?_⟩)
    have e1 : Ex H (upd H p (.dK kvs)) := Ex.new hp0
    refine ⟨_, rfl, r, C, dx, [], rfl, e1 _ _ hp, T.cl, T.nS, (by show 0 < 1000; decide), ?_⟩
    have nrp : r ≠ p := fun e => by
      rw [e, hp0] at hp
      exact nomatch hp
    refine q _ p (fun a o n h => by rw [upd_ne n]; exact e1 _ _ h) hp0 ⟨⟨dx, upd_same⟩, kvs, by rw [upd_ne nrp.symm]; exact upd_same, h2.keepT fun a us ha => ?_⟩
    rw [upd_ne (ne_kind ha hp (fun z => nomatch z))]
    exact e1 _ _ ha
theorem ev_say {σ : L2.St} {H : Hp} {r dx d : Addr} (T : RT K mg C) (h : σ[0]? = some (some (.ref r))) (hi : H r = some (.ins C dx [(fldS, .ref d)])) : Ev (tFld K (tVar 0) "sayings") σ H (.ref d) := ev_fld (ev_v h) hi T.cl T.nS rfl
abbrev s_Talker_held : Stmt := inClass (topS 77) 2
theorem sc_Talker_held : FnScope ["self"] ["self"] (defScope s_Talker_held) := ⟨rfl, rfl, rfl, by decide +kernel, rfl, by decide +kernel, by decide +kernel⟩
def sp_held (C : Addr) : Sp := fun vs H Q _ => ∃ (r d : Addr) (f : L → Sg) (ks : List L), vs = [.ref r] ∧ TkAt C f H r d ks ∧ ∀ p H', Ex H H' → HdAt f H' p ks → Q (.ref p) H'
theorem fn_held {f : Addr} {fd : FuncData} {k : Nat} (F : Fun K "held" "Talker.held" s_Talker_held f fd) (N : Nb mg) (T : RT K mg C) : FnOk P w K mg base CX0 (k + 1) f fd ["self"] (sp_held C) := by
  refine F.ok sc_Talker_held (fun vs H Q E h => ?_) (fun cdv A outer s H vs Q E hr h => ?_)
  · obtain ⟨_, _, _, _, rfl, _⟩ := h
    rfl
  · obtain ⟨r, d, f, ks, rfl, ⟨⟨dx, hi⟩, kvs, h1, h2⟩, q⟩ := h
    refine ⟨_, (pss_one (ps_ret (pe_callTy My.call_dictD (by rfl) N.dict PyProof.Rows.boot_dict (pa_cons (pe_fld (pv 0) rfl) pa_nil)))), ?_⟩
    refine evp_dictD (ev_say T rfl hi) h1 H (Ex.refl _) _ fun v H1 e1 ⟨p, hv, h4⟩ => ?_
    subst hv
    exact q p H1 e1 ⟨kvs, h4, h2.mono e1⟩
abbrev s_Talker_to_have : Stmt := inClass (topS 77) 6
theorem sc_Talker_to_have : FnScope ["self", "message", "saying"] ["self", "message"] (defScope s_Talker_to_have) := ⟨rfl, rfl, rfl, by decide +kernel, rfl, by decide +kernel, by decide +kernel⟩
/- 0 self, 1 message, 2 saying -/
def sp_have (C : Addr) : Sp := fun vs H Q _ => ∃ (r m t d : Addr) (f : L → Sg) (ks es : List L) (x : L) (us : List V) (u0 : V) (ds : List D), vs = [.ref r, .ref m] ∧ TkAt C f H r d es ∧ Clo f ks ∧ x ∈ ks ∧ H m = some (.tup [u0, .ref t]) ∧ H t = some (.tup us) ∧ Reps H us (sayD (f x) :: ds) ∧ (∀ e ∈ ds, ItW f x e) ∧ ds.length ≤ 10 ∧ es.length ≤ 100 ∧
  ∀ p H', Frm d H H' → HdAt f H' d (addF es x) → H' p = some (.tup []) → Q (.ref p) H'
theorem fn_to_have {f : Addr} {fd : FuncData} {k : Nat} (F : Fun K "to_have" "Talker.to_have" s_Talker_to_have f fd) (N : Nb mg) (T : RT K mg C) (C_well_made : Cal P w K mg base k "well_made" ["value"] (spV ok_well)) (C_name_of : Cal P w K mg base k "name_of" ["value"] (spV ok_name_of)) : FnOk P w K mg base CX0 (k + 1) f fd ["self", "message"] (sp_have C) := by
  refine F.ok sc_Talker_to_have (fun vs H Q E h => ?_) (fun cdv A outer s H vs Q E hr h => ?_)
  · obtain ⟨_, _, _, _, _, _, _, _, _, _, _, rfl, _⟩ := h
    rfl
  · obtain ⟨r, m, t, d, f, ks, es, x, us, u0, ds, rfl, ⟨⟨dx, hi⟩, kv0, h1, h2⟩, hc, hx, hm, ht, hus, hds, hdl, hel, q⟩ := h
    refine ⟨_, (pss_cons (ps_for PassesOwn.never rfl (pi_tup (pe_ix ix_tup (pv 1) pe_int (fun _ _ => rfl))) (pg_name (i := 2) sc_Talker_to_have.nd rfl (Or.inl rfl)) (pss_one (ps_if (pt_cmpR op_isN (pe_cal C_well_made hr (pa_cons (pv 2) pa_nil)) pe_non (nomark _)) (pss_one (ps_expr (pe_dsetd (pe_fld (pv 0) rfl) (pe_cal C_name_of hr (pa_cons (pv 2) pa_nil)) (pv 2) ⟨rfl, rfl, rfl, rfl⟩))) pss_nil)))
      (pss_one (ps_ret (pe_tup pa_nil)))), ?_⟩
    have hul := hus.len
    rw [List.length_cons] at hul
    have hok := hc.ok x hx
    have nrd : r ≠ d := ne_kind hi h1 (fun z => nomatch z)
    have nmd : m ≠ d := ne_kind hm h1 (fun z => nomatch z)
    have ntd : t ≠ d := ne_kind ht h1 (fun z => nomatch z)
    have hadl : ∀ es' : List L, es' = es ∨ es' = addF es x → es'.length ≤ 101 ∧ addF es' x = addF es x := fun es' h => by
      have := add_len (acc := es) (x := x)
      rcases h with rfl | rfl
      · exact ⟨by omega, rfl⟩
      · exact ⟨by omega, addF_idem _ _⟩
    refine q_forT (xs := us) (ev_ixT (j := 1) (v := .ref t) (ev_v rfl) (ev_cn 1) (st_of hm) rfl) (st_of ht) (fun i σ' H' => Frm d H H' ∧ (∃ es', ((i = 0 ∧ es' = es) ∨ es' = addF es x) ∧ HdAt f H' d es') ∧ ∃ y, σ' = [some (.ref r), some (.ref m), y]) (fun H1 e1 => ⟨.of e1, ⟨es, .inl ⟨rfl, rfl⟩, kv0, e1 _ _ h1, h2.mono e1⟩, none, rfl⟩) (fun i σ' H' _ h => st_of (h.1 _ _ ntd ht)) ?_ ?_
    · rintro i v σ' H' hv ⟨fr, ⟨es', hes, kvs, hd, hkv⟩, y, rfl⟩
      obtain ⟨de, hde, hre⟩ := hus.get' hv
      have hit : ItW f x de := by
        cases i with
        | zero => cases hde; exact .inl rfl
        | succ i => exact hds _ (List.mem_of_getElem? hde)
      obtain ⟨hel', hadd⟩ := hadl es' (by rcases hes with ⟨_, h⟩ | h <;> simp [h])
      have hre' := Rep.keepT (fr.kt h1) hit.nol hre
      have hi' := fr _ _ nrd hi
      have hlen := hkv.len
      rcases hit with rfl | ⟨z, hw⟩
      · refine s_when (b := true) (et_test (ev_is (ev_isN (ev_cal (z := .non) (ea_cons (ev_v rfl) ea_nil) fun H2 e2 => ⟨v, _, rfl, hre'.mono e2, .say hok.1⟩)) (congrArg V.bl (decide_eq_true rfl)))) (fun _ H2 e2 => ?_) (fun z => nomatch z)
        refine r_dropE (r_dsetd (r_ev (ev_say T rfl (e2 _ _ hi')) (Ex.refl _) fun H3 e3 => ⟨d, rfl, .inl ⟨kvs, .inl ((e2.trans e3) _ _ hd)⟩, ?_⟩))
        obtain ⟨p1, p2, p3⟩ := say_ok hok.1
        refine r_ev (ev_cal (z := .str (tx x)) (ea_cons (ev_v (v := v) rfl) ea_nil) fun H4 e4 => ⟨v, _, rfl, hre'.mono ((e2.trans e3).trans e4), p1, p2, p3, by show V.str (tx x) = V.str (tx (nmS (f x))); rw [hok.2]⟩) (Ex.refl _) fun H4 e4 => r_var rfl ?_
        have E4 := (e2.trans e3).trans e4
        refine ⟨kvs, keyT x, E4 _ _ hd, rfl, sz_lt (by omega), fun v2 hv2 => ?_, fun hn => ?_⟩
        · have hin : x ∈ es' := by
            have := keyT_in hkv.keys x
            rw [hv2] at this
            exact of_decide_eq_true this.symm
          refine ⟨fr.exR E4, ⟨es', .inr ?_, kvs, E4 _ _ hd, hkv.mono E4⟩, _, rfl⟩
          rw [← hadd]
          unfold addF
          rw [if_pos hin]
        · refine ⟨(fr.exR E4).trans Frm.upd, ⟨addF es x, .inr rfl, _, upd_same, ?_⟩, _, rfl⟩
          rw [← hadd]
          refine (((hkv.mono E4).put (f' := f) (fun _ _ => rfl) (hre'.mono E4))).keepT fun a us ha => ?_
          rw [upd_ne (ne_kind ha (E4 _ _ hd) (fun z => nomatch z))]
          exact ha
      · have hi0 : i ≠ 0 := fun e => by
          subst e
          cases hde
          generalize hse : sayD (f x) = se at hw
          cases hw with
          | int => unfold sayD at hse; exact nomatch hse
          | non => unfold sayD at hse; exact nomatch hse
          | odd =>
            unfold sayD oddS at hse
            injection hse with hse
            injection hse with k1 hse
            injection hse with k2 hse
            injection hse with k3 hse
            injection hse with k4 hse
            injection hse with k5 hse
            have := hok.1.g
            cases hg : (f x).g <;> rw [hg] at k5 <;> exact nomatch k5
        refine s_when (b := false) (et_test (ev_is (ev_isN (ev_cal (z := .str z) (ea_cons (ev_v rfl) ea_nil) fun H2 e2 => ⟨v, _, rfl, hre'.mono e2, hw⟩)) (congrArg V.bl (decide_eq_false (fun z => nomatch z))))) (fun z => nomatch z) fun _ H2 e2 => ?_
        exact ⟨fr.exR e2, ⟨es', .inr (hes.resolve_left fun h => hi0 h.1), kvs, e2 _ _ hd, hkv.mono e2⟩, _, rfl⟩
    · rintro σ' H' ⟨fr, ⟨es', hes, kvs, hd, hkv⟩, y, rfl⟩
      have : es' = addF es x := hes.resolve_left fun h => by omega
      subst this
      exact r_ret (eu_tup ea_nil (by decide) _ (Ex.refl _) _ fun p H2 hp e2 h2 => q p H2 (fr.exR e2) ⟨kvs, e2 _ _ hd, hkv.mono e2⟩ h2)
abbrev s_Talker_take : Stmt := inClass (topS 77) 7
theorem sc_Talker_take : FnScope ["self", "value"] ["self", "value"] (defScope s_Talker_take) := ⟨rfl, rfl, rfl, by decide +kernel, rfl, by decide +kernel, by decide +kernel⟩
/- 0 self, 1 value -/
def msgD (f : L → Sg) (x : L) (ds : List D) : D := .tup [.str wHav, .tup (sayD (f x) :: ds)]
def sp_take (C : Addr) : Sp := fun vs H Q _ => ∃ (r d : Addr) (v : V) (f : L → Sg) (ks es : List L) (x : L) (ds : List D), vs = [.ref r, v] ∧ TkAt C f H r d es ∧ Clo f ks ∧ x ∈ ks ∧ Rep H v (msgD f x ds) ∧ Fit (msgD f x ds) ∧ (∀ e ∈ ds, ItW f x e) ∧ ds.length ≤ 10 ∧ es.length ≤ 100 ∧
  ∀ p H', Frm d H H' → HdAt f H' d (addF es x) → H' p = some (.tup []) → Q (.ref p) H'
theorem fn_take {f : Addr} {fd : FuncData} {k : Nat} (F : Fun K "take" "Talker.take" s_Talker_take f fd) (N : Nb mg) (T : RT K mg C) (C_is_message : Cal P w K mg base k "is_message" ["value"] (spV ok_is_message)) (M_to_have : MCal P w K mg base k C "to_have" ["self", "message"] (sp_have C)) : FnOk P w K mg base CX0 (k + 1) f fd ["self", "value"] (sp_take C) := by
  refine F.ok sc_Talker_take (fun vs H Q E h => ?_) (fun cdv A outer s H vs Q E hr h => ?_)
  · obtain ⟨_, _, _, _, _, _, _, _, rfl, _⟩ := h
    rfl
  · obtain ⟨r, d, v, f, ks, es, x, ds, rfl, hT, hc, hx, hR, hF, hds, hdl, hel, q⟩ := h
    refine ⟨_, (pss_cons (ps_if (pt_not (pt_val (pe_cal C_is_message hr (pa_cons (pv 1) pa_nil)))) (pss_one (ps_ret (pe_tup pa_nil))) pss_nil)
      (pss_cons (ps_if (pt_cmpR op_eq (pe_ix ix_tup (pv 1) pe_int (fun _ _ => rfl)) pe_str (nomark _)) pss_never pss_nil)
      (pss_cons (ps_if (pt_cmpR op_eq (pe_ix ix_tup (pv 1) pe_int (fun _ _ => rfl)) pe_str (nomark _)) pss_never pss_nil)
      (pss_one (ps_ret (pe_ifExp (pt_cmpR op_eq (pe_ix ix_tup (pv 1) pe_int (fun _ _ => rfl)) pe_str (nomark _)) pe_never (pe_mcal T.cl M_to_have hr (pv 0) (pa_cons (pv 1) pa_nil)))))))), ?_⟩
    have hmq : Msq (msgD f x ds) true := by
      have h := Msq.wrd wHav [.tup (sayD (f x) :: ds)]
      have e : msgB wHav [.tup (sayD (f x) :: ds)] = true := rfl
      rw [e] at h
      exact h
    refine q_when (b := false) (et_not (a := true) (et_B (ev_cal (ea_cons (ev_v rfl) ea_nil) fun H1 e1 => ⟨v, _, true, rfl, hR.mono e1, hF, hmq, rfl⟩))) (fun z => nomatch z) fun _ H1 e1 => ?_
    unfold msgD at hR
    cases hR with
    | @tup a us _ ha rs => cases rs with
      | @cons _ _ us _ r0 rs => cases rs with
        | @cons vn _ us _ r1 rs =>
          cases rs
          cases r0
          cases r1 with
          | @tup t us _ ht ru =>
            have wd : ∀ {H2 : Hp} {s : Str} {l : L}, Ex H H2 → s = tx l → Ev (tOp rEq (tOp (rIxT K) (tVar 1) (tC (.int 0))) (tC (.str s))) [some (.ref r), some (.ref a)] H2 (.bl (decide (wHav = l))) := fun {H2 s l} e2 hs => by
              rw [hs]
              exact ev_eqS (ev_ixT (j := 0) (ev_v rfl) (ev_cn 0) (st_of (e2 _ _ ha)) rfl) ev_c
            refine q_when (b := false) (et_is (et_test (wd (l := wDig) e1 (by decide +kernel))) (by decide)) (fun z => nomatch z) fun _ H2 e2 => ?_
            have E2 := e1.trans e2
            refine q_when (b := false) (et_is (et_test (wd (l := wLst) E2 (by decide +kernel))) (by decide)) (fun z => nomatch z) fun _ H3 e3 => ?_
            have E3 := E2.trans e3
            refine r_ret ((et_is (b := false) (et_test (wd (l := wWnt) E3 (by decide +kernel))) (by decide)) H3 (Ex.refl _) _ fun H4 e4 => iteF (r_meth (r_var rfl ?_)))
            have E4 := E3.trans e4
            obtain ⟨⟨dx, hi⟩, hd⟩ := hT
            refine ⟨r, dx, _, rfl, E4 _ _ hi, fld_none (by decide), r_cons (r_var rfl (r_nil ⟨r, a, t, d, f, ks, es, x, us, _, ds, rfl, ⟨⟨dx, E4 _ _ hi⟩, hd.mono E4⟩, hc, hx, E4 _ _ ha, E4 _ _ ht, ru.mono E4, hds, hdl, hel, fun p H5 fr h1 h2 => q p H5 (fun b o n hb => fr b o n (E4 _ _ hb)) h1 h2⟩))⟩
end
end K82

set_option Elab.async false
set_option linter.all false
set_option maxRecDepth 100000
set_option maxHeartbeats 4000000
namespace K82
open PySem PySem.Spec PyProof.Rows L2 Evl My
section
variable {P : Program} {w : World} {K : PySem.W.Frag} {mg : Str → Option Value} {base : Heap}
abbrev s_law_mixed : Stmt := topS 81
theorem sc_law_mixed : FnScope ["number", "place", "first", "second", "third"] ["number", "place"] (defScope s_law_mixed) := ⟨rfl, rfl, rfl, by decide +kernel, rfl, by decide +kernel, by decide +kernel⟩
/- 0 number, 1 place, 2 first, 3 second, 4 third -/
def ok_mixed_ (vs : List V) (H : Hp) (z : V) : Prop := ∃ n p : Nat, vs = [.int (n : Int), .int (p : Int)] ∧ z = .int (mixF n p : Nat)
theorem fn_mixed_ {f : Addr} {fd : FuncData} {k : Nat} (F : Fun K "_law_mixed" "_law_mixed" s_law_mixed f fd) (N : Nb mg) : FnOk P w K mg base CX0 (k + 1) f fd ["number", "place"] (spV ok_mixed_) := by
  refine F.ok sc_law_mixed (fun vs H Q E h => ?_) (fun cdv A outer s H vs Q E hr h => ?_)
  · obtain ⟨_, ⟨_, _, rfl, _⟩, _⟩ := h
    rfl
  · obtain ⟨_, ⟨n, p, rfl, hz⟩, q⟩ := h
    rw [hz] at q
    refine ⟨_, (pss_cons (ps_set (i := 2) sc_law_mixed.nd rfl (Or.inl rfl) (pe_op op_mod (pe_callTy call_int1 (by rfl) N.int PyProof.Rows.boot_int (pa_cons (pe_op op_add (pe_op op_add (pe_op op_mul (pv 0) pe_int) (pe_op op_mul (pv 1) pe_int)) pe_int) pa_nil)) pe_int))
      (pss_cons (ps_set (i := 3) sc_law_mixed.nd rfl (Or.inl rfl) (pe_op op_mod (pe_callTy call_int1 (by rfl) N.int PyProof.Rows.boot_int (pa_cons (pe_op op_add (pe_op op_add (pe_op op_mulW (pv 2) (pv 2)) (pe_op op_mul pe_int (pv 2))) (pv 1)) pa_nil)) pe_int))
      (pss_cons (ps_set (i := 4) sc_law_mixed.nd rfl (Or.inl rfl) (pe_op op_mod (pe_callTy call_int1 (by rfl) N.int PyProof.Rows.boot_int (pa_cons (pe_op op_add (pe_op op_mulW (pv 3) (pv 3)) (pv 2)) pa_nil)) pe_int))
      (pss_one (ps_ret (pe_op op_add (pe_op op_mulW (pv 3) pe_int) (pv 4))))))), ?_⟩
    have l1 : (n * 48271 + p * 69621 + 11) % m89 < 2 ^ 89 := Nat.lt_trans (Nat.mod_lt _ (by decide)) (by decide)
    refine q_asg (v := .int (((n * 48271 + p * 69621 + 11) % m89 : Nat) : Int)) (ev_op (ev_int (ev_op (ev_op (ev_op (ev_v rfl) (ev_cn 48271) (rv_mulN (.inr (by decide)))) (ev_op (ev_v rfl) (ev_cn 69621) (rv_mulN (.inr (by decide)))) rv_addN) (ev_cn 11) rv_addN)) (ev_cn m89) (rv_modN (by decide))) fun H1 e1 => ?_
    unfold mixF at q
    generalize (n * 48271 + p * 69621 + 11) % m89 = a at l1 q ⊢
    have l2 : (a * a + 7 * a + p) % m107 < 2 ^ 107 := Nat.lt_trans (Nat.mod_lt _ (by decide)) (by decide)
    refine q_asg (v := .int (((a * a + 7 * a + p) % m107 : Nat) : Int)) (ev_op (ev_int (ev_op (ev_op (ev_op (ev_v rfl) (ev_v rfl) (rv_mulWN l1 l1 (by decide) (by decide) (by decide))) (ev_op (ev_cn 7) (ev_v rfl) (rv_mulN (.inl (by decide)))) rv_addN) (ev_v rfl) rv_addN)) (ev_cn m107) (rv_modN (by decide))) fun H2 e2 => ?_
    dsimp only at q
    generalize (a * a + 7 * a + p) % m107 = b at l2 q ⊢
    refine q_asg (v := .int (((b * b + a) % m89 : Nat) : Int)) (ev_op (ev_int (ev_op (ev_op (ev_v rfl) (ev_v rfl) (rv_mulWN l2 l2 (by decide) (by decide) (by decide))) (ev_v rfl) rv_addN)) (ev_cn m89) (rv_modN (by decide))) fun H3 e3 => ?_
    exact s_ret (ev_op (ev_op (ev_v rfl) (ev_cn m89) (rv_mulWN (m := 89) l2 (by decide) (by decide) (by decide) (by decide))) (ev_v rfl) rv_addN) fun H4 e4 => q H4 (((e1.trans e2).trans e3).trans e4)
abbrev s_law_rest : Stmt := topS 82
theorem sc_law_rest : FnScope ["script", "place", "fills", "number"] ["script", "place", "fills"] (defScope s_law_rest) := ⟨rfl, rfl, rfl, by decide +kernel, rfl, by decide +kernel, by decide +kernel⟩
/- 0 script, 1 place, 2 fills, 3 number -/
def ok_rest_ (K : PySem.W.Frag) (vs : List V) (H : Hp) (z : V) : Prop := ∃ (sc : Addr) (xs : List Int) (p f : Nat), vs = [.ref sc, .int (p : Int), .int (f : Int)] ∧ SqL K H sc (xs.map V.int) ∧ z = .int (restF xs p f : Nat)
theorem fn_rest_ {f : Addr} {fd : FuncData} {k : Nat} (F : Fun K "_law_rest" "_law_rest" s_law_rest f fd) (N : Nb mg) (C_law_mixed : Cal P w K mg base k "_law_mixed" ["number", "place"] (spV ok_mixed_)) : FnOk P w K mg base CX0 (k + 1) f fd ["script", "place", "fills"] (spV (ok_rest_ K)) := by
  refine F.ok sc_law_rest (fun vs H Q E h => ?_) (fun cdv A outer s H vs Q E hr h => ?_)
  · obtain ⟨_, ⟨_, _, _, _, rfl, _⟩, _⟩ := h
    rfl
  · obtain ⟨_, ⟨sc, xs, p, f, rfl, hS, hz⟩, q⟩ := h
    rw [hz] at q
    refine ⟨_, (pss_cons (ps_set (i := 3) sc_law_rest.nd rfl (Or.inl rfl) pe_int)
      (pss_cons (ps_if (pt_cmpR op_gt (pe_callB call_len_seq (by rfl) N.len PySem.boot_len (pa_cons (pv 0) pa_nil)) pe_int (nomark _)) (pss_one (ps_set (i := 3) sc_law_rest.nd rfl (Or.inl rfl) (pe_callTy call_int1 (by rfl) N.int PyProof.Rows.boot_int (pa_cons (pe_ix ix_list (pv 0) (pe_op op_mod (pe_callTy call_int1 (by rfl) N.int PyProof.Rows.boot_int (pa_cons (pv 1) pa_nil)) (pe_callB call_len_seq (by rfl) N.len PySem.boot_len (pa_cons (pv 0) pa_nil))) (fun _ _ => rfl)) pa_nil)))) pss_nil)
      (pss_cons (ps_if (pt_cmpR op_lt (pv 3) pe_int (nomark _)) (pss_one (ps_set (i := 3) sc_law_rest.nd rfl (Or.inl rfl) (pe_op op_sub pe_int (pe_op op_mul pe_int (pv 3))))) pss_nil)
      (pss_cons (ps_if (PW.pt (pw_and (pt_cmpR op_eq (pv 2) pe_int (nomark _)) (pw_and (pt_cmpR op_lt (pv 1) (pe_callB call_len_seq (by rfl) N.len PySem.boot_len (pa_cons (pv 0) pa_nil)) (nomark _)) (pw_and1 (pt_cmpR op_ge (pv 3) (pe_op op_pow pe_int pe_int) (nomark _)))))) (pss_one (ps_ret (pe_op op_sub (pv 3) (pe_op op_pow pe_int pe_int)))) pss_nil)
      (pss_one (ps_ret (pe_cal C_law_mixed hr (pa_cons (pe_op op_add (pv 3) (pe_op op_mul (pv 2) pe_int)) (pa_cons (pv 1) pa_nil))))))))), ?_⟩
    have hlen : ∀ σ' H', Ex H H' → σ'[0]? = some (some (.ref sc)) → Ev (tCB (rLenS K) (tCons (tVar 0) tNil)) σ' H' (.int (xs.length : Int)) := fun σ' H' e' s' => by
      have := ev_len (K := K) (ta := tVar 0) (ev_v s') (ex_l e' hS)
      rw [List.length_map] at this
      exact this
    obtain ⟨i0, hi0⟩ : ∃ i0 : Int, i0 = if 0 < xs.length then xs.getD (p % xs.length) 0 else 0 := ⟨_, rfl⟩
    have hn : (if 0 < xs.length then absF (xs.getD (p % xs.length) 0) else 0) = absF i0 := by
      rw [hi0]
      split <;> rfl
    unfold restF at q
    rw [hn] at q
    refine q_asg (ev_cn 0) fun H1 e1 => ?_
    refine q_ifAsg (v := .int i0) (b := decide ((0 : Int) < (xs.length : Int))) (et_test (ev_op (hlen _ _ e1 rfl) (ev_cn 0) rv_I0)) (fun hb => ?_) (fun hb => ?_) fun H2 e2 => ?_
    · have h0 : 0 < xs.length := by have := of_decide_eq_true hb; omega
      rw [if_pos h0] at hi0
      have hj : p % xs.length < xs.length := Nat.mod_lt _ h0
      exact ev_int (ev_op (ev_v rfl) (ev_op (ev_int (ev_v rfl)) (hlen _ _ e1 rfl) (rv_modN h0)) (rv_ixLn (ex_l e1 hS) (by
        rw [hi0, List.getElem?_map, List.getD_eq_getElem?_getD, List.getElem?_eq_getElem hj]
        rfl)))
    · have h0 : ¬ 0 < xs.length := by have := of_decide_eq_false hb; omega
      rw [if_neg h0] at hi0
      rw [hi0]
      rfl
    refine q_ifAsg (v := .int (absF i0 : Nat)) (b := decide (i0 < 0)) (et_test (ev_op (ev_v rfl) (ev_cn 0) rv_I0)) (fun hb => ?_) (fun hb => ?_) fun H3 e3 => ?_
    · have h0 := of_decide_eq_true hb
      refine ev_is (ev_op (ev_cn 1) (ev_op (ev_cn 2) (ev_v rfl) (rv_I (.inl ⟨by decide, by decide⟩))) rv_I0) ?_
      unfold absF
      rw [if_pos h0, Int.toNat_of_nonneg (by omega)]
      rfl
    · have h0 := of_decide_eq_false hb
      unfold absF
      rw [if_neg h0, Int.toNat_of_nonneg (by omega)]
      rfl
    have E3 := (e1.trans e2).trans e3
    generalize absF i0 = n at q ⊢
    have t18 : Ev (tOp (rI CPow fun i j => .int (i ^ j.toNat)) (tC (.int 10)) (tC (.int 18))) [some (.ref sc), some (.int (p : Int)), some (.int (f : Int)), some (.int (n : Int))] H3 (.int ((10 ^ 18 : Nat) : Int)) := ev_op (ev_cn 10) (ev_cn 18) (rv_I (by unfold CPow; decide))
    refine q_when (b := decide (f = 0) && (decide (p < xs.length) && decide (10 ^ 18 ≤ n))) (et_and (et_test (ev_is (ev_op (ev_v rfl) (ev_cn 0) (rv_eq rfl)) (congrArg V.bl (decide_eq_decide.mpr ⟨fun h => by have := V.int.inj h; omega, fun h => by rw [h]⟩)))) fun _ =>
      et_and (et_test (ev_is (ev_op (ev_v rfl) (hlen _ _ E3 rfl) rv_I0) (congrArg V.bl (decide_eq_decide.mpr (by omega))))) fun _ => et_test (ev_is (ev_op (ev_v rfl) t18 rv_I0) (congrArg V.bl (decide_eq_decide.mpr (by omega))))) (fun hb H4 e4 => ?_) fun hb H4 e4 => ?_
    · rw [Bool.and_eq_true, Bool.and_eq_true, decide_eq_true_eq, decide_eq_true_eq, decide_eq_true_eq] at hb
      rw [if_pos ⟨hb.1, hb.2.1, hb.2.2⟩] at q
      exact s_ret (ev_op (ev_v rfl) (t18.mono e4) (rv_subN hb.2.2)) fun H5 e5 => q H5 ((E3.trans e4).trans e5)
    · have hb' : ¬ (f = 0 ∧ p < xs.length ∧ 10 ^ 18 ≤ n) := fun h => by
        rw [decide_eq_true h.1, decide_eq_true h.2.1, decide_eq_true h.2.2] at hb
        exact nomatch hb
      rw [if_neg hb'] at q
      exact s_ret (ev_cal (ea_cons (ev_op (ev_v rfl) (ev_op (ev_v rfl) (ev_cn 1000003) (rv_mulN (.inr (by decide)))) rv_addN) (ea_cons (ev_v rfl) ea_nil)) fun _ _ => ⟨_, p, rfl, rfl⟩) fun H5 e5 => q H5 ((E3.trans e4).trans e5)
abbrev s_law_pool : Stmt := topS 83
theorem sc_law_pool : FnScope ["script"] ["script"] (defScope s_law_pool) := ⟨rfl, rfl, rfl, by decide +kernel, rfl, by decide +kernel, by decide +kernel⟩
def ok_pool_ (K : PySem.W.Frag) (vs : List V) (H : Hp) (z : List V) : Prop := ∃ (sc : Addr) (xs : List Int), vs = [.ref sc] ∧ SqL K H sc (xs.map V.int) ∧ z = [.ref sc, .int ((0 : Nat) : Int), .int (restF xs 0 0 : Nat), .int ((0 : Nat) : Int)]
theorem fn_pool_ {f : Addr} {fd : FuncData} {k : Nat} (F : Fun K "_law_pool" "_law_pool" s_law_pool f fd) (N : Nb mg) (C_law_rest : Cal P w K mg base k "_law_rest" ["script", "place", "fills"] (spV (ok_rest_ K))) : FnOk P w K mg base CX0 (k + 1) f fd ["script"] (spL (ok_pool_ K)) := by
  refine F.ok sc_law_pool (fun vs H Q E h => ?_) (fun cdv A outer s H vs Q E hr h => ?_)
  · obtain ⟨_, ⟨_, _, rfl, _⟩, _⟩ := h
    rfl
  · obtain ⟨_, ⟨sc, xs, rfl, hS, hz⟩, q⟩ := h
    rw [hz] at q
    refine ⟨_, (pss_one (ps_ret (pe_lst (pa_cons (pv 0) (pa_cons pe_int (pa_cons (pe_cal C_law_rest hr (pa_cons (pv 0) (pa_cons pe_int (pa_cons pe_int pa_nil)))) (pa_cons pe_int pa_nil))))))), ?_⟩
    exact s_retL (el_lst (ea_cons (ev_v rfl) (ea_cons (ev_cn 0) (ea_cons (ev_cal (ea_cons (ev_v rfl) (ea_cons (ev_cn 0) (ea_cons (ev_cn 0) ea_nil))) fun H1 e1 => ⟨sc, xs, 0, 0, rfl, ex_l e1 hS, rfl⟩) (ea_cons (ev_cn 0) ea_nil)))) (by show 4 ≤ 100000; decide)) fun p H1 hp e1 h1 => q p H1 hp e1 h1
abbrev s_law_draw : Stmt := topS 85
theorem sc_law_draw : FnScope ["pool", "limit", "value"] ["pool", "limit"] (defScope s_law_draw) := ⟨rfl, rfl, rfl, by decide +kernel, rfl, by decide +kernel, by decide +kernel⟩
/- 0 pool, 1 limit, 2 value -/
theorem fn_draw {f : Addr} {fd : FuncData} {k : Nat} (F : Fun K "_law_draw" "_law_draw" s_law_draw f fd) (N : Nb mg) (C_law_rest : Cal P w K mg base k "_law_rest" ["script", "place", "fills"] (spV (ok_rest_ K))) : FnOk P w K mg base CX0 (k + 1) f fd ["pool", "limit"] (sp_draw K) := by
  refine F.ok sc_law_draw (fun vs H Q E h => ?_) (fun cdv A outer s H vs Q E hr h => ?_)
  · obtain ⟨_, _, _, _, rfl, _⟩ := h
    rfl
  · obtain ⟨p, sc, xs, limit, rfl, hP, h0, hlim, q⟩ := h
    refine ⟨_, (pss_cut (ps_if (pt_cmpR op_le (pe_ix ix_list (pv 0) pe_int (fun _ _ => rfl)) pe_int (nomark _)) (pss_cons (ps_asg (pe_op op_add (pe_ix ix_list (pv 0) pe_int (fun _ _ => rfl)) pe_int) (pg_sub (pv 0) pe_int set_list))
      (pss_one (ps_asg (pe_cal C_law_rest hr (pa_cons (pe_ix ix_list (pv 0) pe_int (fun _ _ => rfl)) (pa_cons (pe_ix ix_list (pv 0) pe_int (fun _ _ => rfl)) (pa_cons (pe_ix ix_list (pv 0) pe_int (fun _ _ => rfl)) pa_nil)))) (pg_sub (pv 0) pe_int set_list)))) pss_nil)
      (pss_cons (ps_set (i := 2) sc_law_draw.nd rfl (Or.inl rfl) (pe_op op_mod (pe_callTy call_int1 (by rfl) N.int PyProof.Rows.boot_int (pa_cons (pe_ix ix_list (pv 0) pe_int (fun _ _ => rfl)) pa_nil)) (pv 1)))
      (pss_cons (ps_asg (pe_op op_fdivW (pe_callTy call_int1 (by rfl) N.int PyProof.Rows.boot_int (pa_cons (pe_ix ix_list (pv 0) pe_int (fun _ _ => rfl)) pa_nil)) (pv 1)) (pg_sub (pv 0) pe_int set_list))
      (pss_one (ps_ret (pv 2)))))), ?_⟩
    have hP0 := hP
    obtain ⟨pl, r, f, hp, hS⟩ := hP
    refine q_cut (M := fun σ' H' => σ' = [some (.ref p), some (.int (limit : Int)), none] ∧ Keep p H H' ∧ ∃ r f : Nat, H' p = some (.lst [.ref sc, .int (pl : Int), .int (r : Int), .int (f : Int)])) ?_ ?_
    · refine s_when (b := decide ((r : Int) ≤ ((1 : Nat) : Int))) (et_test (ev_op (ev_ixL (ev_v rfl) (ev_cn 2) (sq_of hp) rfl) (ev_cn 1) rv_I0)) (fun hb H1 e1 => ?_) fun hb H1 e1 => ⟨rfl, .of e1, r, f, e1 p _ hp⟩
      refine q_setL (j := 3) (v := .int ((f + 1 : Nat) : Int)) (e1 p _ hp) (ev_op (ev_ixL (ev_v rfl) (ev_cn 3) (sq_of (e1 p _ hp)) rfl) (ev_cn 1) rv_addN) (ev_v rfl) (ev_cn 3) (by show 3 < 4; decide) fun H2 e2 => ?_
      have E2 := e1.trans e2
      have k2 : Keep p H (upd H2 p (.lst [.ref sc, .int (pl : Int), .int (r : Int), .int ((f + 1 : Nat) : Int)])) := (Keep.of E2).trans .upd
      refine s_setL (j := 2) (v := .int (restF xs pl (f + 1) : Nat)) (xs := [.ref sc, .int (pl : Int), .int (r : Int), .int ((f + 1 : Nat) : Int)]) upd_same (ev_cal (ea_cons (ev_ixL (ev_v rfl) (ev_cn 0) (sq_of upd_same) rfl) (ea_cons (ev_ixL (ev_v rfl) (ev_cn 1) (sq_of upd_same) rfl) (ea_cons (ev_ixL (ev_v rfl) (ev_cn 3) (sq_of upd_same) rfl) ea_nil))) fun H3 e3 => ⟨sc, xs, pl, f + 1, rfl, ex_l e3 (sc_keep hp k2 hS), rfl⟩) (ev_v rfl) (ev_cn 2) (by show 2 < 4; decide) fun H3 e3 => ?_
      exact ⟨rfl, (k2.trans (.of e3)).trans .upd, _, _, upd_same⟩
    · rintro σ' H' ⟨rfl, hk, r', f', hp'⟩
      refine q_asg (v := .int ((r' % limit : Nat) : Int)) (ev_op (ev_int (ev_ixL (ev_v rfl) (ev_cn 2) (sq_of hp') rfl)) (ev_v rfl) (rv_modN h0)) fun H1 e1 => ?_
      refine q_setL (j := 2) (v := .int ((r' / limit : Nat) : Int)) (e1 p _ hp') (ev_op (ev_int (ev_ixL (ev_v rfl) (ev_cn 2) (sq_of (e1 p _ hp')) rfl)) (ev_v rfl) (rv_divWN (n := 63) h0 hlim (by decide) (by decide))) (ev_v rfl) (ev_cn 2) (by show 2 < 4; decide) fun H2 e2 => ?_
      have k3 : Keep p H (upd H2 p (.lst [.ref sc, .int (pl : Int), .int ((r' / limit : Nat) : Int), .int (f' : Int)])) := (hk.trans (.of (e1.trans e2))).trans .upd
      refine s_ret (ev_v rfl) fun H3 e3 => q (r' % limit) H3 (Nat.mod_lt _ h0) (G.exR ⟨k3, hP0.mk' (r := r' / limit) (f := f') k3 upd_same⟩ e3)
abbrev s_law_pick : Stmt := topS 86
theorem sc_law_pick : FnScope ["pool", "options"] ["pool", "options"] (defScope s_law_pick) := ⟨rfl, rfl, rfl, by decide +kernel, rfl, by decide +kernel, by decide +kernel⟩
/- 0 pool, 1 options -/
theorem fn_pick {f : Addr} {fd : FuncData} {k : Nat} (F : Fun K "_law_pick" "_law_pick" s_law_pick f fd) (N : Nb mg) (C_law_draw : Cal P w K mg base k "_law_draw" ["pool", "limit"] (sp_draw K)) : FnOk P w K mg base CX0 (k + 1) f fd ["pool", "options"] (sp_pick K) := by
  refine F.ok sc_law_pick (fun vs H Q E h => ?_) (fun cdv A outer s H vs Q E hr h => ?_)
  · obtain ⟨_, _, _, _, _, rfl, _⟩ := h
    rfl
  · obtain ⟨p, sc, ns, a, xs, rfl, hP, hS, hne, hx, hl, q⟩ := h
    refine ⟨_, (pss_one (ps_ret (pe_ix ix_list (pv 1) (pe_cal C_law_draw hr (pa_cons (pv 0) (pa_cons (pe_callB call_len_seq (by rfl) N.len PySem.boot_len (pa_cons (pv 1) pa_nil)) pa_nil))) (fun _ _ => rfl)))), ?_⟩
    have h0 : 0 < xs.length := List.length_pos_iff.mpr hx
    refine r_ret (r_op (r_var rfl (r_call (r_cons (r_var rfl (r_cons (r_ev (ev_len (K := K) (ev_v rfl) hS) (Ex.refl H) fun H3 e3 => r_nil ?_)))))))
    refine ⟨p, sc, ns, xs.length, rfl, hP.ex e3, h0, by omega, fun v H4 hv g => ?_⟩
    exact rv_ixLn (keep_l g.1 hne (ex_l e3 hS)) (List.getElem?_eq_getElem hv) H4 (Ex.refl H4) _ fun H5 e5 => q _ H5 (List.getElem_mem hv) ((G.exL e3 g).exR e5)
abbrev s_law_next : Stmt := topS 84
theorem sc_law_next : FnScope ["pool"] ["pool"] (defScope s_law_next) := ⟨rfl, rfl, rfl, by decide +kernel, rfl, by decide +kernel, by decide +kernel⟩
/- 0 pool -/
def sp_next (K : PySem.W.Frag) : Sp := fun vs H Q _ => ∃ (p sc : Addr) (ns : List Int), vs = [.ref p] ∧ Pool K H p sc ns ∧ ∀ H', G K p sc ns H H' → Q .non H'
theorem fn_next {f : Addr} {fd : FuncData} {k : Nat} (F : Fun K "_law_next" "_law_next" s_law_next f fd) (N : Nb mg) (C_law_rest : Cal P w K mg base k "_law_rest" ["script", "place", "fills"] (spV (ok_rest_ K))) : FnOk P w K mg base CX0 (k + 1) f fd ["pool"] (sp_next K) := by
  refine F.ok sc_law_next (fun vs H Q E h => ?_) (fun cdv A outer s H vs Q E hr h => ?_)
  · obtain ⟨_, _, _, rfl, _⟩ := h
    rfl
  · obtain ⟨p, sc, xs, rfl, hP, q⟩ := h
    refine ⟨_, (pss_cons (ps_asg (pe_op op_add (pe_ix ix_list (pv 0) pe_int (fun _ _ => rfl)) pe_int) (pg_sub (pv 0) pe_int set_list))
      (pss_cons (ps_asg (pe_cal C_law_rest hr (pa_cons (pe_ix ix_list (pv 0) pe_int (fun _ _ => rfl)) (pa_cons (pe_ix ix_list (pv 0) pe_int (fun _ _ => rfl)) (pa_cons pe_int pa_nil)))) (pg_sub (pv 0) pe_int set_list))
      (pss_one (ps_asg pe_int (pg_sub (pv 0) pe_int set_list))))), ?_⟩
    have hP0 := hP
    obtain ⟨pl, r, f, hp, hS⟩ := hP
    refine q_setL (j := 1) (v := .int ((pl + 1 : Nat) : Int)) hp (ev_op (ev_ixL (ev_v rfl) (ev_cn 1) (sq_of hp) rfl) (ev_cn 1) rv_addN) (ev_v rfl) (ev_cn 1) (by show 1 < 4; decide) fun H1 e1 => ?_
    have k1 : Keep p H (upd H1 p (.lst [.ref sc, .int ((pl + 1 : Nat) : Int), .int (r : Int), .int (f : Int)])) := (Keep.of e1).trans .upd
    refine q_setL (j := 2) (v := .int (restF xs (pl + 1) 0 : Nat)) (xs := [.ref sc, .int ((pl + 1 : Nat) : Int), .int (r : Int), .int (f : Int)]) upd_same (ev_cal (ea_cons (ev_ixL (ev_v rfl) (ev_cn 0) (sq_of upd_same) rfl) (ea_cons (ev_ixL (ev_v rfl) (ev_cn 1) (sq_of upd_same) rfl) (ea_cons (ev_cn 0) ea_nil))) fun H3 e3 => ⟨sc, xs, pl + 1, 0, rfl, ex_l e3 (sc_keep hp k1 hS), rfl⟩) (ev_v rfl) (ev_cn 2) (by show 2 < 4; decide) fun H2 e2 => ?_
    have k2 : Keep p H (upd H2 p (.lst [.ref sc, .int ((pl + 1 : Nat) : Int), .int (restF xs (pl + 1) 0 : Nat), .int (f : Int)])) := (k1.trans (.of e2)).trans .upd
    refine s_setL (j := 3) (v := .int ((0 : Nat) : Int)) (xs := [.ref sc, .int ((pl + 1 : Nat) : Int), .int (restF xs (pl + 1) 0 : Nat), .int (f : Int)]) upd_same (ev_cn 0) (ev_v rfl) (ev_cn 3) (by show 3 < 4; decide) fun H3 e3 => ?_
    have k3 : Keep p H (upd H3 p (.lst [.ref sc, .int ((pl + 1 : Nat) : Int), .int (restF xs (pl + 1) 0 : Nat), .int ((0 : Nat) : Int)])) := (k2.trans (.of e3)).trans .upd
    exact q _ ⟨k3, hP0.mk' k3 upd_same⟩
end
end K82

set_option Elab.async false
set_option linter.all false
set_option maxRecDepth 100000
set_option maxHeartbeats 4000000
namespace K82
open PySem PySem.Spec PyProof.Rows L2 Evl My
mutual
theorem pln_wid : ∀ d, Pln d → Wid d
  | .tup ds, h => by
    rw [Pln] at h
    rw [Wid]
    exact ⟨by omega, pln_widL ds h.2⟩
  | .lst ds, h => by
    rw [Pln] at h
    exact h.elim
  | .non, _ => by simp [Wid]
  | .bl _, _ => by simp [Wid]
  | .int _, _ => by simp [Wid]
  | .str _, _ => by simp [Wid]
theorem pln_widL : ∀ ds, PlnL ds → WidL ds
  | [], _ => by rw [WidL]; trivial
  | d :: ds, h => by
    rw [PlnL] at h
    rw [WidL]
    exact ⟨pln_wid d h.1, pln_widL ds h.2⟩
end
section
variable {P : Program} {w : World} {K : PySem.W.Frag} {mg : Str → Option Value} {base : Heap}
theorem ev_lenDk {σ : L2.St} {H : Hp} {te : TE} {d : Addr} {kvs : List (Key × V)} (h : Ev te σ H (.ref d)) (hd : H d = some (.dK kvs)) : Ev (tCB (fun xs H Q => ∃ (a : Addr) (kvs : List (Key × V)), xs = [V.ref a] ∧ H a = some (.dK kvs) ∧ Q (.int kvs.length) H) (tCons te tNil)) σ H (.int (kvs.length : Int)) := fun H1 e Q q =>
  h H1 e _ fun H2 e2 => ⟨d, kvs, rfl, (e.trans e2) _ _ hd, q H2 e2⟩
abbrev s_law_same : Stmt := topS 87
theorem sc_law_same : FnScope ["answer", "due", "key", "k"] ["answer", "due"] (defScope s_law_same) := ⟨rfl, rfl, rfl, by decide +kernel, rfl, by decide +kernel, by decide +kernel⟩
/- 0 answer*, 1 due*, 2 key, 3 k -/
def ok_same (h : Nat) (vs : List V) (H : Hp) (z : V) : Prop := ∃ (a b : V) (d : D), vs = [a, b] ∧ Rep H a d ∧ Rep H b d ∧ Wid d ∧ height d < h ∧ z = .bl true
theorem fn_same {f : Addr} {fd : FuncData} {k h : Nat} (F : Fun K "_law_same" "_law_same" s_law_same f fd) (N : Nb mg) (C_law_same : Cal P w K mg base k "_law_same" ["answer", "due"] (spV (ok_same h))) : FnOk P w K mg base CX0 (k + 1) f fd ["answer", "due"] (spV (ok_same (h + 1))) := by
  refine F.ok sc_law_same (fun vs H Q E h => ?_) (fun cdv A outer s H vs Q E hr h => ?_)
  · obtain ⟨_, ⟨_, _, _, rfl, _⟩, _⟩ := h
    rfl
  · obtain ⟨_, ⟨a, b, d, rfl, r1, r2, hw, hh, hz⟩, q⟩ := h
    rw [hz] at q
    refine ⟨_, (pss_cons (ps_if (pt_val (pe_callB call_isi (by rfl) N.isinstance PyProof.Rows.boot_isinstance (pa_cons (pv 1) (pa_cons (pe_bltn (v := .ty "dict") (by rfl) N.dict PyProof.Rows.boot_dict rfl) pa_nil)))) pss_never pss_nil)
      (pss_cons (ps_if (PW.pt (pw_or (pt_val (pe_callB call_isi (by rfl) N.isinstance PyProof.Rows.boot_isinstance (pa_cons (pv 1) (pa_cons (pe_bltn (v := .ty "list") (by rfl) N.list PyProof.Rows.boot_list rfl) pa_nil)))) (pw_or1 (pt_val (pe_callB call_isi (by rfl) N.isinstance PyProof.Rows.boot_isinstance (pa_cons (pv 1) (pa_cons (pe_bltn (v := .ty "tuple") (by rfl) N.tuple PyProof.Rows.boot_tuple rfl) pa_nil))))))) (pss_cons (ps_if (PW.pt (pw_or (pt_cmpR op_ne (pe_callB call_isi (by rfl) N.isinstance PyProof.Rows.boot_isinstance (pa_cons (pv 1) (pa_cons (pe_bltn (v := .ty "list") (by rfl) N.list PyProof.Rows.boot_list rfl) pa_nil))) (pe_callB call_isi (by rfl) N.isinstance PyProof.Rows.boot_isinstance (pa_cons (pv 0) (pa_cons (pe_bltn (v := .ty "list") (by rfl) N.list PyProof.Rows.boot_list rfl) pa_nil))) (nomark _)) (pw_or1 (pt_cmpR op_ne (pe_callB call_isi (by rfl) N.isinstance PyProof.Rows.boot_isinstance (pa_cons (pv 1) (pa_cons (pe_bltn (v := .ty "tuple") (by rfl) N.tuple PyProof.Rows.boot_tuple rfl) pa_nil))) (pe_callB call_isi (by rfl) N.isinstance PyProof.Rows.boot_isinstance (pa_cons (pv 0) (pa_cons (pe_bltn (v := .ty "tuple") (by rfl) N.tuple PyProof.Rows.boot_tuple rfl) pa_nil))) (nomark _))))) (pss_one (ps_ret pe_bl)) pss_nil)
      (pss_one (ps_ret (pe_and (pe_cmpR op_eq (pe_callB call_len_seq (by rfl) N.len PySem.boot_len (pa_cons (pv 0) pa_nil)) (pe_callB call_len_seq (by rfl) N.len PySem.boot_len (pa_cons (pv 1) pa_nil)) (nomark _)) (pe_one (pe_callB (cr_all rfl) (by rfl) N.all PyProof.Rows.boot_all (pa_cons (pe_lc (own := [("k", 3)]) (by rfl) sc_law_same.nd (pi_range1 rfl N.range (pa_cons (pe_callB call_len_seq (by rfl) N.len PySem.boot_len (pa_cons (pv 1) pa_nil)) pa_nil)) (blkOk_by (own := [("k", 3)]) (N := ["answer", "due", "key", "k"]) (sc := defScope s_law_same) (by decide +kernel)) (fun _ _ _ _ _ => (pg_name (i := 3) sc_law_same.nd rfl (Or.inl rfl))) (fun _ _ _ _ _ => pts_nil) (fun _ _ _ _ _ => (pe_cal C_law_same hr (pa_cons (pe_ix (r := rIx K) ix_seq (pv 0) (pv 3) (fun _ _ => rfl)) (pa_cons (pe_ix (r := rIx K) ix_seq (pv 1) (pv 3) (fun _ _ => rfl)) pa_nil))))) pa_nil))))))) pss_nil)
      (pss_cons (ps_if (pt_val (pe_callB call_isi (by rfl) N.isinstance PyProof.Rows.boot_isinstance (pa_cons (pv 1) (pa_cons (pe_bltn (v := .ty "str") (by rfl) N.str PyProof.Rows.boot_str rfl) pa_nil)))) (pss_one (ps_ret (pe_and (pe_callB call_isi (by rfl) N.isinstance PyProof.Rows.boot_isinstance (pa_cons (pv 0) (pa_cons (pe_bltn (v := .ty "str") (by rfl) N.str PyProof.Rows.boot_str rfl) pa_nil))) (pe_one (pe_cmpR op_eq (pv 0) (pv 1) (nomark _)))))) pss_nil)
      (pss_cons (ps_if (PW.pt (pw_or (pt_cmpR op_isN (pv 1) pe_non (nomark _)) (pw_or (pt_cmpR op_isBA (pv 1) pe_bl (nomark _)) (pw_or1 (pt_cmpR op_isBA (pv 1) pe_bl (nomark _)))))) (pss_one (ps_ret (pe_or (pe_and (pe_cmpR op_isN (pv 1) pe_non (nomark _)) (pe_one (pe_cmpR op_isN (pv 0) pe_non (nomark _)))) (pe_or (pe_and (pe_cmpR op_isBA (pv 1) pe_bl (nomark _)) (pe_one (pe_cmpR op_isBA (pv 0) pe_bl (nomark _)))) (pe_one (pe_and (pe_cmpR op_isBA (pv 1) pe_bl (nomark _)) (pe_one (pe_cmpR op_isBA (pv 0) pe_bl (nomark _))))))))) pss_nil)
      (pss_one (ps_ret (pe_and (pe_callB call_isi (by rfl) N.isinstance PyProof.Rows.boot_isinstance (pa_cons (pv 0) (pa_cons (pe_bltn (v := .ty "int") (by rfl) N.int PyProof.Rows.boot_int rfl) pa_nil))) (pe_and (pe_not (pe_callB call_isi (by rfl) N.isinstance PyProof.Rows.boot_isinstance (pa_cons (pv 0) (pa_cons (pe_bltn (v := .ty "bool") (by rfl) N.bool PyProof.Rows.boot_bool rfl) pa_nil)))) (pe_one (pe_cmpR op_eq (pv 0) (pv 1) (nomark _))))))))))), ?_⟩
    have isi0 : ∀ {T : String} {σ : L2.St} {H' : Hp} {c : Bool}, Ex H H' → σ[0]? = some (some a) → kitB (tyD d) T = some c → Ev (tCB (rIsi K) (tCons (tVar 0) (tCons (tC (.ty T)) tNil))) σ H' (.bl c) := fun e hv hk => ev_isi (ev_v hv) (r1.mono e) hk
    have isi1 : ∀ {T : String} {σ : L2.St} {H' : Hp} {c : Bool}, Ex H H' → σ[1]? = some (some b) → kitB (tyD d) T = some c → Ev (tCB (rIsi K) (tCons (tVar 1) (tCons (tC (.ty T)) tNil))) σ H' (.bl c) := fun e hv hk => ev_isi (ev_v hv) (r2.mono e) hk
    refine q_when (et_test (isi1 (Ex.refl H) rfl (kDD d))) (fun z => nomatch z) fun _ H1 e1 => ?_
    refine q_when (b := isLD d || isTD d) (et_or (et_test (isi1 e1 rfl (kLD d))) fun _ => et_test (isi1 e1 rfl (kTD d))) (fun hb H2 e2 => ?_) fun hb H2 e2 => ?_
    · have E2 := e1.trans e2
      refine q_when (b := false) (et_is (et_or (et_test (ev_op (isi1 E2 rfl (kLD d)) (isi0 E2 rfl (kLD d)) (rv_ne rfl))) fun _ => et_test (ev_op (isi1 E2 rfl (kTD d)) (isi0 E2 rfl (kTD d)) (rv_ne rfl))) (by simp)) (fun z => nomatch z) fun _ H3 e3 => ?_
      have E3 := E2.trans e3
      have core : ∃ (a1 b1 : Addr) (us ws : List V) (ds : List D), a = .ref a1 ∧ b = .ref b1 ∧ (SqL K H a1 us ∨ SqT K H a1 us) ∧ (SqL K H b1 ws ∨ SqT K H b1 ws) ∧ Reps H us ds ∧ Reps H ws ds ∧ ds.length ≤ 10000 ∧ WidL ds ∧ heightL ds < h := by
        cases r2 with
        | tup e2 rs2 =>
          cases r1 with
          | tup e1 rs1 =>
            rw [Wid] at hw
            rw [height] at hh
            exact ⟨_, _, _, _, _, rfl, rfl, .inr (st_of e1), .inr (st_of e2), rs1, rs2, hw.1, hw.2, by omega⟩
        | lst e2 rs2 =>
          cases r1 with
          | lst e1 rs1 =>
            rw [Wid] at hw
            rw [height] at hh
            exact ⟨_, _, _, _, _, rfl, rfl, .inl (sq_of e1), .inl (sq_of e2), rs1, rs2, hw.1, hw.2, by omega⟩
        | non => exact nomatch hb
        | bl c => exact nomatch hb
        | int i => exact nomatch hb
        | str l => exact nomatch hb
      obtain ⟨a1, b1, us, ws, ds, rfl, rfl, s1, s2, rs1, rs2, hn, hW, hH⟩ := core
      have l1 := rs1.len
      have l2 := rs2.len
      refine s_ret (ev_andV (a := true) (b := true) (ev_is (ev_op (ev_lenQ (ev_v rfl) (ex_q E3 s1)) (ev_lenQ (ev_v rfl) (ex_q E3 s2)) (rv_eq rfl)) (by rw [l1, l2, decide_eq_true rfl])) fun _ => ev_is (ev_all (bs := (List.range ds.length).map fun _ => true) ?_) (by simp)) fun H4 e4 => q H4 (E3.trans e4)
      have hg : ((List.range ds.length).map fun _ => true).map V.bl = given ((ds.length : Int)).toNat (fun _ => true) (fun _ => .bl true) := by
        rw [Int.toNat_natCast, given_all, List.map_map]
        rfl
      rw [hg]
      refine el_lcR1 (fun _ => true) (fun _ => .bl true) (n := (ds.length : Int)) (ea_cons (ev_is (ev_lenQ (ev_v rfl) (ex_q E3 s2)) (by rw [l2])) ea_nil) (by omega) (fun _ => rfl) (fun i H4 e4 hi => et_yes) fun i H4 e4 hi _ => ?_
      obtain ⟨d, gd⟩ : ∃ d, ds[i]? = some d := ⟨_, List.getElem?_eq_getElem (by omega)⟩
      obtain ⟨v1, hv1, rv1⟩ := rs1.get gd
      obtain ⟨v2, hv2, rv2⟩ := rs2.get gd
      have gh := heightL_get gd
      have E4 := E3.trans e4
      exact ev_cal (ea_cons (ev_op (ev_v rfl) (ev_v rfl) (rv_ixQ (ex_q E4 s1) hv1)) (ea_cons (ev_op (ev_v rfl) (ev_v rfl) (rv_ixQ (ex_q E4 s2) hv2)) ea_nil)) fun H5 e5 => ⟨v1, v2, d, rfl, rv1.mono (E4.trans e5), rv2.mono (E4.trans e5), WidL_get hW gd, by omega, rfl⟩
    have E2 := e1.trans e2
    refine q_when (et_test (isi1 E2 rfl (kSD d))) (fun hb2 H3 e3 => ?_) fun hb2 H3 e3 => ?_
    · cases r2 with
      | str l =>
        cases r1
        exact s_ret (ev_andV (a := true) (b := true) (isi0 (E2.trans e3) rfl (kSD _)) fun _ => ev_is (ev_op (ev_v rfl) (ev_v rfl) (rv_eq rfl)) (by rw [decide_eq_true rfl])) fun H4 e4 => q H4 ((E2.trans e3).trans e4)
      | _ => exact nomatch hb2
    have E3 := E2.trans e3
    cases r2 with
    | tup _ _ => exact nomatch hb
    | lst _ _ => exact nomatch hb
    | str _ => exact nomatch hb2
    | non =>
      cases r1
      refine q_when (b := true) (et_or (a := true) (b := false) (et_test (ev_isNv rfl (by rfl))) fun z => nomatch z) (fun _ H4 e4 => ?_) fun z => nomatch z
      exact s_ret (ev_orV (a := true) (b := false) (ev_andV (a := true) (b := true) (ev_isNv rfl (by rfl)) fun _ => ev_isNv rfl (by rfl)) fun z => nomatch z) fun H5 e5 => q H5 ((E3.trans e4).trans e5)
    | bl c =>
      cases r1
      cases c with
      | true =>
        refine q_when (b := true) (et_or (a := false) (b := true) (et_test (ev_isNv rfl (by rfl))) fun _ => et_or (a := true) (b := false) (et_test (ev_isBv rfl (by rfl))) fun z => nomatch z) (fun _ H4 e4 => ?_) fun z => nomatch z
        exact s_ret (ev_orV (a := false) (b := true) (ev_andV (a := false) (b := false) (ev_isNv rfl (by rfl)) fun z => nomatch z) fun _ => ev_orV (a := true) (b := false) (ev_andV (a := true) (b := true) (ev_isBv rfl (by rfl)) fun _ => ev_isBv rfl (by rfl)) fun z => nomatch z) fun H5 e5 => q H5 ((E3.trans e4).trans e5)
      | false =>
        refine q_when (b := true) (et_or (a := false) (b := true) (et_test (ev_isNv rfl (by rfl))) fun _ => et_or (a := false) (b := true) (et_test (ev_isBv rfl (by rfl))) fun _ => et_test (ev_isBv rfl (by rfl))) (fun _ H4 e4 => ?_) fun z => nomatch z
        exact s_ret (ev_orV (a := false) (b := true) (ev_andV (a := false) (b := false) (ev_isNv rfl (by rfl)) fun z => nomatch z) fun _ => ev_orV (a := false) (b := true) (ev_andV (a := false) (b := false) (ev_isBv rfl (by rfl)) fun z => nomatch z) fun _ => ev_andV (a := true) (b := true) (ev_isBv rfl (by rfl)) fun _ => ev_isBv rfl (by rfl)) fun H5 e5 => q H5 ((E3.trans e4).trans e5)
    | int i =>
      cases r1
      refine q_when (b := false) (et_or (a := false) (b := false) (et_test (ev_isNv rfl (by rfl))) fun _ => et_or (a := false) (b := false) (et_test (ev_isBv rfl (by rfl))) fun _ => et_test (ev_isBv rfl (by rfl))) (fun z => nomatch z) fun _ H4 e4 => ?_
      exact s_ret (ev_andV (a := true) (b := true) (isi0 (E3.trans e4) rfl (kID _)) fun _ => ev_andV (a := true) (b := true) (ev_notV (a := false) (isi0 (E3.trans e4) rfl (kBD _))) fun _ => ev_is (ev_op (ev_v rfl) (ev_v rfl) (rv_eq rfl)) (by rw [decide_eq_true rfl])) fun H5 e5 => q H5 ((E3.trans e4).trans e5)
def ok_sameD (vs : List V) (H : Hp) (z : V) : Prop := ∃ (p q : Addr) (f : L → Sg) (k1 ks : List L), vs = [.ref p, .ref q] ∧ HdAt f H p k1 ∧ HdAt f H q ks ∧ k1.length = ks.length ∧ (∀ x ∈ ks, x ∈ k1) ∧ (∀ x ∈ ks, OkS (f x)) ∧ ks.length ≤ 100 ∧ z = .bl true
theorem fn_sameD {f : Addr} {fd : FuncData} {k : Nat} (F : Fun K "_law_same" "_law_same" s_law_same f fd) (N : Nb mg) (C_law_same : Cal P w K mg base k "_law_same" ["answer", "due"] (spV (ok_same 5))) : FnOk P w K mg base CX0 (k + 1) f fd ["answer", "due"] (spV ok_sameD) := by
  refine F.ok sc_law_same (fun vs H Q E h => ?_) (fun cdv A outer s H vs Q E hr h => ?_)
  · obtain ⟨_, ⟨_, _, _, _, _, rfl, _⟩, _⟩ := h
    rfl
  · obtain ⟨_, ⟨a, b, f, k1, ks, rfl, ⟨ka, a1, a2⟩, ⟨kb, b1, b2⟩, hlen, hin, hok, hl, hz⟩, q⟩ := h
    rw [hz] at q
    refine ⟨_, (pss_cons (ps_if (pt_val (pe_callB call_isi (by rfl) N.isinstance PyProof.Rows.boot_isinstance (pa_cons (pv 1) (pa_cons (pe_bltn (v := .ty "dict") (by rfl) N.dict PyProof.Rows.boot_dict rfl) pa_nil)))) (pss_cons (ps_if (PW.pt (pw_or (pt_not (pt_val (pe_callB call_isi (by rfl) N.isinstance PyProof.Rows.boot_isinstance (pa_cons (pv 0) (pa_cons (pe_bltn (v := .ty "dict") (by rfl) N.dict PyProof.Rows.boot_dict rfl) pa_nil))))) (pw_or1 (pt_cmpR op_ne (pe_callB call_lenD (by rfl) N.len PySem.boot_len (pa_cons (pv 0) pa_nil)) (pe_callB call_lenD (by rfl) N.len PySem.boot_len (pa_cons (pv 1) pa_nil)) (nomark _))))) (pss_one (ps_ret pe_bl)) pss_nil)
      (pss_one (ps_ret (pe_callB (cr_all rfl) (by rfl) N.all PyProof.Rows.boot_all (pa_cons (pe_lock (pe_lc (own := [("key", 2)]) (by rfl) sc_law_same.nd (pi_keys (pv 1)) (blkOk_by (own := [("key", 2)]) (N := ["answer", "due", "key", "k"]) (sc := defScope s_law_same) (by decide +kernel)) (fun _ _ _ _ _ => (pg_name (i := 2) sc_law_same.nd rfl (Or.inl rfl))) (fun _ _ _ _ _ => pts_nil) (fun _ _ _ _ _ => (pe_and (pe_cmp (pc_din (hu_of hr) (pv 2) (pv 0))) (pe_one (pe_cal C_law_same hr (pa_cons (pe_dget (hu_of hr) (pv 0) (pv 2) (fun _ _ => rfl)) (pa_cons (pe_dget (hu_of hr) (pv 1) (pv 2) (fun _ _ => rfl)) pa_nil)))))))) pa_nil))))) pss_nil)
      (pss_cons (ps_if (PW.pt (pw_or (pt_val (pe_callB call_isi (by rfl) N.isinstance PyProof.Rows.boot_isinstance (pa_cons (pv 1) (pa_cons (pe_bltn (v := .ty "list") (by rfl) N.list PyProof.Rows.boot_list rfl) pa_nil)))) (pw_or1 (pt_val (pe_callB call_isi (by rfl) N.isinstance PyProof.Rows.boot_isinstance (pa_cons (pv 1) (pa_cons (pe_bltn (v := .ty "tuple") (by rfl) N.tuple PyProof.Rows.boot_tuple rfl) pa_nil))))))) (pss_cons (ps_if (PW.pt (pw_or (pt_cmpR op_ne (pe_callB call_isi (by rfl) N.isinstance PyProof.Rows.boot_isinstance (pa_cons (pv 1) (pa_cons (pe_bltn (v := .ty "list") (by rfl) N.list PyProof.Rows.boot_list rfl) pa_nil))) (pe_callB call_isi (by rfl) N.isinstance PyProof.Rows.boot_isinstance (pa_cons (pv 0) (pa_cons (pe_bltn (v := .ty "list") (by rfl) N.list PyProof.Rows.boot_list rfl) pa_nil))) (nomark _)) (pw_or1 (pt_cmpR op_ne (pe_callB call_isi (by rfl) N.isinstance PyProof.Rows.boot_isinstance (pa_cons (pv 1) (pa_cons (pe_bltn (v := .ty "tuple") (by rfl) N.tuple PyProof.Rows.boot_tuple rfl) pa_nil))) (pe_callB call_isi (by rfl) N.isinstance PyProof.Rows.boot_isinstance (pa_cons (pv 0) (pa_cons (pe_bltn (v := .ty "tuple") (by rfl) N.tuple PyProof.Rows.boot_tuple rfl) pa_nil))) (nomark _))))) (pss_one (ps_ret pe_bl)) pss_nil)
      (pss_one (ps_ret (pe_and (pe_cmpR op_eq (pe_callB call_lenD (by rfl) N.len PySem.boot_len (pa_cons (pv 0) pa_nil)) (pe_callB call_lenD (by rfl) N.len PySem.boot_len (pa_cons (pv 1) pa_nil)) (nomark _)) (pe_one (pe_callB (cr_all rfl) (by rfl) N.all PyProof.Rows.boot_all (pa_cons (pe_lc (own := [("k", 3)]) (by rfl) sc_law_same.nd (pi_range1 rfl N.range (pa_cons (pe_callB call_lenD (by rfl) N.len PySem.boot_len (pa_cons (pv 1) pa_nil)) pa_nil)) (blkOk_by (own := [("k", 3)]) (N := ["answer", "due", "key", "k"]) (sc := defScope s_law_same) (by decide +kernel)) (fun _ _ _ _ _ => (pg_name (i := 3) sc_law_same.nd rfl (Or.inl rfl))) (fun _ _ _ _ _ => pts_nil) (fun _ _ _ _ _ => (pe_cal C_law_same hr (pa_cons (pe_dget (hu_of hr) (pv 0) (pv 3) (fun _ _ => rfl)) (pa_cons (pe_dget (hu_of hr) (pv 1) (pv 3) (fun _ _ => rfl)) pa_nil))))) pa_nil))))))) pss_nil)
      (pss_cons (ps_if (pt_val (pe_callB call_isi (by rfl) N.isinstance PyProof.Rows.boot_isinstance (pa_cons (pv 1) (pa_cons (pe_bltn (v := .ty "str") (by rfl) N.str PyProof.Rows.boot_str rfl) pa_nil)))) (pss_one (ps_ret (pe_and (pe_callB call_isi (by rfl) N.isinstance PyProof.Rows.boot_isinstance (pa_cons (pv 0) (pa_cons (pe_bltn (v := .ty "str") (by rfl) N.str PyProof.Rows.boot_str rfl) pa_nil))) (pe_one (pe_cmpR op_eq (pv 0) (pv 1) (nomark _)))))) pss_nil)
      (pss_cons (ps_if (PW.pt (pw_or (pt_cmpR op_isN (pv 1) pe_non (nomark _)) (pw_or (pt_cmpR op_isBA (pv 1) pe_bl (nomark _)) (pw_or1 (pt_cmpR op_isBA (pv 1) pe_bl (nomark _)))))) (pss_one (ps_ret (pe_or (pe_and (pe_cmpR op_isN (pv 1) pe_non (nomark _)) (pe_one (pe_cmpR op_isN (pv 0) pe_non (nomark _)))) (pe_or (pe_and (pe_cmpR op_isBA (pv 1) pe_bl (nomark _)) (pe_one (pe_cmpR op_isBA (pv 0) pe_bl (nomark _)))) (pe_one (pe_and (pe_cmpR op_isBA (pv 1) pe_bl (nomark _)) (pe_one (pe_cmpR op_isBA (pv 0) pe_bl (nomark _))))))))) pss_nil)
      (pss_one (ps_ret (pe_and (pe_callB call_isi (by rfl) N.isinstance PyProof.Rows.boot_isinstance (pa_cons (pv 0) (pa_cons (pe_bltn (v := .ty "int") (by rfl) N.int PyProof.Rows.boot_int rfl) pa_nil))) (pe_and (pe_not (pe_callB call_isi (by rfl) N.isinstance PyProof.Rows.boot_isinstance (pa_cons (pv 0) (pa_cons (pe_bltn (v := .ty "bool") (by rfl) N.bool PyProof.Rows.boot_bool rfl) pa_nil)))) (pe_one (pe_cmpR op_eq (pv 0) (pv 1) (nomark _))))))))))), ?_⟩
    have la := a2.len
    have lb := b2.len
    refine q_when (b := true) (et_test (ev_isiX (ev_v rfl) (fun H1 e1 => ty_dK (e1 _ _ b1)) (by rfl))) (fun _ H1 e1 => ?_) (fun z => nomatch z)
    refine q_when (b := false) (et_or (a := false) (b := false) (et_not (et_test (ev_isiX (b := true) (ev_v rfl) (fun H2 e2 => ty_dK ((e1.trans e2) _ _ a1)) (by rfl)))) fun _ => et_test (ev_is (ev_op (ev_lenDk (ev_v rfl) (e1 _ _ a1)) (ev_lenDk (ev_v rfl) (e1 _ _ b1)) (rv_ne rfl)) (by rw [la, lb, hlen]; simp))) (fun z => nomatch z) fun _ H2 e2 => ?_
    have E2 := e1.trans e2
    refine s_ret (ev_is (ev_all (bs := ks.map fun _ => true) ?_) (by rw [List.all_map]; exact congrArg V.bl (List.all_eq_true.mpr fun _ _ => rfl))) fun H3 e3 => q H3 (E2.trans e3)
    refine el_is (el_lcKg (ks := ks) (fun _ => true) (fun _ => .bl true) (fun H3 => ev_v rfl) (E2 _ _ b1) b2.keys (by omega) (fun _ => rfl) (fun k H3 hH hk => et_yes) fun k H3 hH hk _ => ?_) (by rw [filt_true]; unfold txs; rw [List.map_map, List.map_map]; rfl)
    obtain ⟨od, ho⟩ := hH.2
    obtain ⟨va, hva, ra⟩ := a2.val (hin k hk)
    obtain ⟨vb, hvb, rb⟩ := b2.val hk
    have nl := nol_say (f k)
    have kt : ∀ c us, H2 c = some (.tup us) → H3 c = some (.tup us) := fun c us hc => hH.1 _ _ (fun z => by
      rw [z, E2 _ _ b1] at hc
      exact nomatch hc) hc
    have ra3 := Rep.keepT kt nl (ra.mono E2)
    have rb3 := Rep.keepT kt nl (rb.mono E2)
    have hA : Rd H3 a (.dK ka) := by
      by_cases hab : a = b
      · subst hab
        rw [a1] at b1
        cases b1
        exact .inr ⟨od, ho⟩
      · exact .inl (hH.1 _ _ hab (E2 _ _ a1))
    have hB : Rd H3 b (.dK kb) := .inr ⟨od, ho⟩
    obtain ⟨p1, p2, _⟩ := say_ok (hok k hk)
    refine ev_is (ev_andV (a := true) (b := true) (fun H4 e4 Q4 q4 => ev_v (v := .str (tx k)) rfl H4 (Ex.refl _) _ fun H5 e5 => ev_v (v := .ref a) rfl H5 (Ex.refl _) _ fun H6 e6 => ⟨a, _, rfl, .inl ⟨ka, keyT k, ex_rd ((e4.trans e5).trans e6) hA, rfl, rfl⟩, by
      rw [keyT_in a2.keys k, decide_eq_true (hin k hk)]
      exact q4 H6 (e5.trans e6)⟩) fun _ => ?_) rfl
    refine ev_cal (vs := [va, vb]) (ea_cons (fun H4 e4 Q4 q4 => ev_v (v := .ref a) rfl H4 (Ex.refl _) _ fun H5 e5 => ev_v (v := .str (tx k)) rfl H5 (Ex.refl _) _ fun H6 e6 => ⟨a, va, rfl, .inl ⟨ka, keyT k, ex_rd ((e4.trans e5).trans e6) hA, rfl, hva.symm⟩, q4 H6 (e5.trans e6)⟩) (ea_cons (fun H4 e4 Q4 q4 => ev_v (v := .ref b) rfl H4 (Ex.refl _) _ fun H5 e5 => ev_v (v := .str (tx k)) rfl H5 (Ex.refl _) _ fun H6 e6 => ⟨b, vb, rfl, .inl ⟨kb, keyT k, ex_rd ((e4.trans e5).trans e6) hB, rfl, hvb.symm⟩, q4 H6 (e5.trans e6)⟩) ea_nil)) fun H4 e4 => ⟨va, vb, sayD (f k), rfl, ra3.mono e4, rb3.mono e4, pln_wid _ p1, by omega, rfl⟩
def ok_sameA (vs : List V) (H : Hp) (z : V) : Prop := ok_same 9 vs H z ∨ ok_sameD vs H z
theorem or_fn {k : Nat} {f : Addr} {fd : FuncData} {ps : List Str} {o1 o2 : List V → Hp → V → Prop} (F1 : FnOk P w K mg base CX0 k f fd ps (spV o1)) (F2 : FnOk P w K mg base CX0 k f fd ps (spV o2)) : FnOk P w K mg base CX0 k f fd ps (spV fun vs H z => o1 vs H z ∨ o2 vs H z) :=
  ⟨fun vs H Q E h => by
    obtain ⟨z, h | h, q⟩ := h
    · exact F1.len vs H Q E ⟨z, h, q⟩
    · exact F2.len vs H Q E ⟨z, h, q⟩, fun A outer s H args us vs Q E hr he hb hv h => by
    obtain ⟨z, h | h, q⟩ := h
    · exact F1.run A outer s H args us vs Q E hr he hb hv ⟨z, h, q⟩
    · exact F2.run A outer s H args us vs Q E hr he hb hv ⟨z, h, q⟩⟩
theorem cal_same_ {f : Addr} {fd : FuncData} {k : Nat} (F : Fun K "_law_same" "_law_same" s_law_same f fd) (hb : Binds K fd ["answer", "due"] []) (hk : PySem.W.keepIn K (.ref f) = true) (hm : mg "_law_same" = some (.ref f)) (N : Nb mg) : ∀ h, Cal P w K mg base (k + h) "_law_same" ["answer", "due"] (spV (ok_same h))
  | 0 => ⟨f, fd, ⟨fun vs H Q E h => by obtain ⟨_, ⟨_, _, _, _, _, _, _, h, _⟩, _⟩ := h; exact (Nat.not_lt_zero _ h).elim, fun A outer s H args us vs Q E _ _ _ _ h => by obtain ⟨_, ⟨_, _, _, _, _, _, _, h, _⟩, _⟩ := h; exact (Nat.not_lt_zero _ h).elim⟩, hb, hk, hm⟩
  | h + 1 => ⟨f, fd, fn_same F N (cal_same_ F hb hk hm N h), hb, hk, hm⟩
theorem cal_same {f : Addr} {fd : FuncData} {k : Nat} (F : Fun K "_law_same" "_law_same" s_law_same f fd) (hb : Binds K fd ["answer", "due"] []) (hk : PySem.W.keepIn K (.ref f) = true) (hm : mg "_law_same" = some (.ref f)) (N : Nb mg) (h : Nat) : Cal P w K mg base (k + 11) "_law_same" ["answer", "due"] (spV ok_sameA) := by
  have c9 := cal_same_ (P := P) (w := w) (base := base) (k := k) F hb hk hm N 8
  have c5 := cal_same_ (P := P) (w := w) (base := base) (k := k) F hb hk hm N 5
  have f9 := fn_same F N c9
  have fD := fn_sameD F N c5
  exact ⟨f, fd, or_fn (f9.mono (by omega)) (fD.mono (by omega)), hb, hk, hm⟩
abbrev s_law_different : Stmt := topS 88
theorem sc_law_different : FnScope ["items", "found", "item"] ["items"] (defScope s_law_different) := ⟨rfl, rfl, rfl, by decide +kernel, rfl, by decide +kernel, by decide +kernel⟩
/- 0 items, 1 found, 2 item -/
def ok_different (K : PySem.W.Frag) (vs : List V) (H : Hp) (z : List V) : Prop := ∃ (a : Addr) (ps : List L), vs = [.ref a] ∧ SqL K H a (txs ps) ∧ ps.length ≤ 1000 ∧ z = txs (dedF ps)
theorem fn_different {f : Addr} {fd : FuncData} {k : Nat} (F : Fun K "_law_different" "_law_different" s_law_different f fd) (N : Nb mg) : FnOk P w K mg base CX0 (k + 1) f fd ["items"] (spL (ok_different K)) := by
  refine F.ok sc_law_different (fun vs H Q E h => ?_) (fun cdv A outer s H vs Q E hr h => ?_)
  · obtain ⟨_, ⟨_, _, rfl, _⟩, _⟩ := h
    rfl
  · obtain ⟨_, ⟨a, ps, rfl, hS, hl, hz⟩, q⟩ := h
    subst hz
    refine ⟨_, (pss_cons (ps_set (i := 1) sc_law_different.nd rfl (Or.inl rfl) (pe_lst pa_nil))
      (pss_cons (ps_for PassesOwn.never rfl (pi_list (pv 0)) (pg_name (i := 2) sc_law_different.nd rfl (Or.inl rfl)) (pss_one (ps_if (pt_cmpR op_notIn_seq (pv 2) (pv 1) rfl) (pss_one (ps_expr (pe_bm PySem.F.plainAttrs_list PySem.F.slot_list_append PySem.F.type_list_append mt_append (pv 1) (pa_cons (pv 2) pa_nil)))) pss_nil)))
      (pss_one (ps_ret (pv 1))))), ?_⟩
    refine q_asgL (el_lst ea_nil (by decide)) fun p H1 hp e1 h1 => ?_
    refine q_forLn (a := a) (xs := txs ps) (ev_v rfl) (ex_l e1 hS) (fun i σ' H' => Ex H H' ∧ H' p = some (.lst (txs (dedF (ps.take i)))) ∧ ∃ y, σ' = [some (.ref a), some (.ref p), y]) (fun H2 e2 => ⟨e1.trans e2, e2 _ _ h1, none, rfl⟩) (fun i σ' H' hi h => ex_l h.1 hS) ?_ ?_
    · rintro i x σ' H' hx ⟨e, hP, y, rfl⟩
      obtain ⟨rfl, hi, hg⟩ := txs_get' hx
      generalize hk : ps.getD i [] = k at hg
      have hnext : dedF (ps.take (i + 1)) = addF (dedF (ps.take i)) k := by
        rw [List.take_add_one, hg, ← ded_snoc]
        rfl
      have hdl := ded_len (ps.take i)
      rw [List.length_take] at hdl
      refine s_when (b := !decide (k ∈ dedF (ps.take i))) (et_test (ev_is (ev_op (ev_v rfl) (ev_v rfl) (rv_niL (xs := txs (dedF (ps.take i))) (sq_of hP) rfl (txs_flat _))) (by rw [txs_in]))) (fun hb H2 e2 => ?_) fun hb H2 e2 => ?_
      · refine s_app (e2 _ _ hP) (ev_v rfl) (ev_v rfl) (by rw [txs_len]; omega) fun H3 e3 => ⟨((e.trans e2).trans e3).mut hp, ?_, _, rfl⟩
        have hni : ¬ k ∈ dedF (ps.take i) := fun z => by
          rw [decide_eq_true z] at hb
          exact nomatch hb
        rw [upd_same, hnext]
        unfold addF
        rw [if_neg hni]
        unfold txs
        rw [List.map_append]
        rfl
      · have hin : k ∈ dedF (ps.take i) := by
          refine Classical.byContradiction fun z => ?_
          rw [decide_eq_false z] at hb
          exact nomatch hb
        refine ⟨e.trans e2, ?_, _, rfl⟩
        rw [hnext]
        unfold addF
        rw [if_pos hin]
        exact e2 _ _ hP
    · rintro σ' H' ⟨e, hP, y, rfl⟩
      rw [txs_len, List.take_of_length_le (Nat.le_refl _)] at hP
      exact s_ret (ev_v rfl) fun H2 e2 => q p H2 hp (e.trans e2) (e2 _ _ hP)
end
end K82

set_option Elab.async false
set_option linter.all false
set_option maxRecDepth 100000
set_option maxHeartbeats 4000000
namespace K82
open PySem PySem.Spec PyProof.Rows L2 Evl My
theorem r_tup {ta : TA} {σ : L2.St} {H : Hp} {Q : VK} (h : ta σ H fun vs H1 => vs.length ≤ sizeLine ∧ ∀ p, H1 p = none → Q (.ref p) (upd H1 p (.tup vs))) : tTup ta σ H Q := h
theorem r_asgE {i : Nat} {te : TE} {D : Ends} {σ : L2.St} {H : Hp} (h : te σ H fun v H1 => D.nx (σ.set i (some v)) H1) : tAsg te (gName i) D σ H := h
theorem r_ifS {t : TT} {tu tw : TS} {D : Ends} {σ : L2.St} {H : Hp} (h : t σ H fun b H1 => if b = true then tu D σ H1 else tw D σ H1) : tIfS t tu tw D σ H := h
def NmsOk (ks : List L) (m : Nat) : Prop := ks.length ≤ m ∧ (0 < m → ks ≠ []) ∧ (∀ k ∈ ks, nmP k) ∧ ks.Nodup ∧ ks.Pairwise (fun a b => leF a b = true)
theorem nms_of {ps : List L} {m : Nat} (hl : ps.length = m) (hn : ∀ k ∈ ps, nmP k) : NmsOk (sortF (dedF ps)) m := by
  refine ⟨?_, fun h0 he => ?_, fun k hk => hn k (ded_mem.mp (sort_mem.mp hk)), sort_nodup (ded_nodup ps), sort_sorted _⟩
  · rw [sort_len, ← hl]
    exact ded_len ps
  · cases ps with
    | nil => rw [← hl] at h0; exact absurd h0 (by decide)
    | cons p r =>
      have : p ∈ sortF (dedF (p :: r)) := sort_mem.mpr (ded_mem.mpr (by simp))
      rw [he] at this
      exact nomatch this
theorem ks_in {A : L → Prop} : ∀ {xs : List V}, (∀ x ∈ xs, ∃ k, A k ∧ x = .str (tx k)) → ∃ ps : List L, xs = txs ps ∧ ∀ k ∈ ps, A k
  | [], _ => ⟨[], rfl, fun k hk => nomatch hk⟩
  | x :: xs, h => by
    obtain ⟨ps, h1, h2⟩ := ks_in (xs := xs) fun y hy => h y (by simp [hy])
    obtain ⟨k, hk, rfl⟩ := h x (by simp)
    refine ⟨k :: ps, by rw [h1]; rfl, fun d hd => ?_⟩
    rcases List.mem_cons.mp hd with rfl | hd
    · exact hk
    · exact h2 d hd
theorem txs_mem_str {l : L} {ps : List L} (h : V.str (tx l) ∈ txs ps) : l ∈ ps := by
  obtain ⟨k, hk, e⟩ := txs_mem h
  have := tx_inj (V.str.inj e)
  rw [this]
  exact hk
section
variable {K : PySem.W.Frag} {σ : L2.St} {H H1 : Hp} {Q : VK} {p sc d : Addr} {ns : List Int} {D : Ends} {tu tz : TS} {ta : TA} {te tb : TE} {E : XK} {ks : List L} {f : L → Sg}
theorem r_pickV {a : Addr} {xs : List V} (hP : Pool K H p sc ns) (ha : Ev te σ H (.ref p)) (hb : Ev tb σ H (.ref a)) (hS : H a = some (.lst xs)) (hap : a ≠ p) (h0 : xs ≠ []) (hn : xs.length ≤ 1000) (q : ∀ v H', v ∈ xs → G K p sc ns H H' → Q v H') : tCall (sp_pick K) [] E (tCons te (tCons tb tNil)) σ H Q :=
  ha H (Ex.refl H) _ fun H1 e1 => hb H1 e1 _ fun H2 e2 => ⟨p, sc, ns, a, xs, rfl, hP.ex (e1.trans e2), sq_of ((e1.trans e2) _ _ hS), hap, h0, hn, fun v H' hv g => q v H' hv (G.exL (e1.trans e2) g)⟩
theorem ne_pool {o : HO} (hP : Pool K H p sc ns) (h : H d = some o) (ho : ∀ xs, o ≠ .lst xs) : d ≠ p := fun z => by
  obtain ⟨pl, a, f, hp, _⟩ := hP
  rw [z, hp] at h
  exact ho _ (Option.some.inj h).symm
theorem HdAt.g (hP : Pool K H p sc ns) (g : G K p sc ns H H1) (h : HdAt f H d ks) : HdAt f H1 d ks := by
  obtain ⟨kvs, h1, h2⟩ := h
  exact ⟨kvs, g.1 _ _ (ne_pool hP h1 (fun _ z => nomatch z)) h1, h2.keepT (G.kt hP g)⟩
/-- a loop as often as is drawn, at least lo times -/
theorem q_forGl {j : Nat} (lo M : Nat) (hM : M ≤ 1000) (ht : ∀ R : List V → Hp → Prop, (∀ (m : Nat) H1, lo ≤ m → m ≤ M → G K p sc ns H H1 → R [.int (m : Int)] H1) → ta σ H R) (Pv : Nat → L2.St → Hp → Prop) (h0 : ∀ H1, G K p sc ns H H1 → Pv 0 σ H1)
    (hs : ∀ (i : Nat) σ' H', i < M → Pv i σ' H' → tu { D with nx := Pv (i + 1), ct := Pv (i + 1), bk := tz D } (σ'.set j (some (.int (i : Int)))) H') (hd : ∀ i σ' H', lo ≤ i → i ≤ M → Pv i σ' H' → tz D σ' H') : tSeq (tFor (iRng1 ta) (gName j) tu) tz D σ H :=
  ht _ fun m H1 hlo hm g => ⟨m, rfl, by omega, by omega, by
    rw [Int.toNat_natCast]
    exact for_range (n := m) (D := { D with nx := tz D }) Pv (h0 H1 g) (fun i σ' H' hi p => by
      have e0 : (0 : Int) + (i : Int) = (i : Int) := Int.zero_add _
      show tu _ (σ'.set j (some (.int ((0 : Int) + (i : Int))))) H'
      rw [e0]
      exact hs i σ' H' (by omega) p) fun σ' H' p => hd m σ' H' hlo hm p⟩
/-- 1 + draw -/
theorem r_onep {ip n : Nat} (hP : Pool K H p sc ns) (hv : σ[ip]? = some (some (.ref p))) (h0 : 0 < n) (hn : n < 1000) (R : List V → Hp → Prop) (h : ∀ (m : Nat) H1, 1 ≤ m → m ≤ n → G K p sc ns H H1 → R [.int (m : Int)] H1) :
    tCons (tOp (rI0 fun i j => .int (i + j)) (tC (.int 1)) (tCall (sp_draw K) [] E (tCons (tVar ip) (tCons (tC (.int (n : Int))) tNil)))) tNil σ H R :=
  r_cons (r_op (r_c (r_draw hP (ea_cons (ev_v hv) (ea_cons (ev_cn n) ea_nil)) h0 (by omega) fun v H3 hv3 g3 => ⟨1, (v : Int), rfl, rfl, by
    have e : (1 : Int) + (v : Int) = ((1 + v : Nat) : Int) := by omega
    show tNil σ H3 fun xs H4 => R (V.int ((1 : Int) + (v : Int)) :: xs) H4
    rw [e]
    exact r_nil (h (1 + v) H3 (by omega) (by omega) g3)⟩)))
end
theorem Clo.add {f : L → Sg} {ks : List L} {s : Sg} (h : Clo f ks) (hs : OkS s) (hr : ∀ y ∈ (rstG s.g).map (·.2), y ∈ ks) (hl : ks.length < 100) : Clo (fun x => if x = nmS s then s else f x) (addF ks (nmS s)) := by
  refine ⟨add_nodup h.nd, fun k hk => ?_, fun k hk y hy => ?_, by have := add_len (acc := ks) (x := nmS s); omega⟩
  · show OkS (if k = nmS s then s else f k) ∧ nmS (if k = nmS s then s else f k) = k
    by_cases e : k = nmS s
    · rw [if_pos e]
      exact ⟨hs, e.symm⟩
    · rw [if_neg e]
      exact h.ok k ((add_mem.mp hk).resolve_right e)
  · refine add_mem.mpr (.inl ?_)
    have hy : y ∈ (rstG (if k = nmS s then s else f k).g).map (·.2) := hy
    by_cases e : k = nmS s
    · rw [if_pos e] at hy
      exact hr y hy
    · rw [if_neg e] at hy
      exact h.rest k ((add_mem.mp hk).resolve_right e) y hy
theorem kd_ne : ∀ {g : G4}, kdG g = wPat → ∃ fd, g = .patch fd
  | .patch fd, _ => ⟨fd, rfl⟩
  | .vote _ _, h => absurd h (show ¬ wVot = wPat by decide)
  | .take _, h => absurd h (show ¬ wTak = wPat by decide)
  | .drop _, h => absurd h (show ¬ wDro = wPat by decide)
section
variable {P : Program} {w : World} {K : PySem.W.Frag} {mg : Str → Option Value} {base : Heap}
abbrev s_law_sayings_drawn : Stmt := topS 89
theorem sc_law_sayings_drawn : FnScope ["pool", "held", "k", "author", "patches", "name", "takes", "way", "told_v", "j"] ["pool"] (defScope s_law_sayings_drawn) := ⟨rfl, rfl, rfl, by decide +kernel, rfl, by decide +kernel, by decide +kernel⟩
/- 0 pool*, 1 held*, 2 k, 3 author, 4 patches, 5 name, 6 takes*, 7 way, 8 told_v, 9 j -/
def sp_drawn (K : PySem.W.Frag) : Sp := fun vs H Q _ => ∃ (p sc : Addr) (ns : List Int), vs = [.ref p] ∧ Pool K H p sc ns ∧ ∀ (d : Addr) (f : L → Sg) (ks : List L) H', Clo f ks → ks ≠ [] → ks.length ≤ 12 → H d = none → HdAt f H' d ks → G K p sc ns H H' → Q (.ref d) H'
theorem fn_drawn {f : Addr} {fd : FuncData} {k : Nat} (F : Fun K "_law_sayings_drawn" "_law_sayings_drawn" s_law_sayings_drawn f fd) (N : Nb mg) (C_law_draw : Cal P w K mg base k "_law_draw" ["pool", "limit"] (sp_draw K)) (C_law_next : Cal P w K mg base k "_law_next" ["pool"] (sp_next K)) (C_law_pick : Cal P w K mg base k "_law_pick" ["pool", "options"] (sp_pick K)) (C_saying : Cal P w K mg base k "saying" ["kind", "author", "number", "body"] (spD ok_saying)) (C_law_different : Cal P w K mg base k "_law_different" ["items"] (spL (ok_different K))) (C_name_of : Cal P w K mg base k "name_of" ["value"] (spV ok_name_of)) : FnOk P w K mg base CX0 (k + 1) f fd ["pool"] (sp_drawn K) := by
  refine F.ok sc_law_sayings_drawn (fun vs H Q E h => ?_) (fun cdv A outer s H vs Q E hr h => ?_)
  · obtain ⟨_, _, _, rfl, _⟩ := h
    rfl
  · obtain ⟨p, sc, ns, rfl, hP, q⟩ := h
    refine ⟨_, (pss_cons (ps_set (i := 1) sc_law_sayings_drawn.nd rfl (Or.inr rfl) pe_dnewK)
      (pss_cons (ps_for PassesOwn.never rfl (pi_range1 rfl N.range (pa_cons (pe_op op_add pe_int (pe_cal C_law_draw hr (pa_cons (pv 0) (pa_cons pe_int pa_nil)))) pa_nil)) (pg_name (i := 2) sc_law_sayings_drawn.nd rfl (Or.inl rfl)) (pss_cons (ps_expr (pe_cal C_law_next hr (pa_cons (pv 0) pa_nil)))
      (pss_cons (ps_set (i := 3) sc_law_sayings_drawn.nd rfl (Or.inl rfl) (pe_cal C_law_pick hr (pa_cons (pv 0) (pa_cons (pe_lst (pa_cons pe_str (pa_cons pe_str (pa_cons pe_str pa_nil)))) pa_nil))))
      (pss_cons (ps_setLc (i := 4) (own := [("name", 5)]) (by rfl) sc_law_sayings_drawn.nd rfl rfl (sw_true rfl rfl rfl (by decide +kernel)) (pi_list (pe_callB (cr_sortedDA rfl) (by rfl) N.sorted PyProof.Rows.boot_sorted (pa_cons (pv 1) pa_nil))) (blkOk_by (own := [("name", 5)]) (N := ["pool", "held", "k", "author", "patches", "name", "takes", "way", "told_v", "j"]) (sc := defScope s_law_sayings_drawn) (by decide +kernel)) (fun _ _ _ _ _ => (pg_name (i := 5) sc_law_sayings_drawn.nd rfl (Or.inl rfl))) (fun _ _ _ _ _ => (pts_one (pt_cmpR op_eq (pe_ix (r := rIxT K) ix_tup (pe_dget (hu_of hr) (pv 1) (pv 5) (fun _ _ => rfl)) pe_int (fun _ _ => rfl)) pe_str (nomark _)))) (fun _ _ _ _ _ => (pv 5)))
      (pss_cons (ps_set (i := 6) sc_law_sayings_drawn.nd rfl (Or.inr rfl) (pe_lc (own := [("name", 5)]) (by rfl) sc_law_sayings_drawn.nd (pi_list (pe_callB (cr_sortedDA rfl) (by rfl) N.sorted PyProof.Rows.boot_sorted (pa_cons (pv 1) pa_nil))) (blkOk_by (own := [("name", 5)]) (N := ["pool", "held", "k", "author", "patches", "name", "takes", "way", "told_v", "j"]) (sc := defScope s_law_sayings_drawn) (by decide +kernel)) (fun _ _ _ _ _ => (pg_name (i := 5) sc_law_sayings_drawn.nd rfl (Or.inl rfl))) (fun _ _ _ _ _ => (pts_one (pt_cmpR op_eq (pe_ix (r := rIxT K) ix_tup (pe_dget (hu_of hr) (pv 1) (pv 5) (fun _ _ => rfl)) pe_int (fun _ _ => rfl)) pe_str (nomark _)))) (fun _ _ _ _ _ => (pv 5))))
      (pss_cons (ps_set (i := 7) sc_law_sayings_drawn.nd rfl (Or.inl rfl) (pe_cal C_law_draw hr (pa_cons (pv 0) (pa_cons pe_int pa_nil))))
      (pss_cons (ps_if (PW.pt (pw_or (pt_cmpR op_eq (pv 7) pe_int (nomark _)) (pw_or1 (pt_cmpR (op_eqE hr.units) (pv 4) (pe_lst pa_nil) (nomark _))))) (pss_one (ps_set (i := 8) sc_law_sayings_drawn.nd rfl (Or.inl rfl) (pe_cal C_saying hr (pa_cons pe_str (pa_cons (pv 3) (pa_cons (pe_op op_add (pv 2) pe_int) (pa_cons (pe_tup (pa_cons (pe_tup (pa_cons pe_str (pa_cons (pe_cal C_law_pick hr (pa_cons (pv 0) (pa_cons (pe_lst (pa_cons pe_str (pa_cons pe_str pa_nil))) pa_nil))) pa_nil))) pa_nil)) pa_nil))))))) (pss_one (ps_if (pt_cmpR op_eq (pv 7) pe_int (nomark _)) (pss_one (ps_set (i := 8) sc_law_sayings_drawn.nd rfl (Or.inl rfl) (pe_cal C_saying hr (pa_cons pe_str (pa_cons (pv 3) (pa_cons (pe_op op_add (pv 2) pe_int) (pa_cons (pe_tup (pa_cons (pe_cal C_law_pick hr (pa_cons (pv 0) (pa_cons (pv 4) pa_nil))) (pa_cons pe_str (pa_cons (pe_cal C_law_pick hr (pa_cons (pv 0) (pa_cons (pe_lst (pa_cons pe_str (pa_cons pe_str pa_nil))) pa_nil))) pa_nil)))) pa_nil))))))) (pss_one (ps_if (PW.pt (pw_or (pt_cmpR op_eq (pv 7) pe_int (nomark _)) (pw_or1 (pt_cmpR (op_eqE hr.units) (pv 6) (pe_lst pa_nil) (nomark _))))) (pss_one (ps_set (i := 8) sc_law_sayings_drawn.nd rfl (Or.inl rfl) (pe_cal C_saying hr (pa_cons pe_str (pa_cons (pv 3) (pa_cons (pe_op op_add (pv 2) pe_int) (pa_cons (pe_tup (pa_cons pe_str (pa_cons (pe_cal C_law_pick hr (pa_cons (pv 0) (pa_cons (pv 4) pa_nil))) pa_nil))) pa_nil))))))) (pss_one (ps_set (i := 8) sc_law_sayings_drawn.nd rfl (Or.inl rfl) (pe_cal C_saying hr (pa_cons pe_str (pa_cons (pv 3) (pa_cons (pe_op op_add (pv 2) pe_int) (pa_cons (pe_tup (pa_cons pe_str (pa_cons (pe_callTy call_tuple_of (by rfl) N.tuple PyProof.Rows.boot_tuple (pa_cons (pe_callB cr_sortedSA (by rfl) N.sorted PyProof.Rows.boot_sorted (pa_cons (pe_cal C_law_different hr (pa_cons (pe_lc (own := [("j", 9)]) (by rfl) sc_law_sayings_drawn.nd (pi_range1 rfl N.range (pa_cons pe_int pa_nil)) (blkOk_by (own := [("j", 9)]) (N := ["pool", "held", "k", "author", "patches", "name", "takes", "way", "told_v", "j"]) (sc := defScope s_law_sayings_drawn) (by decide +kernel)) (fun _ _ _ _ _ => (pg_name (i := 9) sc_law_sayings_drawn.nd rfl (Or.inl rfl))) (fun _ _ _ _ _ => pts_nil) (fun _ _ _ _ _ => (pe_cal C_law_pick hr (pa_cons (pv 0) (pa_cons (pv 6) pa_nil))))) pa_nil)) pa_nil)) pa_nil)) pa_nil))) pa_nil))))))))))))
      (pss_one (ps_dput (hu_of hr) (pv 1) (pe_cal C_name_of hr (pa_cons (pv 8) pa_nil)) (pv 8) rfl)))))))))
      (pss_one (ps_ret (pv 1))))), ?_⟩
    refine q_dnew fun d hd0 => ?_
    have ndp : d ≠ p := hP.ne hd0
    have G0 : G K p sc ns H (upd H d (.dK [])) := G.new hP (G.refl hP) hd0
    have h0 : (upd H d (.dK [])) d = some (.dK []) := upd_same
    generalize upd H d (.dK []) = H0 at G0 h0 ⊢
    let Pv : Nat → L2.St → Hp → Prop := fun i σ' H' => G K p sc ns H H' ∧ ∃ (f : L → Sg) (ks : List L) (y2 y3 y4 y5 y6 y7 y8 y9 : Option V), Clo f ks ∧ ks.length ≤ i ∧ (1 ≤ i → ks ≠ []) ∧ HdAt f H' d ks ∧ σ' = [some (.ref p), some (.ref d), y2, y3, y4, y5, y6, y7, y8, y9]
    refine q_forGl 1 12 (by decide) (fun R r => r_onep (n := 12) G0.2 rfl (by decide) (by decide) R r) Pv (fun H1 g1 => ⟨G0.trans g1, fun _ => ⟨[], 0, .patch []⟩, [], _, _, _, _, _, _, _, _, ⟨List.nodup_nil, (fun k hk => nomatch hk), (fun k hk => nomatch hk), Nat.zero_le _⟩, Nat.zero_le _, fun z => absurd z (by decide), ⟨[], g1.1 _ _ ndp h0, .nil⟩, rfl⟩) ?_ ?_
    · rintro i σ' H' hi ⟨g, f, ks, y2, y3, y4, y5, y6, y7, y8, y9, hc, hkl, hk0, hd, rfl⟩
      refine r_drop (r_call (r_cons (r_var rfl (r_nil ⟨p, sc, ns, rfl, g.2, fun H1 g1 => ?_⟩))))
      refine r_asg (r_pick g1.2 (ev_v rfl) (xs := txs people) (el_lst (ea_cons (ev_cs [97, 110, 110] (by decide +kernel)) (ea_cons (ev_cs [98, 111, 98] (by decide +kernel)) (ea_cons (ev_cs [101, 118, 101] (by decide +kernel)) ea_nil))) (by show 3 ≤ 100000; decide)) (fun z => nomatch z) (by show 3 ≤ 1000; decide) fun v H2 hv g2 => ?_)
      obtain ⟨au, hau, rfl⟩ := txs_mem hv
      have g12 := g1.trans g2
      have hd2 := hd.g g.2 g12
      have G2 := g.trans g12
      obtain ⟨kvs, k1, k2⟩ := hd2
      have kE : ∀ {σ : L2.St} {H3 : Hp} {x : L} {kw : L} {s0 : Str}, Ex H2 H3 → s0 = tx kw → x ∈ ks → σ[1]? = some (some (.ref d)) → σ[5]? = some (some (.str (tx x))) → EvT (tTest (tOp rEq (tOp (rIxT K) (tDGet (tVar 1) (tVar 5)) (tC (.int 0))) (tC (.str s0)))) σ H3 (decide (kdG (f x).g = kw)) := fun {σ H3 x kw s0} e3 hs hx h1 h5 => by
        obtain ⟨v, hv, hr⟩ := k2.val hx
        obtain ⟨va, vr, us, vb, rfl, hva, _⟩ := say_at hr
        rw [hs]
        exact et_test (ev_eqS (ev_ixT (j := 0) (v := .str (tx (kdG (f x).g))) (ev_dget (ev_v h1) (e3 _ _ k1) (ev_v h5) hv) (ev_cn 0) (st_of (e3 _ _ hva)) rfl) ev_c)
      refine q_asgL (el_is (el_lcF (strV (fun x => decide (kdG (f x).g = wPat))) (fun z => z) (el_sortKv (ev_v rfl) k1 k2.keys (by omega)) (by rw [txs_len, sort_len]; omega) (fun _ => rfl) (fun x H3 e3 hx => ?_) fun x H3 e3 hx _ => ev_v rfl) (txs_filter _ (sortF ks))) fun pa H3 hpa e3 h3 => ?_
      · obtain ⟨y, hy, rfl⟩ := txs_mem hx
        exact kE e3 (by decide +kernel) (sort_mem.mp hy) rfl rfl
      refine q_asgL (el_is (el_lcF (strV (fun x => decide (kdG (f x).g = wTak))) (fun z => z) (el_sortKv (ev_v rfl) (e3 _ _ k1) k2.keys (by omega)) (by rw [txs_len, sort_len]; omega) (fun _ => rfl) (fun x H4 e4 hx => ?_) fun x H4 e4 hx _ => ev_v rfl) (txs_filter _ (sortF ks))) fun tk H4 htk e4 h4 => ?_
      · obtain ⟨y, hy, rfl⟩ := txs_mem hx
        exact kE (e3.trans e4) (by decide +kernel) (sort_mem.mp hy) rfl rfl
      have G4 := (G2.exR e3).exR e4
      have hp4 := e4 _ _ h3
      have npp : pa ≠ p := G2.2.ne hpa
      have ntp : tk ≠ p := (G2.exR e3).2.ne htk
      have hps : ∀ x ∈ (sortF ks).filter (fun x => decide (kdG (f x).g = wPat)), x ∈ ks := fun x hx => sort_mem.mp (List.mem_filter.mp hx).1
      have hts : ∀ x ∈ (sortF ks).filter (fun x => decide (kdG (f x).g = wTak)), x ∈ ks := fun x hx => sort_mem.mp (List.mem_filter.mp hx).1
      have hpl : ((sortF ks).filter (fun x => decide (kdG (f x).g = wPat))).length ≤ 12 := Nat.le_trans (List.length_filter_le _ _) (by rw [sort_len]; omega)
      have htl : ((sortF ks).filter (fun x => decide (kdG (f x).g = wTak))).length ≤ 12 := Nat.le_trans (List.length_filter_le _ _) (by rw [sort_len]; omega)
      generalize (sortF ks).filter (fun x => decide (kdG (f x).g = wPat)) = ps at h3 hp4 hps hpl
      generalize (sortF ks).filter (fun x => decide (kdG (f x).g = wTak)) = ts at h4 hts htl
      have hd4 : HdAt f H4 d ks := ⟨kvs, (e3.trans e4) _ _ k1, k2.mono (e3.trans e4)⟩
      refine r_asg (r_draw G4.2 (ea_cons (ev_v rfl) (ea_cons (ev_cn 4) ea_nil)) (by decide) (by decide) fun wy H5 hwy g5 => ?_)
      have G5 := G4.trans g5
      have hd5 := hd4.g G4.2 g5
      have hp5 := g5.1 _ _ npp hp4
      have ht5 := g5.1 _ _ ntp h4
      have nm := hc.nm
      clear hd4 hp4 h3 h4 k1 k2 hd
      have fin : ∀ {D : Ends} {s : Sg} {t : V} {H6 : Hp} {y9 : Option V}, (∀ σ H, Pv (i + 1) σ H → D.nx σ H) → OkS s → (∀ y ∈ (rstG s.g).map (·.2), y ∈ ks) → Rep H6 t (sayD s) → G K p sc ns H5 H6 → sDPut (tVar 1) (tCall (spV ok_name_of) [] E0 (tCons (tVar 8) tNil)) (tVar 8) D [some (.ref p), some (.ref d), some (.int (i : Int)), some (.str (tx au)), some (.ref pa), y5, some (.ref tk), some (.int (wy : Int)), some t, y9] H6 := fun {D s t H6 y9} hD hs hr ht g6 => by
        obtain ⟨kv6, m1, m2⟩ := hd5.g G5.2 g6
        obtain ⟨p1, p2, p3⟩ := say_ok hs
        have hkvl := m2.len
        refine s_dput (l := nmS s) m1 (ev_v rfl) (ev_v rfl) (ev_cal (ea_cons (ev_v rfl) ea_nil) fun H7 e7 => ⟨t, _, rfl, ht.mono e7, p1, p2, p3, rfl⟩) (by omega) fun H7 e7 => hD _ _ ?_
        have G7 := (G5.trans g6).exR e7
        refine ⟨G.new hP G7 hd0, _, _, _, _, _, _, _, _, _, _, hc.add hs hr (by omega), ?_, fun _ he => ?_, ⟨_, upd_same, ?_⟩, rfl⟩
        · have := add_len (acc := ks) (x := nmS s)
          omega
        · have : nmS s ∈ addF ks (nmS s) := add_mem.mpr (.inr rfl)
          rw [he] at this
          exact nomatch this
        · refine ((m2.mono e7).put (f' := fun x => if x = nmS s then s else f x) (fun x hx => if_neg hx) (v := t) (by
            show Rep H7 t (sayD (if nmS s = nmS s then s else f (nmS s)))
            rw [if_pos rfl]
            exact ht.mono e7)).keepT fun a us ha => ?_
          rw [upd_ne (ne_kind ha (e7 _ _ m1) (fun z => nomatch z))]
          exact ha
      have mk : ∀ {D : Ends} {s0 : Str} {kw : L} {bt : TE} {H6 : Hp}, s0 = tx kw → G K p sc ns H5 H6 → (∀ H7 (Q' : VK), G K p sc ns H5 H7 → (∀ v g H8, kdG g = kw → Rep H8 v (bodyG g) → OkG g → (∀ y ∈ (rstG g).map (·.2), y ∈ ks) → G K p sc ns H7 H8 → Q' v H8) → bt [some (.ref p), some (.ref d), some (.int (i : Int)), some (.str (tx au)), some (.ref pa), y5, some (.ref tk), some (.int (wy : Int)), y8, y9] H7 Q') → (∀ s t H8, OkS s → (∀ y ∈ (rstG s.g).map (·.2), y ∈ ks) → Rep H8 t (sayD s) → G K p sc ns H5 H8 → D.nx [some (.ref p), some (.ref d), some (.int (i : Int)), some (.str (tx au)), some (.ref pa), y5, some (.ref tk), some (.int (wy : Int)), some t, y9] H8) →
          tAsg (tCall (spD ok_saying) [] E0 (tCons (tC (.str s0)) (tCons (tVar 3) (tCons (tOp (rI0 fun i j => .int (i + j)) (tVar 2) (tC (.int 1))) (tCons bt tNil))))) (gName 8) D [some (.ref p), some (.ref d), some (.int (i : Int)), some (.str (tx au)), some (.ref pa), y5, some (.ref tk), some (.int (wy : Int)), y8, y9] H6 := fun {D s0 kw bt H6} hs0 g6 hb k => by
        refine r_asgE (r_call (r_cons (r_c (r_cons (r_var rfl (r_cons (r_ev (ev_op (ev_v rfl) (ev_cn 1) rv_addN) (Ex.refl _) fun H7 e7 => r_cons (hb H7 _ (g6.exR e7) fun v gg H8 hkd hr hg hrs g8 => r_nil ⟨sayD ⟨au, i + 1, gg⟩, ⟨v, ⟨au, i + 1, gg⟩, by rw [hs0, ← hkd]; rfl, hr, ⟨hau, by show 1 ≤ i + 1; omega, by show i + 1 ≤ 20; omega, hg⟩, rfl⟩, fun t H9 e9 r9 => k ⟨au, i + 1, gg⟩ t H9 ⟨hau, by show 1 ≤ i + 1; omega, by show i + 1 ≤ 20; omega, hg⟩ hrs r9 ((g6.exR e7).trans (g8.exR e9))⟩))))))))
      have wE : ∀ {H6 : Hp} {σ : L2.St} {n : Nat}, σ[7]? = some (some (.int (wy : Int))) → EvT (tTest (tOp rEq (tVar 7) (tC (.int (n : Int))))) σ H6 (decide (wy = n)) := fun {H6 σ n} hv => et_is (et_test (ev_op (ev_v hv) (ev_cn n) (rv_eq rfl))) (decide_eq_decide.mpr ⟨fun h => by have := V.int.inj h; omega, fun h => by rw [h]⟩)
      have l0 : ∀ qs : List L, decide ((txs qs).length = 0) = decide (qs = []) := fun qs => by cases qs <;> rfl
      refine q_if (b := decide (wy = 0) || decide (ps = [])) (et_or (wE (n := 0) rfl) fun _ => et_test (ev_is (ev_eqE (ev_v rfl) (sq_of hp5) (el_lst ea_nil (by decide))) (congrArg V.bl (l0 ps)))) (fun hb H6 e6 => ?_) fun hb H6 e6 => ?_
      · refine mk (kw := wPat) (by decide +kernel) (G.ex e6 G5.2) (fun H7 Q' g7 q' => ?_) fun s t H8 hs hr ht g8 => fin (fun σ H h => h) hs hr ht g8
        refine r_tup (r_cons (r_tup (r_cons (r_c (r_cons (r_pick g7.2 (ev_v rfl) (xs := txs fdL) (el_lst (ea_cons (ev_cs [102, 105, 108, 101] (by decide +kernel)) (ea_cons (ev_cs [100, 105, 114] (by decide +kernel)) ea_nil)) (by show 2 ≤ 100000; decide)) (fun z => nomatch z) (by show 2 ≤ 1000; decide) fun v H8 hv g8 => ?_))))))
        obtain ⟨fd, hfd, rfl⟩ := txs_mem hv
        refine r_nil ⟨sz_of (by show 2 ≤ 100000; decide), fun b hb => ?_⟩
        refine r_nil ⟨sz_of (by show 1 ≤ 100000; decide), fun a ha => ?_⟩
        refine q' (.ref a) (.patch fd) _ rfl ?_ hfd (fun y hy => nomatch hy) ((g8.exR (Ex.new hb)).exR (Ex.new ha))
        have hm : wMak = [109, 97, 107, 101] := rfl
        refine .tup upd_same (.cons (.tup ((Ex.new ha) _ _ upd_same) (.cons ?_ (.cons (.str _) .nil))) .nil)
        rw [show (Str.ofString "make") = tx wMak by decide +kernel]
        exact .str _
      · have hbp : ps ≠ [] := fun z => by
          rw [z, decide_eq_true rfl, Bool.or_true] at hb
          exact nomatch hb
        have hpv : txs ps ≠ [] := fun z => by
          cases ps with
          | nil => exact hbp rfl
          | cons x r => exact nomatch z
        refine s_if (D := { nx := _, rt := _, ct := _, bk := _ }) (b := decide (wy = 1)) (wE (n := 1) rfl) (fun _ H7 e7 => ?_) fun _ H7 e7 => ?_
        · refine mk (kw := wVot) (by decide +kernel) (G.ex (e6.trans e7) G5.2) (fun H8 Q' g8 q' => ?_) fun s t H8 hs hr ht g8 => fin (fun σ H h => h) hs hr ht g8
          refine r_tup (r_cons (r_pickV g8.2 (ev_v rfl) (ev_v rfl) (g8.1 _ _ npp hp5) npp hpv (by rw [txs_len]; omega) fun v H9 hv g9 => ?_))
          obtain ⟨x, hx, rfl⟩ := txs_mem hv
          refine r_cons (r_c (r_cons (r_pick g9.2 (ev_v rfl) (xs := txs [[121, 101, 115], [110, 111]]) (el_lst (ea_cons (ev_cs [121, 101, 115] (by decide +kernel)) (ea_cons (ev_cs [110, 111] (by decide +kernel)) ea_nil)) (by show 2 ≤ 100000; decide)) (fun z => nomatch z) (by show 2 ≤ 1000; decide) fun v H10 hv g10 => ?_)))
          obtain ⟨wo, hwo, rfl⟩ := txs_mem hv
          refine r_nil ⟨sz_of (by show 3 ≤ 100000; decide), fun a ha => ?_⟩
          refine q' (.ref a) (.vote x wo) _ rfl ?_ ⟨nm x (hps x hx), hwo⟩ (fun y hy => by rw [List.mem_singleton.mp hy]; exact hps x hx) ((g9.trans g10).exR (Ex.new ha))
          refine .tup upd_same (.cons (.str _) (.cons ?_ (.cons (.str _) .nil)))
          rw [show (Str.ofString "in") = tx wIn by decide +kernel]
          exact .str _
        · refine s_if (D := { nx := _, rt := _, ct := _, bk := _ }) (b := decide (wy = 2) || decide (ts = [])) (et_or (wE (n := 2) rfl) fun _ => et_test (ev_is (ev_eqE (ev_v rfl) (sq_of ((e6.trans e7) _ _ ht5)) (el_lst ea_nil (by decide))) (congrArg V.bl (l0 ts)))) (fun hb H8 e8 => ?_) fun hb H8 e8 => ?_
          · refine mk (kw := wTak) (by decide +kernel) (G.ex ((e6.trans e7).trans e8) G5.2) (fun H9 Q' g9 q' => ?_) fun s t H8 hs hr ht g8 => fin (fun σ H h => h) hs hr ht g8
            refine r_tup (r_cons (r_c (r_cons (r_pickV g9.2 (ev_v rfl) (ev_v rfl) (g9.1 _ _ npp hp5) npp hpv (by rw [txs_len]; omega) fun v H10 hv g10 => ?_))))
            obtain ⟨x, hx, rfl⟩ := txs_mem hv
            refine r_nil ⟨sz_of (by show 2 ≤ 100000; decide), fun a ha => ?_⟩
            refine q' (.ref a) (.take x) _ rfl ?_ (nm x (hps x hx)) (fun y hy => by rw [List.mem_singleton.mp hy]; exact hps x hx) (g10.exR (Ex.new ha))
            refine .tup upd_same (.cons ?_ (.cons (.str _) .nil))
            rw [show (Str.ofString "main") = tx wMai by decide +kernel]
            exact .str _
          · have hbt : ts ≠ [] := fun z => by
              rw [z, decide_eq_true rfl, Bool.or_true] at hb
              exact nomatch hb
            have htv : txs ts ≠ [] := fun z => by
              cases ts with
              | nil => exact hbt rfl
              | cons x r => exact nomatch z
            refine mk (kw := wDro) (by decide +kernel) (G.ex ((e6.trans e7).trans e8) G5.2) (fun H9 Q' g9 q' => ?_) fun s t H8 hs hr ht g8 => fin (fun σ H h => h) hs hr ht g8
            refine r_tup (r_cons (r_c (r_cons (r_cb (r_cons (r_cb (r_cons (r_call (r_cons ?_)))))))))
            refine r_lcG (K := K) (p := p) (sc := sc) (ns := ns) (fun _ v _ => ∃ x, x ∈ ts ∧ v = .str (tx x)) 2 2 (by decide) (fun _ v H1 H2 _ h => h) g9.2 (fun R r => ea_cons (ev_cn 2) ea_nil H9 (Ex.refl _) _ fun H10 e10 => r 2 H10 (Nat.le_refl _) (Nat.le_refl _) (G.ex e10 g9.2)) (fun _ => rfl) (fun x H10 Q2 g10 q2 => ?_) fun Dl xs H10 hlo hhi hD hl hx g10 => ?_
            · refine r_pickV g10.2 (ev_v rfl) (ev_v rfl) ((g9.trans g10).1 _ _ ntp ht5) ntp htv (by rw [txs_len]; omega) fun v H11 hv g11 => ?_
              obtain ⟨x, hx, rfl⟩ := txs_mem hv
              exact q2 _ H11 (fun _ _ _ => ⟨x, hx, rfl⟩) g11
            · obtain ⟨qs, rfl, hqs⟩ := ks_in hx
              rw [txs_len] at hlo hhi
              have hql : qs.length = 2 := by omega
              have hdl := ded_len qs
              have hno := nms_of hql fun x hx => nm x (hts x (hqs x hx))
              refine r_nil ⟨txs (dedF qs), ⟨Dl, qs, rfl, sq_of hl, by omega, rfl⟩, fun pd H11 hpd e11 h11 => ?_⟩
              refine r_nil ⟨pd, (dedF qs).map tx, rfl, sq_of (by rw [h11, List.map_map]; rfl), by rw [List.length_map]; omega, fun ys pz hpy hsy hnz => ?_⟩
              have hys := sorted_is hpy hsy
              subst hys
              have h12 : (upd H11 pz (.lst ((List.map tx (sortF (dedF qs))).map V.str))) pz = some (.lst (txs (sortF (dedF qs)))) := by
                rw [upd_same, List.map_map]
                rfl
              have e12 : Ex H11 (upd H11 pz (.lst ((List.map tx (sortF (dedF qs))).map V.str))) := Ex.new hnz
              generalize upd H11 pz (.lst ((List.map tx (sortF (dedF qs))).map V.str)) = H12 at h12 e12 ⊢
              refine r_nil ⟨pz, txs (sortF (dedF qs)), rfl, .inl ⟨sq_of h12, fun t ht => ?_⟩⟩
              refine r_nil ⟨sz_of (by show 2 ≤ 100000; decide), fun m hm => ?_⟩
              have e13 : Ex H12 (upd H12 t (.tup (txs (sortF (dedF qs))))) := Ex.new ht
              have h13 : (upd H12 t (.tup (txs (sortF (dedF qs))))) t = some (.tup (txs (sortF (dedF qs)))) := upd_same
              generalize upd H12 t (.tup (txs (sortF (dedF qs)))) = H13 at e13 h13 hm ⊢
              have hne := hno.2.1 (by decide)
              refine q' (.ref m) (.drop (sortF (dedF qs))) _ rfl ?_ ⟨?_, hno.1, hno.2.2.1, hno.2.2.2.1, hno.2.2.2.2⟩ (fun y hy => ?_) (((g10.exR e11).exR (e12.trans e13)).exR (Ex.new hm))
              · refine .tup upd_same (.cons ?_ (.cons (rep_txs (Ex.new hm _ _ h13)) .nil))
                rw [show (Str.ofString "main") = tx wMai by decide +kernel]
                exact .str _
              · exact List.length_pos_iff.mpr hne
              · obtain ⟨z, hz, rfl⟩ := List.mem_map.mp hy
                obtain ⟨x, hx, rfl⟩ := List.mem_map.mp hz
                exact hts x (hqs x (ded_mem.mp (sort_mem.mp hx)))
    · rintro i σ' H' hlo hhi ⟨g, f, ks, y2, y3, y4, y5, y6, y7, y8, y9, hc, hkl, hk0, hd, rfl⟩
      exact r_ret (r_var rfl (q d f ks H' hc (hk0 hlo) (by omega) hd0 hd g))
end
end K82

set_option Elab.async false
set_option linter.all false
set_option maxRecDepth 100000
set_option maxHeartbeats 4000000
namespace K82
open PySem PySem.Spec PyProof.Rows L2 Evl My
section
variable {K : PySem.W.Frag} {σ : L2.St} {H : Hp} {te tl : TE} {tt : TT}
/-- over the pairs of a tuple: the second parts -/
theorem el_lcP2 {j1 j2 : Nat} {vs : List Nat} {a : Addr} {us : List V} {ps : List (L × L)} (fl : L → Bool) (h : Ev tl σ H (.ref a)) (ha : H a = some (.tup us)) (hr : Reps H us (ps.map pairD)) (hz : ps.length ≤ 1000) (hw : ∀ x y, wipe (((wipe σ vs).set j1 (some x)).set j2 (some y)) vs = wipe σ vs)
    (ht : ∀ q ∈ ps, ∀ H1, Ex H H1 → EvT tt (((wipe σ vs).set j1 (some (.str (tx q.1)))).set j2 (some (.str (tx q.2)))) H1 (fl q.2)) (he : ∀ q ∈ ps, ∀ H1, Ex H H1 → Ev te (((wipe σ vs).set j1 (some (.str (tx q.1)))).set j2 (some (.str (tx q.2)))) H1 (.str (tx q.2))) :
    EvL (tLc (iTup K tl) (gTup K 2 (gCons (gName j1) (gCons (gName j2) gNil))) tt te vs) σ H (txs ((ps.map (·.2)).filter fl)) := by
  intro H0 e Q q
  have hul := hr.len
  rw [List.length_map] at hul
  refine h H0 e _ fun H1 e1 => ?_
  have E1 := e.trans e1
  refine ⟨a, rfl, ⟨us, st_of (E1 _ _ ha)⟩, fun Dl hD => ?_⟩
  refine ⟨fun i m H' => m = us.length - i ∧ i ≤ us.length ∧ Ex H1 H' ∧ H' Dl = some (.lst (txs (((ps.take i).map (·.2)).filter fl))), ⟨us.length, rfl, Nat.zero_le _, Ex.new hD, upd_same⟩, ?_⟩
  rintro i m H' ⟨rfl, hi, ex, hl⟩
  by_cases hlt : i < us.length
  · have gx : us[i]? = some us[i] := List.getElem?_eq_getElem hlt
    refine .inr ⟨⟨us, us[i], st_of (ex _ _ (E1 _ _ ha)), gx⟩, fun H' => Ex H1 H' ∧ H' Dl = some (.lst (txs (((ps.take (i + 1)).map (·.2)).filter fl))), fun H2 p => ⟨us.length - (i + 1), by omega, rfl, hlt, p⟩, fun x H2 y => ?_⟩
    obtain ⟨rfl, y⟩ := y
    have ex' : x = us[i] := Option.some.inj ((y us (st_of (ex _ _ (E1 _ _ ha)))).symm.trans gx)
    subst ex'
    obtain ⟨dp, hdp, hrp⟩ := hr.get' gx
    rw [List.getElem?_map] at hdp
    obtain ⟨qq, hqq, rfl⟩ := Option.map_eq_some_iff.mp hdp
    obtain ⟨pa, hpe, hpa⟩ := pair_at hrp
    rw [hpe]
    have hq := List.mem_of_getElem? hqq
    have hln : (((ps.take i).map (·.2)).filter fl).length ≤ 1000 := by
      have h1 := List.length_filter_le fl ((ps.take i).map (·.2))
      rw [List.length_map, List.length_take] at h1
      omega
    have hnx : ((ps.take (i + 1)).map (·.2)).filter fl = ((ps.take i).map (·.2)).filter fl ++ (if fl qq.2 = true then [qq.2] else []) := by
      rw [List.take_add_one, hqq, List.map_append, List.filter_append]
      show _ ++ List.filter fl [qq.2] = _
      rw [List.filter_cons, List.filter_nil]
    refine ⟨pa, _, rfl, st_of ((E1.trans ex) _ _ hpa), rfl, _, _, rfl, _, _, rfl, rfl, hw _ _, ?_⟩
    refine (ht qq hq _ (E1.trans ex)) _ (Ex.refl _) _ fun H4 e4 => ?_
    cases hb : fl qq.2 with
    | true =>
      refine iteT ((he qq hq _ ((E1.trans ex).trans e4)) _ (Ex.refl _) _ fun H5 e5 => ⟨_, (e4.trans e5) _ _ hl, sz_lt (by rw [txs_len]; omega), ((ex.trans e4).trans e5).mut hD, ?_⟩)
      rw [upd_same, hnx, hb, if_pos rfl]
      unfold txs
      rw [List.map_append]
      rfl
    | false =>
      refine iteF ⟨ex.trans e4, ?_⟩
      rw [hnx, hb, if_neg (by decide), List.append_nil]
      exact e4 _ _ hl
  · have e0 : i = us.length := by omega
    subst e0
    rw [List.take_of_length_le (by omega)] at hl
    exact .inl ⟨⟨us, st_of (ex _ _ (E1 _ _ ha)), Nat.le_refl _⟩, q Dl _ (fresh_back e1 hD) (e1.trans ex) hl⟩
end
theorem rs_nodup {f : L → Sg} {ks : List L} (h : Clo f ks) {x : L} (hx : x ∈ ks) : (rs f x).Nodup := by
  have hg := (h.ok x hx).1.g
  unfold rs
  cases hs : (f x).g with
  | patch fd => exact List.nodup_nil
  | vote x w => exact (List.pairwise_singleton _ _)
  | take x => exact (List.pairwise_singleton _ _)
  | drop xs =>
    rw [hs] at hg
    show ((xs.map fun x => (wTak, x)).map (·.2)).Nodup
    rw [List.map_map, show xs.map ((fun p : L × L => p.2) ∘ fun x => (wTak, x)) = xs from (List.map_congr_left fun z _ => rfl).trans (List.map_id' xs)]
    exact hg.2.2.2.1
def Cl (f : L → Sg) (fs : List L) : Prop := ∀ x ∈ fs, ∀ y ∈ rs f x, y ∈ fs
section
variable {P : Program} {w : World} {K : PySem.W.Frag} {mg : Str → Option Value} {base : Heap}
abbrev s_law_closure : Stmt := topS 90
theorem sc_law_closure : FnScope ["held", "names", "found", "step", "one", "kind", "name"] ["held", "names"] (defScope s_law_closure) := ⟨rfl, rfl, rfl, by decide +kernel, rfl, by decide +kernel, by decide +kernel⟩
/- 0 held, 1 names, 2 found*, 3 step, 4 one, 5 kind, 6 name -/
def ok_lawclo (vs : List V) (H : Hp) (z : List V) : Prop := ∃ (d b : Addr) (f : L → Sg) (ks ns : List L), vs = [.ref d, .ref b] ∧ HdAt f H d ks ∧ Clo f ks ∧ H b = some (.lst (txs ns)) ∧ ns.Nodup ∧ (∀ x ∈ ns, x ∈ ks) ∧ z = txs (pickP (BunP f ns) ks)
theorem fn_lawclo {f : Addr} {fd : FuncData} {k : Nat} (F : Fun K "_law_closure" "_law_closure" s_law_closure f fd) (N : Nb mg) (C_law_different : Cal P w K mg base k "_law_different" ["items"] (spL (ok_different K))) : FnOk P w K mg base CX0 (k + 1) f fd ["held", "names"] (spL ok_lawclo) := by
  refine F.ok sc_law_closure (fun vs H Q E h => ?_) (fun cdv A outer s H vs Q E hr h => ?_)
  · obtain ⟨_, ⟨_, _, _, _, _, rfl, _⟩, _⟩ := h
    rfl
  · obtain ⟨_, ⟨d, nb, f, ks, ns, rfl, ⟨kvs, hk, hkv⟩, hc, hnb, hnd, hns, hz⟩, q⟩ := h
    rw [hz] at q
    refine ⟨_, (pss_cons (ps_set (i := 2) sc_law_closure.nd rfl (Or.inr rfl) (pe_callTy call_list_of (by rfl) N.list PyProof.Rows.boot_list (pa_cons (pv 1) pa_nil)))
      (pss_cons (ps_for PassesOwn.never rfl (pi_range1 rfl N.range (pa_cons (pe_op op_add (pe_callB call_lenD (by rfl) N.len PySem.boot_len (pa_cons (pv 0) pa_nil)) pe_int) pa_nil)) (pg_name (i := 3) sc_law_closure.nd rfl (Or.inl rfl)) (pss_one (ps_for PassesOwn.never rfl (pi_list (pe_callTy call_list_of (by rfl) N.list PyProof.Rows.boot_list (pa_cons (pv 2) pa_nil))) (pg_name (i := 4) sc_law_closure.nd rfl (Or.inl rfl)) (pss_one (ps_set (i := 2) sc_law_closure.nd rfl (Or.inr rfl) (pe_op op_cat (pv 2) (pe_lc (own := [("kind", 5), ("name", 6)]) (by rfl) sc_law_closure.nd (pi_tup (pe_ix ix_tup (pe_dget (hu_of hr) (pv 0) (pv 4) (fun _ _ => rfl)) pe_int (fun _ _ => rfl))) (blkOk_by (own := [("kind", 5), ("name", 6)]) (N := ["held", "names", "found", "step", "one", "kind", "name"]) (sc := defScope s_law_closure) (by decide +kernel)) (fun _ _ _ _ _ => (show PG _ _ (gTup K 2 _) from pg_tup rfl (pgs_cons (pg_name (i := 5) sc_law_closure.nd rfl (Or.inl rfl)) (pgs_cons (pg_name (i := 6) sc_law_closure.nd rfl (Or.inl rfl)) pgs_nil)))) (fun _ _ _ _ _ => (pts_one (pt_cmpR (r := rIn K true) op_notIn_seq (pv 6) (pv 2) rfl))) (fun _ _ _ _ _ => (pv 6)))))))))
      (pss_one (ps_ret (pe_callB cr_sortedSA (by rfl) N.sorted PyProof.Rows.boot_sorted (pa_cons (pe_cal C_law_different hr (pa_cons (pv 2) pa_nil)) pa_nil)))))), ?_⟩
    have hfew := hc.few
    have hkl := hkv.len
    have bun_in : ∀ {x : L}, BunP f ns x → x ∈ ks := fun ⟨y, hy, hr⟩ => hr.mem hc (hns y hy)
    refine q_asgL (el_list (ev_v rfl) (sq_of hnb)) fun b0 H1 hb0 e1 h1 => ?_
    refine q_forR1 (n := ((ks.length + 1 : Nat) : Int)) (ea_cons (ev_is (ev_op (ev_lenDk (ev_v rfl) (e1 _ _ hk)) (ev_cn 1) rv_addN) (by rw [hkl])) ea_nil) (by omega) (fun i σ' H' => Ex H H' ∧ ∃ (fs : List L) (b : Addr) (y3 y4 y5 y6 : Option V), H b = none ∧ H' b = some (.lst (txs fs)) ∧ fs.Nodup ∧ (∀ x ∈ fs, BunP f ns x) ∧ (∀ x ∈ ns, x ∈ fs) ∧ (Cl f fs ∨ i ≤ fs.length) ∧ σ' = [some (.ref d), some (.ref nb), some (.ref b), y3, y4, y5, y6]) (fun H2 e2 => ⟨e1.trans e2, ns, b0, none, none, none, none, hb0, e2 _ _ h1, hnd, fun x hx => ⟨x, hx, .base⟩, fun x hx => hx, .inr (Nat.zero_le _), rfl⟩) ?_ ?_
    · rintro i σ' H' hi ⟨e', fs, b, y3, y4, y5, y6, hbn, hb, hfn, hfb, hfi, hfc, rfl⟩
      have hfl := nodup_sub hfn (b := ks) fun x hx => bun_in (hfb x hx)
      refine s_forNL (xs := txs fs) (el_list (ev_v rfl) (sq_of hb)) (fun p j σ2 H2 => Ex H H2 ∧ H2 p = some (.lst (txs fs)) ∧ ∃ (fs2 : List L) (b2 : Addr) (y4 y5 y6 : Option V), H b2 = none ∧ H2 b2 = some (.lst (txs fs2)) ∧ fs2.Nodup ∧ (∀ x ∈ fs2, BunP f ns x) ∧ (∀ x ∈ fs, x ∈ fs2) ∧ (fs2 = fs ∨ fs.length < fs2.length) ∧ (Cl f fs → fs2 = fs) ∧ (∀ (j' : Nat) (x : L), j' < j → fs[j']? = some x → ∀ y ∈ rs f x, y ∈ fs2) ∧ σ2 = [some (.ref d), some (.ref nb), some (.ref b2), some (.int (i : Int)), y4, y5, y6]) (fun p H2 hp e2 h2 => ⟨e'.trans e2, h2, fs, b, _, _, _, hbn, e2 _ _ hb, hfn, hfb, fun x hx => hx, .inl rfl, fun _ => rfl, fun j' x hj => absurd hj (by omega), rfl⟩) (fun p j σ2 H2 _ h => sq_of h.2.1) ?_ ?_
      · rintro p j v σ2 H2 hv ⟨e2, hp2, fs2, b2, y4, y5, y6, hb2n, hb2, hfn2, hfb2, hsub, hgr, hcl, hdn, rfl⟩
        obtain ⟨rfl, hj, hgx⟩ := txs_get' hv
        generalize fs.getD j [] = x at hgx
        have hxf := List.mem_of_getElem? hgx
        have hxk := bun_in (hfb x hxf)
        obtain ⟨vx, hvx, hrx⟩ := hkv.val hxk
        obtain ⟨xa, xr, us, xb, rfl, hxa, hxR, hus⟩ := say_at hrx
        have hfl2 := nodup_sub hfn2 (b := ks) fun x hx => bun_in (hfb2 x hx)
        have hrf := okg_few (hc.ok x hxk).1.g
        have hfil : ((rs f x).filter fun y => !decide (y ∈ fs2)).length ≤ 2 := by
          refine Nat.le_trans (List.length_filter_le _ _) ?_
          unfold rs
          rw [List.length_map]
          exact hrf
        refine r_asgE ?_
        refine r_el (xs := txs (fs2 ++ (rs f x).filter fun y => !decide (y ∈ fs2))) (el_is (el_cat (xs := txs fs2) (ys := txs ((rs f x).filter fun y => !decide (y ∈ fs2))) (evl_k (ev_v rfl) hb2) (evl_n (el_lcP2 (a := xr) (ps := rstG (f x).g) (fun y => !decide (y ∈ fs2)) (ev_ixT (j := 3) (ev_dget (ev_v rfl) (e2 _ _ hk) (ev_v rfl) hvx) (ev_cn 3) (st_of (e2 _ _ hxa)) rfl) (e2 _ _ hxR) (hus.mono e2) (by omega) (fun _ _ => rfl) (fun qq hq H3 e3 => et_test (ev_is (ev_op (ev_v rfl) (ev_v rfl) (rv_niL (xs := txs fs2) (sq_of (e3 _ _ hb2)) rfl (txs_flat _))) (by rw [txs_in]))) fun qq hq H3 e3 => ev_v rfl)) (by rw [txs_len, txs_len]; exact Nat.le_trans (Nat.add_le_add hfl2 hfil) (by omega))) (by unfold txs; rw [List.map_append])) (Ex.refl _) fun b3 H3 hb3 e3 h3 => ?_
        refine ⟨e2.trans e3, e3 _ _ hp2, fs2 ++ (rs f x).filter fun y => !decide (y ∈ fs2), b3, _, _, _, fresh_back e2 hb3, h3, ?_, ?_, ?_, ?_, ?_, ?_, rfl⟩
        · rw [List.nodup_append]
          refine ⟨hfn2, (rs_nodup hc hxk).filter _, fun c hc1 c2 hc2 e => ?_⟩
          subst e
          have := (List.mem_filter.mp hc2).2
          rw [decide_eq_true hc1] at this
          exact nomatch this
        · intro y hy
          rcases List.mem_append.mp hy with hy | hy
          · exact hfb2 y hy
          · obtain ⟨z, hz, hr⟩ := hfb x hxf
            exact ⟨z, hz, .step hr (List.mem_filter.mp hy).1⟩
        · exact fun y hy => List.mem_append_left _ (hsub y hy)
        · by_cases he : ((rs f x).filter fun y => !decide (y ∈ fs2)) = []
          · rw [he, List.append_nil]
            exact hgr
          · refine .inr ?_
            have := List.length_pos_iff.mpr he
            rw [List.length_append]
            rcases hgr with h | h
            · rw [h] at this ⊢; omega
            · omega
        · intro hC
          have h2 := hcl hC
          have he : ((rs f x).filter fun y => !decide (y ∈ fs2)) = [] := by
            rw [List.filter_eq_nil_iff]
            intro y hy
            rw [h2, decide_eq_true (hC x hxf y hy)]
            decide
          rw [he, List.append_nil]
          exact h2
        · intro j' z hj' hz y hy
          by_cases hjj : j' = j
          · subst hjj
            rw [hgx] at hz
            cases hz
            by_cases hyf : y ∈ fs2
            · exact List.mem_append_left _ hyf
            · exact List.mem_append_right _ (List.mem_filter.mpr ⟨hy, by rw [decide_eq_false hyf]; rfl⟩)
          · exact List.mem_append_left _ (hdn j' z (by omega) hz y hy)
      · rintro p σ2 H2 ⟨e2, hp2, fs2, b2, y4, y5, y6, hb2n, hb2, hfn2, hfb2, hsub, hgr, hcl, hdn, rfl⟩
        rw [txs_len] at hdn
        refine ⟨e2, fs2, b2, _, _, _, _, hb2n, hb2, hfn2, hfb2, fun x hx => hsub x (hfi x hx), ?_, rfl⟩
        have hall : ∀ x ∈ fs, ∀ y ∈ rs f x, y ∈ fs2 := fun x hx => by
          obtain ⟨j, hj, hje⟩ := List.getElem_of_mem hx
          exact hdn j x hj (by rw [List.getElem?_eq_getElem hj, hje])
        rcases hgr with h | h
        · subst h
          exact .inl hall
        · rcases hfc with h1 | h1
          · rw [hcl h1]
            exact .inl h1
          · exact .inr (by omega)
    · rintro σ' H' ⟨e', fs, b, y3, y4, y5, y6, hbn, hb, hfn, hfb, hfi, hfc, rfl⟩
      rw [Int.toNat_natCast] at hfc
      have hfl := nodup_sub hfn (b := ks) fun x hx => bun_in (hfb x hx)
      have hC : Cl f fs := hfc.resolve_right (by omega)
      have hall1 : ∀ x ∈ ns, ∀ y, Reach f x y → y ∈ fs := fun x hx y hr => by
        induction hr with
        | base => exact hfi x hx
        | step _ hz ih => exact hC _ ih _ hz
      have hall : ∀ y, BunP f ns y → y ∈ fs := fun y ⟨x, hx, hr⟩ => hall1 x hx y hr
      have hdl := ded_len fs
      have hso : sortF (dedF fs) = pickP (BunP f ns) ks := sort_pick hc.nd (ded_nodup fs) fun y => ⟨fun h => ⟨bun_in (hfb y (ded_mem.mp h)), hfb y (ded_mem.mp h)⟩, fun h => ded_mem.mpr (hall y h.2)⟩
      exact s_retL (el_is (el_sortL (ks := dedF fs) (evp_ln (el_cal (ea_cons (ev_v rfl) ea_nil) fun H4 e4 => ⟨b, fs, rfl, sq_of (e4 _ _ hb), by omega, rfl⟩)) (by omega)) (by rw [hso]; rfl)) fun p H4 hp e4 h4 => q p H4 (fresh_back e' hp) (e'.trans e4) h4
end
end K82

set_option Elab.async false
set_option linter.all false
set_option maxRecDepth 100000
set_option maxHeartbeats 4000000
namespace K82
open PySem PySem.Spec PyProof.Rows L2 Evl My
theorem wid_all {g : L → D} : ∀ {l : List L}, (∀ x ∈ l, Wid (g x)) → WidL (l.map g)
  | [], _ => by rw [List.map_nil, WidL]; trivial
  | x :: l, h => by
    rw [List.map_cons, WidL]
    exact ⟨h x (by simp), wid_all fun y hy => h y (by simp [hy])⟩
theorem hgt_all {g : L → D} {n : Nat} : ∀ {l : List L}, (∀ x ∈ l, height (g x) ≤ n) → heightL (l.map g) ≤ n
  | [], _ => by rw [List.map_nil, heightL]; exact Nat.zero_le _
  | x :: l, h => by
    rw [List.map_cons, heightL]
    have h1 := h x (by simp)
    have h2 := hgt_all (l := l) fun y hy => h y (by simp [hy])
    omega
theorem bun_sm {f : L → Sg} {ks ns : List L} (h : Clo f ks) : Wid (bunD f ks ns) ∧ height (bunD f ks ns) < 9 := by
  have hl := pick_len (BunP f ns) ks
  have hf := h.few
  have ho : ∀ x ∈ pickP (BunP f ns) ks, OkS (f x) := fun x hx => (h.ok x (pick_mem.mp hx).1).1
  unfold bunD
  refine ⟨?_, ?_⟩
  · rw [Wid]
    exact ⟨by rw [List.length_map]; omega, wid_all fun x hx => pln_wid _ (say_ok (ho x hx)).1⟩
  · rw [height]
    have := hgt_all (n := 3) (g := fun k => sayD (f k)) (l := pickP (BunP f ns) ks) fun x hx => by have := (say_ok (ho x hx)).2.1; omega
    omega
theorem bun_nil (f : L → Sg) (ks : List L) : bunD f ks [] = .tup [] := by
  have : pickP (BunP f []) ks = [] := by
    refine List.eq_nil_iff_forall_not_mem.mpr fun x hx => ?_
    obtain ⟨_, y, hy, _⟩ := pick_mem.mp hx
    exact nomatch hy
  unfold bunD
  rw [this, List.map_nil]
theorem fit_strL {l : L} (h : l.length ≤ 1000) : Fit (.str l) := by rw [Fit]; exact h
theorem fit_pairs : ∀ {ps : List (L × L)}, (∀ p ∈ ps, nmP p.2 ∧ (p.1 = wPat ∨ p.1 = wTak)) → FitL (ps.map pairD)
  | [], _ => by rw [List.map_nil, FitL]; trivial
  | p :: ps, h => by
    obtain ⟨h1, h2⟩ := h p (by simp)
    rw [List.map_cons, FitL]
    refine ⟨?_, fit_pairs fun q hq => h q (by simp [hq])⟩
    unfold pairD
    rw [Fit, FitL, FitL, FitL, Fit, Fit]
    exact ⟨by show 2 ≤ 1000; decide, by rcases h2 with e | e <;> rw [e] <;> decide, by rw [h1.1]; decide, trivial⟩
theorem fit_body {g : G4} (h : OkG g) : Fit (bodyG g) := by
  cases g with
  | patch fd =>
    have h : fd = [102, 105, 108, 101] ∨ fd = [100, 105, 114] := by simpa [OkG] using h
    unfold bodyG
    rw [Fit, FitL, FitL, Fit, FitL, FitL, FitL, Fit, Fit]
    exact ⟨by show 1 ≤ 1000; decide, ⟨by show 2 ≤ 1000; decide, by decide, by rcases h with e | e <;> rw [e] <;> decide, trivial⟩, trivial⟩
  | vote x w =>
    obtain ⟨hx, hw⟩ := h
    have hw : w = [121, 101, 115] ∨ w = [110, 111] := by simpa using hw
    unfold bodyG
    rw [Fit, FitL, FitL, FitL, FitL, Fit, Fit, Fit]
    exact ⟨by show 3 ≤ 1000; decide, by rw [hx.1]; decide, by decide, by rcases hw with e | e <;> rw [e] <;> decide, trivial⟩
  | take x =>
    unfold bodyG
    rw [Fit, FitL, FitL, FitL, Fit, Fit]
    exact ⟨by show 2 ≤ 1000; decide, by decide, by rw [h.1]; decide, trivial⟩
  | drop xs =>
    obtain ⟨h1, h2, h3, _⟩ := h
    have hx : ∀ ys : List L, (∀ y ∈ ys, nmP y) → FitL (ys.map .str) := by
      intro ys
      induction ys with
      | nil => intro _; rw [List.map_nil, FitL]; trivial
      | cons y r ih =>
        intro hy
        rw [List.map_cons, FitL, Fit]
        exact ⟨by rw [(hy y (by simp)).1]; decide, ih fun z hz => hy z (by simp [hz])⟩
    unfold bodyG
    rw [Fit, FitL, FitL, FitL, Fit, Fit]
    exact ⟨by show 2 ≤ 1000; decide, by decide, ⟨by rw [List.length_map]; omega, hx xs h3⟩, trivial⟩
theorem fit_say {s : Sg} (h : OkS s) : Fit (sayD s) := by
  have hp : ∀ p ∈ people, p.length ≤ 1000 := by decide
  have hkd := kd_ok s.g
  have hf := okg_few h.g
  unfold sayD restD
  rw [Fit, FitL, FitL, FitL, FitL, FitL, FitL, Fit, Fit, Fit, Fit]
  exact ⟨by show 5 ≤ 1000; decide, by omega, hp _ h.au, trivial, ⟨by rw [List.length_map]; omega, fit_pairs (okg_rest h.g)⟩, fit_body h.g, trivial⟩
theorem fit_odd : Fit oddS := by
  unfold oddS
  rw [Fit, FitL, FitL, FitL, FitL, FitL, FitL, Fit, Fit, Fit, Fit, FitL]
  exact ⟨by show 5 ≤ 1000; decide, by decide, by decide, trivial, ⟨by decide, trivial⟩, ⟨by decide, trivial⟩, trivial⟩
def oddsD (s : Sg) : List D := [.tup [], .tup [.int 7], .tup [.non], .tup [oddS], .tup [sayD s]]
theorem odds_at {f : L → Sg} {x : L} (h : OkS (f x)) : ∀ d ∈ oddsD (f x), ∃ ds, d = .tup ds ∧ (∀ e ∈ ds, ItW f x e) ∧ ds.length ≤ 10 ∧ FitL ds := by
  intro d hd
  simp only [oddsD, List.mem_cons, List.not_mem_nil, or_false] at hd
  rcases hd with rfl | rfl | rfl | rfl | rfl
  · exact ⟨[], rfl, (fun e he => nomatch he), by decide, by rw [FitL]; trivial⟩
  · exact ⟨_, rfl, fun e he => by rw [List.mem_singleton.mp he]; exact .inr ⟨_, .int⟩, by show 1 ≤ 10; decide, by rw [FitL, FitL, Fit]; exact ⟨trivial, trivial⟩⟩
  · exact ⟨_, rfl, fun e he => by rw [List.mem_singleton.mp he]; exact .inr ⟨_, .non⟩, by show 1 ≤ 10; decide, by rw [FitL, FitL, Fit]; exact ⟨trivial, trivial⟩⟩
  · exact ⟨_, rfl, fun e he => by rw [List.mem_singleton.mp he]; exact .inr ⟨_, .odd⟩, by show 1 ≤ 10; decide, by rw [FitL, FitL]; exact ⟨fit_odd, trivial⟩⟩
  · exact ⟨_, rfl, fun e he => by rw [List.mem_singleton.mp he]; exact .inl rfl, by show 1 ≤ 10; decide, by rw [FitL, FitL]; exact ⟨fit_say h, trivial⟩⟩
theorem odds_nol (s : Sg) : NoLL (oddsD s) := by
  unfold oddsD
  simp only [NoLL, NoL, and_true, true_and]
  exact ⟨nol_odd, nol_say s⟩
theorem fit_msg {f : L → Sg} {x : L} {ds : List D} (h : OkS (f x)) (hf : FitL ds) (hl : ds.length ≤ 10) : Fit (msgD f x ds) := by
  unfold msgD
  rw [Fit, FitL, FitL, FitL, Fit, Fit, FitL]
  exact ⟨by show 2 ≤ 1000; decide, by decide, ⟨by rw [List.length_cons]; omega, fit_say h, hf⟩, trivial⟩
theorem Reps.erase {H : Hp} {g : L → D} : ∀ {lf : List L} {us : List V} {j : Nat}, Reps H us (lf.map g) → Reps H (us.eraseIdx j) ((lf.eraseIdx j).map g)
  | [], us, j, h => by
    rw [List.map_nil] at h
    cases h
    exact .nil
  | x :: lf, us, 0, h => by
    rw [List.map_cons] at h
    cases h with
    | cons r rs => exact rs
  | x :: lf, us, j + 1, h => by
    rw [List.map_cons] at h
    cases h with
    | cons r rs => exact .cons r (Reps.erase (j := j) rs)
section
variable {K : PySem.W.Frag} {σ : L2.St} {H H1 : Hp} {Q : VK} {p sc d : Addr} {ns : List Int} {te tb : TE} {E : XK} {f : L → Sg} {ks : List L}
theorem TkAt.g {C r : Addr} (hP : Pool K H p sc ns) (g : G K p sc ns H H1) (h : TkAt C f H r d ks) : TkAt C f H1 r d ks := by
  obtain ⟨⟨dx, h1⟩, h2⟩ := h
  exact ⟨⟨dx, g.1 _ _ (ne_pool hP h1 (fun _ z => nomatch z)) h1⟩, h2.g hP g⟩
theorem el_listT {a : Addr} {xs : List V} (ha : Ev te σ H (.ref a)) (h : SqT K H a xs) : EvL (tCB (rListS K) (tCons te tNil)) σ H xs := fun H1 e Q q =>
  ha H1 e _ fun H2 e2 => ⟨a, xs, rfl, Or.inr (ex_t (e.trans e2) h), fun l hl => q l _ (fresh_back e2 hl) (e2.trans (Ex.new hl)) upd_same⟩
/-- a tuple picked out of a display -/
theorem r_pickN {ds : List D} (hP : Pool K H p sc ns) (ha : Ev te σ H (.ref p)) (hb : EvD tb σ H (.lst ds)) (h0 : ds ≠ []) (hn : ds.length ≤ 1000) (hnl : NoLL ds) (ht : ds.all My.tupB = true) (q : ∀ v d H', d ∈ ds → Rep H' v d → G K p sc ns H H' → Q v H') : tCall (sp_pick K) [] E (tCons te (tCons tb tNil)) σ H Q :=
  ha H (Ex.refl H) _ fun H1 e1 => hb H1 e1 _ fun v H2 e2 r => by
    have E2 := e1.trans e2
    have P2 := hP.ex E2
    cases r with
    | @lst a vs _ hl rs =>
      have hne : a ≠ p := fun e => by
        subst e
        obtain ⟨_, r, f, h1, _⟩ := P2
        rw [h1] at hl
        have := HO.lst.inj (Option.some.inj hl)
        subst this
        cases rs with
        | cons r1 rs =>
          cases rs with
          | cons r2 rs =>
            cases r2
            rw [List.all_cons, List.all_cons, Bool.and_eq_true, Bool.and_eq_true] at ht
            exact nomatch ht.2.1
      refine ⟨p, sc, ns, a, vs, rfl, P2, sq_of hl, hne, ?_, by rw [rs.len]; exact hn, fun v H' hv g => ?_⟩
      · intro z
        subst z
        exact h0 (List.length_eq_zero_iff.mp rs.len.symm)
      · obtain ⟨i, hi, rfl⟩ := List.mem_iff_getElem.mp hv
        have rs2 := Reps.keepT (G.kt P2 g) hnl rs
        obtain ⟨d, hd, rd⟩ := rs2.get' (List.getElem?_eq_getElem hi)
        exact q _ d H' (List.mem_of_getElem? hd) rd (G.exL E2 g)
/-- a write beside the pool, of an address that the base does not hold -/
theorem G.frm {Hb H2 : Hp} (hP : Pool K Hb p sc ns) (g : G K p sc ns Hb H1) (hd : Hb d = none) (fr : Frm d H1 H2) : G K p sc ns Hb H2 := by
  have k : Keep p Hb H2 := fun a o n h => fr a o (fun e => by rw [e, hd] at h; exact nomatch h) (g.1 a o n h)
  refine ⟨k, ?_⟩
  obtain ⟨_, r, f, h1, _⟩ := g.2
  exact hP.mk' k (fr _ _ (fun e => hP.ne hd e.symm) h1)
end
theorem erase_perm {α : Type} : ∀ {l : List α} {j : Nat} (h : j < l.length), (l[j] :: l.eraseIdx j).Perm l
  | x :: l, 0, _ => List.Perm.refl _
  | x :: l, j + 1, h => (List.Perm.swap x _ _).trans ((erase_perm (l := l) (j := j) (by simpa using h)).cons x)
theorem addF_new {tk : List L} {x : L} (h : x ∉ tk) : addF tk x = tk ++ [x] := by
  unfold addF
  rw [if_neg h]
section
variable {P : Program} {w : World} {K : PySem.W.Frag} {mg : Str → Option Value} {base : Heap} {C : Addr}
abbrev s_law : Stmt := topS 91
theorem sc_law : FnScope ["script", "pool", "held", "names", "k", "due", "told_v", "name", "talker", "left", "step", "some", "odd", "want"] ["script"] (defScope s_law) := ⟨rfl, rfl, rfl, by decide +kernel, rfl, by decide +kernel, by decide +kernel⟩
/- 0 script, 1 pool*, 2 held*, 3 names, 4 k, 5 due, 6 told_v, 7 name, 8 talker, 9 left, 10 step, 11 some, 12 odd, 13 want -/
def sp_law (K : PySem.W.Frag) : Sp := fun vs H Q _ => ∃ (a : Addr) (ns : List Int), vs = [.ref a] ∧ SqL K H a (ns.map V.int) ∧ ∀ H', Q (.bl true) H'
theorem fn_law {f : Addr} {fd : FuncData} {k j : Nat} (F : Fun K "law" "law" s_law f fd) (N : Nb mg) (T : RT K mg C) (C_law_pool : Cal P w K mg base k "_law_pool" ["script"] (spL (ok_pool_ K))) (C_law_draw : Cal P w K mg base k "_law_draw" ["pool", "limit"] (sp_draw K)) (C_law_next : Cal P w K mg base k "_law_next" ["pool"] (sp_next K)) (C_law_pick : Cal P w K mg base k "_law_pick" ["pool", "options"] (sp_pick K))
    (C_law_sayings_drawn : Cal P w K mg base k "_law_sayings_drawn" ["pool"] (sp_drawn K)) (C_law_different : Cal P w K mg base k "_law_different" ["items"] (spL (ok_different K))) (C_law_closure : Cal P w K mg base k "_law_closure" ["held", "names"] (spL ok_lawclo)) (C_law_same : Cal P w K mg base k "_law_same" ["answer", "due"] (spV ok_sameA)) (C_bundle : Cal P w K mg base k "bundle" ["sayings", "names"] (spD ok_bundle))
    (M_new : MkC P w K mg base j "Talker" C ["self", "held"] (sp_init C)) (hk : j + 1 ≤ k) (M_held : MCal P w K mg base k C "held" ["self"] (sp_held C)) (M_take : MCal P w K mg base k C "take" ["self", "value"] (sp_take C)) : FnOk P w K mg base CX0 (k + 1) f fd ["script"] (sp_law K) := by
  refine F.ok sc_law (fun vs H Q E h => ?_) (fun cdv A outer s H vs Q E hr h => ?_)
  · obtain ⟨_, _, rfl, _⟩ := h
    rfl
  · obtain ⟨sc, ns, rfl, hS, q⟩ := h
    refine ⟨_, (pss_cons (ps_set (i := 1) sc_law.nd rfl (Or.inr rfl) (pe_cal C_law_pool hr (pa_cons (pv 0) pa_nil)))
      (pss_cons (ps_set (i := 2) sc_law.nd rfl (Or.inr rfl) (pe_cal C_law_sayings_drawn hr (pa_cons (pv 1) pa_nil)))
      (pss_cons (ps_set (i := 3) sc_law.nd rfl (Or.inl rfl) (pe_cal C_law_different hr (pa_cons (pe_lc (own := [("k", 4)]) (by rfl) sc_law.nd (pi_range1 rfl N.range (pa_cons (pe_op op_add pe_int (pe_cal C_law_draw hr (pa_cons (pv 1) (pa_cons pe_int pa_nil)))) pa_nil)) (blkOk_by (own := [("k", 4)]) (N := ["script", "pool", "held", "names", "k", "due", "told_v", "name", "talker", "left", "step", "some", "odd", "want"]) (sc := defScope s_law) (by decide +kernel)) (fun _ _ _ _ _ => (pg_name (i := 4) sc_law.nd rfl (Or.inl rfl))) (fun _ _ _ _ _ => pts_nil) (fun _ _ _ _ _ => (pe_cal C_law_pick hr (pa_cons (pv 1) (pa_cons (pe_callB (cr_sortedDA rfl) (by rfl) N.sorted PyProof.Rows.boot_sorted (pa_cons (pv 2) pa_nil)) pa_nil))))) pa_nil)))
      (pss_cons (ps_set (i := 5) sc_law.nd rfl (Or.inl rfl) (pe_cal C_law_closure hr (pa_cons (pv 2) (pa_cons (pv 3) pa_nil))))
      (pss_cons (ps_set (i := 6) sc_law.nd rfl (Or.inl rfl) (pe_cal C_bundle hr (pa_cons (pe_callTy My.call_dictD (by rfl) N.dict PyProof.Rows.boot_dict (pa_cons (pv 2) pa_nil)) (pa_cons (pe_callTy call_tuple_of (by rfl) N.tuple PyProof.Rows.boot_tuple (pa_cons (pv 3) pa_nil)) pa_nil))))
      (pss_cons (ps_if (PW.pt (pw_or (pt_not (pt_val (pe_cal C_law_same hr (pa_cons (pv 6) (pa_cons (pe_callTy call_tuple_of (by rfl) N.tuple PyProof.Rows.boot_tuple (pa_cons (pe_lc (own := [("name", 7)]) (by rfl) sc_law.nd (pi_list (pv 5)) (blkOk_by (own := [("name", 7)]) (N := ["script", "pool", "held", "names", "k", "due", "told_v", "name", "talker", "left", "step", "some", "odd", "want"]) (sc := defScope s_law) (by decide +kernel)) (fun _ _ _ _ _ => (pg_name (i := 7) sc_law.nd rfl (Or.inl rfl))) (fun _ _ _ _ _ => pts_nil) (fun _ _ _ _ _ => (pe_dget (hu_of hr) (pv 2) (pv 7) (fun _ _ => rfl)))) pa_nil)) pa_nil))))) (pw_or1 (pt_not (pt_val (pe_cal C_law_same hr (pa_cons (pe_cal C_bundle hr (pa_cons (pe_callTy My.call_dictD (by rfl) N.dict PyProof.Rows.boot_dict (pa_cons (pv 2) pa_nil)) (pa_cons (pe_tup pa_nil) pa_nil))) (pa_cons (pe_tup pa_nil) pa_nil)))))))) (pss_one (ps_ret pe_bl)) pss_nil)
      (pss_cons (ps_set (i := 8) sc_law.nd rfl (Or.inl rfl) (pe_mkc M_new hr (pa_cons pe_dnewK pa_nil)))
      (pss_cons (ps_set (i := 9) sc_law.nd rfl (Or.inl rfl) (pe_callTy call_list_of (by rfl) N.list PyProof.Rows.boot_list (pa_cons (pv 6) pa_nil)))
      (pss_cons (ps_for PassesOwn.never rfl (pi_range1 rfl N.range (pa_cons (pe_callB call_len_seq (by rfl) N.len PySem.boot_len (pa_cons (pv 6) pa_nil)) pa_nil)) (pg_name (i := 10) sc_law.nd rfl (Or.inl rfl)) (pss_cons (ps_expr (pe_cal C_law_next hr (pa_cons (pv 1) pa_nil)))
      (pss_cons (ps_set (i := 11) sc_law.nd rfl (Or.inl rfl) (pe_lst (pa_cons (pe_bm PySem.F.plainAttrs_list PySem.F.slot_list_pop PySem.F.type_list_pop mt_popAt (pv 9) (pa_cons (pe_cal C_law_draw hr (pa_cons (pv 1) (pa_cons (pe_callB call_len_seq (by rfl) N.len PySem.boot_len (pa_cons (pv 9) pa_nil)) pa_nil))) pa_nil)) pa_nil)))
      (pss_cons (ps_set (i := 12) sc_law.nd rfl (Or.inl rfl) (pe_cal C_law_pick hr (pa_cons (pv 1) (pa_cons (pe_lst (pa_cons (pe_tup pa_nil) (pa_cons (pe_tup (pa_cons pe_int pa_nil)) (pa_cons (pe_tup (pa_cons pe_non pa_nil)) (pa_cons (pe_tup (pa_cons (pe_tup (pa_cons pe_str (pa_cons pe_str (pa_cons pe_int (pa_cons (pe_tup pa_nil) (pa_cons (pe_tup pa_nil) pa_nil)))))) pa_nil)) (pa_cons (pe_tup (pa_cons (pe_ix ix_list (pv 11) pe_int (fun _ _ => rfl)) pa_nil)) pa_nil)))))) pa_nil))))
      (pss_one (ps_if (pt_cmpR (op_neT hr.units) (pe_mcal T.cl M_take hr (pv 8) (pa_cons (pe_tup (pa_cons pe_str (pa_cons (pe_op op_catA (pe_callTy call_tuple_of (by rfl) N.tuple PyProof.Rows.boot_tuple (pa_cons (pv 11) pa_nil)) (pv 12)) pa_nil))) pa_nil)) (pe_tup pa_nil) (nomark _)) (pss_one (ps_ret pe_bl)) pss_nil))))))
      (pss_cons (ps_set (i := 13) sc_law.nd rfl (Or.inl rfl) pe_dnewK)
      (pss_cons (ps_for PassesOwn.never rfl (pi_list (pv 5)) (pg_name (i := 7) sc_law.nd rfl (Or.inl rfl)) (pss_one (ps_dput (hu_of hr) (pv 13) (pv 7) (pe_dget (hu_of hr) (pv 2) (pv 7) (fun _ _ => rfl)) rfl)))
      (pss_one (ps_ret (pe_cal C_law_same hr (pa_cons (pe_mcal0 T.cl M_held hr (pv 8)) (pa_cons (pv 13) pa_nil)))))))))))))))), ?_⟩
    refine q_asgL (el_cal (ea_cons (ev_v rfl) ea_nil) fun H1 e1 => ⟨sc, ns, rfl, ex_l e1 hS, rfl⟩) fun p H1 hp e1 h1 => ?_
    have hP1 : Pool K H1 p sc ns := ⟨0, _, 0, h1, ex_l e1 hS⟩
    refine r_asg (r_call (r_cons (r_var rfl (r_nil ⟨p, sc, ns, rfl, hP1, fun d f ks H2 hc hne hkl hd0 hd g2 => ?_⟩))))
    obtain ⟨kvs, k1, k2⟩ := hd
    have ndp : d ≠ p := hP1.ne hd0
    have hfew := hc.few
    have hne' : txs (sortF ks) ≠ [] := fun z => by
      have := congrArg List.length z
      rw [txs_len, sort_len] at this
      exact hne (List.length_eq_zero_iff.mp this)
    refine r_asg (r_call (r_cons ?_))
    refine r_lcG (K := K) (p := p) (sc := sc) (ns := ns) (fun _ v _ => ∃ x, x ∈ ks ∧ v = .str (tx x)) 1 3 (by decide) (fun _ v H1 H2 _ h => h) g2.2 (fun R r => r_onep (n := 3) g2.2 rfl (by decide) (by decide) R r) (fun _ => rfl) (fun x H3 Q2 g3 q2 => ?_) fun Dl xs H3 hlo hhi hD hl hx g3 => ?_
    · refine r_pick g3.2 (ev_v rfl) (el_sortKv (ev_v rfl) (g3.1 _ _ ndp k1) k2.keys (by omega)) hne' (by rw [txs_len, sort_len]; omega) fun v H4 hv g4 => ?_
      obtain ⟨y, hy, rfl⟩ := txs_mem hv
      exact q2 _ H4 (fun _ _ _ => ⟨y, sort_mem.mp hy, rfl⟩) g4
    obtain ⟨qs, rfl, hqs⟩ := ks_in hx
    rw [txs_len] at hlo hhi
    have hdl := ded_len qs
    refine r_nil ⟨txs (dedF qs), ⟨Dl, qs, rfl, sq_of hl, by omega, rfl⟩, fun nl H4 hnl e4 h4 => ?_⟩
    have hnd := ded_nodup qs
    have hnk : ∀ x ∈ dedF qs, x ∈ ks := fun x hx => hqs x (ded_mem.mp hx)
    generalize dedF qs = nm at hdl h4 hnd hnk
    have G4 := (g2.trans g3).exR e4
    have k14 := e4 _ _ (g3.1 _ _ ndp k1)
    have k24 : KvAt f H4 kvs ks := (k2.keepT (G.kt g2.2 g3)).mono e4
    clear k1 k2 hl hx
    refine q_asgL (el_cal (ea_cons (ev_v rfl) (ea_cons (ev_v rfl) ea_nil)) fun H5 e5 => ⟨d, nl, f, ks, nm, rfl, ⟨kvs, e5 _ _ k14, k24.mono e5⟩, hc, e5 _ _ h4, hnd, hnk, rfl⟩) fun du H5 hdu e5 h5 => ?_
    have nup : du ≠ p := G4.2.ne hdu
    have dm : ∀ (v : V) (H1 H2 : Hp), Ex H1 H2 → (∃ p, v = .ref p ∧ H1 p = some (.dK kvs)) → ∃ p, v = .ref p ∧ H2 p = some (.dK kvs) := fun v H1 H2 e ⟨p, h1, h2⟩ => ⟨p, h1, e _ _ h2⟩
    refine q_asgD (d := bunD f ks nm) (ed_calP (eap_p (evp_dictD (ev_v rfl) (e5 _ _ k14)) dm (eap_u (eu_tupV (ev_v rfl) (sq_of (e5 _ _ h4))) eap_nil)) fun vs H6 e6 hv => ?_) fun v6 H6 e6 r6 => ?_
    · obtain ⟨_, _, rfl, ⟨z, rfl, hz⟩, b, _, rfl, hb, rfl⟩ := hv
      exact ⟨z, b, f, ks, nm, rfl, ⟨kvs, hz, k24.mono (e5.trans e6)⟩, hc, hb, hnk, by omega, rfl⟩
    have G6 := (G4.exR e5).exR e6
    have h56 := e6 _ _ h5
    have k16 := (e5.trans e6) _ _ k14
    have k26 := k24.mono (e5.trans e6)
    have repm : ∀ {dd : D} (v : V) (H1 H2 : Hp), Ex H1 H2 → Rep H1 v dd → Rep H2 v dd := fun v H1 H2 e h => h.mono e
    obtain ⟨bw, bh⟩ := bun_sm (ns := nm) hc
    have hpl := pick_len (BunP f nm) ks
    have hpk : ∀ x ∈ pickP (BunP f nm) ks, x ∈ ks := fun x hx => (pick_mem.mp hx).1
    have hpn : (pickP (BunP f nm) ks).Nodup := pick_nodup hc.nd
    have hbun : bunD f ks nm = .tup ((pickP (BunP f nm) ks).map fun k => sayD (f k)) := rfl
    generalize hdlE : pickP (BunP f nm) ks = dl at h5 h56 hpl hpk hpn hbun
    refine q_when (b := false) (et_or (a := false) (b := false) (et_not (a := true) (et_B (ev_calP (eap_p (evd_v (ev_v rfl) r6) repm (eap_p (ed_is (ed_tupL (ed_is (ed_lcM (α := L) .str (fun k => sayD (f k)) (fun _ => true) (l := dl) (evd_v (ev_v rfl) (.lst h56 (reps_txs _ _))) (by omega) (fun _ => rfl) (fun x _ => by rw [NoL]; trivial) (fun x _ => nol_say _) (fun x z H7 e7 hz hr => et_yes) fun x z H7 e7 hz hr _ => ?_) (by rw [filt_true])) (nol_all fun x _ => nol_say _)) hbun.symm) repm eap_nil)) ?_))) fun _ => et_not (a := true) (et_B (ev_calP (eap_p (ed_calP (ok := ok_bundle) (d := bunD f ks []) (eap_p (evp_dictD (ev_v rfl) k16) dm (eap_u (eu_tup ea_nil (by decide)) eap_nil)) fun vs H7 e7 hv => ?_) repm (eap_p (ed_is (ed_tup er_nil (by decide)) (bun_nil f ks).symm) repm eap_nil)) ?_))) (fun z => nomatch z) fun _ H7 e7 => ?_
    · cases hr
      obtain ⟨vx, hvx, hrx⟩ := k26.val (hpk z hz)
      exact evd_v (ev_dget (ev_v rfl) (e7 _ _ k16) (ev_v rfl) hvx) (hrx.mono e7)
    · rintro vs H7 e7 ⟨x1, _, rfl, r1, x2, _, rfl, r2, rfl⟩
      exact .inl ⟨x1, x2, bunD f ks nm, rfl, r1, r2, bw, bh, rfl⟩
    · obtain ⟨_, _, rfl, ⟨z, rfl, hz⟩, b, _, rfl, hb, rfl⟩ := hv
      exact ⟨z, b, f, ks, [], rfl, ⟨kvs, hz, k26.mono e7⟩, hc, hb, (fun x hx => nomatch hx), by decide, rfl⟩
    · rintro vs H7 e7 ⟨x1, _, rfl, r1, x2, _, rfl, r2, rfl⟩
      obtain ⟨cw, ch⟩ := bun_sm (ns := []) hc
      exact .inl ⟨x1, x2, bunD f ks [], rfl, r1, r2, cw, ch, rfl⟩
    have r7 := r6.mono e7
    rw [hbun] at r7
    cases r7 with
    | @tup ta us _ hta hus =>
      have hP7 := (G6.exR e7).2
      have h57 := e7 _ _ h56
      have k17 := e7 _ _ k16
      have k27 := k26.mono e7
      have hul := hus.len
      rw [List.length_map] at hul
      refine r_asg (r_cons fun z hz => r_nil ?_)
      intro t dx ht0 hdx0 hne2
      have e8 : Ex H7 (upd H7 z (.dK [])) := Ex.new hz
      have hz8 : (upd H7 z (.dK [])) z = some (.dK []) := upd_same
      generalize upd H7 z (.dK []) = H8 at ht0 hdx0 e8 hz8 ⊢
      have e9 : Ex H8 (upd (upd H8 dx (.own t)) t (.ins C dx [])) := fun c o hc => by
        rw [upd_ne (ne_of_none hc ht0), upd_ne (ne_of_none hc hdx0)]
        exact hc
      have ht9 : (upd (upd H8 dx (.own t)) t (.ins C dx [])) t = some (.ins C dx []) := upd_same
      generalize upd (upd H8 dx (.own t)) t (.ins C dx []) = H9 at e9 ht9 ⊢
      refine ⟨t, z, dx, f, [], rfl, ht9, ⟨[], e9 _ _ hz8, .nil⟩, fun H10 dT hf hdT0 hT => ⟨rfl, ?_⟩⟩
      have ht07 : H7 t = none := fresh_back e8 ht0
      have hdT7 : H7 dT = none := fresh_back (e8.trans e9) hdT0
      have e710 : Ex H7 H10 := fun c o hc => hf _ _ (ne_of_none hc ht07) ((e8.trans e9) _ _ hc)
      clear hf e9 ht9 hz8
      refine q_asgL (el_listT (ev_v rfl) (st_of (e710 _ _ hta))) fun lp H11 hlp e11 h11 => ?_
      have hlp7 : H7 lp = none := fresh_back e710 hlp
      have nlp : lp ≠ p := hP7.ne hlp7
      have G11 : G K p sc ns H7 H11 := G.ex (e710.trans e11) hP7
      let Pv : Nat → L2.St → Hp → Prop := fun i σ' H' => G K p sc ns H7 H' ∧ ∃ (tk lf : List L) (ws : List V) (y10 y11 y12 : Option V), TkAt C f H' t dT tk ∧ H' lp = some (.lst ws) ∧ Reps H' ws (lf.map fun k => sayD (f k)) ∧ (tk ++ lf).Perm dl ∧ tk.length = i ∧ σ' = [some (.ref sc), some (.ref p), some (.ref d), some (.ref nl), none, some (.ref du), some (.ref ta), none, some (.ref t), some (.ref lp), y10, y11, y12, none]
      refine q_forR1 (n := ((dl.length : Nat) : Int)) (ea_cons (ev_is (ev_lenT (ev_v rfl) (st_of (G11.1 _ _ (ne_pool hP7 hta (fun _ z => nomatch z)) hta))) (by rw [hul])) ea_nil) (by omega) Pv (fun H12 e12 => ⟨G11.exR e12, [], dl, us, none, none, none, hT.mono (e11.trans e12), e12 _ _ h11, hus.mono ((e710.trans e11).trans e12), List.Perm.refl _, rfl, rfl⟩) ?_ ?_
      · rintro i σ' H' hi ⟨g, tk, lf, ws, y10, y11, y12, hT', hlH, hws, hpm, htl, rfl⟩
        have hpml := hpm.length_eq
        rw [List.length_append] at hpml
        have hi : i < dl.length := by omega
        have hwl := hws.len
        rw [List.length_map] at hwl
        refine r_drop (r_call (r_cons (r_var rfl (r_nil ⟨p, sc, ns, rfl, g.2, fun H2 g2 => ?_⟩))))
        have hlH2 := g2.1 _ _ nlp hlH
        refine r_asg (r_lst (r_cons (r_bm (r_ev (ev_v (v := .ref lp) rfl) (Ex.refl _) fun H3 e3 => ⟨.inl ⟨rfl, _, sq_of (e3 _ _ hlH2)⟩, r_cons (r_draw (n := ws.length) (g2.exR e3).2 (ea_cons (ev_v rfl) (ea_cons (ev_len (ev_v rfl) (sq_of (e3 _ _ hlH2))) ea_nil)) (by omega) (by omega) fun jv H4 hjv g4 => r_nil ?_)⟩))))
        have g14 := (g2.exR e3).trans g4
        have G4 := g.trans g14
        have hlH4 := g14.1 _ _ nlp hlH
        have hT4 := hT'.g g.2 g14
        have hws4 := Reps.keepT (G.kt g.2 g14) (nol_all fun x _ => nol_say _) hws
        have hjl : jv < lf.length := by omega
        have hgx : lf[jv]? = some lf[jv] := List.getElem?_eq_getElem hjl
        obtain ⟨vx, hvx, hrx⟩ := hws4.get (i := jv) (d := sayD (f lf[jv])) (by rw [List.getElem?_map, hgx]; rfl)
        have hperm2 := erase_perm hjl
        generalize lf[jv] = x at hgx hrx hperm2
        have hxd : x ∈ dl := hpm.mem_iff.mp (List.mem_append_right _ (List.mem_of_getElem? hgx))
        have hxk := hpk x hxd
        have hnodA : (tk ++ lf).Nodup := hpm.nodup_iff.mpr hpn
        have hxn : x ∉ tk := fun h => (List.nodup_append.mp hnodA).2.2 x h x (List.mem_of_getElem? hgx) rfl
        refine ⟨lp, ws, (jv : Int), jv, vx, rfl, rfl, hlH4, by omega, by omega, ?_, hvx, ?_⟩
        · unfold seqIndex?
          have h1 : ¬ ((jv : Int) < 0) := by omega
          simp only [h1, if_false]
          have h2 : (decide ((0 : Int) ≤ (jv : Int)) && decide ((jv : Int) < (ws.length : Int))) = true := by
            rw [Bool.and_eq_true]
            exact ⟨decide_eq_true (by omega), decide_eq_true (by omega)⟩
          rw [if_pos h2, Int.toNat_natCast]
        have G5 : G K p sc ns H7 (upd H4 lp (.lst (ws.eraseIdx jv))) := G.frm hP7 G4 hlp7 Frm.upd
        have h5l : (upd H4 lp (.lst (ws.eraseIdx jv))) lp = some (.lst (ws.eraseIdx jv)) := upd_same
        have kt5 : ∀ a us, H4 a = some (.tup us) → (upd H4 lp (.lst (ws.eraseIdx jv))) a = some (.tup us) := fun a us ha => by
          rw [upd_ne (ne_kind ha hlH4 (fun z => nomatch z))]
          exact ha
        have hT5 : TkAt C f (upd H4 lp (.lst (ws.eraseIdx jv))) t dT tk := by
          obtain ⟨⟨dx4, m1⟩, kv4, m2, m3⟩ := hT4
          exact ⟨⟨dx4, by rw [upd_ne (ne_kind m1 hlH4 (fun z => nomatch z))]; exact m1⟩, kv4, by rw [upd_ne (ne_kind m2 hlH4 (fun z => nomatch z))]; exact m2, m3.keepT kt5⟩
        have hrx5 := Rep.keepT kt5 (nol_say _) hrx
        have hws5 := Reps.keepT kt5 (nol_all fun x _ => nol_say _) (Reps.erase (j := jv) hws4)
        generalize upd H4 lp (.lst (ws.eraseIdx jv)) = H5 at G5 h5l hT5 hrx5 hws5 ⊢
        refine r_nil ⟨sz_of (by show 1 ≤ 100000; decide), fun sa hsa => ?_⟩
        have e6 : Ex H5 (upd H5 sa (.lst [vx])) := Ex.new hsa
        have h6s : (upd H5 sa (.lst [vx])) sa = some (.lst [vx]) := upd_same
        generalize upd H5 sa (.lst [vx]) = H6 at e6 h6s ⊢
        have nsp : sa ≠ p := G5.2.ne hsa
        have G6 := G5.exR e6
        have hok := (hc.ok x hxk).1
        refine r_asg (r_pickN (ds := oddsD (f x)) G6.2 (ev_v rfl) (ed_lst (er_cons (ed_tup er_nil (by decide)) (er_cons (ed_tup (er_cons (evd_v ev_c (.int 7)) er_nil) (by show 1 ≤ 100000; decide)) (er_cons (ed_tup (er_cons (evd_v ev_c .non) er_nil) (by show 1 ≤ 100000; decide)) (er_cons (ed_tup (er_cons (ed_tup (er_cons (evd_v (ev_cs wVot (by decide +kernel)) (.str _)) (er_cons (evd_v (ev_cs [97, 110, 110] (by decide +kernel)) (.str _)) (er_cons (evd_v (ev_cn 1) (.int _)) (er_cons (ed_tup er_nil (by decide)) (er_cons (ed_tup er_nil (by decide)) er_nil))))) (by show 5 ≤ 100000; decide)) er_nil) (by show 1 ≤ 100000; decide)) (er_cons (ed_tup (er_cons (evd_v (ev_ixL (j := 0) (ev_v rfl) (ev_cn 0) (sq_of h6s) rfl) (hrx5.mono e6)) er_nil) (by show 1 ≤ 100000; decide)) er_nil))))) (by show 5 ≤ 100000; decide)) (fun z => nomatch z) (by show 5 ≤ 1000; decide) (odds_nol _) rfl fun ov od H7' hod hro g7 => ?_)
        obtain ⟨ds, rfl, hit, hdsl, hfds⟩ := odds_at hok od hod
        have G7 := G6.trans g7
        have hT7 := (hT5.mono e6).g G6.2 g7
        have hl7 := g7.1 _ _ nlp (e6 _ _ h5l)
        have hs7 := g7.1 _ _ nsp h6s
        have hrx7 := Rep.keepT (G.kt G6.2 g7) (nol_say _) (hrx5.mono e6)
        have hws7 := Reps.keepT (G.kt G6.2 g7) (nol_all fun x _ => nol_say _) (hws5.mono e6)
        obtain ⟨⟨dx7, i7⟩, kv7, m7, n7⟩ := hT7
        refine r_ifS (r_test (r_op (r_meth (r_var rfl ⟨t, dx7, _, rfl, i7, fld_none (by decide), r_cons ?_⟩))))
        have edm : EvD (tTup (tCons (tC (.str "have")) (tCons (tOp (rCatA K) (tCB (rTupS K) (tCons (tVar 11) tNil)) (tVar 12)) tNil))) [some (.ref sc), some (.ref p), some (.ref d), some (.ref nl), none, some (.ref du), some (.ref ta), none, some (.ref t), some (.ref lp), some (.int (i : Int)), some (.ref sa), some ov, none] H7' (msgD f x ds) := ed_tup (er_cons (evd_v (ev_cs wHav (by decide +kernel)) (.str _)) (er_cons (ed_catU (ds := [sayD (f x)]) (es := ds) (ed_tupL (evd_v (ev_v rfl) (.lst hs7 (.cons hrx7 .nil))) ⟨nol_say _, by rw [NoLL]; trivial⟩) (evd_v (ev_v rfl) hro) (by show 1 + ds.length ≤ 100000; omega)) er_nil)) (by show 2 ≤ 100000; decide)
        refine edm H7' (Ex.refl _) _ fun v H8 e8 r8 => r_nil ⟨t, dT, v, f, ks, tk, x, ds, rfl, ⟨⟨dx7, e8 _ _ i7⟩, kv7, e8 _ _ m7, n7.mono e8⟩, hc, hxk, r8, fit_msg hok hfds hdsl, hit, hdsl, by omega, fun pz H9 fr hd9 hp9 => ?_⟩
        refine eu_tup ea_nil (by decide) H9 (Ex.refl _) _ fun pb H10 hpb e10 h10 => ⟨pz, pb, [], [], rfl, rfl, ⟨st_of (e10 _ _ hp9), st_of h10⟩, rfl, false, rfl, iteF ?_⟩
        have m8 := e8 _ _ m7
        refine ⟨(G.frm hP7 (G7.exR e8) hdT7 fr).exR e10, tk ++ [x], lf.eraseIdx jv, ws.eraseIdx jv, _, _, _, ?_, ?_, ?_, ?_, ?_, rfl⟩
        · rw [← addF_new hxn]
          exact ⟨⟨dx7, e10 _ _ (fr _ _ (ne_kind (e8 _ _ i7) m8 (fun z => nomatch z)) (e8 _ _ i7))⟩, hd9.mono e10⟩
        · exact e10 _ _ (fr _ _ (ne_kind (e8 _ _ hl7) m8 (fun z => nomatch z)) (e8 _ _ hl7))
        · exact (Reps.keepT (fr.kt m8) (nol_all fun x _ => nol_say _) (hws7.mono e8)).mono e10
        · rw [List.append_assoc]
          exact ((List.perm_append_left_iff tk).mpr hperm2).trans hpm
        · rw [List.length_append, htl]
          rfl
      · rintro σ' H' ⟨g, tk, lf, ws, y10, y11, y12, hT', hlH, hws, hpm, htl, rfl⟩
        rw [Int.toNat_natCast] at htl
        have hpml := hpm.length_eq
        rw [List.length_append] at hpml
        have hlf : lf = [] := List.length_eq_zero_iff.mp (by omega)
        subst hlf
        rw [List.append_nil] at hpm
        refine q_dnew fun dW hdW => ?_
        have eW : Ex H' (upd H' dW (.dK [])) := Ex.new hdW
        have hW0 : (upd H' dW (.dK [])) dW = some (.dK []) := upd_same
        generalize upd H' dW (.dK []) = H12 at eW hW0 ⊢
        have hu' := g.1 _ _ nup h57
        have k1' := g.1 _ _ ndp k17
        have k2' := k27.keepT (G.kt hP7 g)
        refine q_forLn (a := du) (xs := txs dl) (ev_v rfl) (sq_of (eW _ _ hu')) (fun i σ' H2 => Ex H' H2 ∧ HdAt f H2 dW (dl.take i) ∧ ∃ y7, σ' = [some (.ref sc), some (.ref p), some (.ref d), some (.ref nl), none, some (.ref du), some (.ref ta), y7, some (.ref t), some (.ref lp), y10, y11, y12, some (.ref dW)]) (fun H13 e13 => ⟨eW.trans e13, ⟨[], e13 _ _ hW0, .nil⟩, none, rfl⟩) (fun i σ' H2 hi h => sq_of (h.1 _ _ hu')) ?_ ?_
        · rintro i x σ' H2 hx ⟨e, ⟨kw, w1, w2⟩, y7, rfl⟩
          obtain ⟨rfl, hi, hg⟩ := txs_get' hx
          generalize dl.getD i [] = kk at hg
          have hkd := List.mem_of_getElem? hg
          obtain ⟨vk, hvk, hrk⟩ := k2'.val (hpk kk hkd)
          have hwl := w2.len
          rw [List.length_take] at hwl
          refine s_dput (l := kk) w1 (ev_dget (ev_v rfl) (e _ _ k1') (ev_v rfl) hvk) (ev_v rfl) (ev_v rfl) (by omega) fun H3 e3 => ?_
          have hni : kk ∉ dl.take i := fun hm => by
            obtain ⟨j, hj, hje⟩ := List.getElem_of_mem hm
            rw [List.length_take] at hj
            rw [List.getElem_take] at hje
            have h2 : dl[i]? = some dl[i] := List.getElem?_eq_getElem hi
            rw [hg] at h2
            have h3 := (List.pairwise_iff_getElem.mp hpn) j i (by omega) hi (by omega)
            exact h3 (hje.trans (Option.some.inj h2))
          refine ⟨(e.trans e3).mut hdW, ⟨_, upd_same, ?_⟩, _, rfl⟩
          have hnx : dl.take (i + 1) = addF (dl.take i) kk := by
            rw [addF_new hni, List.take_add_one, hg]
            rfl
          rw [hnx]
          refine ((w2.mono e3).put (f' := f) (fun _ _ => rfl) (hrk.mono (e.trans e3))).keepT fun a us ha => ?_
          rw [upd_ne (ne_kind ha (e3 _ _ w1) (fun z => nomatch z))]
          exact ha
        · rintro σ' H2 ⟨e, hw, y7, rfl⟩
          rw [txs_len, List.take_of_length_le (Nat.le_refl _)] at hw
          obtain ⟨⟨dx', i'⟩, hdT⟩ := hT'
          refine s_ret (v := .bl true) (ev_calP (eap_p (evp_mcal (R := fun v H' => ∃ q, v = .ref q ∧ HdAt f H' q tk) (ev_v rfl) (e _ _ i') (fld_none (by decide)) eap_nil fun vs H3 Q3 e3 hv q3 => ?_) (fun v H1 H2 e ⟨z, h1, h2⟩ => ⟨z, h1, h2.mono e⟩) (eap_v (ev_v rfl) eap_nil)) ?_) fun H' e' => q H'
          · subst hv
            exact ⟨t, dT, f, tk, rfl, ⟨⟨dx', (e.trans e3) _ _ i'⟩, hdT.mono (e.trans e3)⟩, fun pz H4 e4 h4 => q3 _ H4 e4 ⟨pz, rfl, h4⟩⟩
          · rintro vs H3 e3 ⟨_, _, rfl, ⟨q1, rfl, h1⟩, _, rfl, rfl⟩
            exact .inr ⟨q1, dW, f, tk, dl, rfl, h1, hw.mono e3, hpm.length_eq, fun x hx => hpm.mem_iff.mpr hx, fun x hx => (hc.ok x (hpk x hx)).1, by omega, rfl⟩
end
end K82

set_option Elab.async false
set_option linter.all false
set_option maxRecDepth 100000
set_option maxHeartbeats 4000000
namespace K82
open PySem PySem.Spec PyProof.Rows L2 Evl My
theorem all_mk {l : PySem.W.OpenLaw} {w : World} {K : PySem.W.Frag} {h : Heap} {mg : Str → Option Value} {fa C CE_Misvalued : Addr} (X : K.In h) (G : h.Ns mainGlobals mg) (hfa : mg "law" = some (.ref fa))
    (aC : PySem.W.nsIn K mainGlobals "Talker" = some (some (.ref C))) (pg : PySem.W.plainGet K C Str.empty = true) (hd : PySem.W.hasDictIn K C = true) (po : PySem.W.plainOver K C = true) (sa : PySem.W.findIn K (.ref C) "__setattr__" = some (some (.builtin "object.__setattr__"))) (mk : PySem.W.makesIn K C = true) (kc : PySem.W.keepIn K (.ref C) = true)
    (n_sayings : PySem.W.findIn K (.ref C) "sayings" = some none)
    (h_law_mixed : HasF K "_law_mixed" s_law_mixed)
    (h_law_rest : HasF K "_law_rest" s_law_rest)
    (h_law_pool : HasF K "_law_pool" s_law_pool)
    (h_law_draw : HasF K "_law_draw" s_law_draw)
    (h_law_next : HasF K "_law_next" s_law_next)
    (h_law_pick : HasF K "_law_pick" s_law_pick)
    (h_number_told : HasF K "number_told" s_number_told)
    (h_text_told : HasF K "text_told" s_text_told)
    (h_told_at : HasF K "told_at" s_told_at)
    (h_told : HasF K "told" s_told)
    (h_is_plain : HasF K "is_plain" s_is_plain)
    (h_change_right : HasF K "change_right" s_change_right)
    (h_body_right : HasF K "body_right" s_body_right)
    (h_made_of : HasF K "made_of" s_made_of)
    (h_is_word : HasF K "is_word" s_is_word)
    (h_is_name : HasF K "is_name" s_is_name)
    (h_names_right : HasF K "names_right" s_names_right)
    (h_shape_right : HasF K "shape_right" s_shape_right)
    (h_ids_of : HasF K "ids_of" s_ids_of)
    (h_spoken : HasF K "spoken" s_spoken)
    (h_is_number : HasF K "is_number" s_is_number)
    (h_lists_of : HasF K "lists_of" s_lists_of)
    (h_lists_rise : HasF K "lists_rise" s_lists_rise)
    (h_body_order : HasF K "body_order" s_body_order)
    (h_rising : HasF K "rising" s_rising)
    (h_order_right : HasF K "order_right" s_order_right)
    (h_wanted : HasF K "wanted" s_wanted)
    (h_own_objects : HasF K "own_objects" s_own_objects)
    (h_own_right : HasF K "own_right" s_own_right)
    (h_well_made : HasF K "well_made" s_well_made)
    (h_saying : HasF K "saying" s_saying)
    (h_law_different : HasF K "_law_different" s_law_different)
    (h_padded : HasF K "padded" s_padded)
    (h_spread : HasF K "spread" s_spread)
    (h_mixed : HasF K "mixed" s_mixed)
    (h_sha : HasF K "sha" s_sha)
    (h_name_of : HasF K "name_of" s_name_of)
    (h_law_sayings_drawn : HasF K "_law_sayings_drawn" s_law_sayings_drawn)
    (h_law_closure : HasF K "_law_closure" s_law_closure)
    (h_law_same : HasF K "_law_same" s_law_same)
    (h_reached : HasF K "reached" s_reached)
    (h_closure : HasF K "closure" s_closure)
    (h_bundle : HasF K "bundle" s_bundle)
    (h_Talker_held : HasM K C "held" "Talker.held" s_Talker_held)
    (h_is_prefix : HasF K "is_prefix" s_is_prefix)
    (h_are_names : HasF K "are_names" s_are_names)
    (h_is_message : HasF K "is_message" s_is_message)
    (h_Talker_to_have : HasM K C "to_have" "Talker.to_have" s_Talker_to_have)
    (h_Talker_take : HasM K C "take" "Talker.take" s_Talker_take)
    (h_Talker___init__ : HasM K C "__init__" "Talker.__init__" s_Talker___init__)
    (h_law : HasF K "law" s_law)
    (z_len : PySem.W.nsIn K mainGlobals "len" = some none)
    (z_list : PySem.W.nsIn K mainGlobals "list" = some none)
    (z_int : PySem.W.nsIn K mainGlobals "int" = some none)
    (z_isinstance : PySem.W.nsIn K mainGlobals "isinstance" = some none)
    (z_range : PySem.W.nsIn K mainGlobals "range" = some none)
    (z_zip : PySem.W.nsIn K mainGlobals "zip" = some none)
    (z_all : PySem.W.nsIn K mainGlobals "all" = some none)
    (z_any : PySem.W.nsIn K mainGlobals "any" = some none)
    (z_tuple : PySem.W.nsIn K mainGlobals "tuple" = some none)
    (z_str : PySem.W.nsIn K mainGlobals "str" = some none)
    (z_dict : PySem.W.nsIn K mainGlobals "dict" = some none)
    (z_bool : PySem.W.nsIn K mainGlobals "bool" = some none)
    (z_sorted : PySem.W.nsIn K mainGlobals "sorted" = some none)
    (z_min : PySem.W.nsIn K mainGlobals "min" = some none)
    (z_max : PySem.W.nsIn K mainGlobals "max" = some none)
    (z_set : PySem.W.nsIn K mainGlobals "set" = some none)
    (z_enumerate : PySem.W.nsIn K mainGlobals "enumerate" = some none)
    (z_sum : PySem.W.nsIn K mainGlobals "sum" = some none)
    (i_MASK : HasI K "MASK" 4294967295)
    (i_MOST_TUPLES : HasI K "MOST_TUPLES" 40)
    (i_NAME_DIGITS : HasI K "NAME_DIGITS" 20)
    (i_LONGEST : HasI K "LONGEST" 20)
    (i_MOST_CHANGES : HasI K "MOST_CHANGES" 60)
    (i_MOST_NUMBER : HasI K "MOST_NUMBER" 1000000)
    (i_MOST_TAKES : HasI K "MOST_TAKES" 60)
    (i_LONGEST_WORD : HasI K "LONGEST_WORD" 12)
    (s_SIGNS : HasS K "SIGNS" signsS)
    (s_DIGITS_names : HasS K "DIGITS_names" (tx digL))
    (s_DIGITS_talker : HasS K "DIGITS_talker" (tx hexd))
    (s_LETTERS : HasS K "LETTERS" (tx letL))
    (t_FIRST : HasT K "FIRST" (nats firstC.list))
    (t_TURNS : HasT K "TURNS" (nats turnsC))
    (t_KINDS : HasT K "KINDS" kindsV)
    (d_LENGTHS : HasI2 K w "LENGTHS" lenT)
    (x_Misvalued : PySem.W.nsIn K mainGlobals "Misvalued" = some (some (.ref CE_Misvalued))) :
    ∃ fd : FuncData, (∀ (s : Shared) (v : Value), BindsTo s fd ⟨[v], []⟩ [("script", v)]) ∧ ∀ base : Heap, K.In base → base.Ns mainGlobals mg → FnOk l.prog w K mg base CX0 12 fa fd ["script"] (sp_law K) := by
  have N : Nb mg := ⟨PySem.W.mg_none_of X G z_len, PySem.W.mg_none_of X G z_list, PySem.W.mg_none_of X G z_int, PySem.W.mg_none_of X G z_isinstance, PySem.W.mg_none_of X G z_range, PySem.W.mg_none_of X G z_zip, PySem.W.mg_none_of X G z_all, PySem.W.mg_none_of X G z_any, PySem.W.mg_none_of X G z_tuple, PySem.W.mg_none_of X G z_str, PySem.W.mg_none_of X G z_dict, PySem.W.mg_none_of X G z_bool, PySem.W.mg_none_of X G z_sorted, PySem.W.mg_none_of X G z_min, PySem.W.mg_none_of X G z_max, PySem.W.mg_none_of X G z_set, PySem.W.mg_none_of X G z_enumerate, PySem.W.mg_none_of X G z_sum⟩
  have g_MASK := i_MASK.gi X G
  have g_MOST_TUPLES := i_MOST_TUPLES.gi X G
  have g_NAME_DIGITS := i_NAME_DIGITS.gi X G
  have g_LONGEST := i_LONGEST.gi X G
  have g_MOST_CHANGES := i_MOST_CHANGES.gi X G
  have g_MOST_NUMBER := i_MOST_NUMBER.gi X G
  have g_MOST_TAKES := i_MOST_TAKES.gi X G
  have g_LONGEST_WORD := i_LONGEST_WORD.gi X G
  have g_SIGNS := s_SIGNS.gs X G
  have g_DIGITS_names := s_DIGITS_names.gs X G
  have g_DIGITS_talker := s_DIGITS_talker.gs X G
  have g_LETTERS := s_LETTERS.gs X G
  have g_FIRST := t_FIRST.gt X G
  have g_TURNS := t_TURNS.gt X G
  have g_KINDS := t_KINDS.gt X G
  have g_LENGTHS := d_LENGTHS.gd X G
  have X_Misvalued : GX mg "Misvalued" := ⟨CE_Misvalued, PySem.W.mg_of X G x_Misvalued⟩
  have T : RT K mg C := ⟨⟨pg, hd, po, sa⟩, n_sayings⟩
  obtain ⟨f_law_mixed, fd_law_mixed, F_law_mixed, m_law_mixed⟩ := h_law_mixed.get X G
  obtain ⟨f_law_rest, fd_law_rest, F_law_rest, m_law_rest⟩ := h_law_rest.get X G
  obtain ⟨f_law_pool, fd_law_pool, F_law_pool, m_law_pool⟩ := h_law_pool.get X G
  obtain ⟨f_law_draw, fd_law_draw, F_law_draw, m_law_draw⟩ := h_law_draw.get X G
  obtain ⟨f_law_next, fd_law_next, F_law_next, m_law_next⟩ := h_law_next.get X G
  obtain ⟨f_law_pick, fd_law_pick, F_law_pick, m_law_pick⟩ := h_law_pick.get X G
  obtain ⟨f_number_told, fd_number_told, F_number_told, m_number_told⟩ := h_number_told.get X G
  obtain ⟨f_text_told, fd_text_told, F_text_told, m_text_told⟩ := h_text_told.get X G
  obtain ⟨f_told_at, fd_told_at, F_told_at, m_told_at⟩ := h_told_at.get X G
  obtain ⟨f_told, fd_told, F_told, m_told⟩ := h_told.get X G
  obtain ⟨f_is_plain, fd_is_plain, F_is_plain, m_is_plain⟩ := h_is_plain.get X G
  obtain ⟨f_change_right, fd_change_right, F_change_right, m_change_right⟩ := h_change_right.get X G
  obtain ⟨f_body_right, fd_body_right, F_body_right, m_body_right⟩ := h_body_right.get X G
  obtain ⟨f_made_of, fd_made_of, F_made_of, m_made_of⟩ := h_made_of.get X G
  obtain ⟨f_is_word, fd_is_word, F_is_word, m_is_word⟩ := h_is_word.get X G
  obtain ⟨f_is_name, fd_is_name, F_is_name, m_is_name⟩ := h_is_name.get X G
  obtain ⟨f_names_right, fd_names_right, F_names_right, m_names_right⟩ := h_names_right.get X G
  obtain ⟨f_shape_right, fd_shape_right, F_shape_right, m_shape_right⟩ := h_shape_right.get X G
  obtain ⟨f_ids_of, fd_ids_of, F_ids_of, m_ids_of⟩ := h_ids_of.get X G
  obtain ⟨f_spoken, fd_spoken, F_spoken, m_spoken⟩ := h_spoken.get X G
  obtain ⟨f_is_number, fd_is_number, F_is_number, m_is_number⟩ := h_is_number.get X G
  obtain ⟨f_lists_of, fd_lists_of, F_lists_of, m_lists_of⟩ := h_lists_of.get X G
  obtain ⟨f_lists_rise, fd_lists_rise, F_lists_rise, m_lists_rise⟩ := h_lists_rise.get X G
  obtain ⟨f_body_order, fd_body_order, F_body_order, m_body_order⟩ := h_body_order.get X G
  obtain ⟨f_rising, fd_rising, F_rising, m_rising⟩ := h_rising.get X G
  obtain ⟨f_order_right, fd_order_right, F_order_right, m_order_right⟩ := h_order_right.get X G
  obtain ⟨f_wanted, fd_wanted, F_wanted, m_wanted⟩ := h_wanted.get X G
  obtain ⟨f_own_objects, fd_own_objects, F_own_objects, m_own_objects⟩ := h_own_objects.get X G
  obtain ⟨f_own_right, fd_own_right, F_own_right, m_own_right⟩ := h_own_right.get X G
  obtain ⟨f_well_made, fd_well_made, F_well_made, m_well_made⟩ := h_well_made.get X G
  obtain ⟨f_saying, fd_saying, F_saying, m_saying⟩ := h_saying.get X G
  obtain ⟨f_law_different, fd_law_different, F_law_different, m_law_different⟩ := h_law_different.get X G
  obtain ⟨f_padded, fd_padded, F_padded, m_padded⟩ := h_padded.get X G
  obtain ⟨f_spread, fd_spread, F_spread, m_spread⟩ := h_spread.get X G
  obtain ⟨f_mixed, fd_mixed, F_mixed, m_mixed⟩ := h_mixed.get X G
  obtain ⟨f_sha, fd_sha, F_sha, m_sha⟩ := h_sha.get X G
  obtain ⟨f_name_of, fd_name_of, F_name_of, m_name_of⟩ := h_name_of.get X G
  obtain ⟨f_law_sayings_drawn, fd_law_sayings_drawn, F_law_sayings_drawn, m_law_sayings_drawn⟩ := h_law_sayings_drawn.get X G
  obtain ⟨f_law_closure, fd_law_closure, F_law_closure, m_law_closure⟩ := h_law_closure.get X G
  obtain ⟨f_law_same, fd_law_same, F_law_same, m_law_same⟩ := h_law_same.get X G
  obtain ⟨f_reached, fd_reached, F_reached, m_reached⟩ := h_reached.get X G
  obtain ⟨f_closure, fd_closure, F_closure, m_closure⟩ := h_closure.get X G
  obtain ⟨f_bundle, fd_bundle, F_bundle, m_bundle⟩ := h_bundle.get X G
  obtain ⟨f_Talker_held, fd_Talker_held, F_Talker_held, m_Talker_held⟩ := h_Talker_held.get
  obtain ⟨f_is_prefix, fd_is_prefix, F_is_prefix, m_is_prefix⟩ := h_is_prefix.get X G
  obtain ⟨f_are_names, fd_are_names, F_are_names, m_are_names⟩ := h_are_names.get X G
  obtain ⟨f_is_message, fd_is_message, F_is_message, m_is_message⟩ := h_is_message.get X G
  obtain ⟨f_Talker_to_have, fd_Talker_to_have, F_Talker_to_have, m_Talker_to_have⟩ := h_Talker_to_have.get
  obtain ⟨f_Talker_take, fd_Talker_take, F_Talker_take, m_Talker_take⟩ := h_Talker_take.get
  obtain ⟨f_Talker___init__, fd_Talker___init__, F_Talker___init__, m_Talker___init__⟩ := h_Talker___init__.get
  obtain ⟨f0, oc, od, kV, dc, pm, an, cd, ct, sl, a0, l0, c0, k0⟩ := h_law
  have e := hfa.symm.trans (PySem.W.mg_of X G a0)
  cases e
  have F_law := fun_mk (st := s_law) l0 c0 k0
  refine ⟨PySem.W.fnOf "law" "law" (defArgs s_law) (defBody s_law) (defScope s_law) .none kV dc pm an cd ct, fun s v => .of_eq rfl, fun base _ _ => ?_⟩
  have C_law_mixed : Cal l.prog w K mg base 1 "_law_mixed" ["number", "place"] (spV ok_mixed_) := ⟨f_law_mixed, fd_law_mixed, fn_mixed_ (k := 0) F_law_mixed N, F_law_mixed.binds (ps := ["number", "place"]) (fun _ _ _ _ _ _ us hl => match us, hl with | [_, _], _ => rfl), F_law_mixed.kp, m_law_mixed⟩
  have C_law_rest : Cal l.prog w K mg base 2 "_law_rest" ["script", "place", "fills"] (spV (ok_rest_ K)) := ⟨f_law_rest, fd_law_rest, fn_rest_ (k := 1) F_law_rest N C_law_mixed, F_law_rest.binds (ps := ["script", "place", "fills"]) (fun _ _ _ _ _ _ us hl => match us, hl with | [_, _, _], _ => rfl), F_law_rest.kp, m_law_rest⟩
  have C_law_pool : Cal l.prog w K mg base 3 "_law_pool" ["script"] (spL (ok_pool_ K)) := ⟨f_law_pool, fd_law_pool, fn_pool_ (k := 2) F_law_pool N C_law_rest, F_law_pool.binds (ps := ["script"]) (fun _ _ _ _ _ _ us hl => match us, hl with | [_], _ => rfl), F_law_pool.kp, m_law_pool⟩
  have C_law_draw : Cal l.prog w K mg base 3 "_law_draw" ["pool", "limit"] (sp_draw K) := ⟨f_law_draw, fd_law_draw, fn_draw (k := 2) F_law_draw N C_law_rest, F_law_draw.binds (ps := ["pool", "limit"]) (fun _ _ _ _ _ _ us hl => match us, hl with | [_, _], _ => rfl), F_law_draw.kp, m_law_draw⟩
  have C_law_next : Cal l.prog w K mg base 3 "_law_next" ["pool"] (sp_next K) := ⟨f_law_next, fd_law_next, fn_next (k := 2) F_law_next N C_law_rest, F_law_next.binds (ps := ["pool"]) (fun _ _ _ _ _ _ us hl => match us, hl with | [_], _ => rfl), F_law_next.kp, m_law_next⟩
  have C_law_pick : Cal l.prog w K mg base 4 "_law_pick" ["pool", "options"] (sp_pick K) := ⟨f_law_pick, fd_law_pick, fn_pick (k := 3) F_law_pick N C_law_draw, F_law_pick.binds (ps := ["pool", "options"]) (fun _ _ _ _ _ _ us hl => match us, hl with | [_, _], _ => rfl), F_law_pick.kp, m_law_pick⟩
  have C_number_told : Cal l.prog w K mg base 1 "number_told" ["number"] (spL ok_number_told) := ⟨f_number_told, fd_number_told, fn_number_told (k := 0) F_number_told N, F_number_told.binds (ps := ["number"]) (fun _ _ _ _ _ _ us hl => match us, hl with | [_], _ => rfl), F_number_told.kp, m_number_told⟩
  have C_text_told : Cal l.prog w K mg base 2 "text_told" ["text"] (spL ok_text_told) := ⟨f_text_told, fd_text_told, fn_text_told (k := 1) F_text_told N g_SIGNS C_number_told, F_text_told.binds (ps := ["text"]) (fun _ _ _ _ _ _ us hl => match us, hl with | [_], _ => rfl), F_text_told.kp, m_text_told⟩
  have C_told_at := cal_told_at (P := l.prog) (w := w) (base := base) (k := 2) F_told_at (F_told_at.binds (ps := ["value", "tuples"]) (fun _ _ _ _ _ _ us hl => match us, hl with | [_, _], _ => rfl)) F_told_at.kp m_told_at N g_MOST_TUPLES (C_number_told.mono (by decide)) C_text_told 4
  have C_told : Cal l.prog w K mg base 7 "told" ["value"] (spL ok_told) := ⟨f_told, fd_told, fn_told (k := 6) F_told N C_told_at, F_told.binds (ps := ["value"]) (fun _ _ _ _ _ _ us hl => match us, hl with | [_], _ => rfl), F_told.kp, m_told⟩
  have C_is_plain : Cal l.prog w K mg base 8 "is_plain" ["value"] (spV ok_is_plain) := ⟨f_is_plain, fd_is_plain, fn_is_plain (k := 7) F_is_plain N X_Misvalued C_told, F_is_plain.binds (ps := ["value"]) (fun _ _ _ _ _ _ us hl => match us, hl with | [_], _ => rfl), F_is_plain.kp, m_is_plain⟩
  have C_change_right : Cal l.prog w K mg base 1 "change_right" ["change"] (spV ok_change) := ⟨f_change_right, fd_change_right, fn_change_right (k := 0) F_change_right N g_LENGTHS, F_change_right.binds (ps := ["change"]) (fun _ _ _ _ _ _ us hl => match us, hl with | [_], _ => rfl), F_change_right.kp, m_change_right⟩
  have C_body_right : Cal l.prog w K mg base 2 "body_right" ["body"] (spV ok_body) := ⟨f_body_right, fd_body_right, fn_body_right (k := 1) F_body_right N g_MOST_CHANGES C_change_right, F_body_right.binds (ps := ["body"]) (fun _ _ _ _ _ _ us hl => match us, hl with | [_], _ => rfl), F_body_right.kp, m_body_right⟩
  have C_made_of : Cal l.prog w K mg base 1 "made_of" ["value", "signs", "most"] (spV ok_made_of) := ⟨f_made_of, fd_made_of, fn_made_of (k := 0) F_made_of N, F_made_of.binds (ps := ["value", "signs", "most"]) (fun _ _ _ _ _ _ us hl => match us, hl with | [_, _, _], _ => rfl), F_made_of.kp, m_made_of⟩
  have C_is_word : Cal l.prog w K mg base 2 "is_word" ["value"] (spV (ok_is wordP)) := ⟨f_is_word, fd_is_word, fn_is_word (k := 1) F_is_word N g_DIGITS_names g_LETTERS g_LONGEST_WORD C_made_of, F_is_word.binds (ps := ["value"]) (fun _ _ _ _ _ _ us hl => match us, hl with | [_], _ => rfl), F_is_word.kp, m_is_word⟩
  have C_is_name : Cal l.prog w K mg base 2 "is_name" ["value"] (spV (ok_is nameP)) := ⟨f_is_name, fd_is_name, fn_is_name (k := 1) F_is_name N g_DIGITS_names g_NAME_DIGITS C_made_of, F_is_name.binds (ps := ["value"]) (fun _ _ _ _ _ _ us hl => match us, hl with | [_], _ => rfl), F_is_name.kp, m_is_name⟩
  have C_names_right : Cal l.prog w K mg base 3 "names_right" ["value", "low", "high"] (spV ok_names) := ⟨f_names_right, fd_names_right, fn_names_right (k := 2) F_names_right N C_is_name, F_names_right.binds (ps := ["value", "low", "high"]) (fun _ _ _ _ _ _ us hl => match us, hl with | [_, _, _], _ => rfl), F_names_right.kp, m_names_right⟩
  have C_shape_right : Cal l.prog w K mg base 4 "shape_right" ["kind", "body"] (spV ok_shape) := ⟨f_shape_right, fd_shape_right, fn_shape_right (k := 3) F_shape_right N g_MOST_TAKES (C_body_right.mono (by decide)) (C_is_word.mono (by decide)) (C_is_name.mono (by decide)) C_names_right, F_shape_right.binds (ps := ["kind", "body"]) (fun _ _ _ _ _ _ us hl => match us, hl with | [_, _], _ => rfl), F_shape_right.kp, m_shape_right⟩
  have C_ids_of : Cal l.prog w K mg base 1 "ids_of" ["change"] (spL ok_none) := ⟨f_ids_of, fd_ids_of, fn_ids_of (k := 0) F_ids_of N, F_ids_of.binds (ps := ["change"]) (fun _ _ _ _ _ _ us hl => match us, hl with | [_], _ => rfl), F_ids_of.kp, m_ids_of⟩
  have C_spoken : Cal l.prog w K mg base 2 "spoken" ["kind", "body"] (spD ok_spoken) := ⟨f_spoken, fd_spoken, fn_spoken (k := 1) F_spoken N C_ids_of, F_spoken.binds (ps := ["kind", "body"]) (fun _ _ _ _ _ _ us hl => match us, hl with | [_, _], _ => rfl), F_spoken.kp, m_spoken⟩
  have C_is_number : Cal l.prog w K mg base 1 "is_number" ["value", "low", "high"] (spV ok_num) := ⟨f_is_number, fd_is_number, fn_is_number (k := 0) F_is_number N, F_is_number.binds (ps := ["value", "low", "high"]) (fun _ _ _ _ _ _ us hl => match us, hl with | [_, _, _], _ => rfl), F_is_number.kp, m_is_number⟩
  have C_lists_of : Cal l.prog w K mg base 1 "lists_of" ["change"] (spL ok_none) := ⟨f_lists_of, fd_lists_of, fn_lists_of (k := 0) F_lists_of N, F_lists_of.binds (ps := ["change"]) (fun _ _ _ _ _ _ us hl => match us, hl with | [_], _ => rfl), F_lists_of.kp, m_lists_of⟩
  have C_lists_rise : Cal l.prog w K mg base 2 "lists_rise" ["change"] (spV ok_mk1) := ⟨f_lists_rise, fd_lists_rise, fn_lists_rise (k := 1) F_lists_rise N C_lists_of, F_lists_rise.binds (ps := ["change"]) (fun _ _ _ _ _ _ us hl => match us, hl with | [_], _ => rfl), F_lists_rise.kp, m_lists_rise⟩
  have C_body_order : Cal l.prog w K mg base 3 "body_order" ["body"] (spV ok_bd1) := ⟨f_body_order, fd_body_order, fn_body_order (k := 2) F_body_order N C_lists_rise, F_body_order.binds (ps := ["body"]) (fun _ _ _ _ _ _ us hl => match us, hl with | [_], _ => rfl), F_body_order.kp, m_body_order⟩
  have C_rising : Cal l.prog w K mg base 1 "rising" ["values"] (spV ok_rising) := ⟨f_rising, fd_rising, fn_rising (k := 0) F_rising N, F_rising.binds (ps := ["values"]) (fun _ _ _ _ _ _ us hl => match us, hl with | [_], _ => rfl), F_rising.kp, m_rising⟩
  have C_order_right : Cal l.prog w K mg base 4 "order_right" ["kind", "body"] (spV ok_order) := ⟨f_order_right, fd_order_right, fn_order_right (k := 3) F_order_right N C_body_order (C_rising.mono (by decide)), F_order_right.binds (ps := ["kind", "body"]) (fun _ _ _ _ _ _ us hl => match us, hl with | [_, _], _ => rfl), F_order_right.kp, m_order_right⟩
  have C_wanted : Cal l.prog w K mg base 1 "wanted" ["change"] (spL ok_none) := ⟨f_wanted, fd_wanted, fn_wanted (k := 0) F_wanted N, F_wanted.binds (ps := ["change"]) (fun _ _ _ _ _ _ us hl => match us, hl with | [_], _ => rfl), F_wanted.kp, m_wanted⟩
  have C_own_objects : Cal l.prog w K mg base 1 "own_objects" ["body", "change"] (spV ok_own1) := ⟨f_own_objects, fd_own_objects, fn_own_objects (k := 0) F_own_objects N, F_own_objects.binds (ps := ["body", "change"]) (fun _ _ _ _ _ _ us hl => match us, hl with | [_, _], _ => rfl), F_own_objects.kp, m_own_objects⟩
  have C_own_right : Cal l.prog w K mg base 2 "own_right" ["body"] (spV ok_bd1) := ⟨f_own_right, fd_own_right, fn_own_right (k := 1) F_own_right N C_wanted C_own_objects, F_own_right.binds (ps := ["body"]) (fun _ _ _ _ _ _ us hl => match us, hl with | [_], _ => rfl), F_own_right.kp, m_own_right⟩
  have C_well_made : Cal l.prog w K mg base 9 "well_made" ["value"] (spV ok_well) := ⟨f_well_made, fd_well_made, fn_well_made (k := 8) F_well_made N g_KINDS g_MOST_NUMBER C_is_plain (C_is_word.mono (by decide)) (C_is_number.mono (by decide)) (C_shape_right.mono (by decide)) (C_order_right.mono (by decide)) (C_own_right.mono (by decide)) (C_spoken.mono (by decide)), F_well_made.binds (ps := ["value"]) (fun _ _ _ _ _ _ us hl => match us, hl with | [_], _ => rfl), F_well_made.kp, m_well_made⟩
  have C_saying : Cal l.prog w K mg base 10 "saying" ["kind", "author", "number", "body"] (spD ok_saying) := ⟨f_saying, fd_saying, fn_saying (k := 9) F_saying N g_KINDS (C_is_plain.mono (by decide)) (C_shape_right.mono (by decide)) (C_spoken.mono (by decide)) C_well_made, F_saying.binds (ps := ["kind", "author", "number", "body"]) (fun _ _ _ _ _ _ us hl => match us, hl with | [_, _, _, _], _ => rfl), F_saying.kp, m_saying⟩
  have C_law_different : Cal l.prog w K mg base 1 "_law_different" ["items"] (spL (ok_different K)) := ⟨f_law_different, fd_law_different, fn_different (k := 0) F_law_different N, F_law_different.binds (ps := ["items"]) (fun _ _ _ _ _ _ us hl => match us, hl with | [_], _ => rfl), F_law_different.kp, m_law_different⟩
  have C_padded : Cal l.prog w K mg base 1 "padded" ["data"] (spL ok_padded) := ⟨f_padded, fd_padded, fn_padded (k := 0) F_padded N, F_padded.binds (ps := ["data"]) (fun _ _ _ _ _ _ us hl => match us, hl with | [_], _ => rfl), F_padded.kp, m_padded⟩
  have C_spread : Cal l.prog w K mg base 1 "spread" ["block"] (spL (ok_spread K)) := ⟨f_spread, fd_spread, fn_spread (k := 0) F_spread N g_MASK, F_spread.binds (ps := ["block"]) (fun _ _ _ _ _ _ us hl => match us, hl with | [_], _ => rfl), F_spread.kp, m_spread⟩
  have C_mixed : Cal l.prog w K mg base 1 "mixed" ["state", "words"] (spL (ok_mixed K)) := ⟨f_mixed, fd_mixed, fn_mixed (k := 0) F_mixed N g_MASK g_TURNS, F_mixed.binds (ps := ["state", "words"]) (fun _ _ _ _ _ _ us hl => match us, hl with | [_, _], _ => rfl), F_mixed.kp, m_mixed⟩
  have C_sha : Cal l.prog w K mg base 2 "sha" ["data"] (spV ok_sha) := ⟨f_sha, fd_sha, fn_sha (k := 1) F_sha N g_FIRST C_padded C_spread C_mixed, F_sha.binds (ps := ["data"]) (fun _ _ _ _ _ _ us hl => match us, hl with | [_], _ => rfl), F_sha.kp, m_sha⟩
  have C_name_of : Cal l.prog w K mg base 8 "name_of" ["value"] (spV ok_name_of) := ⟨f_name_of, fd_name_of, fn_name_of (k := 7) F_name_of N g_NAME_DIGITS (C_sha.mono (by decide)) C_told, F_name_of.binds (ps := ["value"]) (fun _ _ _ _ _ _ us hl => match us, hl with | [_], _ => rfl), F_name_of.kp, m_name_of⟩
  have C_law_sayings_drawn : Cal l.prog w K mg base 11 "_law_sayings_drawn" ["pool"] (sp_drawn K) := ⟨f_law_sayings_drawn, fd_law_sayings_drawn, fn_drawn (k := 10) F_law_sayings_drawn N (C_law_draw.mono (by decide)) (C_law_next.mono (by decide)) (C_law_pick.mono (by decide)) C_saying (C_law_different.mono (by decide)) (C_name_of.mono (by decide)), F_law_sayings_drawn.binds (ps := ["pool"]) (fun _ _ _ _ _ _ us hl => match us, hl with | [_], _ => rfl), F_law_sayings_drawn.kp, m_law_sayings_drawn⟩
  have C_law_closure : Cal l.prog w K mg base 2 "_law_closure" ["held", "names"] (spL ok_lawclo) := ⟨f_law_closure, fd_law_closure, fn_lawclo (k := 1) F_law_closure N C_law_different, F_law_closure.binds (ps := ["held", "names"]) (fun _ _ _ _ _ _ us hl => match us, hl with | [_, _], _ => rfl), F_law_closure.kp, m_law_closure⟩
  have C_law_same := cal_same (P := l.prog) (w := w) (base := base) (k := 0) F_law_same (F_law_same.binds (ps := ["answer", "due"]) (fun _ _ _ _ _ _ us hl => match us, hl with | [_, _], _ => rfl)) F_law_same.kp m_law_same N 11
  have C_reached : Cal l.prog w K mg base 1 "reached" ["sayings", "name"] (spD ok_reached) := ⟨f_reached, fd_reached, fn_reached (k := 0) F_reached N, F_reached.binds (ps := ["sayings", "name"]) (fun _ _ _ _ _ _ us hl => match us, hl with | [_, _], _ => rfl), F_reached.kp, m_reached⟩
  have C_closure : Cal l.prog w K mg base 2 "closure" ["sayings", "name"] (spD ok_reached) := ⟨f_closure, fd_closure, fn_closure (k := 1) F_closure N C_reached, F_closure.binds (ps := ["sayings", "name"]) (fun _ _ _ _ _ _ us hl => match us, hl with | [_, _], _ => rfl), F_closure.kp, m_closure⟩
  have C_bundle : Cal l.prog w K mg base 3 "bundle" ["sayings", "names"] (spD ok_bundle) := ⟨f_bundle, fd_bundle, fn_bundle (k := 2) F_bundle N C_closure, F_bundle.binds (ps := ["sayings", "names"]) (fun _ _ _ _ _ _ us hl => match us, hl with | [_, _], _ => rfl), F_bundle.kp, m_bundle⟩
  have M_Talker_held : MCal l.prog w K mg base 1 C "held" ["self"] (sp_held C) := ⟨f_Talker_held, fd_Talker_held, fn_held (k := 0) F_Talker_held N T, F_Talker_held.binds (ps := ["self"]) (fun _ _ _ _ _ _ us hl => match us, hl with | [_], _ => rfl), m_Talker_held⟩
  have C_is_prefix : Cal l.prog w K mg base 1 "is_prefix" ["value"] (spV (ok_is prefP)) := ⟨f_is_prefix, fd_is_prefix, fn_is_prefix (k := 0) F_is_prefix N g_DIGITS_talker g_LONGEST, F_is_prefix.binds (ps := ["value"]) (fun _ _ _ _ _ _ us hl => match us, hl with | [_], _ => rfl), F_is_prefix.kp, m_is_prefix⟩
  have C_are_names : Cal l.prog w K mg base 3 "are_names" ["value"] (spV ok_are_names) := ⟨f_are_names, fd_are_names, fn_are_names (k := 2) F_are_names N C_is_name, F_are_names.binds (ps := ["value"]) (fun _ _ _ _ _ _ us hl => match us, hl with | [_], _ => rfl), F_are_names.kp, m_are_names⟩
  have C_is_message : Cal l.prog w K mg base 4 "is_message" ["value"] (spV ok_is_message) := ⟨f_is_message, fd_is_message, fn_is_message (k := 3) F_is_message N (C_is_name.mono (by decide)) (C_is_prefix.mono (by decide)) C_are_names, F_is_message.binds (ps := ["value"]) (fun _ _ _ _ _ _ us hl => match us, hl with | [_], _ => rfl), F_is_message.kp, m_is_message⟩
  have M_Talker_to_have : MCal l.prog w K mg base 10 C "to_have" ["self", "message"] (sp_have C) := ⟨f_Talker_to_have, fd_Talker_to_have, fn_to_have (k := 9) F_Talker_to_have N T C_well_made (C_name_of.mono (by decide)), F_Talker_to_have.binds (ps := ["self", "message"]) (fun _ _ _ _ _ _ us hl => match us, hl with | [_, _], _ => rfl), m_Talker_to_have⟩
  have M_Talker_take : MCal l.prog w K mg base 11 C "take" ["self", "value"] (sp_take C) := ⟨f_Talker_take, fd_Talker_take, fn_take (k := 10) F_Talker_take N T (C_is_message.mono (by decide)) M_Talker_to_have, F_Talker_take.binds (ps := ["self", "value"]) (fun _ _ _ _ _ _ us hl => match us, hl with | [_, _], _ => rfl), m_Talker_take⟩
  have M_new : MkC l.prog w K mg base 1 "Talker" C ["self", "held"] (sp_init C) := ⟨f_Talker___init__, fd_Talker___init__, fn_init (k := 0) F_Talker___init__ N T, F_Talker___init__.binds (ps := ["self", "held"]) (fun _ _ _ _ _ _ us hl => match us, hl with | [_, _], _ => rfl), ⟨mk, m_Talker___init__.at_, m_Talker___init__.fn, kc⟩, PySem.W.mg_of X G aC⟩
  exact fn_law (k := 11) F_law N T (C_law_pool.mono (by decide)) (C_law_draw.mono (by decide)) (C_law_next.mono (by decide)) (C_law_pick.mono (by decide)) C_law_sayings_drawn (C_law_different.mono (by decide)) (C_law_closure.mono (by decide)) C_law_same (C_bundle.mono (by decide)) M_new (by decide) (M_Talker_held.mono (by decide)) M_Talker_take
end K82
open PySem PySem.W PyProof.Rows
set_option maxHeartbeats 0 in
theorem PySem.Challenge.cw_lineage_k82_whole_bundles_holds : PySem.Challenge.rw_lineage_k82_whole_bundles.Holds := by
  w_on; o_law; k_head; (case hw => w_witness2)
  k_fill
  refine L2.walk_of (l := PySem.Challenge.rw_lineage_k82_whole_bundles) (n := 63) (k := 12) (x := "script") (CX := fun _ => L2.CX0) (sp := fun w => K82.sp_law _) rfl (by decide) rfl ⟨rfl, by decide, by decide⟩ (fun w h Y => PySem.W.kIn_of Y) ?F (fun _ _ a ns hl _ hS => ⟨a, ns, rfl, hS, fun _ => rfl⟩) (fun _ _ _ _ _ h => h)
  case F =>
    intro w mg fa h KX G hmg
    refine' K82.all_mk KX G hmg ?q0 ?q1 ?q2 ?q3 ?q4 ?q5 ?q6 ?q7 ?q8 ?q9 ?q10 ?q11 ?q12 ?q13 ?q14 ?q15 ?q16 ?q17 ?q18 ?q19 ?q20 ?q21 ?q22 ?q23 ?q24 ?q25 ?q26 ?q27 ?q28 ?q29 ?q30 ?q31 ?q32 ?q33 ?q34 ?q35 ?q36 ?q37 ?q38 ?q39 ?q40 ?q41 ?q42 ?q43 ?q44 ?q45 ?q46 ?q47 ?q48 ?q49 ?q50 ?q51 ?q52 ?q53 ?q54 ?q55 ?q56 ?q57 ?q58 ?q59 ?q60 ?q61 ?q62 ?q63 ?q64 ?q65 ?q66 ?q67 ?q68 ?q69 ?q70 ?q71 ?q72 ?q73 ?q74 ?q75 ?q76 ?q77 ?q78 ?q79 ?q80 ?q81 ?q82 ?q83 ?q84 ?q85 ?q86 ?q87 ?q88 ?q89 ?q90 ?q91 ?q92 ?q93
    case q0 => k_is
    case q1 => k_is
    case q2 => k_is
    case q3 => k_is
    case q4 => k_is
    case q5 => k_is
    case q6 => k_is
    case q7 => k_is
    case q8 => (refine' My.HasF.mk' ?a ?l ?c ?k; (case a => k_is); (case l => k_is); (case c => k_is); (case k => k_is))
    case q9 => (refine' My.HasF.mk' ?a ?l ?c ?k; (case a => k_is); (case l => k_is); (case c => k_is); (case k => k_is))
    case q10 => (refine' My.HasF.mk' ?a ?l ?c ?k; (case a => k_is); (case l => k_is); (case c => k_is); (case k => k_is))
    case q11 => (refine' My.HasF.mk' ?a ?l ?c ?k; (case a => k_is); (case l => k_is); (case c => k_is); (case k => k_is))
    case q12 => (refine' My.HasF.mk' ?a ?l ?c ?k; (case a => k_is); (case l => k_is); (case c => k_is); (case k => k_is))
    case q13 => (refine' My.HasF.mk' ?a ?l ?c ?k; (case a => k_is); (case l => k_is); (case c => k_is); (case k => k_is))
    case q14 => (refine' My.HasF.mk' ?a ?l ?c ?k; (case a => k_is); (case l => k_is); (case c => k_is); (case k => k_is))
    case q15 => (refine' My.HasF.mk' ?a ?l ?c ?k; (case a => k_is); (case l => k_is); (case c => k_is); (case k => k_is))
    case q16 => (refine' My.HasF.mk' ?a ?l ?c ?k; (case a => k_is); (case l => k_is); (case c => k_is); (case k => k_is))
    case q17 => (refine' My.HasF.mk' ?a ?l ?c ?k; (case a => k_is); (case l => k_is); (case c => k_is); (case k => k_is))
    case q18 => (refine' My.HasF.mk' ?a ?l ?c ?k; (case a => k_is); (case l => k_is); (case c => k_is); (case k => k_is))
    case q19 => (refine' My.HasF.mk' ?a ?l ?c ?k; (case a => k_is); (case l => k_is); (case c => k_is); (case k => k_is))
    case q20 => (refine' My.HasF.mk' ?a ?l ?c ?k; (case a => k_is); (case l => k_is); (case c => k_is); (case k => k_is))
    case q21 => (refine' My.HasF.mk' ?a ?l ?c ?k; (case a => k_is); (case l => k_is); (case c => k_is); (case k => k_is))
    case q22 => (refine' My.HasF.mk' ?a ?l ?c ?k; (case a => k_is); (case l => k_is); (case c => k_is); (case k => k_is))
    case q23 => (refine' My.HasF.mk' ?a ?l ?c ?k; (case a => k_is); (case l => k_is); (case c => k_is); (case k => k_is))
    case q24 => (refine' My.HasF.mk' ?a ?l ?c ?k; (case a => k_is); (case l => k_is); (case c => k_is); (case k => k_is))
    case q25 => (refine' My.HasF.mk' ?a ?l ?c ?k; (case a => k_is); (case l => k_is); (case c => k_is); (case k => k_is))
    case q26 => (refine' My.HasF.mk' ?a ?l ?c ?k; (case a => k_is); (case l => k_is); (case c => k_is); (case k => k_is))
    case q27 => (refine' My.HasF.mk' ?a ?l ?c ?k; (case a => k_is); (case l => k_is); (case c => k_is); (case k => k_is))
    case q28 => (refine' My.HasF.mk' ?a ?l ?c ?k; (case a => k_is); (case l => k_is); (case c => k_is); (case k => k_is))
    case q29 => (refine' My.HasF.mk' ?a ?l ?c ?k; (case a => k_is); (case l => k_is); (case c => k_is); (case k => k_is))
    case q30 => (refine' My.HasF.mk' ?a ?l ?c ?k; (case a => k_is); (case l => k_is); (case c => k_is); (case k => k_is))
    case q31 => (refine' My.HasF.mk' ?a ?l ?c ?k; (case a => k_is); (case l => k_is); (case c => k_is); (case k => k_is))
    case q32 => (refine' My.HasF.mk' ?a ?l ?c ?k; (case a => k_is); (case l => k_is); (case c => k_is); (case k => k_is))
    case q33 => (refine' My.HasF.mk' ?a ?l ?c ?k; (case a => k_is); (case l => k_is); (case c => k_is); (case k => k_is))
    case q34 => (refine' My.HasF.mk' ?a ?l ?c ?k; (case a => k_is); (case l => k_is); (case c => k_is); (case k => k_is))
    case q35 => (refine' My.HasF.mk' ?a ?l ?c ?k; (case a => k_is); (case l => k_is); (case c => k_is); (case k => k_is))
    case q36 => (refine' My.HasF.mk' ?a ?l ?c ?k; (case a => k_is); (case l => k_is); (case c => k_is); (case k => k_is))
    case q37 => (refine' My.HasF.mk' ?a ?l ?c ?k; (case a => k_is); (case l => k_is); (case c => k_is); (case k => k_is))
    case q38 => (refine' My.HasF.mk' ?a ?l ?c ?k; (case a => k_is); (case l => k_is); (case c => k_is); (case k => k_is))
    case q39 => (refine' My.HasF.mk' ?a ?l ?c ?k; (case a => k_is); (case l => k_is); (case c => k_is); (case k => k_is))
    case q40 => (refine' My.HasF.mk' ?a ?l ?c ?k; (case a => k_is); (case l => k_is); (case c => k_is); (case k => k_is))
    case q41 => (refine' My.HasF.mk' ?a ?l ?c ?k; (case a => k_is); (case l => k_is); (case c => k_is); (case k => k_is))
    case q42 => (refine' My.HasF.mk' ?a ?l ?c ?k; (case a => k_is); (case l => k_is); (case c => k_is); (case k => k_is))
    case q43 => (refine' My.HasF.mk' ?a ?l ?c ?k; (case a => k_is); (case l => k_is); (case c => k_is); (case k => k_is))
    case q44 => (refine' My.HasF.mk' ?a ?l ?c ?k; (case a => k_is); (case l => k_is); (case c => k_is); (case k => k_is))
    case q45 => (refine' My.HasF.mk' ?a ?l ?c ?k; (case a => k_is); (case l => k_is); (case c => k_is); (case k => k_is))
    case q46 => (refine' My.HasF.mk' ?a ?l ?c ?k; (case a => k_is); (case l => k_is); (case c => k_is); (case k => k_is))
    case q47 => (refine' My.HasF.mk' ?a ?l ?c ?k; (case a => k_is); (case l => k_is); (case c => k_is); (case k => k_is))
    case q48 => (refine' My.HasF.mk' ?a ?l ?c ?k; (case a => k_is); (case l => k_is); (case c => k_is); (case k => k_is))
    case q49 => (refine' My.HasF.mk' ?a ?l ?c ?k; (case a => k_is); (case l => k_is); (case c => k_is); (case k => k_is))
    case q50 => (refine' My.HasF.mk' ?a ?l ?c ?k; (case a => k_is); (case l => k_is); (case c => k_is); (case k => k_is))
    case q51 => (refine' My.HasM.mk' ?a ?i ?l ?c ?k; (case a => k_is); (case i => k_is); (case l => k_is); (case c => k_is); (case k => k_is))
    case q52 => (refine' My.HasF.mk' ?a ?l ?c ?k; (case a => k_is); (case l => k_is); (case c => k_is); (case k => k_is))
    case q53 => (refine' My.HasF.mk' ?a ?l ?c ?k; (case a => k_is); (case l => k_is); (case c => k_is); (case k => k_is))
    case q54 => (refine' My.HasF.mk' ?a ?l ?c ?k; (case a => k_is); (case l => k_is); (case c => k_is); (case k => k_is))
    case q55 => (refine' My.HasM.mk' ?a ?i ?l ?c ?k; (case a => k_is); (case i => k_is); (case l => k_is); (case c => k_is); (case k => k_is))
    case q56 => (refine' My.HasM.mk' ?a ?i ?l ?c ?k; (case a => k_is); (case i => k_is); (case l => k_is); (case c => k_is); (case k => k_is))
    case q57 => (refine' My.HasM.mk' ?a ?i ?l ?c ?k; (case a => k_is); (case i => k_is); (case l => k_is); (case c => k_is); (case k => k_is))
    case q58 => (refine' My.HasF.mk' ?a ?l ?c ?k; (case a => k_is); (case l => k_is); (case c => k_is); (case k => k_is))
    case q59 => k_is
    case q60 => k_is
    case q61 => k_is
    case q62 => k_is
    case q63 => k_is
    case q64 => k_is
    case q65 => k_is
    case q66 => k_is
    case q67 => k_is
    case q68 => k_is
    case q69 => k_is
    case q70 => k_is
    case q71 => k_is
    case q72 => k_is
    case q73 => k_is
    case q74 => k_is
    case q75 => k_is
    case q76 => k_is
    case q77 => (refine' My.HasI.mk' ?a; (case a => k_is))
    case q78 => (refine' My.HasI.mk' ?a; (case a => k_is))
    case q79 => (refine' My.HasI.mk' ?a; (case a => k_is))
    case q80 => (refine' My.HasI.mk' ?a; (case a => k_is))
    case q81 => (refine' My.HasI.mk' ?a; (case a => k_is))
    case q82 => (refine' My.HasI.mk' ?a; (case a => k_is))
    case q83 => (refine' My.HasI.mk' ?a; (case a => k_is))
    case q84 => (refine' My.HasI.mk' ?a; (case a => k_is))
    case q85 => (refine' My.HasS.mk' ?a; (case a => k_is))
    case q86 => (refine' My.HasS.mk' ?a; (case a => k_is))
    case q87 => (refine' My.HasS.mk' ?a; (case a => k_is))
    case q88 => (refine' My.HasS.mk' ?a; (case a => k_is))
    case q89 => (refine' My.HasT.mk' ?a ?l ?z ?v; (case a => k_is); (case l => k_is); (case z => (first | decide | (show _ ≤ _; decide))); (case v => (repeat' (first | exact .nil | refine .cons ⟨_, rfl⟩ ?_))))
    case q90 => (refine' My.HasT.mk' ?a ?l ?z ?v; (case a => k_is); (case l => k_is); (case z => (first | decide | (show _ ≤ _; decide))); (case v => (repeat' (first | exact .nil | refine .cons ⟨_, rfl⟩ ?_))))
    case q91 => (refine' My.HasT.mk' ?a ?l ?z ?v; (case a => k_is); (case l => k_is); (case z => (first | decide | (show _ ≤ _; decide))); (case v => (repeat' (first | exact .nil | refine .cons ⟨_, rfl⟩ ?_))))
    case q92 => (refine' My.HasI2.mk' ?a ?l ?k ?z ?v ?s; (case a => k_is); (case l => k_is); (case k => rfl); (case z => rfl); (case v => rfl); (case s => rfl))
    case q93 => k_is

