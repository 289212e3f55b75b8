import PyProof.Rows.All
import Wide.All
import OpenK.AllK
import Wide.FinOn
import HandS.ForMost
import HandS.Evl
import HandS.Wide
import HandS.IsInst
import HandS.NoneIn
import HandS.Style
import HandS.Replace
import KE.GoesZip
import KE.GoesMore
import KE.GoesEnumKw
import HandS.More
import PyProof.Rows.SortShellAny
import HandS.Iter
import PyProof.Rows.StrMeet
import PyProof.NeData
import PyProof.P3Eq
import HandS.ReplaceLit
import HandS.SortOrd
import HandS.Conv
import KE.KSortTupAny
import HandS.DictComp
import HandS.HeadHook3
import PyProof.AutoSeq1
import HandS.WordsDict
import HandS.StrMore
import HandS.TupAny
import HandS.Deep
import PySem.Challenge.RW_lineage_k50_whole_plans_read
set_option Elab.async false
set_option linter.all false
set_option maxRecDepth 100000
/-! My own layer over HandS: callable defs bundled, globals bundled, readings at Nat. -/
namespace My
open PySem PySem.Spec PyProof.Rows L2 Evl

/-- a def that the module's name x holds, with its promise, at level k -/
structure Cal (P : Program) (w : World) (K : PySem.W.Frag) (mg : Str → Option Value) (base : Heap) (k : Nat) (x : Str) (ps : List Str) (sp : Sp) : Prop where
  ex : ∃ f fd, FnOk P w K mg base CX0 k f fd ps sp ∧ Binds K fd ps [] ∧ PySem.W.keepIn K (.ref f) = true ∧ mg x = some (.ref f)
theorem Cal.mono {P : Program} {w : World} {K : PySem.W.Frag} {mg : Str → Option Value} {base : Heap} {j k : Nat} {x : Str} {ps : List Str} {sp : Sp} (C : Cal P w K mg base j x ps sp) (h : j ≤ k) : Cal P w K mg base k x ps sp := by
  obtain ⟨f, fd, F, b, kp, m⟩ := C.ex
  exact ⟨f, fd, F.mono h, b, kp, m⟩
theorem Cal.imp {P : Program} {w : World} {K : PySem.W.Frag} {mg : Str → Option Value} {base : Heap} {k : Nat} {x : Str} {ps : List Str} {sp sp' : Sp} (C : Cal P w K mg base k x ps sp)
    (h : ∀ vs H Q E, sp' vs H Q E → sp vs H Q E) : Cal P w K mg base k x ps sp' := by
  obtain ⟨f, fd, F, b, kp, m⟩ := C.ex
  exact ⟨f, fd, F.imp h, b, kp, m⟩
theorem pe_cal {X : Cx} {k j : Nat} {x : Str} {ps : List Str} {sp : Sp} {e : Expr} {es : List Expr} {t : TA} {p pos : Pos} (C : Cal X.prog X.w X.K X.mg X.base k x ps sp) (hr : Room j X.A) (ha : PA X (e :: es) t) (hle : k ≤ j := by first | exact Nat.le_refl _ | decide | omega) (hg : Gl X x := by rfl)
    (hdb : (x == ("__debug__" : Str)) = false := by decide) (hs : starEach (e :: es) X.env = (false, eval e X.env) :: starEach es X.env := by rfl) (hplain : (backTo pos (starEach es X.env)).any (·.1) = false := by rfl) :
    PE X (.Call (.Name x p) (e :: es) [] pos) (tCall sp [] E0 t) := by
  obtain ⟨f, fd, F, b, kp, m⟩ := C.ex
  exact pe_call F (hr.mono hle) hg m kp b .nil pass0 ha hdb hs hplain
theorem pe_cal0 {X : Cx} {k j : Nat} {x : Str} {ps : List Str} {sp : Sp} {p pos : Pos} (C : Cal X.prog X.w X.K X.mg X.base k x ps sp) (hr : Room j X.A) (hle : k ≤ j := by first | exact Nat.le_refl _ | decide | omega) (hg : Gl X x := by rfl) (hdb : (x == ("__debug__" : Str)) = false := by decide) :
    PE X (.Call (.Name x p) [] [] pos) (tCall sp [] E0 tNil) := by
  obtain ⟨f, fd, F, b, kp, m⟩ := C.ex
  exact pe_call0 F (hr.mono hle) hg m kp b .nil pass0 hdb

/-- globals -/
def GI (mg : Str → Option Value) (x : Str) (n : Int) : Prop := ∃ t, mg x = some (.int n t)
def GS (mg : Str → Option Value) (x : Str) (z : Str) : Prop := ∃ t, mg x = some (.str z t)
/-- a tuple of the module's top -/
def GT (K : PySem.W.Frag) (mg : Str → Option Value) (x : Str) (xs : List V) : Prop := ∃ a, mg x = some (.ref a) ∧ ∀ H, SqT K H a xs
theorem pe_gi {X : Cx} {x : Str} {n : Int} {pos : Pos} (g : GI X.mg x n) (hg : Gl X x := by rfl) (hd : (x == ("__debug__" : Str)) = false := by decide) : PE X (.Name x pos) (tC (.int n)) := by
  obtain ⟨t, m⟩ := g
  exact pe_glob hg m ⟨t, rfl⟩ hd
theorem pe_gs {X : Cx} {x : Str} {z : Str} {pos : Pos} (g : GS X.mg x z) (hg : Gl X x := by rfl) (hd : (x == ("__debug__" : Str)) = false := by decide) : PE X (.Name x pos) (tC (.str z)) := by
  obtain ⟨t, m⟩ := g
  exact pe_glob hg m ⟨t, rfl⟩ hd
def tGT (K : PySem.W.Frag) (xs : List V) : TE := fun _ H Q => ∀ a, (∀ H', SqT K H' a xs) → Q (.ref a) H
theorem pe_gt {X : Cx} {x : Str} {xs : List V} {pos : Pos} (g : GT X.K X.mg x xs) (hg : Gl X x := by rfl) (hd : (x == ("__debug__" : Str)) = false := by decide) : PE X (.Name x pos) (tGT X.K xs) := by
  obtain ⟨a, m, h⟩ := g
  exact ⟨fun pins s σ H Q I q => (pe_glob (v := .ref a) hg m rfl hd).run pins s σ H Q I (q a h)⟩

/-- the built-in names that the program leaves as they are -/
structure Nb (mg : Str → Option Value) : Prop where
  len : mg "len" = none
  list : mg "list" = none
  int : mg "int" = none
  isinstance : mg "isinstance" = none
  range : mg "range" = none
  zip : mg "zip" = none
  all : mg "all" = none
  any : mg "any" = none
  tuple : mg "tuple" = none
  str : mg "str" = none
  dict : mg "dict" = none
  bool : mg "bool" = none
  sorted : mg "sorted" = none
  min : mg "min" = none
  max : mg "max" = none
  set : mg "set" = none
  enumerate : mg "enumerate" = none
  sum : mg "sum" = none

/-! ### promises in two shapes -/
/-- hands back z, all that stood stands -/
def spV (ok : List V → Hp → V → Prop) : Sp := fun vs H Q _ => ∃ z, ok vs H z ∧ ∀ H', Ex H H' → Q z H'
/-- hands back a new list -/
def spL (ok : List V → Hp → List V → Prop) : Sp := fun vs H Q _ => ∃ xs, ok vs H xs ∧ RetL xs H Q
section
variable {σ : L2.St} {H : Hp} {ta : TA} {te : TE} {vs xs : List V} {z v : V}
theorem ev_cal {ok : List V → Hp → V → Prop} (h : EvA ta σ H vs) (hk : ∀ H1, Ex H H1 → ok vs H1 z) : Ev (tCall (spV ok) [] E0 ta) σ H z :=
  ev_call h fun H1 e Q q E => ⟨z, by rw [List.append_nil]; exact hk H1 e, fun H2 e2 => q H2 e2⟩
theorem el_cal {ok : List V → Hp → List V → Prop} (h : EvA ta σ H vs) (hk : ∀ H1, Ex H H1 → ok vs H1 xs) : EvL (tCall (spL ok) [] E0 ta) σ H xs :=
  el_call h fun H1 e Q q E => ⟨xs, by rw [List.append_nil]; exact hk H1 e, fun p H2 hp e2 h2 => q p H2 hp e2 h2⟩
/-- a global tuple -/
theorem ev_gt {K : PySem.W.Frag} {ys : List V} {Q : VK} {H : Hp} (q : ∀ a, (∀ H', SqT K H' a ys) → Q (.ref a) H) : tGT K ys σ H Q := q
/-- natural numbers -/
theorem ev_cn (n : Nat) : Ev (tC (.int (n : Int))) σ H (.int (n : Int)) := ev_c
theorem ev_v {i : Nat} (h : σ[i]? = some (some v)) : Ev (tVar i) σ H v := ev_var h
theorem rv_is {r : R2} {x y z z' : V} {H : Hp} (h : RV r x y H z) (e : z = z') : RV r x y H z' := by
  rw [← e]
  exact h
theorem rv_addN {a b : Nat} : RV (rI0 fun i j => .int (i + j)) (.int (a : Int)) (.int (b : Int)) H (.int ((a + b : Nat) : Int)) := rv_is rv_I0 (congrArg V.int (Int.natCast_add a b).symm)
theorem rv_subN {a b : Nat} (h : b ≤ a) : RV (rI0 fun i j => .int (i - j)) (.int (a : Int)) (.int (b : Int)) H (.int ((a - b : Nat) : Int)) := rv_is rv_I0 (congrArg V.int (Int.ofNat_sub h).symm)
theorem toNatOr (a b : Nat) : Builtin.bitOr (a : Int) (b : Int) = ((a ||| b : Nat) : Int) := Bits.bitOr_pp (Int.natCast_nonneg _) (Int.natCast_nonneg _)
theorem bitAndN (a b : Nat) : Builtin.bitAnd (a : Int) (b : Int) = ((a &&& b : Nat) : Int) := by
  rw [bitAnd_pp (Int.natCast_nonneg _) (Int.natCast_nonneg _), Int.toNat_natCast, Int.toNat_natCast]
theorem bitOrN (a b : Nat) : Builtin.bitOr (a : Int) (b : Int) = ((a ||| b : Nat) : Int) := toNatOr a b
theorem bitXorN (a b : Nat) : Builtin.bitXor (a : Int) (b : Int) = ((a ^^^ b : Nat) : Int) := Bits.bitXor_pp (Int.natCast_nonneg _) (Int.natCast_nonneg _)
theorem rv_andN {a b : Nat} : RV (rI0 fun i j => .int (Builtin.bitAnd i j)) (.int (a : Int)) (.int (b : Int)) H (.int ((a &&& b : Nat) : Int)) := rv_is rv_I0 (congrArg V.int (bitAndN a b))
theorem rv_orN {a b : Nat} : RV (rI0 fun i j => .int (Builtin.bitOr i j)) (.int (a : Int)) (.int (b : Int)) H (.int ((a ||| b : Nat) : Int)) := rv_is rv_I0 (congrArg V.int (bitOrN a b))
theorem rv_xorN {a b : Nat} : RV (rI0 fun i j => .int (Builtin.bitXor i j)) (.int (a : Int)) (.int (b : Int)) H (.int ((a ^^^ b : Nat) : Int)) := rv_is rv_I0 (congrArg V.int (bitXorN a b))
theorem shlN (a b : Nat) : (a : Int) * 2 ^ (b : Int).toNat = ((a <<< b : Nat) : Int) := by
  rw [Int.toNat_natCast, Nat.shiftLeft_eq, Int.natCast_mul, Int.natCast_pow]; rfl
theorem shrN (a b : Nat) : (a : Int) / 2 ^ (b : Int).toNat = ((a >>> b : Nat) : Int) := by
  rw [Int.toNat_natCast, Nat.shiftRight_eq_div_pow, Int.natCast_ediv, Int.natCast_pow]; rfl
theorem rv_shlN {a b : Nat} (ha : a < 2 ^ 64) (hb : b ≤ 1000000) : RV (rI CPow fun i j => .int (i * 2 ^ j.toNat)) (.int (a : Int)) (.int (b : Int)) H (.int ((a <<< b : Nat) : Int)) :=
  rv_is (rv_I ⟨Int.natCast_nonneg _, by omega, by rw [Int.natAbs_natCast]; exact ha⟩) (congrArg V.int (shlN a b))
theorem rv_shrN {a b : Nat} : RV (rI (fun _ j => 0 ≤ j) fun i j => .int (i / 2 ^ j.toNat)) (.int (a : Int)) (.int (b : Int)) H (.int ((a >>> b : Nat) : Int)) :=
  rv_is (rv_I (Int.natCast_nonneg _)) (congrArg V.int (shrN a b))
theorem cmulN {a b : Nat} (h : a < 2 ^ 64 ∨ b < 2 ^ 64) : CMul (a : Int) (b : Int) := by
  unfold CMul
  have t : ((2 : Int) ^ 64) = ((2 ^ 64 : Nat) : Int) := by rfl
  rcases h with h | h
  · left; rw [t]; constructor <;> omega
  · right; rw [t]; constructor <;> omega
theorem rv_mulN {a b : Nat} (h : a < 2 ^ 64 ∨ b < 2 ^ 64) : RV (rI CMul fun i j => .int (i * j)) (.int (a : Int)) (.int (b : Int)) H (.int ((a * b : Nat) : Int)) := rv_is (rv_I (cmulN h)) (congrArg V.int (Int.natCast_mul a b).symm)
theorem rv_modN {a b : Nat} (h : 0 < b) : RV (rI (fun _ j => 0 < j) fun i j => .int (i % j)) (.int (a : Int)) (.int (b : Int)) H (.int ((a % b : Nat) : Int)) := rv_is (rv_I (show (0:Int) < (b:Int) by omega)) (congrArg V.int (Int.natCast_emod a b).symm)
theorem rv_divN {a b : Nat} (h : 0 < b) (hb : b < 1073741824) : RV (rI CDiv fun i j => .int (i / j)) (.int (a : Int)) (.int (b : Int)) H (.int ((a / b : Nat) : Int)) := rv_is (rv_I ⟨by omega, by omega⟩) (congrArg V.int (Int.natCast_ediv a b).symm)
theorem rv_divWN {a b n : Nat} (h : 0 < b) (hb : b < 2 ^ n) (h0 : 0 < n) (h9 : n ≤ 9000) : RV (rI CDivW fun i j => .int (i / j)) (.int (a : Int)) (.int (b : Int)) H (.int ((a / b : Nat) : Int)) :=
  rv_is (rv_I (wide_div (by omega) (by rw [Int.natAbs_natCast]; exact hb) h0 h9)) (congrArg V.int (Int.natCast_ediv a b).symm)
theorem rv_mulWN {a b n m : Nat} (ha : a < 2 ^ n) (hb : b < 2 ^ m) (h0 : 0 < n) (h1 : 0 < m) (h : n + m ≤ 1000000) : RV (rI CMulW fun i j => .int (i * j)) (.int (a : Int)) (.int (b : Int)) H (.int ((a * b : Nat) : Int)) :=
  rv_is (rv_I (wide_mul (by rw [Int.natAbs_natCast]; exact ha) (by rw [Int.natAbs_natCast]; exact hb) h0 h1 h)) (congrArg V.int (Int.natCast_mul a b).symm)
/-- an item of a list that is known -/
theorem rv_ixLn {K : PySem.W.Frag} {p : Addr} {xs : List V} {i : Nat} (h : SqL K H p xs) (ha : xs[i]? = some v) : RV (rIxL K) (.ref p) (.int (i : Int)) H v := rv_ixL h (atI_nat ha)
theorem rv_ixTn {K : PySem.W.Frag} {p : Addr} {xs : List V} {i : Nat} (h : SqT K H p xs) (ha : xs[i]? = some v) : RV (rIxT K) (.ref p) (.int (i : Int)) H v := rv_ixT h (atI_nat ha)
end
/-- int(x) of an int -/
theorem ev_int {σ : L2.St} {H : Hp} {te : TE} {i : Int} (h : Ev te σ H (.int i)) : Ev (tCB (fun xs H Q => (∃ i, xs = [.int i] ∧ Q (.int i) H) ∨ ∃ k, xs = [.bl k] ∧ Q (.int (if k then 1 else 0)) H) (tCons te tNil)) σ H (.int i) := fun H1 e Q q =>
  h H1 e _ fun H2 e2 => .inl ⟨i, rfl, q H2 e2⟩

/-! ### evaluating to something of which P is known (P stays as the heap grows) -/
def EvP (te : TE) (σ : L2.St) (H : Hp) (P : V → Hp → Prop) : Prop := ∀ H1, Ex H H1 → ∀ Q : VK, (∀ v H2, Ex H1 H2 → P v H2 → Q v H2) → te σ H1 Q
def EvAP (ta : TA) (σ : L2.St) (H : Hp) (P : List V → Hp → Prop) : Prop := ∀ H1, Ex H H1 → ∀ Q : List V → Hp → Prop, (∀ vs H2, Ex H1 H2 → P vs H2 → Q vs H2) → ta σ H1 Q
section
variable {σ : L2.St} {H H' : Hp} {ta tr : TA} {te : TE} {xs : List V} {x z v : V} {P : List V → Hp → Prop}
theorem EvP.mono {P : V → Hp → Prop} (e : Ex H H') (h : EvP te σ H P) : EvP te σ H' P := fun H1 a Q q => h H1 (e.trans a) Q q
theorem EvAP.mono (e : Ex H H') (h : EvAP ta σ H P) : EvAP ta σ H' P := fun H1 a Q q => h H1 (e.trans a) Q q
theorem evp_v (h : Ev te σ H v) : EvP te σ H (fun u _ => u = v) := fun H1 e Q q => h H1 e Q fun H2 e2 => q v H2 e2 rfl
theorem evp_l (h : EvL te σ H xs) : EvP te σ H (fun u H' => ∃ p, u = .ref p ∧ H' p = some (.lst xs)) := fun H1 e Q q => h H1 e Q fun p H2 _ e2 hp => q _ H2 e2 ⟨p, rfl, hp⟩
theorem evp_u (h : EvU te σ H xs) : EvP te σ H (fun u H' => ∃ p, u = .ref p ∧ H' p = some (.tup xs)) := fun H1 e Q q => h H1 e Q fun p H2 _ e2 hp => q _ H2 e2 ⟨p, rfl, hp⟩
theorem evp_gt {K : PySem.W.Frag} : EvP (tGT K xs) σ H (fun u _ => ∃ a, u = .ref a ∧ ∀ H', SqT K H' a xs) := fun H1 e Q q => fun a h => q _ H1 (Ex.refl H1) ⟨a, rfl, h⟩
theorem eap_nil : EvAP tNil σ H (fun vs _ => vs = []) := fun H1 _ Q q => q [] H1 (Ex.refl H1) rfl
theorem eap_v (h : Ev te σ H x) (hr : EvAP tr σ H P) : EvAP (tCons te tr) σ H (fun vs H' => ∃ r, vs = x :: r ∧ P r H') := fun H1 e Q q =>
  h H1 e _ fun H2 e2 => hr H2 (e.trans e2) _ fun r H3 e3 p => q _ H3 (e2.trans e3) ⟨r, rfl, p⟩
theorem eap_l (h : EvL te σ H xs) (hr : EvAP tr σ H P) : EvAP (tCons te tr) σ H (fun vs H' => ∃ a r, vs = .ref a :: r ∧ H' a = some (.lst xs) ∧ P r H') := fun H1 e Q q =>
  h H1 e _ fun a H2 _ e2 ha => hr H2 (e.trans e2) _ fun r H3 e3 p => q _ H3 (e2.trans e3) ⟨a, r, rfl, e3 a _ ha, p⟩
theorem eap_u (h : EvU te σ H xs) (hr : EvAP tr σ H P) : EvAP (tCons te tr) σ H (fun vs H' => ∃ a r, vs = .ref a :: r ∧ H' a = some (.tup xs) ∧ P r H') := fun H1 e Q q =>
  h H1 e _ fun a H2 _ e2 ha => hr H2 (e.trans e2) _ fun r H3 e3 p => q _ H3 (e2.trans e3) ⟨a, r, rfl, e3 a _ ha, p⟩
theorem ev_calP {ok : List V → Hp → V → Prop} (h : EvAP ta σ H P) (hk : ∀ vs H1, Ex H H1 → P vs H1 → ok vs H1 z) : Ev (tCall (spV ok) [] E0 ta) σ H z := fun H1 e Q q =>
  h H1 e _ fun vs H2 e2 p => ⟨z, by rw [List.append_nil]; exact hk vs H2 (e.trans e2) p, fun H3 e3 => q H3 (e2.trans e3)⟩
theorem el_calP {ok : List V → Hp → List V → Prop} (h : EvAP ta σ H P) (hk : ∀ vs H1, Ex H H1 → P vs H1 → ok vs H1 xs) : EvL (tCall (spL ok) [] E0 ta) σ H xs := fun H1 e Q q =>
  h H1 e _ fun vs H2 e2 p => ⟨xs, by rw [List.append_nil]; exact hk vs H2 (e.trans e2) p, fun a H3 ha e3 h3 => q a H3 (fresh_back e2 ha) (e2.trans e3) h3⟩
end

/-! ### lists of natural numbers; ranges in natural numbers; lists joined -/
def nats (xs : List Nat) : List V := xs.map fun n : Nat => V.int (n : Int)
theorem nats_len (xs : List Nat) : (nats xs).length = xs.length := List.length_map _
theorem nats_get {xs : List Nat} {i : Nat} (h : i < xs.length) : (nats xs)[i]? = some (.int ((xs.getD i 0 : Nat) : Int)) := by
  unfold nats
  rw [List.getElem?_map, List.getElem?_eq_getElem h, List.getD_eq_getElem?_getD, List.getElem?_eq_getElem h]
  rfl
theorem nats_app (xs ys : List Nat) : nats (xs ++ ys) = nats xs ++ nats ys := List.map_append
section
variable {K : PySem.W.Frag} {σ : L2.St} {H H' : Hp} {ta tb te : TE} {xs ys : List V} {x z v : V} {p : Addr} {D : Ends} {tu tz : TS}
theorem ev_ixL {j : Nat} (ha : Ev ta σ H (.ref p)) (hb : Ev tb σ H (.int (j : Int))) (hS : SqL K H p xs) (hx : xs[j]? = some v) : Ev (tOp (rIxL K) ta tb) σ H v := ev_op ha hb (rv_ixLn hS hx)
theorem ev_ixT {j : Nat} (ha : Ev ta σ H (.ref p)) (hb : Ev tb σ H (.int (j : Int))) (hS : SqT K H p xs) (hx : xs[j]? = some v) : Ev (tOp (rIxT K) ta tb) σ H v := ev_op ha hb (rv_ixTn hS hx)
theorem s_forR1N {ta : TA} {j n : Nat} (h : EvA ta σ H [.int (n : Int)]) (hn : n ≤ 100000) (Pv : Nat → L2.St → Hp → Prop) (h0 : ∀ H1, Ex H H1 → Pv 0 σ H1)
    (hs : ∀ (i : Nat) σ' H', i < n → Pv i σ' H' → tu { D with nx := Pv (i + 1), ct := Pv (i + 1), bk := D.nx } (σ'.set j (some (.int (i : Int)))) H') (hd : ∀ σ' H', Pv n σ' H' → D.nx σ' H') : tFor (iRng1 ta) (gName j) tu D σ H :=
  s_forR1 h (by omega) Pv h0 (fun i σ' H' hi => hs i σ' H' (by omega)) (by rw [Int.toNat_natCast]; exact hd)
theorem q_forR1N {ta : TA} {j n : Nat} (h : EvA ta σ H [.int (n : Int)]) (hn : n ≤ 100000) (Pv : Nat → L2.St → Hp → Prop) (h0 : ∀ H1, Ex H H1 → Pv 0 σ H1)
    (hs : ∀ (i : Nat) σ' H', i < n → Pv i σ' H' → tu { D with nx := Pv (i + 1), ct := Pv (i + 1), bk := tz D } (σ'.set j (some (.int (i : Int)))) H') (hd : ∀ σ' H', Pv n σ' H' → tz D σ' H') : tSeq (tFor (iRng1 ta) (gName j) tu) tz D σ H :=
  s_forR1N (D := { D with nx := tz D }) h hn Pv h0 hs hd
theorem s_forR2N {ta : TA} {j lo n : Nat} (h : EvA ta σ H [.int (lo : Int), .int (n : Int)]) (hn : lo ≤ 100000 ∧ n ≤ 100000) (Pv : Nat → L2.St → Hp → Prop) (h0 : ∀ H1, Ex H H1 → Pv 0 σ H1)
    (hs : ∀ (i : Nat) σ' H', lo + i < n → Pv i σ' H' → tu { D with nx := Pv (i + 1), ct := Pv (i + 1), bk := D.nx } (σ'.set j (some (.int ((lo + i : Nat) : Int)))) H') (hd : ∀ σ' H', Pv (n - lo) σ' H' → D.nx σ' H') : tFor (iRng2 ta) (gName j) tu D σ H :=
  s_forR2 h (by omega) Pv h0 (fun i σ' H' hi p => by
    have e := hs i σ' H' (by omega) p
    rw [Int.natCast_add] at e
    exact e) (by rw [show ((n : Int) - (lo : Int)).toNat = n - lo by omega]; exact hd)
theorem q_forR2N {ta : TA} {j lo n : Nat} (h : EvA ta σ H [.int (lo : Int), .int (n : Int)]) (hn : lo ≤ 100000 ∧ n ≤ 100000) (Pv : Nat → L2.St → Hp → Prop) (h0 : ∀ H1, Ex H H1 → Pv 0 σ H1)
    (hs : ∀ (i : Nat) σ' H', lo + i < n → Pv i σ' H' → tu { D with nx := Pv (i + 1), ct := Pv (i + 1), bk := tz D } (σ'.set j (some (.int ((lo + i : Nat) : Int)))) H') (hd : ∀ σ' H', Pv (n - lo) σ' H' → tz D σ' H') : tSeq (tFor (iRng2 ta) (gName j) tu) tz D σ H :=
  s_forR2N (D := { D with nx := tz D }) h hn Pv h0 hs hd
/-- a list that stands, or a new one -/
def IsL (xs : List V) : V → Hp → Prop := fun u H' => ∃ p, u = .ref p ∧ H' p = some (.lst xs)
theorem evl_n (h : EvL te σ H xs) : EvP te σ H (IsL xs) := evp_l h
theorem evl_k (h : Ev te σ H (.ref p)) (hp : H p = some (.lst xs)) : EvP te σ H (IsL xs) := fun H1 e Q q => h H1 e Q fun H2 e2 => q _ H2 e2 ⟨p, rfl, e2 p _ (e p _ hp)⟩
theorem el_cat (ha : EvP ta σ H (IsL xs)) (hb : EvP tb σ H (IsL ys)) (hz : xs.length + ys.length ≤ 100000) : EvL (tOp rCat ta tb) σ H (xs ++ ys) := fun H1 e Q q =>
  ha H1 e _ fun u H2 e2 ⟨p, hu, hp⟩ => hb H2 (e.trans e2) _ fun u2 H3 e3 ⟨p2, hu2, hp2⟩ => ⟨p, p2, xs, ys, hu, hu2, e3 p _ hp, hp2, sz_of hz, fun l hl =>
    q l _ (fresh_back (e2.trans e3) hl) ((e2.trans e3).trans (Ex.new hl)) upd_same⟩
theorem el_rep {k : Nat} (ha : EvP ta σ H (IsL xs)) (hb : Ev tb σ H (.int (k : Int))) (hk : k ≤ 100000) (hz : xs.length * k ≤ 100000) : EvL (tOp rRep ta tb) σ H (List.replicate k xs).flatten := fun H1 e Q q =>
  ha H1 e _ fun u H2 e2 ⟨p, hu, hp⟩ => hb H2 (e.trans e2) _ fun H3 e3 => ⟨p, k, xs, hu, rfl, e3 p _ hp, by omega, by omega, by rw [Int.toNat_natCast]; exact sz_of hz, fun l hl => by
    rw [Int.toNat_natCast]
    exact q l _ (fresh_back (e2.trans e3) hl) ((e2.trans e3).trans (Ex.new hl)) upd_same⟩
theorem el_listP (ha : EvP ta σ H (IsL xs)) : EvL (tCB (rListS K) (tCons ta tNil)) σ H xs := fun H1 e Q q =>
  ha H1 e _ fun u H2 e2 ⟨p, hu, hp⟩ => ⟨p, xs, by rw [hu], Or.inl (sq_of hp), fun l hl => q l _ (fresh_back e2 hl) (e2.trans (Ex.new hl)) upd_same⟩
end

/-! ### slices -/
theorem cutV_take (xs : List V) (n : Nat) : cutV xs none (some (n : Int)) = xs.take n := by
  unfold cutV
  rw [HT.sIx_nat, HT.sIx_none, List.drop_zero, Nat.sub_zero]
  by_cases h : n ≤ xs.length
  · rw [Nat.min_eq_left h]
  · rw [Nat.min_eq_right (by omega), List.take_of_length_le (Nat.le_refl _), List.take_of_length_le (by omega)]
theorem cutV_drop (xs : List V) (n : Nat) : cutV xs (some (n : Int)) none = xs.drop n := by
  unfold cutV
  rw [HT.sIx_nat, HT.sIx_none]
  by_cases h : n ≤ xs.length
  · rw [Nat.min_eq_left h, List.take_of_length_le (by rw [List.length_drop]; omega)]
  · rw [Nat.min_eq_right (by omega), List.drop_of_length_le (Nat.le_refl _), List.drop_of_length_le (show xs.length ≤ n by omega), List.take_nil]
theorem cutV_mid (xs : List V) (n m : Nat) (h : n ≤ xs.length) : cutV xs (some (n : Int)) (some (m : Int)) = (xs.drop n).take (m - n) := by
  unfold cutV
  rw [HT.sIx_nat, HT.sIx_nat, Nat.min_eq_left h]
  by_cases h2 : m ≤ xs.length
  · rw [Nat.min_eq_left h2]
  · rw [Nat.min_eq_right (by omega), List.take_of_length_le (by rw [List.length_drop]; omega), List.take_of_length_le (by rw [List.length_drop]; omega)]
theorem nats_take (xs : List Nat) (n : Nat) : nats (xs.take n) = (nats xs).take n := by unfold nats; rw [List.map_take]
theorem nats_drop (xs : List Nat) (n : Nat) : nats (xs.drop n) = (nats xs).drop n := by unfold nats; rw [List.map_drop]

/-! ### texts by their codes -/
def tx (l : List Nat) : Str := ⟨l.toArray⟩
theorem tx_app (a b : List Nat) : tx a ++ tx b = tx (a ++ b) := by
  show (⟨a.toArray ++ b.toArray⟩ : Str) = _
  unfold tx
  rw [List.append_toArray]
theorem tx_len (a : List Nat) : (tx a).length = a.length := List.size_toArray
theorem tx_list (a : List Nat) : (tx a).cps.toList = a := rfl
theorem tx_of (z : Str) : z = tx z.cps.toList := rfl
theorem tx_inj {a b : List Nat} (h : tx a = tx b) : a = b := by
  have := congrArg (fun z : Str => z.cps.toList) h
  exact this
section
variable {σ : L2.St} {H H' : Hp} {ta tb te : TE} {xs ys : List V} {x z v : V} {p : Addr} {D : Ends} {tu tz : TS}
theorem ev_cs {s : Str} (l : List Nat) (h : s = tx l) : Ev (tC (.str s)) σ H (.str (tx l)) := ev_is ev_c (by rw [h])
theorem rv_addS {a b : List Nat} (h : a.length + b.length ≤ 100000) : RV (fun x y H Q => ∃ i j, x = .str i ∧ y = .str j ∧ i.length + j.length ≤ sizeLine ∧ Q (.str (i ++ j)) H) (.str (tx a)) (.str (tx b)) H (.str (tx (a ++ b))) := fun H1 _ _ q =>
  ⟨tx a, tx b, rfl, rfl, by rw [tx_len, tx_len]; exact sz_of h, by rw [tx_app]; exact q H1 (Ex.refl H1)⟩
theorem rv_ixSn {l : List Nat} {i c : Nat} (h : l.length ≤ 100000) (hi : l[i]? = some c) : RV rIxS (.str (tx l)) (.int (i : Int)) H (.str (tx [c])) := rv_ixS (by rw [tx_len]; exact h) (atI_nat (by rw [tx_list]; exact hi))
theorem range_map {α β : Type} (xs : List α) (d : α) (g : α → β) : (List.range xs.length).map (fun i => g (xs.getD i d)) = xs.map g := by
  refine List.ext_getElem? fun i => ?_
  rw [List.getElem?_map, List.getElem?_map]
  by_cases h : i < xs.length
  · rw [List.getElem?_range h, List.getElem?_eq_getElem h]
    simp [List.getD_eq_getElem?_getD, List.getElem?_eq_getElem h]
  · rw [List.getElem?_eq_none (by rw [List.length_range]; omega), List.getElem?_eq_none (by omega)]
    rfl
theorem given_all (n : Nat) (v : Nat → V) : given n (fun _ => true) v = (List.range n).map v := by
  unfold given
  rw [List.filter_eq_self.mpr fun _ _ => rfl]
theorem given_nats (xs : List Nat) (g : Nat → Nat) : given xs.length (fun _ => true) (fun i => .int (g (xs.getD i 0) : Nat)) = nats (xs.map g) := by
  rw [given_all]
  unfold nats
  rw [List.map_map]
  exact range_map xs 0 fun n => V.int (g n : Nat)
theorem et_yes : EvT tYes σ H true := fun H1 _ Q q => q H1 (Ex.refl H1)
theorem rep_one (k n : Nat) : (List.replicate k (nats [n])).flatten = nats (List.replicate k n) := by
  induction k with
  | zero => rfl
  | succ k ih =>
    rw [List.replicate_succ, List.flatten_cons, ih, List.replicate_succ]
    rfl
theorem getD_of {xs : List Nat} {i : Nat} {x : V} (h : (nats xs)[i]? = some x) : x = .int ((xs.getD i 0 : Nat) : Int) ∧ i < xs.length := by
  have hi : i < xs.length := by
    have := (List.getElem?_eq_some_iff.mp h).1
    rw [nats_len] at this
    exact this
  rw [nats_get hi] at h
  exact ⟨(Option.some.inj h).symm, hi⟩
theorem getD_mem {xs : List Nat} {i : Nat} (h : i < xs.length) : xs.getD i 0 ∈ xs := by
  rw [List.getD_eq_getElem?_getD, List.getElem?_eq_getElem h]
  exact List.getElem_mem h
/-- an argument that is a list that stands or a new one -/
theorem eap_p {te : TE} {tr : TA} {P1 : V → Hp → Prop} {P : List V → Hp → Prop} (h : EvP te σ H P1) (hm : ∀ v H1 H2, Ex H1 H2 → P1 v H1 → P1 v H2) (hr : EvAP tr σ H P) : EvAP (tCons te tr) σ H (fun vs H' => ∃ v r, vs = v :: r ∧ P1 v H' ∧ P r H') := fun H1 e Q q =>
  h H1 e _ fun v H2 e2 p1 => hr H2 (e.trans e2) _ fun r H3 e3 p => q _ H3 (e2.trans e3) ⟨v, r, rfl, hm _ _ _ e3 p1, p⟩
theorem IsL.mono {v : V} {H1 H2 : Hp} (e : Ex H1 H2) (h : IsL xs v H1) : IsL xs v H2 := by
  obtain ⟨p, rfl, hp⟩ := h
  exact ⟨p, rfl, e p _ hp⟩
end
end My

set_option Elab.async false
set_option linter.all false
set_option maxRecDepth 100000
set_option maxHeartbeats 1000000
/-! zip(v1, v2, strict=True) over two of one length: made, drawn, ended. -/
namespace My
open PySem PySem.Spec PyProof.Rows L2 Evl Builtin.SmallTypes
section
variable {prog : Program} {w : World} {A : Around} {E : Value → Shared → Prop} {s : Shared} {it : Addr} {fp : List Addr} {n i : Nat} {P : Nat → Value → Prop} {St : Nat → Heap → Prop}
theorem orEnd_item {Q : Option Value → Shared → Prop} (D : Draws prog w A it fp n P St) (hi : i < n) (st : St i s.heap)
    (h : ∀ x h' tk, P i x → St (i + 1) h' → Heap.SameBut it s.heap h' → Q (some x) { s with heap := h', toks := tk }) : wpAny (model prog w) A (nextOrEnd (.ref it)) Q E s := by
  unfold nextOrEnd
  exact wpAny_bind (wpAny_attempt (D.item i s _ _ hi st fun x h' tk p q b => wpAny_pure (h x h' tk p q b)))
theorem orEnd_done {Q : Option Value → Shared → Prop} (D : Draws prog w A it fp n P St) (st : St n s.heap)
    (h : ∀ h', Heap.ExtBut it s.heap h' → Q none { s with heap := h' }) : wpAny (model prog w) A (nextOrEnd (.ref it)) Q E s := by
  unfold nextOrEnd
  refine wpAny_bind (wpAny_attempt (D.done s _ _ st fun h' e x y => ?_))
  obtain ⟨o, ho, hc⟩ := y
  exact wpAny_bind (wpAny_isInstance (T := "StopIteration") (b := true) ⟨o, ho, hc⟩ isSubtype_stop (wpAny_pure (h h' x)))
end
/-- a strict zip object -/
abbrev IsZipS (h : Heap) (z TI TO : Addr) (f0 : Value) : Prop :=
  h.get? z = some { cls := .type "zip", dict := none, data := .fields #[f0, .bool false, .bool true, .ref TI, .ref TO], slots := #[] }

section
variable {prog : Program} {w : World} {A : Around} {E : Value → Shared → Prop} {s : Shared} {z TI TO i1 i2 : Addr} {fp1 fp2 : List Addr} {n i : Nat} {P1 P2 : Nat → Value → Prop} {St1 St2 : Nat → Heap → Prop} {a1 a2 : Value}
/-- one draw from both -/
theorem zs_item {Q : Value → Shared → Prop} (S : ZipSep2 z TI TO i1 i2 fp1 fp2) (D1 : Draws prog w A i1 fp1 n P1 St1) (D2 : Draws prog w A i2 fp2 n P2 St2)
    (hz : IsZipS s.heap z TI TO .none) (hTI : IsTupOf2 s.heap TI (.ref i1) (.ref i2)) (hTO : IsTupOf2 s.heap TO a1 a2) (st1 : St1 i s.heap) (st2 : St2 i s.heap) (hlt : i < n)
    (hQ : ∀ x1 x2 h' tk, P1 i x1 → P2 i x2 → IsZipS h' z TI TO (rawInt s.heap.objs.size) → IsTupOf2 h' TO x1 x2 → St1 (i + 1) h' → St2 (i + 1) h' → IsTupOf2 h' s.heap.objs.size x1 x2 → h'.objs.size = s.heap.objs.size + 1 →
      (∀ c o, c ≠ z → c ≠ TO → c ≠ i1 → c ≠ i2 → s.heap.get? c = some o → h'.get? c = some o) → Q (.ref s.heap.objs.size) { s with heap := h', toks := tk }) :
    wpAny (model prog w) A (Builtin.«zip.__next__» ⟨[.ref z], []⟩) (fun fin s' => ∃ v, fin = .done (.ret v) ∧ Q v s') E s := by
  obtain ⟨hp, gs, dr, tk0, os⟩ := s
  show wpAny _ _ (field (.ref z) 2 >>= _) _ _ _
  refine wpAny_bind (wpAny_field hz rfl (x := .bool true) rfl ?_)
  show wpAny _ _ (field (.ref z) 3 >>= _) _ _ _
  refine wpAny_bind (wpAny_field hz rfl (x := .ref TI) rfl (wpAny_bind (wpAny_seqItems hTI rfl ?_)))
  show wpAny _ _ (ownedTupleIsFree (.ref z) >>= _) _ _ _
  refine wpAny_bind ?_
  unfold ownedTupleIsFree
  refine wpAny_bind (wpAny_field hz rfl (x := .none) rfl (wpAny_pure ?_))
  simp only [if_true]
  refine wpAny_bind (wpAny_rule (wpAny_bind (wpAny_field hz rfl (x := .ref TO) rfl (wpAny_bind (wpAny_setField_rec hz (by simp) fun g0 hz0 hs0 => ?_)))))
  replace hz0 : IsZipS g0 z TI TO .ellipsis := hz0
  replace hs0 : Heap.SameBut z hp g0 := hs0
  refine wpAny_bind ?_
  simp only [List.zipIdx_cons, List.zipIdx_nil, List.forIn_cons, List.forIn_nil]
  refine wpAny_bind (wpAny_bind (wpAny_onRaise ?_))
  show wpAny _ _ (nextOrEnd (.ref i1)) _ _ ⟨g0, gs, dr, tk0, os⟩
  refine orEnd_item D1 hlt (D1.over st1 hs0 S.zf1) fun x1 p1 tk1 hx1 sn1 hp1 => ?_
  replace hp1 : Heap.SameBut i1 g0 p1 := hp1
  have u1 : IsTupOf2 p1 TO a1 a2 := hp1.extBut _ _ S.Ti1 (hs0.extBut _ _ S.TOz hTO)
  refine wpAny_bind (wpAny_seqItems (s := ⟨p1, gs, dr, tk1, os⟩) u1 rfl (wpAny_bind (updateSeq_IsTupOf2 (s := ⟨p1, gs, dr, tk1, os⟩) u1 fun g1 t1 hs1 => ?_)))
  replace t1 : IsTupOf2 g1 TO x1 a2 := t1
  replace hs1 : Heap.SameBut TO p1 g1 := hs1
  refine wpAny_bind (wpAny_letGo (wpAny_pure (wpAny_bind (wpAny_bind (wpAny_onRaise ?_)))))
  show wpAny _ _ (nextOrEnd (.ref i2)) _ _ ⟨g1, gs, dr, tk1, os⟩
  refine orEnd_item D2 hlt (D2.over (D2.over (D2.over st2 hs0 S.zf2) hp1 S.sep1_2) hs1 S.Tf2) fun x2 p2 tk2 hx2 sn2 hp2 => ?_
  replace hp2 : Heap.SameBut i2 g1 p2 := hp2
  have u2 : IsTupOf2 p2 TO x1 a2 := hp2.extBut _ _ S.Ti2 t1
  refine wpAny_bind (wpAny_seqItems (s := ⟨p2, gs, dr, tk2, os⟩) u2 rfl (wpAny_bind (updateSeq_IsTupOf2 (s := ⟨p2, gs, dr, tk2, os⟩) u2 fun g2 t2 hs2 => ?_)))
  replace t2 : IsTupOf2 g2 TO x1 x2 := t2
  replace hs2 : Heap.SameBut TO p2 g2 := hs2
  refine wpAny_bind (wpAny_letGo (wpAny_pure (wpAny_pure (wpAny_bind (wpAny_seqItems (s := ⟨g2, gs, dr, tk2, os⟩) t2 rfl (wpAny_bind (wpAny_newTuple ?_)))))))
  have sz : g2.objs.size = hp.objs.size := by rw [hs2.1, hp2.1, hs1.1, hp1.1, hs0.1]
  have hzz : IsZipS g2 z TI TO .ellipsis := hs2.extBut _ _ S.TOz.symm (hp2.extBut _ _ S.zi2 (hs1.extBut _ _ S.TOz.symm (hp1.extBut _ _ S.zi1 hz0)))
  have kk : ∀ c o, c ≠ z → c ≠ TO → c ≠ i1 → c ≠ i2 → hp.get? c = some o → g2.get? c = some o := fun c o cz cT c1 c2 e => hs2.extBut _ _ cT (hp2.extBut _ _ c2 (hs1.extBut _ _ cT (hp1.extBut _ _ c1 (hs0.extBut _ _ cz e))))
  have j1 : St1 (i + 1) g2 := D1.over (D1.over (D1.over sn1 hs1 S.Tf1) hp2 S.sep2_1) hs2 S.Tf1
  have j2 : St2 (i + 1) g2 := D2.over sn2 hs2 S.Tf2
  have zlt : z < g2.objs.size := Heap.lt_size hzz
  show wpAny _ _ (ownedTupleHandOut (.ref z) (.ref g2.objs.size) >>= _) _ _ ⟨g2.push { cls := .type "tuple", data := .seq #[x1, x2] }, gs, dr, tk2, os⟩
  generalize ht : ({ cls := .type "tuple", data := .seq #[x1, x2] } : Obj) = ob
  refine wpAny_bind ?_
  unfold ownedTupleHandOut
  refine wpAny_bind (wpAny_setField_rec (Heap.get?_push_of_some ob hzz) (by simp) fun h7 hz7 hs7 => ?_)
  replace hz7 : IsZipS h7 z TI TO (rawInt g2.objs.size) := hz7
  replace hs7 : Heap.SameBut z (g2.push ob) h7 := hs7
  refine wpAny_setField_rec hz7 (by simp) fun h8 hz8 hs8 => ?_
  replace hz8 : IsZipS h8 z TI TO (rawInt g2.objs.size) := hz8
  replace hs8 : Heap.SameBut z h7 h8 := hs8
  have up : ∀ c o, c ≠ z → g2.get? c = some o → h8.get? c = some o := fun c o c1 e => hs8.extBut _ _ c1 (hs7.extBut _ _ c1 (Heap.get?_push_of_some _ e))
  have t8 : h8.get? g2.objs.size = some ob := hs8.extBut _ _ (Nat.ne_of_gt zlt) (hs7.extBut _ _ (Nat.ne_of_gt zlt) (Heap.get?_push_size _ (by rw [← ht]; rfl)))
  have s8 : h8.objs.size = g2.objs.size + 1 := by rw [hs8.1, hs7.1, Heap.size_push]
  rw [sz] at hz8 t8 s8
  rw [← ht] at t8
  refine wpAny_pure ⟨_, rfl, ?_⟩
  show Q (.ref g2.objs.size) ⟨h8, gs, dr, tk2, os⟩
  rw [sz]
  exact hQ x1 x2 h8 tk2 hx1 hx2 hz8 (up _ _ S.TOz t2) (D1.frame _ _ _ j1 fun b hb o e => up b o (fun q => S.zf1 (q ▸ hb)) e) (D2.frame _ _ _ j2 fun b hb o e => up b o (fun q => S.zf2 (q ▸ hb)) e) t8 s8 fun c o cz cT c1 c2 e => up c o cz (kk c o cz cT c1 c2 e)
/-- both are at their ends -/
theorem zs_end {Q : Fin → Shared → Prop} (hh : A.handled = none) (S : ZipSep2 z TI TO i1 i2 fp1 fp2) (D1 : Draws prog w A i1 fp1 n P1 St1) (D2 : Draws prog w A i2 fp2 n P2 St2)
    (hz : IsZipS s.heap z TI TO .none) (hTI : IsTupOf2 s.heap TI (.ref i1) (.ref i2)) (hTO : IsTupOf2 s.heap TO a1 a2) (st1 : St1 n s.heap) (st2 : St2 n s.heap)
    (hE : ∀ h' e, (∀ c o, c ≠ z → c ≠ TO → c ≠ i1 → c ≠ i2 → s.heap.get? c = some o → h'.get? c = some o) → (∃ o, h'.get? e = some o ∧ o.cls = .type "StopIteration") → E (.ref e) { s with heap := h' }) :
    wpAny (model prog w) A (Builtin.«zip.__next__» ⟨[.ref z], []⟩) Q E s := by
  obtain ⟨hp, gs, dr, tk0, os⟩ := s
  show wpAny _ _ (field (.ref z) 2 >>= _) _ _ _
  refine wpAny_bind (wpAny_field hz rfl (x := .bool true) rfl ?_)
  show wpAny _ _ (field (.ref z) 3 >>= _) _ _ _
  refine wpAny_bind (wpAny_field hz rfl (x := .ref TI) rfl (wpAny_bind (wpAny_seqItems hTI rfl ?_)))
  show wpAny _ _ (ownedTupleIsFree (.ref z) >>= _) _ _ _
  refine wpAny_bind ?_
  unfold ownedTupleIsFree
  refine wpAny_bind (wpAny_field hz rfl (x := .none) rfl (wpAny_pure ?_))
  simp only [if_true]
  refine wpAny_bind (wpAny_rule (wpAny_bind (wpAny_field hz rfl (x := .ref TO) rfl (wpAny_bind (wpAny_setField_rec hz (by simp) fun g0 hz0 hs0 => ?_)))))
  replace hz0 : IsZipS g0 z TI TO .ellipsis := hz0
  replace hs0 : Heap.SameBut z hp g0 := hs0
  refine wpAny_bind ?_
  simp only [List.zipIdx_cons, List.zipIdx_nil, List.forIn_cons, List.forIn_nil]
  refine wpAny_bind (wpAny_bind (wpAny_onRaise ?_))
  show wpAny _ _ (nextOrEnd (.ref i1)) _ _ ⟨g0, gs, dr, tk0, os⟩
  refine orEnd_done D1 (D1.over st1 hs0 S.zf1) fun p1 hp1 => ?_
  replace hp1 : Heap.ExtBut i1 g0 p1 := hp1
  have hz1 : IsZipS p1 z TI TO .ellipsis := hp1 _ _ S.zi1 hz0
  refine wpAny_bind (wpAny_setField_rec hz1 (by simp) fun g1 hz2 hs1 => ?_)
  replace hs1 : Heap.SameBut z p1 g1 := hs1
  refine wpAny_bind (wpAny_bind (wpAny_bind ?_))
  show wpAny _ _ (nextOrEnd (.ref i2) >>= _) _ _ ⟨g1, gs, dr, tk0, os⟩
  refine wpAny_bind (orEnd_done D2 (D2.over (D2.frame _ _ _ (D2.over st2 hs0 S.zf2) fun b hb o e => hp1 b o (fun q => S.sep1_2 (q ▸ hb)) e) hs1 S.zf2) fun p2 hp2 => ?_)
  replace hp2 : Heap.ExtBut i2 g1 p2 := hp2
  simp only [Option.isSome_none, Bool.false_eq_true, if_false]
  refine wpAny_pure (wpAny_pure (wpAny_bind (wpAny_rule ?_)))
  show wpAny _ _ (newExc (.type "StopIteration") [] >>= _) _ _ _
  refine wpAny_bind ?_
  simp only [newExc, newTuple]
  refine wpAny_bind (wpAny_newObj_type ?_ (by size_fits))
  refine wpAny_bind (m := firstArgMember _ _) (wpAny_of_eq (a := Value.none) (by first | rfl | (simp only [firstArgMember]; rfl)) ?_)
  refine wpAny_newObj_type ?_ (by size_fits)
  simp only [raiseNew]
  refine wpAny_bind (wpAny_handled ?_)
  rw [hh]
  refine wpAny_bind (wpAny_pure (wpAny_throw ?_))
  exact hE _ _ (fun c o cz cT c1 c2 e => Heap.get?_push_of_some _ (Heap.get?_push_of_some _ (hp2 _ _ c2 (hs1.extBut _ _ cz (hp1 _ _ c1 (hs0.extBut _ _ cz e)))))) ⟨_, Heap.get?_push_size _ rfl, rfl⟩
end

/-! ### sources: a list or a tuple -/
def SqB (K : PySem.W.Frag) (t : Bool) (H : Hp) (a : Addr) (xs : List V) : Prop := match t with | true => SqT K H a xs | false => SqL K H a xs
def ItB (t : Bool) (h : Heap) (it a : Addr) (i : Nat) : Prop := match t with | true => h.IsTupleIter it a i | false => h.IsListIter it a i
def SeB (t : Bool) (h : Heap) (a : Addr) (its : Array Value) : Prop := match t with | true => h.IsTuple a its | false => h.IsList a its
def oB (t : Bool) (a : Addr) : Obj := match t with | true => { cls := .type "tuple_iterator", data := .fields #[.ref a, .int 0 0] } | false => { cls := .type "list_iterator", data := .fields #[.ref a, .int 0 0] }
theorem beginsB (t : Bool) (a : Addr) (its : Array Value) : Begins (.ref a) (oB t a) fun h => SeB t h a its := by
  cases t
  · exact begins_list a its
  · exact begins_tuple a its
theorem oB_it (t : Bool) {h : Heap} {it a : Addr} (e : h.get? it = some (oB t a)) : ItB t h it a 0 := by
  cases t
  · exact ⟨_, e, rfl, rfl⟩
  · exact ⟨_, e, rfl, rfl⟩
theorem ItB.at {t : Bool} {h h' : Heap} {it a : Addr} {i : Nat} (x : ItB t h it a i) (k : ∀ o, h.get? it = some o → h'.get? it = some o) : ItB t h' it a i := by
  cases t
  · exact Heap.IsListIter.at x k
  · exact Heap.IsTupleIter.at x k
theorem ItB.obj {t : Bool} {h : Heap} {it a : Addr} {i : Nat} (x : ItB t h it a i) : ∃ o, h.get? it = some o ∧ ∀ v, o.data ≠ .cell v := by
  cases t
  · obtain ⟨o, e, _, d⟩ := x
    exact ⟨o, e, fun v q => by rw [d] at q; cases q⟩
  · obtain ⟨o, e, _, d⟩ := x
    exact ⟨o, e, fun v q => by rw [d] at q; cases q⟩
section
variable {prog : Program} {w : World} {A : Around}
theorem drawsB (hh : A.handled = none) (t : Bool) (it a : Addr) (ne : a ≠ it) (its : Array Value) : Draws prog w A it [it, a] its.size (fun i v => its[i]? = some v) (fun i h => ItB t h it a i ∧ SeB t h a its) := by
  cases t
  · exact Draws.list hh it a ne its
  · exact Draws.tuple hh it a ne its
end
section
variable {X : Cx} {pins : List (Addr × Obj)} {σ : L2.St} {H : Hp} {s : Shared} {a : Addr} {xs ys : List V} {t : Bool}
theorem sqB_inv (I : Inv X pins σ H s) (h : SqB X.K t H a xs) : ∃ its : List Value, Vals xs its ∧ SeB t s.heap a its.toArray ∧ a < s.heap.objs.size := by
  cases t
  · obtain ⟨its, r, p, _⟩ := I.list h
    exact ⟨its, r, p.isList, p.lt⟩
  · obtain ⟨its, r, p, _⟩ := I.tuple h
    exact ⟨its, r, p, p.lt⟩
theorem sqB_inj (I : Inv X pins σ H s) (h : SqB X.K t H a xs) (h' : SqB X.K t H a ys) : xs = ys := by
  cases t
  · exact I.list_inj h h'
  · exact I.tuple_inj h h'
end
/-- both sources as they stand at each turn, of one length -/
def Itzs (K : PySem.W.Frag) (t1 t2 : Bool) (a b : Addr) : It :=
  ⟨fun i H => ∃ (xs ys : List V) (x y : V), SqB K t1 H a xs ∧ SqB K t2 H b ys ∧ xs.length = ys.length ∧ xs[i]? = some x ∧ ys[i]? = some y,
    fun i H v H' => ∃ T x y, v = .ref T ∧ H T = none ∧ H' = upd H T (.tup [x, y]) ∧ (∀ xs, SqB K t1 H a xs → xs[i]? = some x) ∧ ∀ ys, SqB K t2 H b ys → ys[i]? = some y,
    fun i H => ∃ xs ys : List V, SqB K t1 H a xs ∧ SqB K t2 H b ys ∧ xs.length = i ∧ ys.length = i⟩
section
variable {prog : Program} {w : World} {A : Around} {E : Value → Shared → Prop} {s : Shared}
theorem zs_iter {z TI TO : Addr} {f0 : Value} {Q : Value → Shared → Prop} (hz : IsZipS s.heap z TI TO f0) (h : Q (.ref z) s) : wpAny (model prog w) A (pyIter (.ref z)) Q E s := by
  have hT : s.TypeIs (.ref z) "zip" := ⟨_, hz, rfl⟩
  refine wpAny_pyIter_slot hT F.slot_zip_iter (wpAny_call_entry F.slot_zip_iter hT F.entry_zip_iter ?_ (F.args_zip_iter_1 _))
  show wpAny _ _ (ret (.ref z)) _ _ s
  exact wpAny_pure ⟨_, rfl, "zip", _, hT, F.slot_zip_next.lookup, h⟩
theorem zs_go {elts : List Expr} {x1} {pos : Pos} {z TI TO T : Addr} {Q : Unit → Shared → Prop} (hz : IsZipS s.heap z TI TO (rawInt T)) (hQ : ∀ h', IsZipS h' z TI TO .none → Heap.SameBut z s.heap h' → Q () { s with heap := h' }) :
    wpAny (model prog w) A (letOwnedTupleGo (.Tuple elts x1 pos) (.ref z) (.ref T)) Q E s := by
  unfold letOwnedTupleGo
  refine wpAny_bind (wpAny_load hz ?_)
  show wpAny _ _ (if (["enumerate", "zip", "dict_itemiterator", "dict_reverseitemiterator", "odict_iterator", "itertools.zip_longest", "itertools.pairwise"].contains "zip" &&
      (#[rawInt T, .bool false, .bool true, .ref TI, .ref TO] : Array Value)[0]? == some (rawInt T)) = true then _ else _) Q E s
  rw [if_pos (by simp)]
  refine wpAny_bind (wpAny_rule ?_)
  show wpAny _ _ (setField (.ref z) 0 .none) Q E s
  exact wpAny_setField_rec hz (by simp) fun h' hz' hs' => hQ h' hz' hs'
end
theorem turn_zs {P : Program} {w : World} {K : PySem.W.Frag} {elts : List Expr} {kk : Nat} {tpos : Pos} {a b z TI TO i1 i2 : Addr} (t1 t2 : Bool) (S : ZipSep2 z TI TO i1 i2 [i1, a] [i2, b]) (ne1 : a ≠ i1) (ne2 : b ≠ i2) :
    Turn P w K (.Tuple elts kk tpos) (Itzs K t1 t2 a b) [z, TI, TO, i1, i2] z (fun i h => IsZipS h z TI TO .none ∧ IsTupOf2 h TI (.ref i1) (.ref i2) ∧ (∃ x y, IsTupOf2 h TO x y) ∧ ItB t1 h i1 a i ∧ ItB t2 h i2 b i) := by
  have five : ∀ {c}, c ∈ [z, TI, TO, i1, i2] → c = z ∨ c = TI ∨ c = TO ∨ c = i1 ∨ c = i2 := fun h => by simpa using h
  have nofive : ∀ {c}, c ∉ [z, TI, TO, i1, i2] → c ≠ z ∧ c ≠ TI ∧ c ≠ TO ∧ c ≠ i1 ∧ c ≠ i2 := fun h => by simpa using h
  refine
  { mem := by simp
    obj := fun i h st c hc => ?_
    keep := fun i h h' st k => ?_
    item := ?_
    done := ?_
    self := fun A i s Q E st h => zs_iter st.1 h }
  · obtain ⟨hz, hTI, ⟨x, y, hTO⟩, h1, h2⟩ := st
    rcases five hc with rfl | rfl | rfl | rfl | rfl
    · exact ⟨_, hz, fun v q => by cases q⟩
    · exact ⟨_, hTI, fun v q => by cases q⟩
    · exact ⟨_, hTO, fun v q => by cases q⟩
    · exact h1.obj
    · exact h2.obj
  · obtain ⟨hz, hTI, ⟨x, y, hTO⟩, h1, h2⟩ := st
    exact ⟨k z (by simp) _ hz, k TI (by simp) _ hTI, ⟨x, y, k TO (by simp) _ hTO⟩, h1.at fun o q => k i1 (by simp) o q, h2.at fun o q => k i2 (by simp) o q⟩
  · intro X hP hw hK hc i pins s σ H E I hf st hg
    subst hP hw hK
    obtain ⟨hz, hTI, ⟨x0, y0, hTO⟩, h1, h2⟩ := st
    obtain ⟨xs, ys, x, y, hqx, hqy, hl, hx, hy⟩ := hg
    obtain ⟨its, rv, p1, _⟩ := sqB_inv I hqx
    obtain ⟨its2, rv2, p2, _⟩ := sqB_inv I hqy
    obtain ⟨u, hu, ru⟩ := rv.get hx
    obtain ⟨u2, hu2, ru2⟩ := rv2.get hy
    have hh := I.ok.hd hc
    have hzl : z < s.heap.objs.size := Heap.lt_size hz
    have il : i < its.toArray.size := by
      have := (List.getElem?_eq_some_iff.mp hu).1
      simpa using this
    have D1 := drawsB (prog := X.prog) (w := X.w) (A := X.A.in1) hh t1 i1 a ne1 its.toArray
    have D2 := drawsB (prog := X.prog) (w := X.w) (A := X.A.in1) hh t2 i2 b ne2 its2.toArray
    have le : its2.toArray.size = its.toArray.size := by
      have l1 := rv.length
      have l2 := rv2.length
      simp only [List.size_toArray]
      omega
    rw [le] at D2
    have hT : s.TypeIs (.ref z) "zip" := ⟨_, hz, rfl⟩
    unfold pyNext
    refine wpAny_bind (wpAny_attempt (wpAny_callSpecial?_slot (name := Str.ofString "__next__") hT F.slot_zip_next (wpAny_call_entry F.slot_zip_next hT F.entry_zip_next
      (zs_item S D1 D2 hz hTI hTO ⟨h1, p1⟩ ⟨h2, p2⟩ il fun v1 v2 h' tk hv1 hv2 z' TO' n1 n2 hT' hsz hk => ?_) (F.args_zip_next_1 _))))
    have e1 : v1 = u := by
      have hv1 : its[i]? = some v1 := by simpa using hv1
      rw [hu] at hv1
      exact (Option.some.inj hv1).symm
    have e2 : v2 = u2 := by
      have hv2 : its2[i]? = some v2 := by simpa using hv2
      rw [hu2] at hv2
      exact (Option.some.inj hv2).symm
    subst e1 e2
    refine wpAny_pure ⟨_, rfl, zs_go (s := { s with heap := h', toks := tk }) z' fun h'' z'' sb => ?_⟩
    replace sb : Heap.SameBut z h' h'' := sb
    have hT2 : h''.get? s.heap.objs.size = some { cls := .type "tuple", data := .seq #[v1, v2] } := (sb.2 _ (Nat.ne_of_gt hzl)).trans hT'
    have new : ObjOk X.prog X.w (upd H s.heap.objs.size (.tup [x, y])) h'' s.heap.objs.size (.tup [x, y]) := ⟨by show 2 ≤ sizeLine; decide, [v1, v2], .cons ru (.cons ru2 .nil), ⟨_, hT2, rfl, _, rfl⟩⟩
    have I1 : Inv X pins σ (upd H s.heap.objs.size (.tup [x, y])) { s with heap := h'', toks := tk } :=
      I.turnedNew (t' := tk) (ch := [z, TI, TO, i1, i2]) (fun c o hb q => by
        obtain ⟨c1, c2, c3, c4, c5⟩ := nofive hb
        exact (sb.2 c c1).trans (hk c o c1 c3 c4 c5 q)) hf (Nat.le_refl _) new
    refine ⟨.ref s.heap.objs.size, _, I1, rfl, ⟨_, x, y, rfl, I.hok.fresh (Nat.le_refl _), rfl, fun l hl => by rw [sqB_inj I hl hqx]; exact hx, fun l hl => by rw [sqB_inj I hl hqy]; exact hy⟩, ⟨z'', ?_, ⟨v1, v2, ?_⟩, ?_, ?_⟩, fun c hcm => ?_⟩
    · exact (sb.2 _ S.TIz).trans (hk _ _ S.TIz S.TITO S.TIi1 S.TIi2 hTI)
    · exact (sb.2 _ S.TOz).trans TO'
    · exact n1.1.at fun o q => (sb.2 _ S.zi1.symm).trans q
    · exact n2.1.at fun o q => (sb.2 _ S.zi2.symm).trans q
    · have hlt : c < s.heap.objs.size := by
        rcases five hcm with q | q | q | q | q
        · rw [q]; exact hzl
        · rw [q]; exact Heap.lt_size hTI
        · rw [q]; exact Heap.lt_size hTO
        · rw [q]; obtain ⟨_, e1, _⟩ := h1.obj; exact Heap.lt_size e1
        · rw [q]; obtain ⟨_, e2, _⟩ := h2.obj; exact Heap.lt_size e2
      rw [upd_ne (Nat.ne_of_lt hlt)]
      exact (hf c hcm).1
  · intro X hP hw hK hc i pins s σ H E I hf st hg
    subst hP hw hK
    obtain ⟨hz, hTI, ⟨x0, y0, hTO⟩, h1, h2⟩ := st
    obtain ⟨xs, ys, hqx, hqy, l1, l2⟩ := hg
    obtain ⟨its, rv, p1, _⟩ := sqB_inv I hqx
    obtain ⟨its2, rv2, p2, _⟩ := sqB_inv I hqy
    have hh := I.ok.hd hc
    have z1 : its.toArray.size = i := by rw [List.size_toArray, ← rv.length, l1]
    have z2 : its2.toArray.size = i := by rw [List.size_toArray, ← rv2.length, l2]
    have D1 := drawsB (prog := X.prog) (w := X.w) (A := X.A.in1) hh t1 i1 a ne1 its.toArray
    have D2 := drawsB (prog := X.prog) (w := X.w) (A := X.A.in1) hh t2 i2 b ne2 its2.toArray
    rw [z1] at D1
    rw [z2] at D2
    have hT : s.TypeIs (.ref z) "zip" := ⟨_, hz, rfl⟩
    unfold pyNext
    refine wpAny_bind (wpAny_attempt (wpAny_callSpecial?_slot (name := Str.ofString "__next__") hT F.slot_zip_next (wpAny_call_entry F.slot_zip_next hT F.entry_zip_next
      (zs_end (by exact hh) S D1 D2 hz hTI hTO ⟨h1, p1⟩ ⟨h2, p2⟩ fun h' e hk he => ?_) (F.args_zip_next_1 _))))
    obtain ⟨o, ho, hc'⟩ := he
    refine wpAny_bind (wpAny_isInstance (T := "StopIteration") (b := true) ⟨o, ho, hc'⟩ isSubtype_stop (wpAny_pure ⟨rfl, ?_⟩))
    exact I.turnedL (t' := s.toks) (ch := [z, TI, TO, i1, i2]) (fun c o hb q => by
      obtain ⟨c1, c2, c3, c4, c5⟩ := nofive hb
      exact hk c o c1 c3 c4 c5 q) hf
/-! ### the call -/
theorem typeCall_zs (a b : Value) : checkTypeCall "zip" ⟨[a, b], [(Str.ofString "strict", .bool true)]⟩ = pure () := by kernel_rfl
theorem newCall_zs (a b : Value) : checkBuiltinCall "zip.__new__" ⟨[.type "zip", a, b], [(Str.ofString "strict", .bool true)]⟩ = pure () := by kernel_rfl
theorem init_zs (obj a b : Value) : argsOk "object.__init__" ⟨[obj, a, b], [(Str.ofString "strict", .bool true)]⟩ := by unfold argsOk; kernel_rfl
abbrev zsZ (h : Heap) (o1 o2 : Obj) : Heap := (gzO2 h o1 o2).push { cls := .type "zip", data := .fields #[.none, .bool false, .bool true, .ref ((h.push o1).push o2).objs.size, .ref (gzT2 h o1 o2).objs.size] }
theorem meets_zs {v1 v2 : Value} {o1 o2 : Obj} {H1 H2 : Heap → Prop} (B1 : Begins v1 o1 H1) (B2 : Begins v2 o2 H2) :
    Meets (Builtin.«zip.__new__» ⟨[.type "zip", v1, v2], [(Str.ofString "strict", .bool true)]⟩) (fun _ R s => (H1 s.heap ∧ H2 s.heap) ∧ R (.ok (.ret (.ref (gzO2 s.heap o1 o2).objs.size))) { s with heap := zsZ s.heap o1 o2 }) :=
  .of_wp fun prog w A R s h => by
    obtain ⟨hp, g, d, tk, os⟩ := s; obtain ⟨⟨h1, h2⟩, h⟩ := h
    have hsub := sub_zip
    have q1 : ∀ {A' : Around} {E : Value → Shared → Prop} {Q : Value → Shared → Prop}, Q (.ref hp.objs.size) ⟨(hp.push o1), g, d, tk, os⟩ → wpAny (model prog w) A' (pyIter v1) Q E ⟨hp, g, d, tk, os⟩ :=
      fun q => B1.iter prog w _ _ ⟨hp, g, d, tk, os⟩ _ (B1.keeps _ _ h1 fun b o' e => e) q
    have q2 : ∀ {A' : Around} {E : Value → Shared → Prop} {Q : Value → Shared → Prop}, Q (.ref (hp.push o1).objs.size) ⟨((hp.push o1).push o2), g, d, tk, os⟩ → wpAny (model prog w) A' (pyIter v2) Q E ⟨(hp.push o1), g, d, tk, os⟩ :=
      fun q => B2.iter prog w _ _ ⟨(hp.push o1), g, d, tk, os⟩ _ (B2.keeps _ _ h2 fun b o' e => (Heap.get?_push_of_some _ e)) q
    have e1 : (Str.ofString "strict" != ("strict" : Str)) = false := by decide +kernel
    wp_walk using q1, q2
    exact ⟨_, rfl, h⟩
end My

set_option Elab.async false
set_option linter.all false
set_option maxRecDepth 100000
set_option maxHeartbeats 1000000
namespace My
open PySem PySem.Spec PyProof.Rows L2 Evl Builtin.SmallTypes
/-- a built-in class called with keywords -/
theorem callTy_kw {M : Model} {A : Around} {E : Value → Shared → Prop} {s : Shared} {env : Env} {pos : Pos} {T : String} {e : Expr} {rest : List Expr} {kws : List Keyword} {Q : Value → Shared → Prop}
    (h : wpAny M A (spliced (backTo pos (starEach (e :: rest) env))) (fun vs s1 => wpAny M A (evalAll ((backToKw pos (keywordEach kws env)).map (·.2)))
      (fun ks s2 => wpAny M A (call (.type T) vs (((backToKw pos (keywordEach kws env)).filterMap (·.1)).zip ks)) Q E s2) E s1) E s)
    (he : backTo pos (starEach (e :: rest) env) = (false, eval e env) :: backTo pos (starEach rest env)) (h1 : (backTo pos (starEach (e :: rest) env)).any (·.1) = false)
    (h2 : (backToKw pos (keywordEach kws env)).all (·.1.isSome) = true) (h3 : (backToKw pos (keywordEach kws env)).any (·.1.isNone) = false) :
    wpAny M A (callWith pos (.type T) [] (backTo pos (starEach (e :: rest) env)) (backToKw pos (keywordEach kws env))) Q E s := by
  have a : wpAny M A (evalArgs (.type T) true (backTo pos (starEach (e :: rest) env)) (backToKw pos (keywordEach kws env))) (fun a s1 => wpAny M A (call (.type T) ([] ++ a.pos) a.kw) Q E s1) E s := by
    rw [he] at h ⊢
    exact PyProof.Rows.evalArgs_kwB h2 h
  unfold callWith
  refine wpAny_bind (wpAny_holding (wpAny_mono a (fun a s1 q => wpAny_bind (wpAny_standAt ?_)) fun _ _ x => x))
  simp only [h1, h3, Bool.or_false]
  refine wpAny_bind (wpAny_pure (wpAny_bind (wpAny_mono q (fun r s2 hr => ?_) fun _ _ x => x)))
  exact wpAny_bind (wpAny_holding (wpAny_point (wpAny_pure hr)))
theorem sep_zs {n a b : Nat} (ha : a < n) (hb : b < n) : ZipSep2 (n + 4) (n + 2) (n + 3) n (n + 1) [n, a] [n + 1, b] := by
  refine ⟨?_, ?_, ?_, ?_, ?_, ?_, ?_, ?_, ?_, ?_, ?_, ?_, ?_⟩ <;> (try simp only [List.mem_cons, List.not_mem_nil, or_false, not_or, ne_eq]) <;> (try unfold Addr at *) <;> (first | omega | exact .inl rfl | exact .inl trivial)
def iZs (K : PySem.W.Frag) (t1 t2 : Bool) (ta : TA) : TI := fun σ H R => ta σ H fun vs H1 => ∃ a b xs ys, vs = [.ref a, .ref b] ∧ SqB K t1 H1 a xs ∧ SqB K t2 H1 b ys ∧ R (Itzs K t1 t2 a b) H1
theorem pi_zs {X : Cx} {e : Expr} {es : List Expr} {ta : TA} {p pos tpos : Pos} {kws : List Keyword} {elts : List Expr} {kk : Nat} (t1 t2 : Bool) (hg : Gl X "zip") (hm : X.mg "zip" = none) (ha : PA X (e :: es) ta) (hk : PK X kws (tCons (tC (.bl true)) tNil))
    (he : backTo pos (starEach (e :: es) X.env) = (false, eval e X.env) :: backTo pos (starEach es X.env) := by rfl) (hpl : (backTo pos (starEach (e :: es) X.env)).any (·.1) = false := by rfl)
    (hks : (backToKw pos (keywordEach kws X.env)).filterMap (·.1) = [Str.ofString "strict"] := by rfl)
    (hall : (backToKw pos (keywordEach kws X.env)).all (·.1.isSome) = true := by rfl) (hnone : (backToKw pos (keywordEach kws X.env)).any (·.1.isNone) = false := by rfl) :
    PI X (.Tuple elts kk tpos) (.Call (.Name "zip" p) (e :: es) kws pos) (iZs X.K t1 t2 ta) := by
  refine ⟨fun pins s σ H R I h => ?_⟩
  refine wpAny_Call_Name_kw (ld_blt I hg hm PyProof.Rows.boot_zip ?_)
  refine callTy_kw (thn (ha.run pos pins s σ H _ I h) fun us s1 h1 => ?_) he hpl hall hnone
  obtain ⟨vs, H1, I1, r1, q1⟩ := h1
  refine thn (hk.run pos pins s1 σ H1 (fun zs H2 => zs = [.bl true] ∧ H2 = H1) I1 ⟨rfl, rfl⟩) fun ws s2 h2 => ?_
  obtain ⟨zs, H2, I2, r2, ez, eh⟩ := h2
  subst ez
  subst eh
  obtain ⟨a, b, xs, ys, rfl, hqx, hqy, q⟩ := q1
  have ew : ws = [.bool true] := by
    cases r2 with
    | cons r rr =>
      cases rr
      rw [show _ = Value.bool true from r]
  obtain ⟨u1, u2, rfl, ra, rb⟩ := vals2 r1
  cases (show u1 = Value.ref a from ra)
  cases (show u2 = Value.ref b from rb)
  rw [hks, ew]
  obtain ⟨its, rv, p1, la⟩ := sqB_inv I2 hqx
  obtain ⟨its2, rv2, p2, lb⟩ := sqB_inv I2 hqy
  refine callType_newKw F.called_zip (by decide) (typeCall_zs _ _) (newCall_zs _ _) (fun obj => init_zs obj _ _) F.entry_zip_new (meets_zs (beginsB t1 a its.toArray) (beginsB t2 b its2.toArray)) ⟨⟨p1, p2⟩, ?_⟩
  have z1 : (s2.heap.push (oB t1 a)).objs.size = s2.heap.objs.size + 1 := by rw [Heap.size_push]
  have z2 : ((s2.heap.push (oB t1 a)).push (oB t2 b)).objs.size = s2.heap.objs.size + 2 := by rw [Heap.size_push, z1]
  have zT : (gzT2 s2.heap (oB t1 a) (oB t2 b)).objs.size = s2.heap.objs.size + 3 := by rw [Heap.size_push, z2]
  have zO : (gzO2 s2.heap (oB t1 a) (oB t2 b)).objs.size = s2.heap.objs.size + 4 := by rw [Heap.size_push, zT]
  have f1 := (beginsB t1 a its.toArray).free
  have f2 := (beginsB t2 b its2.toArray).free
  have gZ : (zsZ s2.heap (oB t1 a) (oB t2 b)).get? (gzO2 s2.heap (oB t1 a) (oB t2 b)).objs.size = some _ := Heap.get?_push_size _ rfl
  have gO : (zsZ s2.heap (oB t1 a) (oB t2 b)).get? (gzT2 s2.heap (oB t1 a) (oB t2 b)).objs.size = some _ := Heap.get?_push_of_some _ (Heap.get?_push_size _ rfl)
  have gT : (zsZ s2.heap (oB t1 a) (oB t2 b)).get? ((s2.heap.push (oB t1 a)).push (oB t2 b)).objs.size = some _ := Heap.get?_push_of_some _ (Heap.get?_push_of_some _ (Heap.get?_push_size _ rfl))
  have g1 : (zsZ s2.heap (oB t1 a) (oB t2 b)).get? s2.heap.objs.size = some (oB t1 a) := Heap.get?_push_of_some _ (Heap.get?_push_of_some _ (Heap.get?_push_of_some _ (Heap.get?_push_of_some _ (Heap.get?_push_size _ f1))))
  have g2 : (zsZ s2.heap (oB t1 a) (oB t2 b)).get? (s2.heap.push (oB t1 a)).objs.size = some (oB t2 b) := Heap.get?_push_of_some _ (Heap.get?_push_of_some _ (Heap.get?_push_of_some _ (Heap.get?_push_size _ f2)))
  have keep : ∀ c o, s2.heap.get? c = some o → (zsZ s2.heap (oB t1 a) (oB t2 b)).get? c = some o := fun c o e => Heap.get?_push_of_some _ (Heap.get?_push_of_some _ (Heap.get?_push_of_some _ (Heap.get?_push_of_some _ (Heap.get?_push_of_some _ e))))
  rw [zO, zT, z2] at gZ
  rw [zT] at gO
  rw [z2, z1] at gT
  rw [z1] at g2
  generalize zsZ s2.heap (oB t1 a) (oB t2 b) = h' at gZ gO gT g1 g2 keep
  show _ ∧ _
  rw [zO]
  refine ⟨⟨_, gZ, rfl⟩, zs_iter gZ ?_⟩
  have I3 : Inv X pins σ H2 { s2 with heap := h' } := I2.kept (t' := s2.toks) keep
  refine ⟨s2.heap.objs.size + 4, [s2.heap.objs.size + 4, s2.heap.objs.size + 2, s2.heap.objs.size + 3, s2.heap.objs.size, s2.heap.objs.size + 1], _, _, H2, rfl, I3, turn_zs t1 t2 (sep_zs la lb) (Nat.ne_of_lt la) (Nat.ne_of_lt (Nat.lt_succ_of_lt lb)), ⟨gZ, gT, ⟨_, _, gO⟩, oB_it t1 g1, oB_it t2 g2⟩, fun c hcm => ?_, q⟩
  have e' : c = s2.heap.objs.size + 4 ∨ c = s2.heap.objs.size + 2 ∨ c = s2.heap.objs.size + 3 ∨ c = s2.heap.objs.size ∨ c = s2.heap.objs.size + 1 := by simpa using hcm
  have hle : s2.heap.objs.size ≤ c := by
    rcases e' with z | z | z | z | z
    · rw [z]; exact Nat.le_add_right _ _
    · rw [z]; exact Nat.le_add_right _ _
    · rw [z]; exact Nat.le_add_right _ _
    · rw [z]; exact Nat.le_refl _
    · rw [z]; exact Nat.le_add_right _ _
  exact I2.fpOk hle (I2.hok.fresh hle)
end My

set_option Elab.async false
set_option linter.all false
set_option maxRecDepth 100000
set_option maxHeartbeats 1000000
/-! loops and comprehensions over ranges with a step; two clauses. -/
namespace My
open PySem PySem.Spec PyProof.Rows L2 Evl
theorem rgC_up {n c : Nat} (hn : n < 2 ^ 60) (hc : 0 < c) (hc2 : c < 1073741824) : RgC 0 (n : Int) (c : Int) ((n + c - 1) / c) := by
  have e : Builtin.Range.rangeSize 0 (n : Int) (c : Int) = (((n + c - 1) / c : Nat) : Int) := by
    unfold Builtin.Range.rangeSize
    rw [if_pos (by omega)]
    by_cases h : 0 < n
    · rw [if_pos (by omega), show (n : Int) - 0 - 1 = ((n - 1 : Nat) : Int) by omega, ← Int.natCast_ediv, show n + c - 1 = (n - 1) + c by omega, Nat.add_div_right _ hc]
      rfl
    · rw [if_neg (by omega), show n = 0 by omega, Nat.zero_add, Nat.div_eq_of_lt (by omega)]
      rfl
  refine ⟨by omega, by omega, ?_, e⟩
  unfold Builtin.Range.small
  rw [e]
  have b : (n + c - 1) / c ≤ n := by
    by_cases h : 0 < n
    · rw [show n + c - 1 = (n - 1) + c by omega, Nat.add_div_right _ hc]
      have := Nat.div_le_self (n - 1) c
      omega
    · rw [show n = 0 by omega, Nat.zero_add, Nat.div_eq_of_lt (by omega)]
      exact Nat.le_refl _
  have m : (n + c - 1) / c * c ≤ n + c - 1 := Nat.div_mul_le_self _ _
  generalize (n + c - 1) / c = d at b m
  have m2 : (d : Int) * (c : Int) ≤ (n : Int) + (c : Int) - 1 := by
    rw [← Int.natCast_mul]
    omega
  simp only [Builtin.Range.rangeFitsLong, Bool.and_eq_true, Bool.or_eq_true, decide_eq_true_eq, beq_iff_eq]
  refine ⟨⟨⟨⟨⟨by omega, by omega⟩, by omega, by omega⟩, by omega, by omega⟩, by omega, by omega⟩, .inr ?_⟩
  rw [if_pos (by omega), Bool.and_eq_true, decide_eq_true_eq, decide_eq_true_eq]
  exact ⟨by omega, by omega⟩
section
variable {K : PySem.W.Frag} {σ : L2.St} {H H' : Hp} {ta : TA} {tb te tl : TE} {xs ys : List V} {x z v : V} {p : Addr} {D : Ends} {tu tz : TS} {g : TG}
theorem s_forR3 {j n : Nat} {lo hi c : Int} (h : EvA ta σ H [.int lo, .int hi, .int c]) (hn : RgC lo hi c n) (Pv : Nat → L2.St → Hp → Prop) (h0 : ∀ H1, Ex H H1 → Pv 0 σ H1)
    (hs : ∀ (i : Nat) σ' H', i < n → Pv i σ' H' → tu { D with nx := Pv (i + 1), ct := Pv (i + 1), bk := D.nx } (σ'.set j (some (.int (lo + (i : Nat) * c)))) H') (hd : ∀ σ' H', Pv n σ' H' → D.nx σ' H') : tFor (iRng3 ta) (gName j) tu D σ H :=
  h H (Ex.refl H) _ fun H1 e => ⟨lo, hi, c, n, rfl, hn, for_rangeC Pv (h0 H1 e) (fun i σ' H' hi p => hs i σ' H' hi p) hd⟩
theorem q_forR3 {j n : Nat} {lo hi c : Int} (h : EvA ta σ H [.int lo, .int hi, .int c]) (hn : RgC lo hi c n) (Pv : Nat → L2.St → Hp → Prop) (h0 : ∀ H1, Ex H H1 → Pv 0 σ H1)
    (hs : ∀ (i : Nat) σ' H', i < n → Pv i σ' H' → tu { D with nx := Pv (i + 1), ct := Pv (i + 1), bk := tz D } (σ'.set j (some (.int (lo + (i : Nat) * c)))) H') (hd : ∀ σ' H', Pv n σ' H' → tz D σ' H') : tSeq (tFor (iRng3 ta) (gName j) tu) tz D σ H :=
  s_forR3 (D := { D with nx := tz D }) h hn Pv h0 hs hd
theorem tyes_ {F : Bool → Hp → Prop} (h : F true H) : tYes σ H F := h
/-- a comprehension over a range with a step, no test -/
theorem el_lcR3 {j n : Nat} {vs : List Nat} {lo hi c : Int} (v : Nat → V) (h : EvA ta σ H [.int lo, .int hi, .int c]) (hn : RgC lo hi c n) (hz : n ≤ 40000) (hw : ∀ x, wipe ((wipe σ vs).set j (some x)) vs = wipe σ vs)
    (he : ∀ (i : Nat) H1, Ex H H1 → i < n → Ev te ((wipe σ vs).set j (some (.int (lo + (i : Nat) * c)))) H1 (v i)) : EvL (tLc (iRng3 ta) (gName j) tYes te vs) σ H ((List.range n).map v) := by
  intro H0 e Q q
  refine h H0 e _ fun H1 e1 => ⟨lo, hi, c, n, rfl, hn, fun Dl hD => ?_⟩
  refine ⟨fun i m H' => m = n - i ∧ i ≤ n ∧ Ex H1 H' ∧ H' Dl = some (.lst ((List.range i).map v)), ⟨n, rfl, Nat.zero_le _, Ex.new hD, upd_same⟩, ?_⟩
  rintro i m H' ⟨rfl, hi, ex, hl⟩
  by_cases hlt : i < n
  · refine .inr ⟨hlt, fun H' => Ex H1 H' ∧ H' Dl = some (.lst ((List.range (i + 1)).map v)), fun H2 p => ⟨n - (i + 1), by omega, rfl, hlt, p⟩, fun x H2 y => ?_⟩
    obtain ⟨rfl, rfl⟩ := y
    refine ⟨hw _, ?_⟩
    refine tyes_ ?_
    refine iteT (he i H1 (e.trans e1) hlt H2 ex _ fun H3 e3 => ⟨_, e3 Dl _ hl, sz_lt (by rw [List.length_map, List.length_range]; omega), (ex.trans e3).mut hD, ?_⟩)
    rw [upd_same, List.range_succ, List.map_append]
    rfl
  · have e0 : i = n := by omega
    subst e0
    exact .inl ⟨Nat.le_refl _, q Dl H' (fresh_back e1 hD) (e1.trans ex) hl⟩
/-- the items of two clauses: a list that stands, then a range with a step -/
def flat2 (n : Nat) (v : Nat → Nat → V) : Nat → List V
  | 0 => []
  | i + 1 => flat2 n v i ++ (List.range n).map (v i)
theorem flat2_len (n : Nat) (v : Nat → Nat → V) : ∀ i, (flat2 n v i).length = i * n
  | 0 => by simp [flat2]
  | i + 1 => by rw [flat2, List.length_append, flat2_len n v i, List.length_map, List.length_range, Nat.succ_mul]
theorem el_lc2 {a : Addr} {j1 j2 n : Nat} {vs vs1 : List Nat} {lo hi c : Int} (v : Nat → Nat → V) (h : Ev tl σ H (.ref a)) (hx : SqL K H a xs) (hn : RgC lo hi c n) (hz : xs.length * n ≤ 40000)
    (hw : ∀ x, wipe ((wipe σ vs).set j1 (some x)) vs = wipe σ vs) (hw1 : ∀ x y, wipe ((wipe ((wipe σ vs).set j1 (some x)) vs1).set j2 (some y)) vs1 = wipe ((wipe σ vs).set j1 (some x)) vs1)
    (ha : ∀ (i : Nat) (x : V) H1, Ex H H1 → xs[i]? = some x → EvA ta ((wipe σ vs).set j1 (some x)) H1 [.int lo, .int hi, .int c])
    (he : ∀ (i k : Nat) (x : V) H1, Ex H H1 → xs[i]? = some x → k < n → Ev te ((wipe ((wipe σ vs).set j1 (some x)) vs1).set j2 (some (.int (lo + (k : Nat) * c)))) H1 (v i k)) :
    EvL (tLc2 (iList K tl) (gName j1) tYes (iRng3 ta) (gName j2) tYes te vs vs1) σ H (flat2 n v xs.length) := by
  intro H0 e Q q
  refine h H0 e _ fun H1 e1 => ⟨a, rfl, ⟨xs, ex_l (e.trans e1) hx⟩, fun Dl hD => ?_⟩
  have E1 := e.trans e1
  refine ⟨fun i m H' => m = xs.length - i ∧ i ≤ xs.length ∧ Ex H1 H' ∧ H' Dl = some (.lst (flat2 n v i)), ⟨xs.length, rfl, Nat.zero_le _, Ex.new hD, upd_same⟩, ?_⟩
  rintro i m H' ⟨rfl, hi, ex, hl⟩
  by_cases hlt : i < xs.length
  · have gx : xs[i]? = some xs[i] := List.getElem?_eq_getElem hlt
    refine .inr ⟨⟨xs, xs[i], ex_l (E1.trans ex) hx, gx⟩, fun H' => Ex H1 H' ∧ H' Dl = some (.lst (flat2 n v (i + 1))), fun H2 p => ⟨xs.length - (i + 1), by omega, rfl, hlt, p⟩, fun x H2 y => ?_⟩
    obtain ⟨rfl, y⟩ := y
    have ex' : x = xs[i] := Option.some.inj ((y xs (ex_l (E1.trans ex) hx)).symm.trans gx)
    subst ex'
    refine ⟨hw _, ?_⟩
    refine tyes_ ?_
    refine iteT (ha i _ H1 E1 gx H2 ex _ fun H3 e3 => ⟨lo, _, c, n, rfl, hn, ?_⟩)
    refine ⟨fun k m H' => m = n - k ∧ k ≤ n ∧ Ex H1 H' ∧ H' Dl = some (.lst (flat2 n v i ++ (List.range k).map (v i))), ⟨n, rfl, Nat.zero_le _, ex.trans e3, by rw [List.range_zero, List.map_nil, List.append_nil]; exact e3 Dl _ hl⟩, ?_⟩
    rintro k m H4 ⟨rfl, hk, ex4, hl4⟩
    by_cases hkn : k < n
    · refine .inr ⟨hkn, fun H' => Ex H1 H' ∧ H' Dl = some (.lst (flat2 n v i ++ (List.range (k + 1)).map (v i))), fun H5 p => ⟨n - (k + 1), by omega, rfl, hkn, p⟩, fun x H5 y => ?_⟩
      obtain ⟨rfl, rfl⟩ := y
      refine ⟨hw1 _ _, ?_⟩
      refine tyes_ ?_
      refine iteT (he i k _ H1 E1 gx hkn H5 ex4 _ fun H6 e6 => ⟨_, e6 Dl _ hl4, sz_lt ?_, (ex4.trans e6).mut hD, ?_⟩)
      · rw [List.length_append, flat2_len, List.length_map, List.length_range]
        have : (i + 1) * n ≤ xs.length * n := Nat.mul_le_mul_right _ hlt
        rw [Nat.succ_mul] at this
        omega
      · rw [upd_same, List.range_succ, List.map_append, List.append_assoc]
        rfl
    · have e0 : k = n := by omega
      subst e0
      exact .inl ⟨Nat.le_refl _, ex4, hl4⟩
  · have e0 : i = xs.length := by omega
    subst e0
    exact .inl ⟨⟨xs, ex_l (E1.trans ex) hx, Nat.le_refl _⟩, q Dl H' (fresh_back e1 hD) (e1.trans ex) hl⟩
/-- ''.join of one-sign texts -/
theorem join_ones (l : List Nat) : Txt.join (tx []) (l.map fun c => tx [c]) = tx l := by
  show Builtin.Str.glued _ _ = _
  rw [StrLaws.glued_eq_join]
  have h : ∀ l : List Nat, Str.join (tx []) (l.map fun c => tx [c]) = tx l := by
    intro l
    induction l with
    | nil => rfl
    | cons c r ih =>
      cases r with
      | nil => rfl
      | cons d r =>
        show tx [c] ++ tx [] ++ Str.join (tx []) ((d :: r).map fun c => tx [c]) = _
        rw [ih, tx_app, tx_app]
        rfl
  exact h l
end

/-! ### zip of two, strict -/
def EvZ (K : PySem.W.Frag) (ta : TA) (σ : L2.St) (H : Hp) (t1 t2 : Bool) (xs ys : List V) : Prop := ∀ H1, Ex H H1 → ∀ Q : List V → Hp → Prop, (∀ a b H2, Ex H1 H2 → SqB K t1 H2 a xs → SqB K t2 H2 b ys → Q [.ref a, .ref b] H2) → ta σ H1 Q
section
variable {K : PySem.W.Frag} {σ : L2.St} {H H' : Hp} {ta : TA} {ta1 tb1 te tl : TE} {xs ys : List V} {x z v : V} {p : Addr} {D : Ends} {tu tz : TS} {g : TG} {t1 t2 : Bool}
theorem ex_b {a : Addr} (e : Ex H H') (h : SqB K t1 H a xs) : SqB K t1 H' a xs := by
  cases t1
  · exact ex_l e h
  · exact ex_t e h
theorem ez_gt (h2 : Ev tb1 σ H (.ref p)) (hp : SqL K H p ys) : EvZ K (tCons (tGT K xs) (tCons tb1 tNil)) σ H true false xs ys := fun H1 e Q q =>
  fun a ha => h2 H1 e _ fun H2 e2 => q a p H2 e2 (ha H2) (ex_l (e.trans e2) hp)
theorem ez_vn (h1 : Ev ta1 σ H (.ref p)) (hp : SqL K H p xs) (h2 : EvL tb1 σ H ys) : EvZ K (tCons ta1 (tCons tb1 tNil)) σ H false false xs ys := fun H1 e Q q =>
  h1 H1 e _ fun H2 e2 => h2 H2 (e.trans e2) _ fun b H3 _ e3 hb => q p b H3 (e2.trans e3) (ex_l ((e.trans e2).trans e3) hp) (sq_of hb)
theorem s_forZ {j1 j2 : Nat} (h : EvZ K ta σ H t1 t2 xs ys) (hl : xs.length = ys.length) (Pv : Hp → Nat → L2.St → Hp → Prop) (h0 : ∀ H1, Ex H H1 → Pv H1 0 σ H1) (hk : ∀ H1 i σ' H', Pv H1 i σ' H' → Ex H1 H')
    (hs : ∀ H1 i x y σ' H', Ex H H1 → xs[i]? = some x → ys[i]? = some y → Pv H1 i σ' H' → ∀ H2, Ex H' H2 → tu { D with nx := Pv H1 (i + 1), ct := Pv H1 (i + 1), bk := D.nx } ((σ'.set j1 (some x)).set j2 (some y)) H2)
    (hd : ∀ H1 σ' H', Ex H H1 → Pv H1 xs.length σ' H' → D.nx σ' H') : tFor (iZs K t1 t2 ta) (gTup K 2 (gCons (gName j1) (gCons (gName j2) gNil))) tu D σ H := by
  refine h H (Ex.refl H) _ fun a b H1 e ha hb => ⟨a, b, xs, ys, rfl, ha, hb, ?_⟩
  refine ⟨fun i m σ' H' => m = xs.length - i ∧ i ≤ xs.length ∧ Pv H1 i σ' H', ⟨xs.length, rfl, Nat.zero_le _, h0 H1 e⟩, ?_⟩
  rintro i m σ' H' ⟨rfl, hi, p⟩
  have ex := hk H1 i σ' H' p
  by_cases hlt : i < xs.length
  · have gx : xs[i]? = some xs[i] := List.getElem?_eq_getElem hlt
    have hlt2 : i < ys.length := by omega
    have gy : ys[i]? = some ys[i] := List.getElem?_eq_getElem hlt2
    refine .inr ⟨⟨xs, ys, _, _, ex_b ex ha, ex_b ex hb, hl, gx, gy⟩, Pv H1 (i + 1), fun σ2 H2 p2 => ⟨xs.length - (i + 1), by omega, rfl, hlt, p2⟩, fun v H2 y => ?_⟩
    obtain ⟨T, x', y', rfl, hT, rfl, f1, f2⟩ := y
    exact ⟨T, [x', y'], rfl, st_of upd_same, rfl, x', [y'], rfl, y', [], rfl, rfl, hs H1 i x' y' σ' H' e (f1 xs (ex_b ex ha)) (f2 ys (ex_b ex hb)) p _ (Ex.new hT)⟩
  · have e0 : i = xs.length := by omega
    subst e0
    exact .inl ⟨⟨xs, ys, ex_b ex ha, ex_b ex hb, rfl, hl.symm⟩, hd H1 σ' H' e p⟩
theorem q_forZ {j1 j2 : Nat} (h : EvZ K ta σ H t1 t2 xs ys) (hl : xs.length = ys.length) (Pv : Hp → Nat → L2.St → Hp → Prop) (h0 : ∀ H1, Ex H H1 → Pv H1 0 σ H1) (hk : ∀ H1 i σ' H', Pv H1 i σ' H' → Ex H1 H')
    (hs : ∀ H1 i x y σ' H', Ex H H1 → xs[i]? = some x → ys[i]? = some y → Pv H1 i σ' H' → ∀ H2, Ex H' H2 → tu { D with nx := Pv H1 (i + 1), ct := Pv H1 (i + 1), bk := tz D } ((σ'.set j1 (some x)).set j2 (some y)) H2)
    (hd : ∀ H1 σ' H', Ex H H1 → Pv H1 xs.length σ' H' → tz D σ' H') : tSeq (tFor (iZs K t1 t2 ta) (gTup K 2 (gCons (gName j1) (gCons (gName j2) gNil))) tu) tz D σ H :=
  s_forZ (D := { D with nx := tz D }) h hl Pv h0 hk hs hd
theorem el_lcZ {j1 j2 : Nat} {vs : List Nat} (v : Nat → V) (h : EvZ K ta σ H t1 t2 xs ys) (hl : xs.length = ys.length) (hz : xs.length ≤ 40000) (hw : ∀ x y, wipe (((wipe σ vs).set j1 (some x)).set j2 (some y)) vs = wipe σ vs)
    (he : ∀ (i : Nat) (x y : V) H1, Ex H H1 → xs[i]? = some x → ys[i]? = some y → Ev te (((wipe σ vs).set j1 (some x)).set j2 (some y)) H1 (v i)) :
    EvL (tLc (iZs K t1 t2 ta) (gTup K 2 (gCons (gName j1) (gCons (gName j2) gNil))) tYes te vs) σ H ((List.range xs.length).map v) := by
  intro H0 e Q q
  refine h H0 e _ fun a b H1 e1 ha hb => ⟨a, b, xs, ys, rfl, ha, hb, fun Dl hD => ?_⟩
  refine ⟨fun i m H' => m = xs.length - i ∧ i ≤ xs.length ∧ Ex H1 H' ∧ H' Dl = some (.lst ((List.range i).map v)), ⟨xs.length, rfl, Nat.zero_le _, Ex.new hD, upd_same⟩, ?_⟩
  rintro i m H' ⟨rfl, hi, ex, hll⟩
  by_cases hlt : i < xs.length
  · have gx : xs[i]? = some xs[i] := List.getElem?_eq_getElem hlt
    have hlt2 : i < ys.length := by omega
    have gy : ys[i]? = some ys[i] := List.getElem?_eq_getElem hlt2
    refine .inr ⟨⟨xs, ys, _, _, ex_b ex ha, ex_b ex hb, hl, gx, gy⟩, fun H' => Ex H1 H' ∧ H' Dl = some (.lst ((List.range (i + 1)).map v)), fun H2 p2 => ⟨xs.length - (i + 1), by omega, rfl, hlt, p2⟩, fun v' H2 y => ?_⟩
    obtain ⟨T, x', y', rfl, hT, rfl, f1, f2⟩ := y
    refine ⟨T, [x', y'], rfl, st_of upd_same, rfl, x', [y'], rfl, y', [], rfl, rfl, hw _ _, ?_⟩
    refine tyes_ ?_
    have eT : Ex H1 (upd H' T (.tup [x', y'])) := ex.trans (Ex.new hT)
    refine iteT (he i x' y' H1 (e.trans e1) (f1 xs (ex_b ex ha)) (f2 ys (ex_b ex hb)) _ eT _ fun H3 e3 => ⟨_, e3 Dl _ ((Ex.new hT) Dl _ hll), sz_lt (by rw [List.length_map, List.length_range]; omega), (eT.trans e3).mut hD, ?_⟩)
    rw [upd_same, List.range_succ, List.map_append]
    rfl
  · have e0 : i = xs.length := by omega
    subst e0
    exact .inl ⟨⟨xs, ys, ex_b ex ha, ex_b ex hb, rfl, hl.symm⟩, q Dl H' (fresh_back e1 hD) (e1.trans ex) hll⟩
end
section
variable {K : PySem.W.Frag} {σ : L2.St} {H H' : Hp} {ta : TA} {te : TE} {x y : V} {D : Ends} {tz : TS}
theorem s_par {i j : Nat} (h : EvA ta σ H [x, y]) (k : ∀ H1, Ex H H1 → D.nx ((σ.set i (some x)).set j (some y)) H1) : tPar i j ta D σ H := h H (Ex.refl H) _ fun H1 e => ⟨x, y, rfl, k H1 e⟩
theorem q_par {i j : Nat} (h : EvA ta σ H [x, y]) (k : ∀ H1, Ex H H1 → tz D ((σ.set i (some x)).set j (some y)) H1) : tSeq (tPar i j ta) tz D σ H := s_par (D := { D with nx := tz D }) h k
end
/-! ### several names at once -/
def gNs : List Nat → TGs
  | [] => gNil
  | i :: r => gCons (gName i) (gNs r)
def setN : L2.St → List Nat → List V → L2.St
  | σ, i :: is, v :: vs => setN (σ.set i (some v)) is vs
  | σ, _, _ => σ
theorem gNs_run : ∀ {is : List Nat} {vs : List V} {σ : L2.St} {H : Hp} {Q : L2.St → Hp → Prop}, vs.length = is.length → Q (setN σ is vs) H → gNs is vs σ H Q
  | [], [], _, _, _, _, q => ⟨rfl, q⟩
  | i :: is, v :: vs, σ, H, Q, h, q => ⟨v, vs, rfl, gNs_run (Nat.succ.inj h) q⟩
  | [], _ :: _, _, _, _, h, _ => nomatch h
  | _ :: _, [], _, _, _, h, _ => nomatch h
section
variable {K : PySem.W.Frag} {σ : L2.St} {H H' : Hp} {ta : TA} {te : TE} {vs : List V} {p : Addr} {D : Ends} {tz : TS} {n : Nat}
theorem s_unl (is : List Nat) (h : Ev te σ H (.ref p)) (hS : SqL K H p vs) (hn : vs.length = n) (hl : vs.length = is.length) (k : ∀ H1, Ex H H1 → D.nx (setN σ is vs) H1) : tAsg te (gUnl K n (gNs is)) D σ H :=
  h H (Ex.refl H) _ fun H1 e => ⟨p, vs, rfl, ex_l e hS, hn, gNs_run hl (k H1 e)⟩
theorem q_unl (is : List Nat) (h : Ev te σ H (.ref p)) (hS : SqL K H p vs) (hn : vs.length = n) (hl : vs.length = is.length) (k : ∀ H1, Ex H H1 → tz D (setN σ is vs) H1) : tSeq (tAsg te (gUnl K n (gNs is))) tz D σ H := s_unl (D := { D with nx := tz D }) is h hS hn hl k
theorem s_unt (is : List Nat) (h : Ev te σ H (.ref p)) (hS : SqT K H p vs) (hn : vs.length = n) (hl : vs.length = is.length) (k : ∀ H1, Ex H H1 → D.nx (setN σ is vs) H1) : tAsg te (gTup K n (gNs is)) D σ H :=
  h H (Ex.refl H) _ fun H1 e => ⟨p, vs, rfl, ex_t e hS, hn, gNs_run hl (k H1 e)⟩
theorem s_tupN (is : List Nat) (h : EvU te σ H vs) (hn : vs.length = n) (hl : vs.length = is.length) (k : ∀ H1, Ex H H1 → D.nx (setN σ is vs) H1) : tAsg te (gTup K n (gNs is)) D σ H :=
  h H (Ex.refl H) _ fun p H1 hp e h1 => ⟨p, vs, rfl, st_of h1, hn, gNs_run hl (k H1 e)⟩
theorem q_tupN (is : List Nat) (h : EvU te σ H vs) (hn : vs.length = n) (hl : vs.length = is.length) (k : ∀ H1, Ex H H1 → tz D (setN σ is vs) H1) : tSeq (tAsg te (gTup K n (gNs is))) tz D σ H := s_tupN (D := { D with nx := tz D }) is h hn hl k
theorem ru_inv {i : Int} : RU (rU fun i => .int (Builtin.bitNot i)) (.int i) H (.int (Builtin.bitNot i)) := fun H1 _ _ q => ⟨i, rfl, q H1 (Ex.refl H1)⟩
end
end My

set_option Elab.async false
set_option linter.all false
set_option maxRecDepth 100000
set_option maxHeartbeats 1000000
/-! data, and what a value stands for in a heap. -/
namespace My
open PySem PySem.Spec PyProof.Rows L2 Evl
inductive D where
  | non | bl (b : Bool) | int (i : Int) | str (l : List Nat) | tup (ds : List D) | lst (ds : List D)
mutual
inductive Rep (H : Hp) : V → D → Prop
  | non : Rep H .non .non
  | bl (b : Bool) : Rep H (.bl b) (.bl b)
  | int (i : Int) : Rep H (.int i) (.int i)
  | str (l : List Nat) : Rep H (.str (tx l)) (.str l)
  | tup {a : Addr} {vs : List V} {ds : List D} (e : H a = some (.tup vs)) (r : Reps H vs ds) : Rep H (.ref a) (.tup ds)
  | lst {a : Addr} {vs : List V} {ds : List D} (e : H a = some (.lst vs)) (r : Reps H vs ds) : Rep H (.ref a) (.lst ds)
inductive Reps (H : Hp) : List V → List D → Prop
  | nil : Reps H [] []
  | cons {v : V} {d : D} {vs : List V} {ds : List D} (h : Rep H v d) (r : Reps H vs ds) : Reps H (v :: vs) (d :: ds)
end
mutual
theorem Rep.mono {H H' : Hp} (e : Ex H H') : ∀ {v : V} {d : D}, Rep H v d → Rep H' v d
  | _, _, .non => .non
  | _, _, .bl b => .bl b
  | _, _, .int i => .int i
  | _, _, .str l => .str l
  | _, _, .tup q r => .tup (e _ _ q) (Reps.mono e r)
  | _, _, .lst q r => .lst (e _ _ q) (Reps.mono e r)
theorem Reps.mono {H H' : Hp} (e : Ex H H') : ∀ {vs : List V} {ds : List D}, Reps H vs ds → Reps H' vs ds
  | _, _, .nil => .nil
  | _, _, .cons h r => .cons (Rep.mono e h) (Reps.mono e r)
end
theorem Reps.len {H : Hp} : ∀ {vs : List V} {ds : List D}, Reps H vs ds → vs.length = ds.length
  | _, _, .nil => rfl
  | _, _, .cons _ r => congrArg Nat.succ (Reps.len r)
theorem Reps.get {H : Hp} : ∀ {vs : List V} {ds : List D} {i : Nat} {d : D}, Reps H vs ds → ds[i]? = some d → ∃ v, vs[i]? = some v ∧ Rep H v d
  | _, _, _, _, .nil, h => nomatch h
  | v :: _, _, 0, _, .cons h r, e => ⟨v, rfl, by cases e; exact h⟩
  | _ :: _, _, i + 1, _, .cons h r, e => Reps.get (i := i) r e
theorem Reps.get' {H : Hp} : ∀ {vs : List V} {ds : List D} {i : Nat} {v : V}, Reps H vs ds → vs[i]? = some v → ∃ d, ds[i]? = some d ∧ Rep H v d
  | _, _, _, _, .nil, h => nomatch h
  | v :: _, _, 0, _, .cons (d := d) h r, e => ⟨d, rfl, by cases e; exact h⟩
  | _ :: _, _, i + 1, _, .cons h r, e => Reps.get' (i := i) r e
theorem Reps.append {H : Hp} : ∀ {vs ws : List V} {ds es : List D}, Reps H vs ds → Reps H ws es → Reps H (vs ++ ws) (ds ++ es)
  | _, _, _, _, .nil, r => r
  | _, _, _, _, .cons h t, r => .cons h (Reps.append t r)
def tyD : D → String
  | .non => "NoneType" | .bl _ => "bool" | .int _ => "int" | .str _ => "str" | .tup _ => "tuple" | .lst _ => "list"
theorem Rep.ty {K : PySem.W.Frag} {H : Hp} {v : V} {d : D} (h : Rep H v d) : TyX K H v (.type (tyD d)) := by
  cases h with
  | non => exact .base .non
  | bl b => exact .base (.bl b)
  | int i => exact .base (.int i)
  | str l => exact .base (.str _)
  | tup e _ => exact .base (.tup e)
  | lst e _ => exact .base (.lst e)
def EvD (te : TE) (σ : L2.St) (H : Hp) (d : D) : Prop := EvP te σ H fun v H' => Rep H' v d
section
variable {K : PySem.W.Frag} {σ : L2.St} {H H' : Hp} {ta : TA} {te : TE} {xs ys : List V} {x z v : V} {p : Addr} {E : Ends} {tu tz : TS} {d : D}
theorem evd_v (h : Ev te σ H v) (r : Rep H v d) : EvD te σ H d := fun H1 e Q q => h H1 e Q fun H2 e2 => q v H2 e2 (r.mono (e.trans e2))
theorem ev_isi {T : String} {b : Bool} (h : Ev te σ H v) (r : Rep H v d) (hk : kitB (tyD d) T = some b) : Ev (tCB (rIsi K) (tCons te (tCons (tC (.ty T)) tNil))) σ H (.bl b) := fun H1 e Q q =>
  h H1 e _ fun H2 e2 => ⟨v, .ty T, .type (tyD d), .type T, b, rfl, .ty T, (r.mono (e.trans e2)).ty, kit_ty hk, q H2 e2⟩
theorem et_isN {te : TE} (h : Ev te σ H v) : EvT (tTest (tOp (fun x y H Q => y = .non ∧ Q (.bl (decide (x = .non))) H) te (tC .non))) σ H (decide (v = .non)) := fun H1 e Q q =>
  h H1 e _ fun H2 e2 => ⟨rfl, _, rfl, q H2 e2⟩
/-- xs.extend(a new list) -/
theorem s_extL {l : Addr} (hl : H l = some (.lst xs)) (ha : ∀ H1, Ex H H1 → Ev te σ H1 (.ref l)) {tb : TE} (h : EvL tb σ H ys) (hz : xs.length + ys.length ≤ 100000) (k : ∀ H1, Ex H H1 → E.nx σ (upd H1 l (.lst (xs ++ ys)))) :
    tDrop (tBM K "list" rExtend te (tCons tb tNil)) E σ H := ha H (Ex.refl H) H (Ex.refl H) _ fun H1 e1 =>
  ⟨Or.inl ⟨rfl, xs, sq_of (e1 l _ hl)⟩, h H1 e1 _ fun p H2 hp e2 h2 => ⟨l, p, xs, ys, rfl, rfl, e2 l _ (e1 l _ hl), h2, sz_of hz, k H2 (e1.trans e2)⟩⟩
/-- a loop over a text's signs -/
theorem for_str {x : Str} {g : TG} {tb : TS} {D : Ends} {σ : L2.St} {H : Hp} (Pv : Nat → L2.St → Hp → Prop) (h0 : Pv 0 σ H)
    (hs : ∀ i c σ H, x.cps[i]? = some c → Pv i σ H → g (.str (tx [c])) σ H fun σ2 H2 => tb { D with nx := Pv (i + 1), ct := Pv (i + 1), bk := D.nx } σ2 H2) (hd : ∀ σ H, Pv x.cps.size σ H → D.nx σ H) :
    ∃ W : Nat → Nat → L2.St → Hp → Prop, (∃ m, W 0 m σ H) ∧ ∀ i m σ H, W i m σ H →
      ((Its x).stop i H ∧ D.nx σ H) ∨ ((Its x).go i H ∧ ∃ N : L2.St → Hp → Prop, (∀ σ' H', N σ' H' → ∃ m', m' < m ∧ W (i + 1) m' σ' H') ∧ ∀ v H', (Its x).yld i H v H' → g v σ H' fun σ2 H2 => tb { D with nx := N, ct := N, bk := D.nx } σ2 H2) := by
  refine ⟨fun i m σ H => m = x.cps.size - i ∧ i ≤ x.cps.size ∧ Pv i σ H, ⟨x.cps.size, rfl, Nat.zero_le _, h0⟩, ?_⟩
  rintro i m σ H ⟨rfl, hi, p⟩
  by_cases hlt : i < x.cps.size
  · refine .inr ⟨hlt, Pv (i + 1), fun σ' H' p' => ⟨x.cps.size - (i + 1), by omega, rfl, hlt, p'⟩, fun v H' y => ?_⟩
    obtain ⟨rfl, c, hc, rfl⟩ := y
    exact hs i c σ _ hc p
  · have e : i = x.cps.size := by omega
    subst e
    exact .inl ⟨Nat.le_refl _, hd σ H p⟩
theorem s_forS {l : List Nat} {j : Nat} (h : Ev te σ H (.str (tx l))) (Pv : Nat → L2.St → Hp → Prop) (h0 : ∀ H1, Ex H H1 → Pv 0 σ H1)
    (hs : ∀ i c σ' H', l[i]? = some c → Pv i σ' H' → tu { E with nx := Pv (i + 1), ct := Pv (i + 1), bk := E.nx } (σ'.set j (some (.str (tx [c])))) H') (hd : ∀ σ' H', Pv l.length σ' H' → E.nx σ' H') : tFor (iStr te) (gName j) tu E σ H :=
  h H (Ex.refl H) _ fun H1 e => ⟨tx l, rfl, for_str Pv (h0 H1 e) (fun i c σ' H' hc p => hs i c σ' H' (by simpa [tx] using hc) p) (fun σ' H' p => hd σ' H' (by simpa [tx] using p))⟩
theorem q_forS {l : List Nat} {j : Nat} (h : Ev te σ H (.str (tx l))) (Pv : Nat → L2.St → Hp → Prop) (h0 : ∀ H1, Ex H H1 → Pv 0 σ H1)
    (hs : ∀ i c σ' H', l[i]? = some c → Pv i σ' H' → tu { E with nx := Pv (i + 1), ct := Pv (i + 1), bk := tz E } (σ'.set j (some (.str (tx [c])))) H') (hd : ∀ σ' H', Pv l.length σ' H' → tz E σ' H') : tSeq (tFor (iStr te) (gName j) tu) tz E σ H :=
  s_forS (E := { E with nx := tz E }) h Pv h0 hs hd
end
/-! ### octets of data -/
def sev (n : Nat) : List Nat := if h : n < 128 then [n] else (128 + n % 128) :: sev (n / 128)
termination_by n
decreasing_by omega
theorem sev_lt {n : Nat} (h : n < 128) : sev n = [n] := by rw [sev, dif_pos h]
theorem sev_ge {n : Nat} (h : ¬ n < 128) : sev n = (128 + n % 128) :: sev (n / 128) := by rw [sev, dif_neg h]
theorem sev_len (k : Nat) : ∀ n, n < 128 ^ (k + 1) → (sev n).length ≤ k + 1 := by
  induction k with
  | zero => intro n h; rw [sev_lt (by simpa using h)]; exact Nat.le_refl _
  | succ k ih =>
    intro n h
    by_cases h1 : n < 128
    · rw [sev_lt h1]; simp
    · rw [sev_ge h1, List.length_cons]
      have := ih (n / 128) (by rw [Nat.div_lt_iff_lt_mul (by decide), ← Nat.pow_succ]; exact h)
      omega
theorem sev_oct : ∀ n, ∀ x ∈ sev n, x < 256 := by
  intro n
  induction n using Nat.strongRecOn with
  | _ n ih =>
    intro x hx
    by_cases h1 : n < 128
    · rw [sev_lt h1, List.mem_singleton] at hx
      omega
    · rw [sev_ge h1, List.mem_cons] at hx
      rcases hx with rfl | hx
      · omega
      · exact ih (n / 128) (by omega) x hx
/-- the place of a sign in the row of signs -/
def sgns : List Nat := (List.range 95).map (· + 32) |>.filter (fun c => c != 37) |>.append [10]
def sgn (c : Nat) : Nat := if c = 10 then 94 else if c < 37 then c - 32 else c - 33
mutual
def octs : D → List Nat
  | .non => [0]
  | .bl b => [if b then 2 else 1]
  | .int i => if 0 ≤ i then 3 :: sev i.toNat else 4 :: sev (-i - 1).toNat
  | .str l => 5 :: (sev l.length ++ l.map sgn)
  | .tup ds => 6 :: (sev ds.length ++ octsL ds)
  | .lst _ => []
def octsL : List D → List Nat
  | [] => []
  | d :: ds => octs d ++ octsL ds
end
mutual
def height : D → Nat
  | .tup ds => heightL ds + 1
  | .lst ds => heightL ds + 1
  | _ => 0
def heightL : List D → Nat
  | [] => 0
  | d :: ds => max (height d) (heightL ds)
end
mutual
/-- a plain value, of a size -/
def Pln : D → Prop
  | .non => True
  | .bl _ => True
  | .int i => i.natAbs < 2 ^ 64
  | .str l => l.length ≤ 1000 ∧ ∀ c ∈ l, c ∈ sgns
  | .tup ds => ds.length ≤ 1000 ∧ PlnL ds
  | .lst _ => False
def PlnL : List D → Prop
  | [] => True
  | d :: ds => Pln d ∧ PlnL ds
end
theorem octsL_app : ∀ a b : List D, octsL (a ++ b) = octsL a ++ octsL b
  | [], _ => by simp [octsL]
  | d :: a, b => by rw [List.cons_append, octsL, octsL, octsL_app a b, List.append_assoc]
theorem octsL_take {ds : List D} {i : Nat} {d : D} (h : ds[i]? = some d) : octsL (ds.take (i + 1)) = octsL (ds.take i) ++ octs d := by
  rw [List.take_add_one, h, octsL_app]
  simp [octsL]
theorem heightL_get : ∀ {ds : List D} {i : Nat} {d : D}, ds[i]? = some d → height d ≤ heightL ds
  | [], _, _, h => nomatch h
  | d :: ds, 0, _, h => by cases h; rw [heightL]; exact Nat.le_max_left _ _
  | d :: ds, i + 1, _, h => by rw [heightL]; exact Nat.le_trans (heightL_get (ds := ds) (i := i) h) (Nat.le_max_right _ _)
theorem PlnL_get : ∀ {ds : List D} {i : Nat} {d : D}, PlnL ds → ds[i]? = some d → Pln d
  | [], _, _, _, h => nomatch h
  | d :: ds, 0, _, p, h => by cases h; rw [PlnL] at p; exact p.1
  | d :: ds, i + 1, _, p, h => by rw [PlnL] at p; exact PlnL_get (ds := ds) (i := i) p.2 h
theorem octsL_part : ∀ {ds : List D} {i : Nat} {d : D}, ds[i]? = some d → (octsL (ds.take i)).length + (octs d).length ≤ (octsL ds).length
  | [], _, _, h => nomatch h
  | d :: ds, 0, _, h => by cases h; rw [List.take_zero, octsL, octsL, List.length_append, List.length_nil]; omega
  | d :: ds, i + 1, _, h => by
    rw [List.take_succ_cons, octsL, octsL, List.length_append, List.length_append]
    have := octsL_part (ds := ds) (i := i) h
    omega
theorem sgn_lt {c : Nat} (h : c ∈ sgns) : sgn c < 95 := by
  have : ∀ c ∈ sgns, sgn c < 95 := by decide +kernel
  exact this c h
mutual
theorem octs_oct : ∀ d, Pln d → ∀ x ∈ octs d, x < 256
  | .non, _, x, h => by rw [octs, List.mem_singleton] at h; omega
  | .bl b, _, x, h => by rw [octs, List.mem_singleton] at h; subst h; cases b <;> decide
  | .int i, _, x, h => by
    rw [octs] at h
    split at h <;> rw [List.mem_cons] at h <;> rcases h with rfl | h
    · decide
    · exact sev_oct _ x h
    · decide
    · exact sev_oct _ x h
  | .str l, p, x, h => by
    rw [octs, List.mem_cons, List.mem_append, List.mem_map] at h
    rw [Pln] at p
    rcases h with rfl | h | ⟨c, hc, rfl⟩
    · decide
    · exact sev_oct _ x h
    · have := sgn_lt (p.2 c hc); omega
  | .tup ds, p, x, h => by
    rw [octs, List.mem_cons, List.mem_append] at h
    rw [Pln] at p
    rcases h with rfl | h | h
    · decide
    · exact sev_oct _ x h
    · exact octsL_oct ds p.2 x h
  | .lst _, _, x, h => by rw [octs] at h; simp at h
theorem octsL_oct : ∀ ds, PlnL ds → ∀ x ∈ octsL ds, x < 256
  | [], _, x, h => by rw [octsL] at h; simp at h
  | d :: ds, p, x, h => by
    rw [octsL, List.mem_append] at h
    rw [PlnL] at p
    rcases h with h | h
    · exact octs_oct d p.1 x h
    · exact octsL_oct ds p.2 x h
end
end My

set_option Elab.async false
set_option linter.all false
set_option maxRecDepth 100000
set_option maxHeartbeats 1000000
/-! texts: signs, lengths, slices, comprehensions; chains; all. -/
namespace My
open PySem PySem.Spec PyProof.Rows L2 Evl
section
variable {K : PySem.W.Frag}
theorem ev_sidx {σ : L2.St} {H : Hp} {te tb : TE} {a b : Str} {i : Nat} {r : List Nat} (h : Ev te σ H (.str a)) (hb : Ev tb σ H (.str b)) (ho : Builtin.Str.occurrences a b 0 a.length 1 = i :: r) :
    Ev (tBM K "str" (fun x xs H Q => ∃ a b i rest, x = .str a ∧ xs = [.str b] ∧ Builtin.Str.occurrences a b 0 a.length 1 = i :: rest ∧ Q (.int (i : Nat)) H) te (tCons tb tNil)) σ H (.int (i : Int)) := fun H1 e Q q =>
  h H1 e _ fun H2 e2 => ⟨rfl, hb H2 (e.trans e2) _ fun H3 e3 => ⟨a, b, i, r, rfl, rfl, ho, q H3 (e2.trans e3)⟩⟩
theorem ev_lenT {σ : L2.St} {H : Hp} {ta : TE} {p : Addr} {xs : List V} (ha : Ev ta σ H (.ref p)) (h : SqT K H p xs) : Ev (tCB (rLenS K) (tCons ta tNil)) σ H (.int (xs.length : Int)) := fun H1 e Q q =>
  ha H1 e _ fun H2 e2 => ⟨p, xs, rfl, .inr (ex_t (e.trans e2) h), q H2 e2⟩
theorem ev_lenS {σ : L2.St} {H : Hp} {ta : TE} {l : List Nat} (ha : Ev ta σ H (.str (tx l))) (hz : l.length ≤ 100000) : Ev (tCB (fun xs H Q => ∃ z, xs = [.str z] ∧ z.length ≤ sizeLine ∧ Q (.int z.length) H) (tCons ta tNil)) σ H (.int (l.length : Int)) := fun H1 e Q q =>
  ha H1 e _ fun H2 e2 => ⟨tx l, rfl, by rw [tx_len]; exact sz_of hz, by rw [tx_len]; exact q H2 e2⟩
theorem el_if {σ : L2.St} {H : Hp} {t : TT} {ta tb : TE} {xs : List V} {b : Bool} (h : EvT t σ H b) (h1 : b = true → EvL ta σ H xs) (h2 : b = false → EvL tb σ H xs) : EvL (tIf t ta tb) σ H xs := fun H1 e Q q => h H1 e _ fun H2 e2 => by
  cases b with
  | true => exact h1 rfl H2 (e.trans e2) Q fun p H3 hp e3 h3 => q p H3 (fresh_back e2 hp) (e2.trans e3) h3
  | false => exact h2 rfl H2 (e.trans e2) Q fun p H3 hp e3 h3 => q p H3 (fresh_back e2 hp) (e2.trans e3) h3

variable {σ : L2.St} {H H' : Hp} {ta : TA} {te tb tc tl : TE} {xs ys : List V} {x y z v : V} {p : Addr} {D : Ends} {tu tz : TS}
theorem rv_inSn {c : Nat} {l : List Nat} : RV (fun x y H Q => ∃ (c : Nat) (z : Str), x = .str ⟨#[c]⟩ ∧ y = .str z ∧ Q (.bl (decide (c ∈ z.cps.toList))) H) (.str (tx [c])) (.str (tx l)) H (.bl (decide (c ∈ l))) := rv_val fun H1 _ Q q => ⟨c, tx l, rfl, rfl, q⟩
theorem rv_niSn {c : Nat} {l : List Nat} : RV (fun x y H Q => ∃ (c : Nat) (z : Str), x = .str ⟨#[c]⟩ ∧ y = .str z ∧ Q (.bl (!decide (c ∈ z.cps.toList))) H) (.str (tx [c])) (.str (tx l)) H (.bl (!decide (c ∈ l))) := rv_val fun H1 _ Q q => ⟨c, tx l, rfl, rfl, q⟩
theorem ev_chain {r r' : R2} {w' : V} {k m : Bool} (ha : Ev te σ H x) (hb : Ev tb σ H y) (hr : RV r x y H (.bl k)) (hc : k = true → Ev tc σ H w') (hr' : k = true → RV r' y w' H (.bl m)) : Ev (tChain r r' te tb tc) σ H (.bl (k && m)) := fun H1 e Q q =>
  ha H1 e _ fun H2 e2 => hb H2 (e.trans e2) _ fun H3 e3 => hr H3 ((e.trans e2).trans e3) _ fun H4 e4 => ⟨k, rfl, by
    have E := ((e.trans e2).trans e3).trans e4
    cases k with
    | false => exact q H4 ((e2.trans e3).trans e4)
    | true => exact hc rfl H4 E _ fun H5 e5 => hr' rfl H5 (E.trans e5) _ fun H6 e6 => q H6 ((((e2.trans e3).trans e4).trans e5).trans e6)⟩
theorem ev_all {bs : List Bool} (h : EvL te σ H (bs.map V.bl)) : Ev (tCB (rAll K) (tCons te tNil)) σ H (.bl (bs.all id)) := fun H1 e Q q =>
  h H1 e _ fun p H2 _ e2 hp => ⟨p, bs, rfl, sq_of hp, q H2 e2⟩
theorem el_split {a b : Str} (ha : Ev te σ H (.str a)) (hb : Ev tb σ H (.str b)) (h0 : (b.length == 0) = false) (hz : a.length + 2 ≤ 100000) :
    EvL (tM1 (fun x xs H Q => ∃ a b, x = .str a ∧ xs = [.str b] ∧ (b.length == 0) = false ∧ a.length + 2 ≤ sizeLine ∧ rNewStrs (Txt.split a b) H Q) te tb) σ H ((Txt.split a b).map V.str) := fun H1 e Q q =>
  ha H1 e _ fun H2 e2 => ⟨⟨a, rfl⟩, hb H2 (e.trans e2) _ fun H3 e3 => ⟨a, b, rfl, rfl, h0, sz_of hz, fun l hl => q l _ (fresh_back (e2.trans e3) hl) ((e2.trans e3).trans (Ex.new hl)) upd_same⟩⟩
theorem ev_slS {l : List Nat} {tlo thi : TO} {lo hi : Option Int} (h : Ev te σ H (.str (tx l))) (h1 : EvO tlo σ H lo) (h2 : EvO thi σ H hi) (hz : l.length ≤ 100000) : Ev (tSl rSlS te tlo thi) σ H (.str (cutS (tx l) lo hi)) := fun H1 e Q q =>
  h H1 e _ fun H2 e2 => h1 H2 (e.trans e2) _ fun H3 e3 => h2 H3 ((e.trans e2).trans e3) _ fun H4 e4 => ⟨tx l, rfl, by rw [tx_len]; exact sz_of hz, q H4 ((e2.trans e3).trans e4)⟩
theorem cutS_take (l : List Nat) (n : Nat) : cutS (tx l) none (some (n : Int)) = tx (l.take n) := by
  unfold cutS
  rw [HT.sIx_nat, HT.sIx_none, tx_list, List.drop_zero, Nat.sub_zero, tx_len]
  by_cases h : n ≤ l.length
  · rw [Nat.min_eq_left h]; rfl
  · rw [Nat.min_eq_right (by omega), List.take_of_length_le (Nat.le_refl _), List.take_of_length_le (show l.length ≤ n by omega)]; rfl
/-- a comprehension over a text, no test -/
theorem el_lcS {j : Nat} {vs : List Nat} {l : List Nat} (v : Nat → V) (h : Ev tl σ H (.str (tx l))) (hz : l.length ≤ 40000) (hw : ∀ x, wipe ((wipe σ vs).set j (some x)) vs = wipe σ vs)
    (he : ∀ c H1, Ex H H1 → c ∈ l → Ev te ((wipe σ vs).set j (some (.str (tx [c])))) H1 (v c)) : EvL (tLc (iStr tl) (gName j) tYes te vs) σ H (l.map v) := by
  intro H0 e Q q
  refine h H0 e _ fun H1 e1 => ⟨tx l, rfl, fun Dl hD => ?_⟩
  have hsz : (tx l).cps.size = l.length := List.size_toArray
  refine ⟨fun i m H' => m = l.length - i ∧ i ≤ l.length ∧ Ex H1 H' ∧ H' Dl = some (.lst ((l.take i).map v)), ⟨l.length, rfl, Nat.zero_le _, Ex.new hD, upd_same⟩, ?_⟩
  rintro i m H' ⟨rfl, hi, ex, hl⟩
  by_cases hlt : i < l.length
  · refine .inr ⟨show i < _ by rw [hsz]; exact hlt, fun H' => Ex H1 H' ∧ H' Dl = some (.lst ((l.take (i + 1)).map v)), fun H2 p => ⟨l.length - (i + 1), by omega, rfl, hlt, p⟩, fun x H2 y => ?_⟩
    obtain ⟨rfl, c, hc, rfl⟩ := y
    have hc' : l[i]? = some c := by simpa [tx] using hc
    refine ⟨hw _, ?_⟩
    refine tyes_ ?_
    refine iteT (he c H1 (e.trans e1) (List.mem_of_getElem? hc') H2 ex _ fun H3 e3 => ⟨_, e3 Dl _ hl, sz_lt (by rw [List.length_map, List.length_take]; omega), (ex.trans e3).mut hD, ?_⟩)
    rw [upd_same, List.take_add_one, hc', List.map_append]
    rfl
  · have e0 : i = l.length := by omega
    subst e0
    rw [List.take_of_length_le (Nat.le_refl _)] at hl
    exact .inl ⟨show _ ≤ _ by rw [hsz]; exact Nat.le_refl _, q Dl H' (fresh_back e1 hD) (e1.trans ex) hl⟩
/-- a comprehension over a new list, no test -/
theorem el_lcN {j : Nat} {vs : List Nat} (g : V → V) (h : EvL tl σ H xs) (hz : xs.length ≤ 40000) (hw : ∀ x, wipe ((wipe σ vs).set j (some x)) vs = wipe σ vs)
    (he : ∀ x H1, Ex H H1 → x ∈ xs → Ev te ((wipe σ vs).set j (some x)) H1 (g x)) : EvL (tLc (iList K tl) (gName j) tYes te vs) σ H (xs.map g) := by
  intro H0 e Q q
  refine h H0 e _ fun a H1 ha e1 h1 => ⟨a, rfl, ⟨xs, sq_of h1⟩, fun Dl hD => ?_⟩
  refine ⟨fun i m H' => m = xs.length - i ∧ i ≤ xs.length ∧ Ex H1 H' ∧ H' Dl = some (.lst ((xs.take i).map g)), ⟨xs.length, rfl, Nat.zero_le _, Ex.new hD, upd_same⟩, ?_⟩
  rintro i m H' ⟨rfl, hi, ex, hl⟩
  by_cases hlt : i < xs.length
  · have gx : xs[i]? = some xs[i] := List.getElem?_eq_getElem hlt
    refine .inr ⟨⟨xs, xs[i], sq_of (ex a _ h1), gx⟩, fun H' => Ex H1 H' ∧ H' Dl = some (.lst ((xs.take (i + 1)).map g)), fun H2 p => ⟨xs.length - (i + 1), by omega, rfl, hlt, p⟩, fun x H2 y => ?_⟩
    obtain ⟨rfl, y⟩ := y
    have ex' : x = xs[i] := Option.some.inj ((y xs (sq_of (ex a _ h1))).symm.trans gx)
    subst ex'
    refine ⟨hw _, ?_⟩
    refine tyes_ ?_
    refine iteT (he _ H1 (e.trans e1) (List.mem_of_getElem? gx) H2 ex _ fun H3 e3 => ⟨_, e3 Dl _ hl, sz_lt (by rw [List.length_map, List.length_take]; omega), (ex.trans e3).mut hD, ?_⟩)
    rw [upd_same, List.take_add_one, gx, List.map_append]
    rfl
  · have e0 : i = xs.length := by omega
    subst e0
    rw [List.take_of_length_le (Nat.le_refl _)] at hl
    exact .inl ⟨⟨xs, sq_of (ex a _ h1), Nat.le_refl _⟩, q Dl H' (fresh_back e1 hD) (e1.trans ex) hl⟩
end
end My

set_option Elab.async false
set_option linter.all false
set_option maxRecDepth 100000
set_option maxHeartbeats 1000000
/-! text * int; is True; the laws' pool of draws; sameness of data. -/
namespace My
open PySem PySem.Spec PyProof.Rows L2 Evl
section
variable {X : Cx}
def rMulS : R2 := fun x y H Q => ∃ a n, x = .str a ∧ y = .int n ∧ MulOk a n ∧ Q (.str (Txt.mul a n)) H
theorem op_mulS : OpR X (binaryOp .Mult) rMulS := by
  intro pins s σ H x y v u Q I rx ry h
  obtain ⟨i, j, rfl, rfl, hz, q⟩ := h
  obtain ⟨t, rfl⟩ := rx
  obtain ⟨t', rfl⟩ := ry
  exact SB.mul hz fun t' tk => ⟨.str _, H, I.tok _, ⟨_, rfl⟩, q⟩
def rIsBA : R2 := fun x y H Q => ∃ b, y = .bl b ∧ Q (.bl (decide (x = .bl b))) H
theorem op_isBA : OpR X (compareOp .Is) rIsBA := by
  intro pins s σ H x y v u Q I rx ry h
  obtain ⟨b, rfl, q⟩ := h
  cases (show u = Value.bool b from ry)
  cases x with
  | bl a =>
    cases (show v = Value.bool a from rx)
    by_cases e : a = b
    · subst e
      exact wpAny_is_self rfl ⟨.bl true, H, I, rfl, by simpa using q⟩
    · exact wpAny_is_other rfl (fun z => e (Value.bool.inj z)) ⟨.bl false, H, I, rfl, by simpa [e] using q⟩
  | _ => first
    | (cases rx; exact wpAny_is_other rfl (fun z => nomatch z) ⟨.bl false, H, I, rfl, q⟩)
    | (obtain ⟨t, rfl⟩ := rx; exact wpAny_is_other rfl (fun z => nomatch z) ⟨.bl false, H, I, rfl, q⟩)
end
/-! ### heaps in which the pool alone is written -/
def Keep (p : Addr) (H H' : Hp) : Prop := ∀ a o, a ≠ p → H a = some o → H' a = some o
def Pool (K : PySem.W.Frag) (H : Hp) (p sc : Addr) (ns : List Int) : Prop := ∃ pl r f : Nat, H p = some (.lst [.ref sc, .int (pl : Int), .int (r : Int), .int (f : Int)]) ∧ SqL K H sc (ns.map V.int)
def G (K : PySem.W.Frag) (p sc : Addr) (ns : List Int) (H H' : Hp) : Prop := Keep p H H' ∧ Pool K H' p sc ns
section
variable {K : PySem.W.Frag} {p q a sc : Addr} {ns : List Int} {H H1 H2 H3 : Hp} {xs : List V} {v : V} {d : D} {o : HO}
theorem Keep.of (e : Ex H H1) : Keep p H H1 := fun x o _ h => e x o h
theorem Keep.trans (a : Keep p H H1) (b : Keep p H1 H2) : Keep p H H2 := fun x o n h => b x o n (a x o n h)
theorem Keep.upd : Keep p H (upd H p o) := fun x u n h => by rw [upd_ne n]; exact h
theorem Keep.new (k : Keep p H1 H2) (h : H1 q = none) : Keep p H1 (L2.upd H2 q o) := fun x u n e => by
  have nq : x ≠ q := fun z => by rw [z, h] at e; exact nomatch e
  rw [upd_ne nq]
  exact k x u n e
theorem keep_l (k : Keep p H H1) (n : a ≠ p) (h : SqL K H a xs) : SqL K H1 a xs := by
  rcases h with (h | ⟨o, h⟩) | h
  · exact .inl (.inl (k _ _ n h))
  · exact .inl (.inr ⟨o, k _ _ n h⟩)
  · exact .inr h
theorem keep_t (k : Keep p H H1) (n : a ≠ p) (h : SqT K H a xs) : SqT K H1 a xs := by
  rcases h with (h | ⟨o, h⟩) | h
  · exact .inl (.inl (k _ _ n h))
  · exact .inl (.inr ⟨o, k _ _ n h⟩)
  · exact .inr h
theorem sc_keep (hp : H p = some (.lst (.ref q :: xs))) (k : Keep p H H1) (h : SqL K H sc (ns.map V.int)) : SqL K H1 sc (ns.map V.int) := by
  rcases h with (h | ⟨o, h⟩) | h
  · have n : sc ≠ p := fun e => by
      rw [e, hp] at h
      have := HO.lst.inj (Option.some.inj h)
      cases ns with
      | nil => exact nomatch this
      | cons x r => exact nomatch (List.cons.inj this).1
    exact .inl (.inl (k _ _ n h))
  · have n : sc ≠ p := fun e => by
      rw [e, hp] at h
      exact nomatch Option.some.inj h
    exact .inl (.inr ⟨o, k _ _ n h⟩)
  · exact .inr h
theorem Pool.mk' {pl r f : Nat} (h : Pool K H p sc ns) (k : Keep p H H1) (h1 : H1 p = some (.lst [.ref sc, .int (pl : Int), .int (r : Int), .int (f : Int)])) : Pool K H1 p sc ns := by
  obtain ⟨_, _, _, hp, hs⟩ := h
  exact ⟨pl, r, f, h1, sc_keep hp k hs⟩
theorem Pool.ex (e : Ex H H1) (h : Pool K H p sc ns) : Pool K H1 p sc ns := by
  obtain ⟨pl, r, f, h1, h2⟩ := h
  exact ⟨pl, r, f, e p _ h1, ex_l e h2⟩
theorem G.trans (a : G K p sc ns H H1) (b : G K p sc ns H1 H2) : G K p sc ns H H2 := ⟨a.1.trans b.1, b.2⟩
theorem G.ex (e : Ex H H1) (h : Pool K H p sc ns) : G K p sc ns H H1 := ⟨.of e, h.ex e⟩
theorem G.refl (h : Pool K H p sc ns) : G K p sc ns H H := G.ex (Ex.refl H) h
theorem G.exR (g : G K p sc ns H H1) (e : Ex H1 H2) : G K p sc ns H H2 := g.trans (G.ex e g.2)
theorem G.exL (e : Ex H H1) (g : G K p sc ns H1 H2) : G K p sc ns H H2 := ⟨(Keep.of e).trans g.1, g.2⟩
/-- a new object beside the pool -/
theorem Pool.ne (h : Pool K H p sc ns) (ha : H a = none) : a ≠ p := fun e => by
  obtain ⟨_, r, f, h1, _⟩ := h
  rw [e, h1] at ha
  exact nomatch ha
theorem G.new (h : Pool K H1 p sc ns) (g : G K p sc ns H1 H2) (hq : H1 q = none) : G K p sc ns H1 (upd H2 q o) := by
  refine ⟨g.1.new hq, ?_⟩
  obtain ⟨_, r, f, h1, _⟩ := g.2
  exact h.mk' (g.1.new hq) (by rw [upd_ne (h.ne hq).symm]; exact h1)
mutual
theorem Rep.off (k : Keep p H H1) (hp : ∀ us, H p ≠ some (.tup us)) : ∀ {v : V} {d : D}, Pln d → Rep H v d → Rep H1 v d
  | _, _, _, .non => .non
  | _, _, _, .bl b => .bl b
  | _, _, _, .int i => .int i
  | _, _, _, .str l => .str l
  | _, .tup ds, h, .tup q r => .tup (k _ _ (fun e => hp _ (e ▸ q)) q) (Reps.off k hp (by rw [Pln] at h; exact h.2) r)
  | _, .lst ds, h, .lst q r => (by rw [Pln] at h; exact h.elim)
theorem Reps.off (k : Keep p H H1) (hp : ∀ us, H p ≠ some (.tup us)) : ∀ {vs : List V} {ds : List D}, PlnL ds → Reps H vs ds → Reps H1 vs ds
  | _, _, _, .nil => .nil
  | _, _ :: _, h, .cons r rs => .cons (Rep.off k hp (by rw [PlnL] at h; exact h.1) r) (Reps.off k hp (by rw [PlnL] at h; exact h.2) rs)
end
theorem Pool.noT (h : Pool K H p sc ns) (us : List V) : H p ≠ some (.tup us) := fun e => by
  obtain ⟨_, r, f, h1, _⟩ := h
  rw [h1] at e
  exact nomatch Option.some.inj e
theorem Rep.g (g : G K p sc ns H H1) (hp : Pool K H p sc ns) (h : Pln d) (r : Rep H v d) : Rep H1 v d := Rep.off g.1 hp.noT h r
theorem Reps.g {vs : List V} {ds : List D} (g : G K p sc ns H H1) (hp : Pool K H p sc ns) (h : PlnL ds) (r : Reps H vs ds) : Reps H1 vs ds := Reps.off g.1 hp.noT h r
end
/-! ### promises of the draws -/
def sp_draw (K : PySem.W.Frag) : Sp := fun vs H Q _ => ∃ (p sc : Addr) (ns : List Int) (limit : Nat), vs = [.ref p, .int (limit : Int)] ∧ Pool K H p sc ns ∧ 0 < limit ∧ limit < 2 ^ 63 ∧ ∀ (v : Nat) H', v < limit → G K p sc ns H H' → Q (.int (v : Int)) H'
def sp_pick (K : PySem.W.Frag) : Sp := fun vs H Q _ => ∃ (p sc : Addr) (ns : List Int) (a : Addr) (xs : List V), vs = [.ref p, .ref a] ∧ Pool K H p sc ns ∧ SqL K H a xs ∧ a ≠ p ∧ xs ≠ [] ∧ xs.length ≤ 1000 ∧ ∀ v H', v ∈ xs → G K p sc ns H H' → Q v H'
/-! ### steps by hand -/
section
variable {σ : L2.St} {H : Hp} {Q : VK} {R : List V → Hp → Prop} {ta tr : TA} {te tb : TE} {r : R2} {D : Ends} {sp : Sp} {dvs : List V} {E : XK} {v : V} {i : Nat} {tz : TS}
theorem r_ret (h : te σ H D.rt) : tRet te D σ H := h
theorem r_op (h : te σ H fun x H1 => tb σ H1 fun y H2 => r x y H2 Q) : tOp r te tb σ H Q := h
theorem r_var (h : σ[i]? = some (some v)) (q : Q v H) : tVar i σ H Q := ⟨v, h, q⟩
theorem r_c (q : Q v H) : tC v σ H Q := q
theorem r_call (h : ta σ H fun vs H1 => sp (vs ++ dvs) H1 Q E) : tCall sp dvs E ta σ H Q := h
theorem r_cons (h : te σ H fun x H1 => tr σ H1 fun xs H2 => R (x :: xs) H2) : tCons te tr σ H R := h
theorem r_nil (h : R [] H) : tNil σ H R := h
theorem r_ev {H0 : Hp} (h : Ev te σ H0 v) (e : Ex H0 H) (q : ∀ H2, Ex H H2 → Q v H2) : te σ H Q := h H e Q q
theorem r_el {H0 : Hp} {xs : List V} (h : EvL te σ H0 xs) (e : Ex H0 H) (q : ∀ a H2, H a = none → Ex H H2 → H2 a = some (.lst xs) → Q (.ref a) H2) : te σ H Q := h H e Q q
theorem r_asg (h : te σ H fun v H1 => tz D (σ.set i (some v)) H1) : tSeq (tAsg te (gName i)) tz D σ H := h
theorem r_if {t : TT} (h : t σ H fun b H1 => if b = true then te σ H1 Q else tb σ H1 Q) : tIf t te tb σ H Q := h
theorem r_test {B : Bool → Hp → Prop} (h : te σ H fun x H' => ∃ k, x = .bl k ∧ B k H') : tTest te σ H B := h
theorem r_draw {K : PySem.W.Frag} {p sc : Addr} {ns : List Int} {n : Nat} (hP : Pool K H p sc ns) (ha : EvA ta σ H [.ref p, .int (n : Int)]) (h0 : 0 < n) (hn : n < 2 ^ 63) (q : ∀ (v : Nat) H', v < n → G K p sc ns H H' → Q (.int (v : Int)) H') : tCall (sp_draw K) [] E ta σ H Q :=
  ha H (Ex.refl H) _ fun H1 e1 => ⟨p, sc, ns, n, rfl, hP.ex e1, h0, hn, fun v H' hv g => q v H' hv (G.exL e1 g)⟩
theorem r_pick {K : PySem.W.Frag} {p sc : Addr} {ns : List Int} {xs : List V} (hP : Pool K H p sc ns) (ha : Ev te σ H (.ref p)) (hb : EvL tb σ H xs) (h0 : xs ≠ []) (hn : xs.length ≤ 1000) (q : ∀ v H', v ∈ xs → G K p sc ns H H' → Q v H') : tCall (sp_pick K) [] E (tCons te (tCons tb tNil)) σ H Q :=
  ha H (Ex.refl H) _ fun H1 e1 => hb H1 e1 _ fun a H2 hn2 e2 h2 => ⟨p, sc, ns, a, xs, rfl, hP.ex (e1.trans e2), sq_of h2, (hP.ex e1).ne hn2, h0, hn, fun v H' hv g => q v H' hv (G.exL (e1.trans e2) g)⟩
theorem r_lcR1 {g : TG} {tt : TT} {vs : List Nat} (h : ta σ H fun ws H1 => ∃ j : Int, ws = [.int j] ∧ -(2 ^ 62) ≤ j ∧ j < 2 ^ 62 ∧ ∀ D, H1 D = none → ∃ W : Nat → Nat → Hp → Prop, (∃ m, W 0 m (upd H1 D (.lst []))) ∧ ∀ i m H, W i m H →
    ((Itr 0 j.toNat).stop i H ∧ Q (.ref D) H) ∨ ((Itr 0 j.toNat).go i H ∧ ∃ Nx : Hp → Prop, (∀ H', Nx H' → ∃ m', m' < m ∧ W (i + 1) m' H') ∧ ∀ x H', (Itr 0 j.toNat).yld i H x H' → g x (wipe σ vs) H' fun σ2 H2 => wipe σ2 vs = wipe σ vs ∧ tt σ2 H2 fun b H3 =>
      if b = true then te σ2 H3 fun y H4 => ∃ acc, H4 D = some (.lst acc) ∧ acc.length < sizeLine ∧ Nx (upd H4 D (.lst (acc ++ [y]))) else Nx H3)) : tLc (iRng1 ta) g tt te vs σ H Q := h
theorem r_cb {g : List V → Hp → VK → Prop} (h : ta σ H fun xs H1 => g xs H1 Q) : tCB g ta σ H Q := h
end
/-! ### the numbers -/
def m89 : Nat := 618970019642690137449562111
def m107 : Nat := 162259276829213363391578010288127
def mixF (n p : Nat) : Nat :=
  let f := (n * 48271 + p * 69621 + 11) % m89
  let s := (f * f + 7 * f + p) % m107
  s * m89 + (s * s + f) % m89
def absF (i : Int) : Nat := if i < 0 then (1 - 2 * i).toNat else i.toNat
def restF (xs : List Int) (p f : Nat) : Nat :=
  let n := if 0 < xs.length then absF (xs.getD (p % xs.length) 0) else 0
  if f = 0 ∧ p < xs.length ∧ 10 ^ 18 ≤ n then n - 10 ^ 18 else mixF (n + f * 1000003) p
/-! ### sameness -/
mutual
def sameD : D → D → Bool
  | .non, .non => true
  | .bl a, .bl b => decide (a = b)
  | .int a, .int b => decide (a = b)
  | .str a, .str b => decide (a = b)
  | .tup a, .tup b => sameL a b
  | .lst a, .lst b => sameL a b
  | _, _ => false
def sameL : List D → List D → Bool
  | [], [] => true
  | a :: as, b :: bs => sameD a b && sameL as bs
  | _, _ => false
end
mutual
theorem sameD_refl : ∀ d, sameD d d = true
  | .non => by rw [sameD]
  | .bl _ => by rw [sameD]; exact decide_eq_true rfl
  | .int _ => by rw [sameD]; exact decide_eq_true rfl
  | .str _ => by rw [sameD]; exact decide_eq_true rfl
  | .tup ds => by rw [sameD]; exact sameL_refl ds
  | .lst ds => by rw [sameD]; exact sameL_refl ds
theorem sameL_refl : ∀ ds, sameL ds ds = true
  | [] => by rw [sameL]
  | d :: ds => by rw [sameL, sameD_refl d, sameL_refl ds]; rfl
end
end My

set_option Elab.async false
set_option linter.all false
set_option maxRecDepth 100000
set_option maxHeartbeats 1000000
/-! literals whose items are new tuples; loops over rows of two; a row picked. -/
namespace My
open PySem PySem.Spec PyProof.Rows L2 Evl
mutual
def plnB : D → Bool
  | .non => true
  | .bl _ => true
  | .int i => decide (i.natAbs < 2 ^ 64)
  | .str l => decide (l.length ≤ 1000) && l.all fun c => decide (c ∈ sgns)
  | .tup ds => decide (ds.length ≤ 1000) && plnBL ds
  | .lst _ => false
def plnBL : List D → Bool
  | [] => true
  | d :: ds => plnB d && plnBL ds
end
mutual
theorem plnB_ok : ∀ d, plnB d = true → Pln d
  | .non, _ => by rw [Pln]; trivial
  | .bl _, _ => by rw [Pln]; trivial
  | .int i, h => by rw [plnB] at h; rw [Pln]; exact of_decide_eq_true h
  | .str l, h => by
    rw [plnB, Bool.and_eq_true] at h
    rw [Pln]
    exact ⟨of_decide_eq_true h.1, fun c hc => of_decide_eq_true (List.all_eq_true.mp h.2 c hc)⟩
  | .tup ds, h => by
    rw [plnB, Bool.and_eq_true] at h
    rw [Pln]
    exact ⟨of_decide_eq_true h.1, plnBL_ok ds h.2⟩
  | .lst _, h => by rw [plnB] at h; exact nomatch h
theorem plnBL_ok : ∀ ds, plnBL ds = true → PlnL ds
  | [], _ => by rw [PlnL]; trivial
  | d :: ds, h => by
    rw [plnBL, Bool.and_eq_true] at h
    rw [PlnL]
    exact ⟨plnB_ok d h.1, plnBL_ok ds h.2⟩
end
def EvAR (ta : TA) (σ : L2.St) (H : Hp) (ds : List D) : Prop := EvAP ta σ H fun vs H' => Reps H' vs ds
section
variable {K : PySem.W.Frag} {σ : L2.St} {H : Hp} {ta tr : TA} {te tl tb : TE} {d : D} {ds : List D} {D0 : Ends} {tu tz : TS} {E : XK} {Q : VK}
theorem er_nil : EvAR tNil σ H [] := fun H1 _ Q q => q [] H1 (Ex.refl H1) .nil
theorem er_cons (h : EvD te σ H d) (hr : EvAR tr σ H ds) : EvAR (tCons te tr) σ H (d :: ds) := fun H1 e Q q =>
  h H1 e _ fun v H2 e2 r => hr H2 (e.trans e2) _ fun vs H3 e3 rs => q _ H3 (e2.trans e3) (.cons (r.mono e3) rs)
theorem ed_tup (h : EvAR ta σ H ds) (hn : ds.length ≤ 100000) : EvD (tTup ta) σ H (.tup ds) := fun H1 e Q q =>
  h H1 e _ fun vs H2 e2 rs => ⟨sz_of (by rw [rs.len]; exact hn), fun p hp => q (.ref p) _ (e2.trans (Ex.new hp)) (.tup upd_same (rs.mono (Ex.new hp)))⟩
theorem ed_lst (h : EvAR ta σ H ds) (hn : ds.length ≤ 100000) : EvD (tLst ta) σ H (.lst ds) := fun H1 e Q q =>
  h H1 e _ fun vs H2 e2 rs => ⟨sz_of (by rw [rs.len]; exact hn), fun p hp => q (.ref p) _ (e2.trans (Ex.new hp)) (.lst upd_same (rs.mono (Ex.new hp)))⟩
theorem rv_mulSn {c : Nat} {l : List Nat} {n : Int} (hm : MulOk (tx [c]) n) (he : Txt.mul (tx [c]) n = tx l) : RV rMulS (.str (tx [c])) (.int n) H (.str (tx l)) := fun H1 _ Q q =>
  ⟨tx [c], n, rfl, rfl, hm, by rw [he]; exact q H1 (Ex.refl H1)⟩
theorem q_forD2 {rows : List (D × D)} {j1 j2 : Nat} (h : EvD tl σ H (.lst (rows.map fun r => .tup [r.1, r.2]))) (Pv : Hp → Nat → L2.St → Hp → Prop) (h0 : ∀ H1, Ex H H1 → Pv H1 0 σ H1) (hk : ∀ H1 i σ' H', Pv H1 i σ' H' → Ex H1 H')
    (hs : ∀ H1 i r v1 v2 σ' H', Ex H H1 → rows[i]? = some r → Rep H' v1 r.1 → Rep H' v2 r.2 → Pv H1 i σ' H' → tu { D0 with nx := Pv H1 (i + 1), ct := Pv H1 (i + 1), bk := tz D0 } ((σ'.set j1 (some v1)).set j2 (some v2)) H')
    (hd : ∀ H1 σ' H', Ex H H1 → Pv H1 rows.length σ' H' → tz D0 σ' H') : tSeq (tFor (iList K tl) (gTup K 2 (gCons (gName j1) (gCons (gName j2) gNil))) tu) tz D0 σ H := by
  refine h H (Ex.refl H) _ fun v H1 e r => ?_
  cases r with
  | @lst a vs _ hl rs =>
    have hlen : vs.length = rows.length := by rw [rs.len, List.length_map]
    refine ⟨a, rfl, ⟨vs, sq_of hl⟩, for_list (Pv H1) (h0 H1 e) (fun i σ' H' _ p => sq_of (hk H1 i σ' H' p a _ hl)) (fun i x σ' H' hx p => ?_) (fun σ' H' p => hd H1 σ' H' e (by rw [← hlen]; exact p))⟩
    obtain ⟨d, hd', rd⟩ := rs.get' hx
    rw [List.getElem?_map] at hd'
    obtain ⟨r, hr, e2⟩ := Option.map_eq_some_iff.mp hd'
    rw [← e2] at rd
    have ex := hk H1 i σ' H' p
    cases rd with
    | tup ht rr =>
      cases rr with
      | cons r1 rr =>
        cases rr with
        | cons r2 rr =>
          cases rr
          exact ⟨_, _, rfl, st_of (ex _ _ ht), rfl, _, _, rfl, _, _, rfl, rfl, hs H1 i r _ _ σ' H' e hr (r1.mono ex) (r2.mono ex) p⟩
def tupB : D → Bool
  | .tup _ => true
  | _ => false
/-- a row picked -/
theorem r_pickD {p sc : Addr} {ns : List Int} (hP : Pool K H p sc ns) (ha : Ev te σ H (.ref p)) (hb : EvD tb σ H (.lst ds)) (h0 : ds ≠ []) (hn : ds.length ≤ 1000) (hp : plnBL ds = true) (ht : ds.all tupB = true) (q : ∀ v d H', d ∈ ds → Rep H' v d → G K p sc ns H H' → Q v H') : tCall (sp_pick K) [] E (tCons te (tCons tb tNil)) σ H Q :=
  ha H (Ex.refl H) _ fun H1 e1 => hb H1 e1 _ fun v H2 e2 r => by
    have E2 := e1.trans e2
    have P2 := hP.ex E2
    cases r with
    | @lst a vs _ hl rs =>
      have hne : a ≠ p := fun e => by
        subst e
        obtain ⟨_, r, f, h1, _⟩ := P2
        rw [h1] at hl
        have := HO.lst.inj (Option.some.inj hl)
        subst this
        cases rs with
        | cons r1 rs =>
          cases rs with
          | cons r2 rs =>
            cases r2
            rw [List.all_cons, List.all_cons, Bool.and_eq_true, Bool.and_eq_true] at ht
            exact nomatch ht.2.1
      refine ⟨p, sc, ns, a, vs, rfl, P2, sq_of hl, hne, ?_, by rw [rs.len]; exact hn, fun v H' hv g => ?_⟩
      · intro z
        subst z
        exact h0 (List.length_eq_zero_iff.mp rs.len.symm)
      · obtain ⟨i, hi, rfl⟩ := List.mem_iff_getElem.mp hv
        obtain ⟨d, hd, rd⟩ := rs.get' (List.getElem?_eq_getElem hi)
        exact q _ d H' (List.mem_of_getElem? hd) (Rep.g g P2 (PlnL_get (plnBL_ok _ hp) hd) rd) (G.exL E2 g)
end
end My

set_option Elab.async false
set_option linter.all false
set_option maxRecDepth 100000
set_option maxHeartbeats 1000000
/-! what the top has written: defs, numbers, texts, tuples. -/
namespace My
open PySem PySem.Spec PyProof.Rows L2 Evl
def HasF (K : PySem.W.Frag) (x : Str) (st : Stmt) : Prop := ∃ (f : Addr) (oc : Value) (od : Option Addr) (kV dc pm : Value) (an : Option Addr) (cd ct : Value) (sl : Array (Option Value)),
  PySem.W.nsIn K mainGlobals x = some (some (.ref f)) ∧ K.lookup f = some ⟨oc, od, .func (PySem.W.fnOf x x (defArgs st) (defBody st) (defScope st) .none kV dc pm an cd ct), sl⟩ ∧ PySem.W.codeIn K cd x = true ∧ PySem.W.keepIn K (.ref f) = true
def HasI (K : PySem.W.Frag) (x : Str) (n : Int) : Prop := ∃ t, PySem.W.nsIn K mainGlobals x = some (some (.int n t))
def HasS (K : PySem.W.Frag) (x z : Str) : Prop := ∃ t, PySem.W.nsIn K mainGlobals x = some (some (.str z t))
def HasT (K : PySem.W.Frag) (x : Str) (xs : List V) : Prop := ∃ (a : Addr) (o : Obj) (its : Array Value) (n : Nat), PySem.W.nsIn K mainGlobals x = some (some (.ref a)) ∧ K.lookup a = some o ∧ o.cls = .type "tuple" ∧ o.data = .seq its n ∧ its.size ≤ sizeLine ∧ Vals xs its.toList
section
variable {K : PySem.W.Frag} {h : Heap} {mg : Str → Option Value} {x z : Str} {st : Stmt} {n : Int} {xs : List V}
theorem HasF.mk' {f : Addr} {oc : Value} {od : Option Addr} {kV dc pm : Value} {an : Option Addr} {cd ct : Value} {sl : Array (Option Value)}
    (a : PySem.W.nsIn K mainGlobals x = some (some (.ref f))) (l : K.lookup f = some ⟨oc, od, .func (PySem.W.fnOf x x (defArgs st) (defBody st) (defScope st) .none kV dc pm an cd ct), sl⟩) (c : PySem.W.codeIn K cd x = true) (k : PySem.W.keepIn K (.ref f) = true) : HasF K x st :=
  ⟨f, oc, od, kV, dc, pm, an, cd, ct, sl, a, l, c, k⟩
theorem HasI.mk' {t : Tok} (a : PySem.W.nsIn K mainGlobals x = some (some (.int n t))) : HasI K x n := ⟨t, a⟩
theorem HasS.mk' {t : Tok} (a : PySem.W.nsIn K mainGlobals x = some (some (.str z t))) : HasS K x z := ⟨t, a⟩
theorem HasT.mk' {p : Addr} {od : Option Addr} {its : Array Value} {m : Nat} {sl : Array (Option Value)} (a : PySem.W.nsIn K mainGlobals x = some (some (.ref p))) (l : K.lookup p = some ⟨.type "tuple", od, .seq its m, sl⟩) (z : its.size ≤ sizeLine) (v : Vals xs its.toList) : HasT K x xs :=
  ⟨p, _, its, m, a, l, rfl, rfl, z, v⟩
theorem HasF.get (X : K.In h) (G : h.Ns mainGlobals mg) (H : HasF K x st) : ∃ f fd, Fun K x x st f fd ∧ mg x = some (.ref f) := by
  obtain ⟨f, oc, od, kV, dc, pm, an, cd, ct, sl, a, l, c, k⟩ := H
  exact ⟨f, _, fun_mk l c k, PySem.W.mg_of X G a⟩
theorem HasI.gi (X : K.In h) (G : h.Ns mainGlobals mg) (H : HasI K x n) : GI mg x n := by
  obtain ⟨t, a⟩ := H
  exact ⟨t, PySem.W.mg_of X G a⟩
theorem HasS.gs (X : K.In h) (G : h.Ns mainGlobals mg) (H : HasS K x z) : GS mg x z := by
  obtain ⟨t, a⟩ := H
  exact ⟨t, PySem.W.mg_of X G a⟩
theorem HasT.gt (X : K.In h) (G : h.Ns mainGlobals mg) (H : HasT K x xs) : GT K mg x xs := by
  obtain ⟨a, o, its, n, m, l, c, d, z, v⟩ := H
  exact ⟨a, PySem.W.mg_of X G m, fun _ => .inr ⟨o, its, n, l, c, d, z, v⟩⟩
end
end My

set_option Elab.async false
set_option linter.all false
set_option maxRecDepth 100000
set_option maxHeartbeats 1000000
/-! sorted of texts, any number of them: a list's, a dict's keys. -/
namespace My
open PySem PySem.Spec PyProof.Rows L2 Evl
def rSortSA (K : PySem.W.Frag) : List V → Hp → VK → Prop := fun vs H Q => ∃ (a : Addr) (ks : List Str), vs = [.ref a] ∧ SqL K H a (ks.map V.str) ∧ ks.length ≤ 100000 ∧
  ∀ ys p, ys.Perm ks → sortedS ys = true → H p = none → Q (.ref p) (upd H p (.lst (ys.map V.str)))
def rSortDA : List V → Hp → VK → Prop := fun vs H Q => ∃ (a : Addr) (kvs : List (Key × V)) (ks : List Str), vs = [.ref a] ∧ Rd H a (.dK kvs) ∧ kvs.map (·.1) = ks.map Sum.inr ∧ ks.length ≤ 100000 ∧
  ∀ ys p, ys.Perm ks → sortedS ys = true → H p = none → Q (.ref p) (upd H p (.lst (ys.map V.str)))
section
variable {X : Cx}
theorem cr_sortedSA : CallR X (.builtin "sorted") (rSortSA X.K) := by
  intro pins s σ H vs us Q I r h
  obtain ⟨a, ks, rfl, hs, hn, q⟩ := h
  rw [Vals.ref1 r]
  obtain ⟨its, rv, hl, _⟩ := I.list hs
  have hlen := rv.length
  rw [List.length_map] at hlen
  refine sorted_strsAny hl.isList rv.strs (by rw [← hlen]; exact sz_of hn) fun out ys h1 h2 h3 => ?_
  obtain ⟨ep, hat⟩ := sortedAll_at s.heap its out
  refine ⟨.ref _, upd H (s.heap.objs.size + 1) (.lst (ys.map V.str)), I.laid (t' := s.toks) (fun _ _ => sortedAll_old) (Nat.le_succ _) ⟨?_, out.toList, ep, vals_of_strs h1, hat⟩, rfl, q ys _ h2 h3 (I.hok.fresh (Nat.le_succ _))⟩
  rw [List.length_map, h2.length_eq]
  exact sz_of hn
theorem cr_sortedDA (hcalm : X.calm = true) : CallR X (.builtin "sorted") rSortDA := by
  intro pins s σ H vs us Q I r h
  obtain ⟨a, kvs, ks, rfl, hd, hks, hn, q⟩ := h
  rw [Vals.ref1 r]
  obtain ⟨z, lo, ws, rel, dd⟩ := dk_rd I.hok hd
  obtain ⟨ep, hat⟩ := dd.dictAt
  have hkeys : ws.map (·.1) = ks.map Sum.inr := rel.keys.symm.trans hks
  have hl : ws.length = ks.length := by simpa using congrArg List.length hkeys
  have hz : ks.length ≤ sizeLine := sz_of hn
  refine Calls.call_function_entry kind_sorted plain_sorted entry_sorted (args_sorted1 _) ?_
  unfold Builtin.«sorted»
  refine wpAny_bind (m := checkCount "sorted" 1 1 _) (wpAny_pure ?_)
  refine wpAny_bind (PySem.W.kdu_collect (A := X.A.in1) (PySem.W.kdl_dict (knd := mixKind X.prog X.w) (kvs := ws) (ep := ep) lo) (I.ok.hd hcalm) hat (by rw [hl]; exact hz) fun h' tk acc hk hacc => ?_)
  have hal : acc.toList.length = ks.length := by rw [Array.length_toList, hacc.1, hl]
  have hS : StrsAre acc.toList ks := strs_at hal fun j v e => by
    obtain ⟨k, x, e1, e2⟩ := hacc.2 j v (by rw [← Array.getElem?_toList]; exact e)
    have e3 : (ks.map Sum.inr)[j]? = some k := by rw [← hkeys, List.getElem?_map, e1]; rfl
    rw [List.getElem?_map] at e3
    obtain ⟨y, e4, e5⟩ := Option.map_eq_some_iff.mp e3
    subst e5
    obtain ⟨t, ev⟩ := Value.isStrOf_shape (x := y) (v := v) e2
    exact ⟨y, t, e4, ev⟩
  have I1 : Inv X pins σ H { s with heap := h', toks := tk } := I.kept hk
  refine wpAny_bind (wpAny_newList ?_ (by rw [hal]; exact hz))
  have hoL : (h'.push (seqObj "list" acc.toList.toArray 0)).get? h'.objs.size = some (seqObj "list" acc.toList.toArray 0) := Heap.get?_push_size _ rfl
  show wpAny _ _ _ _ _ { s with heap := h'.push (seqObj "list" acc.toList.toArray 0), toks := tk }
  refine wpAny_bind (wpAny_holding (wpAny_call_entry slot_list_sort ⟨_, hoL, rfl⟩ entry_list_sort
    (list_sort_treeKAny strKind_oneLt (s := { s with heap := h'.push (seqObj "list" acc.toList.toArray 0), toks := tk }) hoL hS.keysOf (fun v₁ v₂ rest e => keyKind_strs (by rw [← e]; exact hS)) (by rw [hal]; exact hz) fun st' hp hs => ⟨_, rfl, ?_⟩)
    (args_list_sort _)))
  obtain ⟨ys, g1, g2, g3⟩ := sorted_out_str hS hp hs
  obtain ⟨e', he'⟩ := sortedHeap_at (vs := acc.toList) (out := (arrOf st').map (·.2)) hoL
  refine wpAny_pure ⟨_, rfl, .ref h'.objs.size, upd H h'.objs.size (.lst (ys.map V.str)), I1.laid (t' := tk) (fun b u e => ?_) (Nat.le_refl _)
    (show ObjOk X.prog X.w _ _ _ (.lst (ys.map V.str)) from ⟨by rw [List.length_map, g2.length_eq]; exact hz, ((arrOf st').map (·.2)).toList, e', vals_of_strs g1, by rw [Array.toArray_toList]; exact he'⟩), rfl, q ys _ g2 g3 (I1.hok.fresh (Nat.le_refl _))⟩
  have hb : b < h'.objs.size := Heap.lt_size e
  rw [sortedHeap_old (Nat.ne_of_lt hb) (by rw [size_push']; exact Nat.lt_succ_of_lt hb)]
  exact Heap.get?_push_of_some _ e
end
end My

set_option Elab.async false
set_option linter.all false
set_option maxRecDepth 100000
set_option maxHeartbeats 1000000
/-! text.split of one sign, as a plain function. -/
namespace My
open PySem PySem.Spec PyProof.Rows L2 Evl PySem.StrLaws
def splitT (c : Nat) : List Nat → List (List Nat)
  | [] => [[]]
  | x :: r => if x = c then [] :: splitT c r else
    match splitT c r with
    | [] => [[x]]
    | p :: q => (x :: p) :: q
/-- where c stands, counted from a -/
def posn (c : Nat) : Nat → List Nat → List Nat
  | _, [] => []
  | a, x :: r => if x = c then a :: posn c (a + 1) r else posn c (a + 1) r
theorem sub_one {l : List Nat} {c i : Nat} : Builtin.Str.subAt (tx l) (tx [c]) i = decide (l[i]? = some c) := by
  rw [subAt_eq]
  show ((l.drop i).take 1 == [c]) = _
  cases h : l[i]? with
  | none =>
    rw [List.drop_of_length_le (List.getElem?_eq_none_iff.mp h)]
    rfl
  | some x =>
    obtain ⟨hi, hx⟩ := List.getElem?_eq_some_iff.mp h
    rw [List.drop_eq_getElem_cons hi, hx]
    show ([x] == [c]) = decide (some x = some c)
    by_cases e : x = c
    · subst e
      simp
    · rw [decide_eq_false fun z => e (Option.some.inj z)]
      exact beq_eq_false_iff_ne.mpr fun z => e (List.cons.inj z).1
theorem occ_run {l : List Nat} {c : Nat} : ∀ (m k : Nat) (st : Array Nat × Nat) (pre : List Nat), k + m = l.length + 1 → st.1.toList = pre → st.2 ≤ k → pre.length ≤ k →
    (forIn (List.range' k m) st (occBody (tx l) (tx [c]) l.length (l.length + 1))).run.fst.toList = pre ++ posn c k (l.drop k)
  | 0, k, st, pre, hk, hp, _, _ => by
    rw [List.drop_of_length_le (by omega)]
    show st.1.toList = pre ++ []
    rw [hp, List.append_nil]
  | m + 1, k, st, pre, hk, hp, h2, h3 => by
    rw [List.range'_succ, List.forIn_cons]
    unfold occBody
    have hsz : st.1.size ≤ k := by rw [← Array.length_toList, hp]; exact h3
    rw [sub_one]
    by_cases hx : l[k]? = some c
    · obtain ⟨hlt, hx'⟩ := List.getElem?_eq_some_iff.mp hx
      rw [if_pos ⟨⟨⟨by omega, h2⟩, by show k + 1 ≤ l.length; omega⟩, decide_eq_true hx⟩]
      have := occ_run (l := l) (c := c) m (k + 1) (st.1.push k, k + 1) (pre ++ [k]) (by omega) (by rw [Array.toList_push, hp]) (Nat.le_refl _) (by rw [List.length_append]; exact Nat.succ_le_succ h3)
      rw [List.drop_eq_getElem_cons hlt, posn, if_pos hx', List.append_cons]
      exact this
    · rw [if_neg fun z => hx (of_decide_eq_true z.2)]
      have := occ_run (l := l) (c := c) m (k + 1) (st.1, st.2) pre (by omega) hp (Nat.le_succ_of_le h2) (Nat.le_succ_of_le h3)
      by_cases hlt : k < l.length
      · rw [List.drop_eq_getElem_cons hlt, posn, if_neg fun z => hx (by rw [List.getElem?_eq_getElem hlt, z])]
        exact this
      · rw [List.drop_of_length_le (by omega)]
        rw [List.drop_of_length_le (by omega)] at this
        exact this
theorem occ_one {l : List Nat} {c : Nat} : Builtin.Str.occurrences (tx l) (tx [c]) 0 l.length (l.length + 1) = posn c 0 l := by
  rw [occ_eq]
  exact occ_run (l.length + 1) 0 (#[], 0) [] (by omega) rfl (Nat.le_refl _) (Nat.le_refl _)
theorem str_sub {l : List Nat} {i j : Nat} : Builtin.Str.strSub (tx l) i j = tx ((l.drop i).take (j - i)) := by
  refine Str.ext' (Array.toList_inj.mp ?_)
  rw [strSub_toList]
  rfl
theorem split_ne (c : Nat) : ∀ l, splitT c l ≠ []
  | [] => fun z => nomatch z
  | x :: r => by
    rw [splitT]
    split
    · exact fun z => nomatch z
    · split <;> exact fun z => nomatch z
def pre1 (p : List Nat) : List (List Nat) → List (List Nat)
  | [] => [p]
  | q :: r => (p ++ q) :: r
theorem parts_run {l : List Nat} {c : Nat} : ∀ (n a b : Nat), b + n = l.length → a ≤ b → partsFrom (tx l) 1 a (posn c b (l.drop b)) = (pre1 ((l.drop a).take (b - a)) (splitT c (l.drop b))).map tx
  | 0, a, b, hb, hab => by
    rw [List.drop_of_length_le (show l.length ≤ b by omega)]
    show [Builtin.Str.strSub (tx l) a (tx l).length] = [tx (_ ++ [])]
    rw [str_sub, tx_len, List.append_nil, show l.length = b by omega]
  | n + 1, a, b, hb, hab => by
    have hlt : b < l.length := by omega
    rw [List.drop_eq_getElem_cons hlt, posn, splitT]
    by_cases hx : l[b] = c
    · rw [if_pos hx, if_pos hx]
      show Builtin.Str.strSub (tx l) a b :: partsFrom (tx l) 1 (b + 1) _ = tx (_ ++ []) :: (splitT c (l.drop (b + 1))).map tx
      rw [str_sub, List.append_nil, parts_run n (b + 1) (b + 1) (by omega) (Nat.le_refl _), Nat.sub_self, List.take_zero]
      cases h : splitT c (l.drop (b + 1)) with
      | nil => exact absurd h (split_ne _ _)
      | cons p q => rfl
    · rw [if_neg hx, if_neg hx, parts_run n a (b + 1) (by omega) (by omega)]
      have e : (l.drop a).take (b + 1 - a) = (l.drop a).take (b - a) ++ [l[b]] := by
        rw [show b + 1 - a = (b - a) + 1 by omega, List.take_add_one, List.getElem?_drop, show a + (b - a) = b by omega, List.getElem?_eq_getElem hlt]
        rfl
      rw [e]
      cases h : splitT c (l.drop (b + 1)) with
      | nil => exact absurd h (split_ne _ _)
      | cons p q =>
        show (((_ ++ [l[b]]) ++ p) :: q).map tx = ((_ ++ (l[b] :: p)) :: q).map tx
        rw [List.append_assoc]
        rfl
theorem split_tx {l : List Nat} {c : Nat} (hc : c < 128) : Txt.split (tx l) (tx [c]) = (splitT c l).map tx := by
  have hk : ∀ x : Str, 1 ≤ Builtin.Str.strKind x := fun x => by
    unfold Builtin.Str.strKind
    split
    · decide
    · split <;> decide
  have h1 : Builtin.Str.strKind (tx [c]) = 1 := by
    unfold Builtin.Str.strKind
    rw [if_pos (by simp [tx]; omega)]
  have key : partsFrom (tx l) 1 0 (posn c 0 l) = (splitT c l).map tx := by
    have := parts_run (l := l) (c := c) l.length 0 0 (by omega) (Nat.le_refl _)
    rw [List.drop_zero, Nat.sub_zero, List.take_zero] at this
    rw [this]
    cases h : splitT c l with
    | nil => exact absurd h (split_ne _ _)
    | cons p q => rfl
  unfold Txt.split
  rw [show (tx [c]).length = 1 from rfl, h1]
  cases l with
  | nil => rfl
  | cons x r =>
    rw [if_neg (by
      have := hk (tx (x :: r))
      rw [tx_len]
      simp
      omega)]
    rw [show (tx (x :: r)).length = (x :: r).length from tx_len _, occ_one]
    cases hp : posn c 0 (x :: r) with
    | nil =>
      rw [hp] at key
      rw [if_pos (show (([] : List Nat).isEmpty = true) from rfl), ← key]
      show [tx (x :: r)] = [Builtin.Str.strSub _ 0 _]
      rw [str_sub, List.drop_zero, tx_len, Nat.sub_zero, List.take_length]
    | cons a b =>
      rw [if_neg (by intro z; exact nomatch z), partsBetween_eq, ← hp, key]
end My

set_option Elab.async false
set_option linter.all false
set_option maxRecDepth 100000
set_option maxHeartbeats 1000000
/-! comprehensions with a test over lists and tuples, by their items. -/
namespace My
open PySem PySem.Spec PyProof.Rows L2 Evl
section
variable {K : PySem.W.Frag} {σ : L2.St} {H : Hp} {te tl : TE} {tt : TT} {xs : List V} {a : Addr}
/-- the turn of a comprehension whose item is x -/
theorem lcf_turn {H1 H' : Hp} {σ2 : L2.St} {Dl : Addr} {f : V → Bool} {g : V → V} {i : Nat} {x : V} (hx : xs[i]? = some x) (hD : H1 Dl = none) (ex : Ex H1 H') (hl : H' Dl = some (.lst (((xs.take i).filter f).map g))) (hz : xs.length ≤ 40000)
    (ht : EvT tt σ2 H1 (f x)) (he : f x = true → Ev te σ2 H1 (g x)) :
    tt σ2 H' fun b H3 => if b = true then te σ2 H3 fun y H4 => ∃ acc, H4 Dl = some (.lst acc) ∧ acc.length < sizeLine ∧ (Ex H1 (upd H4 Dl (.lst (acc ++ [y]))) ∧ (upd H4 Dl (.lst (acc ++ [y]))) Dl = some (.lst (((xs.take (i + 1)).filter f).map g)))
      else (Ex H1 H3 ∧ H3 Dl = some (.lst (((xs.take (i + 1)).filter f).map g))) := by
  refine ht H' ex _ fun H3 e3 => ?_
  have E3 := ex.trans e3
  have l3 := e3 Dl _ hl
  rw [List.take_add_one, hx, List.filter_append]
  cases hf : f x with
  | false =>
    rw [if_neg (by decide)]
    refine ⟨E3, ?_⟩
    rw [l3]
    simp [hf]
  | true =>
    rw [if_pos rfl]
    refine he hf H3 E3 _ fun H4 e4 => ⟨_, e4 Dl _ l3, sz_lt ?_, (E3.trans e4).mut hD, ?_⟩
    · have h1 := List.length_filter_le f (xs.take i)
      rw [List.length_map]
      rw [List.length_take] at h1
      omega
    · rw [upd_same]
      simp [hf]
theorem el_lcF {j : Nat} {vs : List Nat} (f : V → Bool) (g : V → V) (h : EvL tl σ H xs) (hz : xs.length ≤ 40000) (hw : ∀ x, wipe ((wipe σ vs).set j (some x)) vs = wipe σ vs)
    (ht : ∀ x H1, Ex H H1 → x ∈ xs → EvT tt ((wipe σ vs).set j (some x)) H1 (f x)) (he : ∀ x H1, Ex H H1 → x ∈ xs → f x = true → Ev te ((wipe σ vs).set j (some x)) H1 (g x)) : EvL (tLc (iList K tl) (gName j) tt te vs) σ H ((xs.filter f).map g) := by
  intro H0 e Q q
  refine h H0 e _ fun a H1 ha e1 h1 => ⟨a, rfl, ⟨xs, sq_of h1⟩, fun Dl hD => ?_⟩
  refine ⟨fun i m H' => m = xs.length - i ∧ i ≤ xs.length ∧ Ex H1 H' ∧ H' Dl = some (.lst (((xs.take i).filter f).map g)), ⟨xs.length, rfl, Nat.zero_le _, Ex.new hD, upd_same⟩, ?_⟩
  rintro i m H' ⟨rfl, hi, ex, hl⟩
  by_cases hlt : i < xs.length
  · have gx : xs[i]? = some xs[i] := List.getElem?_eq_getElem hlt
    refine .inr ⟨⟨xs, xs[i], sq_of (ex a _ h1), gx⟩, fun H' => Ex H1 H' ∧ H' Dl = some (.lst (((xs.take (i + 1)).filter f).map g)), fun H2 p => ⟨xs.length - (i + 1), by omega, rfl, hlt, p⟩, fun x H2 y => ?_⟩
    obtain ⟨rfl, y⟩ := y
    have ex' : x = xs[i] := Option.some.inj ((y xs (sq_of (ex a _ h1))).symm.trans gx)
    subst ex'
    exact ⟨hw _, lcf_turn gx hD ex hl hz (ht _ H1 (e.trans e1) (List.mem_of_getElem? gx)) (he _ H1 (e.trans e1) (List.mem_of_getElem? gx))⟩
  · have e0 : i = xs.length := by omega
    subst e0
    rw [List.take_of_length_le (Nat.le_refl _)] at hl
    exact .inl ⟨⟨xs, sq_of (ex a _ h1), Nat.le_refl _⟩, q Dl H' (fresh_back e1 hD) (e1.trans ex) hl⟩
theorem el_lcA {j : Nat} {vs : List Nat} (f : V → Bool) (g : V → V) (h : Ev tl σ H (.ref a)) (hS : SqL K H a xs) (hz : xs.length ≤ 40000) (hw : ∀ x, wipe ((wipe σ vs).set j (some x)) vs = wipe σ vs)
    (ht : ∀ x H1, Ex H H1 → x ∈ xs → EvT tt ((wipe σ vs).set j (some x)) H1 (f x)) (he : ∀ x H1, Ex H H1 → x ∈ xs → f x = true → Ev te ((wipe σ vs).set j (some x)) H1 (g x)) : EvL (tLc (iList K tl) (gName j) tt te vs) σ H ((xs.filter f).map g) := by
  intro H0 e Q q
  refine h H0 e _ fun H1 e1 => ⟨a, rfl, ⟨xs, ex_l (e.trans e1) hS⟩, fun Dl hD => ?_⟩
  have S1 := ex_l (e.trans e1) hS
  refine ⟨fun i m H' => m = xs.length - i ∧ i ≤ xs.length ∧ Ex H1 H' ∧ H' Dl = some (.lst (((xs.take i).filter f).map g)), ⟨xs.length, rfl, Nat.zero_le _, Ex.new hD, upd_same⟩, ?_⟩
  rintro i m H' ⟨rfl, hi, ex, hl⟩
  by_cases hlt : i < xs.length
  · have gx : xs[i]? = some xs[i] := List.getElem?_eq_getElem hlt
    refine .inr ⟨⟨xs, xs[i], ex_l ex S1, gx⟩, fun H' => Ex H1 H' ∧ H' Dl = some (.lst (((xs.take (i + 1)).filter f).map g)), fun H2 p => ⟨xs.length - (i + 1), by omega, rfl, hlt, p⟩, fun x H2 y => ?_⟩
    obtain ⟨rfl, y⟩ := y
    have ex' : x = xs[i] := Option.some.inj ((y xs (ex_l ex S1)).symm.trans gx)
    subst ex'
    exact ⟨hw _, lcf_turn gx hD ex hl hz (ht _ H1 (e.trans e1) (List.mem_of_getElem? gx)) (he _ H1 (e.trans e1) (List.mem_of_getElem? gx))⟩
  · have e0 : i = xs.length := by omega
    subst e0
    rw [List.take_of_length_le (Nat.le_refl _)] at hl
    exact .inl ⟨⟨xs, ex_l ex S1, Nat.le_refl _⟩, q Dl H' (fresh_back e1 hD) (e1.trans ex) hl⟩
theorem el_lcT {j : Nat} {vs : List Nat} (f : V → Bool) (g : V → V) (h : Ev tl σ H (.ref a)) (hS : SqT K H a xs) (hz : xs.length ≤ 40000) (hw : ∀ x, wipe ((wipe σ vs).set j (some x)) vs = wipe σ vs)
    (ht : ∀ x H1, Ex H H1 → x ∈ xs → EvT tt ((wipe σ vs).set j (some x)) H1 (f x)) (he : ∀ x H1, Ex H H1 → x ∈ xs → f x = true → Ev te ((wipe σ vs).set j (some x)) H1 (g x)) : EvL (tLc (iTup K tl) (gName j) tt te vs) σ H ((xs.filter f).map g) := by
  intro H0 e Q q
  refine h H0 e _ fun H1 e1 => ⟨a, rfl, ⟨xs, ex_t (e.trans e1) hS⟩, fun Dl hD => ?_⟩
  have S1 := ex_t (e.trans e1) hS
  refine ⟨fun i m H' => m = xs.length - i ∧ i ≤ xs.length ∧ Ex H1 H' ∧ H' Dl = some (.lst (((xs.take i).filter f).map g)), ⟨xs.length, rfl, Nat.zero_le _, Ex.new hD, upd_same⟩, ?_⟩
  rintro i m H' ⟨rfl, hi, ex, hl⟩
  by_cases hlt : i < xs.length
  · have gx : xs[i]? = some xs[i] := List.getElem?_eq_getElem hlt
    refine .inr ⟨⟨xs, xs[i], ex_t ex S1, gx⟩, fun H' => Ex H1 H' ∧ H' Dl = some (.lst (((xs.take (i + 1)).filter f).map g)), fun H2 p => ⟨xs.length - (i + 1), by omega, rfl, hlt, p⟩, fun x H2 y => ?_⟩
    obtain ⟨rfl, y⟩ := y
    have ex' : x = xs[i] := Option.some.inj ((y xs (ex_t ex S1)).symm.trans gx)
    subst ex'
    exact ⟨hw _, lcf_turn gx hD ex hl hz (ht _ H1 (e.trans e1) (List.mem_of_getElem? gx)) (he _ H1 (e.trans e1) (List.mem_of_getElem? gx))⟩
  · have e0 : i = xs.length := by omega
    subst e0
    rw [List.take_of_length_le (Nat.le_refl _)] at hl
    exact .inl ⟨⟨xs, ex_t ex S1, Nat.le_refl _⟩, q Dl H' (fresh_back e1 hD) (e1.trans ex) hl⟩
end
end My

set_option Elab.async false
set_option linter.all false
set_option maxRecDepth 100000
set_option maxHeartbeats 2000000
/-! enumerate(tuple); loops over enumerate(list), enumerate(tuple). -/
namespace My
open PySem PySem.Spec PyProof.Rows L2 Evl
open Sem (wp)
theorem meets_enumerate_newB1 {v : Value} {o : Obj} {H : Heap → Prop} (B : Begins v o H) :
    Meets (Builtin.«enumerate.__new__» ⟨[.type "enumerate", v], []⟩) (fun _ R s => H s.heap ∧
      R (.ok (.ret (.ref (s.heap.push o).objs.size))) { s with heap := (s.heap.push o).push { cls := .type "enumerate", data := .fields #[.none, .bool false, .ref s.heap.objs.size, rawInt 0, .none, .none] } }) :=
  .of_wp fun prog w A R s h => by
    obtain ⟨hp, g, d, tk, os⟩ := s; obtain ⟨h1, h⟩ := h
    have hsub := sub_enumerate
    have q1 : ∀ {A' : Around} {E : Value → Shared → Prop} {Q : Value → Shared → Prop}, Q (.ref hp.objs.size) ⟨hp.push o, g, d, tk, os⟩ → wpAny (model prog w) A' (pyIter v) Q E ⟨hp, g, d, tk, os⟩ :=
      fun q => B.iter prog w _ _ ⟨hp, g, d, tk, os⟩ _ h1 q
    wp_walk using q1
    refine wpAny_stack_any fun st => wpAny_pure ?_
    split
    · rename_i c _ _ _ _ _
      cases (c == Value.type "enumerate")
      · wp_walk using q1
        exact ⟨_, rfl, h⟩
      · wp_walk using q1
        exact ⟨_, rfl, h⟩
    · wp_walk using q1
      exact ⟨_, rfl, h⟩
theorem enum_begins1 {prog : Program} {w : World} {A : Around} {E : Value → Shared → Prop} {s : Shared} {v : Value} {o : Obj} {H : Heap → Prop} {Q : Value → Shared → Prop} (B : Begins v o H) (h1 : H s.heap)
    (h : ∀ h', IsEnum h' (s.heap.objs.size + 1) s.heap.objs.size 0 .none → h'.get? s.heap.objs.size = some o → h'.objs.size = s.heap.objs.size + 2 →
      (∀ b o, s.heap.get? b = some o → h'.get? b = some o) → Q (.ref (s.heap.objs.size + 1)) { s with heap := h' }) :
    wpAny (model prog w) A (call (.type "enumerate") [v]) Q E s := by
  refine callType_new F.called_enumerate (by decide) (F.typeCall_enumerate_1 _) (F.newCall_enumerate_1 _) (fun obj => F.args_object_init_2 obj _) F.entry_enumerate_new
    (meets_enumerate_newB1 B) ⟨h1, ?_⟩
  have hz : (s.heap.push o).objs.size = s.heap.objs.size + 1 := Heap.size_push ..
  show _ ∧ _
  rw [hz]
  have he : IsEnum ((s.heap.push o).push { cls := .type "enumerate", data := .fields #[.none, .bool false, .ref s.heap.objs.size, rawInt 0, .none, .none] }) (s.heap.objs.size + 1) s.heap.objs.size 0 .none := by
    have := Heap.get?_push_size (s.heap.push o) (o := { cls := .type "enumerate", data := .fields #[.none, .bool false, .ref s.heap.objs.size, rawInt 0, .none, .none] }) rfl
    rw [hz] at this; exact this
  refine ⟨⟨_, he, rfl⟩, h _ he (Heap.get?_push_of_some _ (Heap.get?_push_size _ B.free)) (by rw [Heap.size_push, hz]) fun b o x => Heap.get?_push_of_some _ (Heap.get?_push_of_some _ x)⟩
def IteT (K : PySem.W.Frag) (a : Addr) : It :=
  ⟨fun i H => ∃ (xs : List V) (x : V), SqT K H a xs ∧ xs[i]? = some x, fun i H v H' => ∃ T x, v = .ref T ∧ H T = none ∧ H' = upd H T (.tup [.int (i : Nat), x]) ∧ ∀ xs, SqT K H a xs → xs[i]? = some x, fun i H => ∃ xs : List V, SqT K H a xs ∧ xs.length ≤ i⟩
theorem turn_enumT {P : Program} {w : World} {K : PySem.W.Frag} {elts : List Expr} {kk : Nat} {tpos : Pos} (a e it : Addr) :
    Turn P w K (.Tuple elts kk tpos) (IteT K a) [e, it] e (fun i h => (∃ old, IsEnum h e it ((i : Nat) : Int) old) ∧ h.IsTupleIter it a i ∧ e ≠ it ∧ e ≠ a ∧ a ≠ it) where
  mem := by simp
  obj := fun i h st b hb => by
    obtain ⟨⟨old, he⟩, ⟨o, ho, hc, hd⟩, _⟩ := st
    have e' : b = e ∨ b = it := by simpa using hb
    rcases e' with z | z
    · rw [z]; exact ⟨_, he, fun v q => nomatch q⟩
    · rw [z]; exact ⟨o, ho, fun v q => by rw [hd] at q; cases q⟩
  keep := fun i h h' st k => let ⟨⟨old, he⟩, hi, hne⟩ := st; ⟨⟨old, k e (by simp) _ he⟩, hi.at fun o q => k it (by simp) o q, hne⟩
  item := by
    intro X hP hw hK hc i pins s σ H E I hf st hg
    subst hP hw hK
    obtain ⟨⟨old, he⟩, hit, hne, hea, hai⟩ := st
    obtain ⟨xs, x, hq, hx⟩ := hg
    obtain ⟨its, rv, p, hz⟩ := I.tuple hq
    obtain ⟨u, hu, ru⟩ := rv.get hx
    have hel : e < s.heap.objs.size := Heap.lt_size he
    have hil : it < s.heap.objs.size := by obtain ⟨_, q, _⟩ := hit; exact Heap.lt_size q
    have hlt : i < its.toArray.size := by
      have := (List.getElem?_eq_some_iff.mp hu).1
      simpa using this
    have D := Draws.tuple (prog := X.prog) (w := X.w) (A := X.A.in1) (I.ok.hd hc) it a hai its.toArray
    refine wpAny_pyNext_enum_itemD D he ⟨hit, p⟩ hlt hne (by simp [hne, hea]) fun x' h' tk hP ho hst' hT hsz hk => ?_
    obtain ⟨hit', _⟩ := hst'
    have hux : x' = u := by
      have h1 : its.toArray[i]? = some u := by simpa using hu
      exact Option.some.inj (hP.symm.trans h1)
    subst hux
    refine ⟨_, rfl, wpAny_letOwnedTupleGo_enum (s := { s with heap := h', toks := tk + 1 }) ho fun h'' he' sb => ?_⟩
    have hT2 : h''.get? s.heap.objs.size = some { cls := .type "tuple", data := .seq #[.int i tk, x'] } := (sb.2 _ (Nat.ne_of_gt hel)).trans hT
    have new : ObjOk X.prog X.w (upd H s.heap.objs.size (.tup [.int (i : Nat), x])) h'' s.heap.objs.size (.tup [.int (i : Nat), x]) :=
      ⟨by show 2 ≤ sizeLine; decide, [.int i tk, x'], .cons ⟨_, rfl⟩ (.cons ru .nil), ⟨_, hT2, rfl, _, rfl⟩⟩
    have I1 : Inv X pins σ (upd H s.heap.objs.size (.tup [.int (i : Nat), x])) { s with heap := h'', toks := tk + 1 } :=
      I.turnedNew (ch := [e, it]) (fun b ob hb q => (sb.2 b (fun z => hb (by simp [z]))).trans (hk b ob (fun z => hb (by simp [z])) (fun z => hb (by simp [z])) q)) hf (Nat.le_refl _) new
    refine ⟨.ref s.heap.objs.size, _, I1, rfl, ⟨_, x, rfl, I.hok.fresh (Nat.le_refl _), rfl, fun ys hy => by rw [I.tuple_inj hy hq]; exact hx⟩, ⟨⟨x', ?_⟩, hit'.at fun o q => (sb.2 it (Ne.symm hne)).trans q, hne, hea, hai⟩, fun b hb => ?_⟩
    · have e1 : ((i + 1 : Nat) : Int) = (i : Int) + 1 := by omega
      rw [e1]; exact he'
    · have hb' : b < s.heap.objs.size := by
        have e' : b = e ∨ b = it := by simpa using hb
        rcases e' with z | z
        · rw [z]; exact hel
        · rw [z]; exact hil
      rw [upd_ne (Nat.ne_of_lt hb')]
      exact (hf b hb).1
  done := by
    intro X hP hw hK hc i pins s σ H E I hf st hg
    subst hP hw hK
    obtain ⟨⟨old, he⟩, hit, hne, hea, hai⟩ := st
    obtain ⟨xs, hq, hx⟩ := hg
    obtain ⟨its, rv, p, hz⟩ := I.tuple hq
    obtain ⟨f0, f1, f2, f3, f4, f5⟩ := hf it (by simp)
    have hl := rv.length
    have D := Draws.tuple (prog := X.prog) (w := X.w) (A := X.A.in1) (I.ok.hd hc) it a hai its.toArray
    have hT : s.TypeIs (.ref e) "enumerate" := ⟨_, he, rfl⟩
    unfold pyNext
    refine wpAny_bind (wpAny_attempt (wpAny_callSpecial?_slot (name := Str.ofString "__next__") hT F.slot_enumerate_next
      (wpAny_call_entry F.slot_enumerate_next hT F.entry_enumerate_next ?_ (F.args_enumerate_next_1 _))))
    show wpAny _ _ (field (.ref e) 2 >>= _) _ _ _
    refine wpAny_bind (wpAny_field he rfl (x := .ref it) rfl ?_)
    refine wpAny_bind (wpAny_nextOf_tuple_end (I.ok.hd hc) hit (show s.heap.IsTuple a its.toArray from p) (by simp; omega) fun h' x he' hx' => ?_)
    obtain ⟨o, ho, hc'⟩ := hx'
    refine wpAny_bind (wpAny_isInstance (T := "StopIteration") (b := true) ⟨o, ho, hc'⟩ isSubtype_stop ?_)
    exact wpAny_pure ⟨rfl, I.turned (t' := s.toks) (fun b o hb q => he' b o hb q) f0 f1 f3 f4 f5⟩
  self := fun A i s Q E st h => let ⟨⟨_, he⟩, _⟩ := st; wpAny_pyIter_enum he h
def iEnumT (K : PySem.W.Frag) (ta : TA) : TI := fun σ H R => ta σ H fun vs H1 => ∃ a xs, vs = [.ref a] ∧ SqT K H1 a xs ∧ R (IteT K a) H1
theorem pi_enumT {X : Cx} {e : Expr} {ta : TA} {p pos tpos : Pos} {elts : List Expr} {kk : Nat} (hg : Gl X "enumerate") (hm : X.mg "enumerate" = none) (ha : PA X [e] ta) (hs : starEach [e] X.env = [(false, eval e X.env)] := by rfl) :
    PI X (.Tuple elts kk tpos) (.Call (.Name "enumerate" p) [e] [] pos) (iEnumT X.K ta) := by
  refine ⟨fun pins s σ H R I h => ?_⟩
  refine Call_ (ld_blt I hg hm boot_enumerate (PyProof.Rows.callWith_type1 (thn (ha.run pos pins s σ H _ I h) fun us s1 ⟨vs, H1, I1, r1, q1⟩ => ?_) hs rfl))
  obtain ⟨a, xs, ex, hq, q⟩ := q1
  subst ex
  cases r1 with
  | cons r rr =>
    cases rr
    cases r
    obtain ⟨its, rv, p', hz⟩ := I1.tuple hq
    have hal : a < s1.heap.objs.size := by obtain ⟨_, q', _⟩ := (show s1.heap.IsTuple a its.toArray from p'); exact Heap.lt_size q'
    refine enum_begins1 (begins_tuple a its.toArray) (show s1.heap.IsTuple a its.toArray from p') fun h' he hit hsz hk => wpAny_pyIter_enum he ?_
    have I2 : Inv X pins σ H1 { s1 with heap := h' } := I1.kept (t' := s1.toks) hk
    refine ⟨s1.heap.objs.size + 1, [s1.heap.objs.size + 1, s1.heap.objs.size], _, _, H1, rfl, I2, turn_enumT a (s1.heap.objs.size + 1) s1.heap.objs.size, ⟨⟨.none, he⟩, ⟨_, hit, rfl, rfl⟩, Nat.succ_ne_self _, Nat.ne_of_gt (Nat.lt_succ_of_lt hal), Nat.ne_of_lt hal⟩, fun b hb => ?_, q⟩
    have e' : b = s1.heap.objs.size + 1 ∨ b = s1.heap.objs.size := by simpa using hb
    have hle : s1.heap.objs.size ≤ b := by
      rcases e' with z | z
      · rw [z]; exact Nat.le_add_right _ _
      · rw [z]; exact Nat.le_refl _
    exact I1.fpOk hle (I1.hok.fresh hle)
section
variable {K : PySem.W.Frag} {σ : L2.St} {H : Hp} {te : TE} {xs : List V} {a : Addr} {D : Ends} {tu tz : TS}
/-- for i, x in enumerate(xs) -/
theorem s_forE {j1 j2 : Nat} (h : Ev te σ H (.ref a)) (hS : SqL K H a xs) (Pv : Nat → L2.St → Hp → Prop) (h0 : ∀ H1, Ex H H1 → Pv 0 σ H1) (hk : ∀ i σ' H', i ≤ xs.length → Pv i σ' H' → SqL K H' a xs)
    (hs : ∀ i x σ' H' H2, xs[i]? = some x → Pv i σ' H' → Ex H' H2 → tu { D with nx := Pv (i + 1), ct := Pv (i + 1), bk := D.nx } ((σ'.set j1 (some (.int (i : Int)))).set j2 (some x)) H2)
    (hd : ∀ σ' H', Pv xs.length σ' H' → D.nx σ' H') : tFor (iEnum K (tCons te tNil)) (gTup K 2 (gCons (gName j1) (gCons (gName j2) gNil))) tu D σ H := by
  refine h H (Ex.refl H) _ fun H1 e1 => ⟨a, xs, rfl, ex_l e1 hS, ?_⟩
  refine ⟨fun i m σ' H' => m = xs.length - i ∧ i ≤ xs.length ∧ Pv i σ' H', ⟨xs.length, rfl, Nat.zero_le _, h0 H1 e1⟩, ?_⟩
  rintro i m σ' H' ⟨rfl, hi, p⟩
  have S := hk i σ' H' hi p
  by_cases hlt : i < xs.length
  · have gx : xs[i]? = some xs[i] := List.getElem?_eq_getElem hlt
    refine .inr ⟨⟨xs, _, S, gx⟩, Pv (i + 1), fun σ2 H2 p2 => ⟨xs.length - (i + 1), by omega, rfl, hlt, p2⟩, fun v H2 y => ?_⟩
    obtain ⟨T, x', rfl, hT, rfl, f1⟩ := y
    exact ⟨T, [.int (i : Nat), x'], rfl, st_of upd_same, rfl, _, _, rfl, _, _, rfl, rfl, hs i x' σ' H' _ (f1 xs S) p (Ex.new hT)⟩
  · have e0 : i = xs.length := by omega
    subst e0
    exact .inl ⟨⟨xs, S, Nat.le_refl _⟩, hd σ' H' p⟩
theorem s_forET {j1 j2 : Nat} (h : Ev te σ H (.ref a)) (hS : SqT K H a xs) (Pv : Nat → L2.St → Hp → Prop) (h0 : ∀ H1, Ex H H1 → Pv 0 σ H1) (hk : ∀ i σ' H', i ≤ xs.length → Pv i σ' H' → SqT K H' a xs)
    (hs : ∀ i x σ' H' H2, xs[i]? = some x → Pv i σ' H' → Ex H' H2 → tu { D with nx := Pv (i + 1), ct := Pv (i + 1), bk := D.nx } ((σ'.set j1 (some (.int (i : Int)))).set j2 (some x)) H2)
    (hd : ∀ σ' H', Pv xs.length σ' H' → D.nx σ' H') : tFor (iEnumT K (tCons te tNil)) (gTup K 2 (gCons (gName j1) (gCons (gName j2) gNil))) tu D σ H := by
  refine h H (Ex.refl H) _ fun H1 e1 => ⟨a, xs, rfl, ex_t e1 hS, ?_⟩
  refine ⟨fun i m σ' H' => m = xs.length - i ∧ i ≤ xs.length ∧ Pv i σ' H', ⟨xs.length, rfl, Nat.zero_le _, h0 H1 e1⟩, ?_⟩
  rintro i m σ' H' ⟨rfl, hi, p⟩
  have S := hk i σ' H' hi p
  by_cases hlt : i < xs.length
  · have gx : xs[i]? = some xs[i] := List.getElem?_eq_getElem hlt
    refine .inr ⟨⟨xs, _, S, gx⟩, Pv (i + 1), fun σ2 H2 p2 => ⟨xs.length - (i + 1), by omega, rfl, hlt, p2⟩, fun v H2 y => ?_⟩
    obtain ⟨T, x', rfl, hT, rfl, f1⟩ := y
    exact ⟨T, [.int (i : Nat), x'], rfl, st_of upd_same, rfl, _, _, rfl, _, _, rfl, rfl, hs i x' σ' H' _ (f1 xs S) p (Ex.new hT)⟩
  · have e0 : i = xs.length := by omega
    subst e0
    exact .inl ⟨⟨xs, S, Nat.le_refl _⟩, hd σ' H' p⟩
theorem q_forE {j1 j2 : Nat} (h : Ev te σ H (.ref a)) (hS : SqL K H a xs) (Pv : Nat → L2.St → Hp → Prop) (h0 : ∀ H1, Ex H H1 → Pv 0 σ H1) (hk : ∀ i σ' H', i ≤ xs.length → Pv i σ' H' → SqL K H' a xs)
    (hs : ∀ i x σ' H' H2, xs[i]? = some x → Pv i σ' H' → Ex H' H2 → tu { D with nx := Pv (i + 1), ct := Pv (i + 1), bk := tz D } ((σ'.set j1 (some (.int (i : Int)))).set j2 (some x)) H2)
    (hd : ∀ σ' H', Pv xs.length σ' H' → tz D σ' H') : tSeq (tFor (iEnum K (tCons te tNil)) (gTup K 2 (gCons (gName j1) (gCons (gName j2) gNil))) tu) tz D σ H :=
  s_forE (D := { D with nx := tz D }) h hS Pv h0 hk hs hd
theorem q_forET {j1 j2 : Nat} (h : Ev te σ H (.ref a)) (hS : SqT K H a xs) (Pv : Nat → L2.St → Hp → Prop) (h0 : ∀ H1, Ex H H1 → Pv 0 σ H1) (hk : ∀ i σ' H', i ≤ xs.length → Pv i σ' H' → SqT K H' a xs)
    (hs : ∀ i x σ' H' H2, xs[i]? = some x → Pv i σ' H' → Ex H' H2 → tu { D with nx := Pv (i + 1), ct := Pv (i + 1), bk := tz D } ((σ'.set j1 (some (.int (i : Int)))).set j2 (some x)) H2)
    (hd : ∀ σ' H', Pv xs.length σ' H' → tz D σ' H') : tSeq (tFor (iEnumT K (tCons te tNil)) (gTup K 2 (gCons (gName j1) (gCons (gName j2) gNil))) tu) tz D σ H :=
  s_forET (D := { D with nx := tz D }) h hS Pv h0 hk hs hd
end
end My

set_option Elab.async false
set_option linter.all false
set_option maxRecDepth 100000
set_option maxHeartbeats 2000000
/-! own classes: methods bundled, fields read, dicts with text keys. -/
namespace My
open PySem PySem.Spec PyProof.Rows L2 Evl
structure MCal (P : Program) (w : World) (K : PySem.W.Frag) (mg : Str → Option Value) (base : Heap) (k : Nat) (C : Addr) (m : Str) (ps : List Str) (sp : Sp) : Prop where
  ex : ∃ f fd, FnOk P w K mg base CX0 k f fd ps sp ∧ Binds K fd ps [] ∧ Meth K C m f
theorem MCal.mono {P : Program} {w : World} {K : PySem.W.Frag} {mg : Str → Option Value} {base : Heap} {j k : Nat} {C : Addr} {m : Str} {ps : List Str} {sp : Sp} (M : MCal P w K mg base j C m ps sp) (h : j ≤ k) : MCal P w K mg base k C m ps sp := by
  obtain ⟨f, fd, F, b, mm⟩ := M.ex
  exact ⟨f, fd, F.mono h, b, mm⟩
theorem pe_mcal {X : Cx} {k j : Nat} {C : Addr} {m : Str} {ps : List Str} {sp : Sp} {o e : Expr} {es : List Expr} {ta : TE} {t : TA} {pos apos : Pos} {pl : Sem Bool} (c : Cls X.K C) (M : MCal X.prog X.w X.K X.mg X.base k C m ps sp) (hr : Room j X.A) (he : PE X o ta) (ha : PA X (e :: es) t)
    (hle : k ≤ j := by first | exact Nat.le_refl _ | decide | omega)
    (hst : starEach (e :: es) X.env = (false, eval e X.env) :: starEach es X.env := by rfl) (hpl : (backTo pos (starEach es X.env)).any (·.1) = false := by rfl)
    (ht : eval (.Call (.Attribute o m apos) (e :: es) [] pos) X.env = (do
      let ov ← eval o X.env
      standAt apos.atName
      let (f, first) ← holding [ov] (getMethod ov m pl)
      callWith pos f first (backTo pos (starEach (e :: es) X.env)) (backToKw pos (keywordEach [] X.env))) := by rfl) :
    PE X (.Call (.Attribute o m apos) (e :: es) [] pos) (tMeth C m sp [] E0 ta t) := by
  obtain ⟨f, fd, F, b, mm⟩ := M.ex
  exact pe_meth (pl := pl) he c mm F (hr.mono hle) b .nil pass0 ha hst hpl ht
/-- an own class with its __init__ -/
structure MkC (P : Program) (w : World) (K : PySem.W.Frag) (mg : Str → Option Value) (base : Heap) (k : Nat) (x : Str) (C : Addr) (ps : List Str) (sp : Sp) : Prop where
  ex : ∃ f fd, FnOk P w K mg base CX0 k f fd ps sp ∧ Binds K fd ps [] ∧ Mk K C f ∧ mg x = some (.ref C)
theorem MkC.mono {P : Program} {w : World} {K : PySem.W.Frag} {mg : Str → Option Value} {base : Heap} {j k : Nat} {x : Str} {C : Addr} {ps : List Str} {sp : Sp} (M : MkC P w K mg base j x C ps sp) (h : j ≤ k) : MkC P w K mg base k x C ps sp := by
  obtain ⟨f, fd, F, b, mm⟩ := M.ex
  exact ⟨f, fd, F.mono h, b, mm⟩
theorem pe_mkc0 {X : Cx} {k j : Nat} {x : Str} {C : Addr} {ps : List Str} {sp : Sp} {p pos : Pos} (M : MkC X.prog X.w X.K X.mg X.base k x C ps sp) (hr : Room j X.A) (hle : k + 1 ≤ j := by first | exact Nat.le_refl _ | decide | omega) (hg : Gl X x := by rfl) (hdb : (x == ("__debug__" : Str)) = false := by decide) :
    PE X (.Call (.Name x p) [] [] pos) (tMake C sp [] E0 tNil) := by
  obtain ⟨f, fd, F, b, mm, hm⟩ := M.ex
  exact pe_make0 mm F (hr.mono hle) hg hm b .nil pass0 hdb
section
variable {K : PySem.W.Frag} {σ : L2.St} {H H' : Hp} {ta tb tc te td ty tl : TE} {t : TA} {xs : List V} {x y z v : V} {p a d C dx : Addr} {D : Ends} {tu tz : TS} {fs : List (Str × V)} {f : Str} {kvs : List (Key × V)} {l : List Nat}
theorem ev_fld (h : Ev te σ H (.ref a)) (hi : H a = some (.ins C dx fs)) (c : Cls K C) (n : NoAttr K C f) (hl : fs.lookup f = some v) : Ev (tFld K te f) σ H v := fun H1 e Q q =>
  h H1 e _ fun H2 e2 => ⟨a, C, dx, fs, v, rfl, (e.trans e2) a _ hi, c, n, hl, q H2 e2⟩
theorem ev_din (h : Ev td σ H (.ref d)) (hd : H d = some (.dK kvs)) (hk : Ev ty σ H (.str (tx l))) : Ev (tDIn ty td) σ H (.bl (valV kvs (.inr (tx l))).isSome) := fun H1 e Q q =>
  hk H1 e _ fun H2 e2 => h H2 (e.trans e2) _ fun H3 e3 => ⟨d, _, rfl, DGet.k (k := Sum.inr (tx l)) (((e.trans e2).trans e3) d _ hd), q H3 (e2.trans e3)⟩
theorem ev_dget (h : Ev td σ H (.ref d)) (hd : H d = some (.dK kvs)) (hk : Ev ty σ H (.str (tx l))) (hv : valV kvs (.inr (tx l)) = some v) : Ev (tDGet td ty) σ H v := fun H1 e Q q =>
  h H1 e _ fun H2 e2 => hk H2 (e.trans e2) _ fun H3 e3 => ⟨d, v, rfl, by rw [← hv]; exact DGet.k (k := Sum.inr (tx l)) (((e.trans e2).trans e3) d _ hd), q H3 (e2.trans e3)⟩
/-- d[k] = v -/
theorem s_dput (hd : H d = some (.dK kvs)) (hv : Ev te σ H v) (h : Ev td σ H (.ref d)) (hk : Ev ty σ H (.str (tx l))) (hn : kvs.length < 100000) (k : ∀ H1, Ex H H1 → D.nx σ (upd H1 d (.dK (putK kvs (.inr (tx l)) v)))) : sDPut td ty te D σ H :=
  hv H (Ex.refl H) _ fun H1 e1 => h H1 e1 _ fun H2 e2 => hk H2 (e1.trans e2) _ fun H3 e3 => ⟨d, _, rfl, DPut.k (k := Sum.inr (tx l)) (((e1.trans e2).trans e3) d _ hd) (sz_lt hn), k H3 ((e1.trans e2).trans e3)⟩
theorem q_dput (hd : H d = some (.dK kvs)) (hv : Ev te σ H v) (h : Ev td σ H (.ref d)) (hk : Ev ty σ H (.str (tx l))) (hn : kvs.length < 100000) (k : ∀ H1, Ex H H1 → tz D σ (upd H1 d (.dK (putK kvs (.inr (tx l)) v)))) : tSeq (sDPut td ty te) tz D σ H := s_dput (D := { D with nx := tz D }) hd hv h hk hn k
theorem q_dnew {i : Nat} (k : ∀ p, H p = none → tz D (σ.set i (some (.ref p))) (upd H p (.dK []))) : tSeq (tAsg tDNewK (gName i)) tz D σ H := fun p hp => k p hp
/-- a loop over a tuple that an expression gives -/
theorem s_forTX {j : Nat} (h : ∀ Q : VK, (∀ a H1, Ex H H1 → H1 a = some (.tup xs) → Q (.ref a) H1) → te σ H Q) (Pv : Hp → Nat → L2.St → Hp → Prop) (h0 : ∀ H1, Ex H H1 → Pv H1 0 σ H1) (hk : ∀ H1 i σ' H' a us, Pv H1 i σ' H' → H1 a = some (.tup us) → H' a = some (.tup us))
    (hs : ∀ H1 i x σ' H', Ex H H1 → xs[i]? = some x → Pv H1 i σ' H' → tu { D with nx := Pv H1 (i + 1), ct := Pv H1 (i + 1), bk := D.nx } (σ'.set j (some x)) H') (hd : ∀ H1 σ' H', Ex H H1 → Pv H1 xs.length σ' H' → D.nx σ' H') : tFor (iTup K te) (gName j) tu D σ H := by
  refine h _ fun a H1 e1 h1 => ⟨a, rfl, ⟨xs, st_of h1⟩, ?_⟩
  refine ⟨fun i m σ' H' => m = xs.length - i ∧ i ≤ xs.length ∧ Pv H1 i σ' H', ⟨xs.length, rfl, Nat.zero_le _, h0 H1 e1⟩, ?_⟩
  rintro i m σ' H' ⟨rfl, hi, p⟩
  have S : SqT K H' a xs := st_of (hk H1 i σ' H' a xs p h1)
  by_cases hlt : i < xs.length
  · have gx : xs[i]? = some xs[i] := List.getElem?_eq_getElem hlt
    refine .inr ⟨⟨xs, _, S, gx⟩, Pv H1 (i + 1), fun σ2 H2 p2 => ⟨xs.length - (i + 1), by omega, rfl, hlt, p2⟩, fun v H2 y => ?_⟩
    obtain ⟨rfl, f1⟩ := y
    exact hs H1 i v σ' _ e1 (f1 xs S) p
  · have e0 : i = xs.length := by omega
    subst e0
    exact .inl ⟨⟨xs, S, Nat.le_refl _⟩, hd H1 σ' H' e1 p⟩
/-! what a text's dict holds, keys alone -/
def dkS (ks : List (List Nat)) : List (Key × V) := ks.map fun k => (Sum.inr (tx k), V.bl true)
theorem inr_tx {a b : List Nat} : ((Sum.inr (tx a) : Key) = Sum.inr (tx b)) ↔ a = b := ⟨fun h => tx_inj (Sum.inr.inj h), fun h => by rw [h]⟩
theorem dkS_any (ks : List (List Nat)) (w : List Nat) : (dkS ks).any (fun kv => decide (kv.1 = Sum.inr (tx w))) = decide (w ∈ ks) := by
  unfold dkS
  rw [List.any_map, Bool.eq_iff_iff, List.any_eq_true, decide_eq_true_eq]
  constructor
  · rintro ⟨k, hk, h⟩
    have := inr_tx.mp (of_decide_eq_true h)
    rw [← this]
    exact hk
  · exact fun h => ⟨w, h, decide_eq_true rfl⟩
theorem dkS_put (ks : List (List Nat)) (w : List Nat) : putK (dkS ks) (Sum.inr (tx w)) (V.bl true) = dkS (if w ∈ ks then ks else ks ++ [w]) := by
  by_cases h : w ∈ ks
  · have e : (dkS ks).any (fun kv => decide (kv.1 = Sum.inr (tx w))) = true := by rw [dkS_any, decide_eq_true h]
    unfold putK
    rw [if_pos e, if_pos h]
    have : ∀ l : List (List Nat), (dkS l).map (fun kv => if kv.1 = Sum.inr (tx w) then (kv.1, V.bl true) else kv) = dkS l := by
      intro l
      unfold dkS
      rw [List.map_map]
      refine List.map_congr_left fun k _ => ?_
      show (if (Sum.inr (tx k) : Key) = Sum.inr (tx w) then ((Sum.inr (tx k) : Key), V.bl true) else (Sum.inr (tx k), V.bl true)) = _
      rw [ite_self]
    exact this ks
  · have e : (dkS ks).any (fun kv => decide (kv.1 = Sum.inr (tx w))) = false := by rw [dkS_any, decide_eq_false h]
    unfold putK
    rw [e, if_neg (by decide), if_neg h]
    unfold dkS
    rw [List.map_append]
    rfl
end
end My

set_option Elab.async false
set_option linter.all false
set_option maxRecDepth 100000
set_option maxHeartbeats 2000000
/-! distinct texts, sorted texts; sorted(..), tuple(..) of them. -/
namespace My
open PySem PySem.Spec PyProof.Rows L2 Evl
abbrev L := List Nat
/-! distinct texts, in the order of their first places -/
def addF (acc : List L) (x : L) : List L := if x ∈ acc then acc else acc ++ [x]
def dedF (l : List L) : List L := l.foldl addF []
theorem add_mem {acc : List L} {x y : L} : y ∈ addF acc x ↔ y ∈ acc ∨ y = x := by
  unfold addF
  split
  · rename_i h
    constructor
    · exact fun z => .inl z
    · rintro (z | rfl)
      · exact z
      · exact h
  · rw [List.mem_append, List.mem_singleton]
theorem add_nodup {acc : List L} {x : L} (h : acc.Nodup) : (addF acc x).Nodup := by
  unfold addF
  split
  · exact h
  · rename_i hx
    rw [List.nodup_append]
    exact ⟨h, by simp, fun a ha b hb => by
      rw [List.mem_singleton] at hb
      subst hb
      intro e
      subst e
      exact hx ha⟩
theorem add_len {acc : List L} {x : L} : (addF acc x).length ≤ acc.length + 1 := by
  unfold addF
  split
  · exact Nat.le_succ _
  · rw [List.length_append]; exact Nat.le_refl _
theorem fold_mem (l : List L) : ∀ (acc : List L) (y : L), y ∈ l.foldl addF acc ↔ y ∈ acc ∨ y ∈ l := by
  induction l with
  | nil => intro acc y; simp
  | cons x r ih =>
    intro acc y
    rw [List.foldl_cons, ih, add_mem, List.mem_cons, or_assoc]
theorem fold_nodup (l : List L) : ∀ (acc : List L), acc.Nodup → (l.foldl addF acc).Nodup := by
  induction l with
  | nil => exact fun _ h => h
  | cons x r ih => exact fun acc h => ih _ (add_nodup h)
theorem fold_len (l : List L) : ∀ (acc : List L), (l.foldl addF acc).length ≤ acc.length + l.length := by
  induction l with
  | nil => exact fun _ => Nat.le_refl _
  | cons x r ih =>
    intro acc
    have h1 := ih (addF acc x)
    have h2 := @add_len acc x
    rw [List.foldl_cons, List.length_cons]
    omega
theorem ded_mem {l : List L} {y : L} : y ∈ dedF l ↔ y ∈ l := by
  unfold dedF
  rw [fold_mem]
  simp
theorem ded_nodup (l : List L) : (dedF l).Nodup := fold_nodup l [] List.nodup_nil
theorem ded_len (l : List L) : (dedF l).length ≤ l.length := by
  have := fold_len l []
  rw [List.length_nil, Nat.zero_add] at this
  exact this
theorem ded_snoc (l : List L) (x : L) : dedF (l ++ [x]) = addF (dedF l) x := by
  unfold dedF
  rw [List.foldl_append]
  rfl
theorem nodup_sub : ∀ {a b : List L}, a.Nodup → (∀ x ∈ a, x ∈ b) → a.length ≤ b.length
  | [], _, _, _ => Nat.zero_le _
  | x :: a, b, h, g => by
    rw [List.nodup_cons] at h
    have hx := g x (by simp)
    have := nodup_sub (a := a) (b := b.erase x) h.2 fun y hy => (List.mem_erase_of_ne (fun e : y = x => h.1 (by rw [← e]; exact hy))).mpr (g y (by simp [hy]))
    rw [List.length_erase_of_mem hx] at this
    have := List.length_pos_of_mem hx
    rw [List.length_cons]
    omega
/-! sorted texts -/
def leF (a b : L) : Bool := decide (¬ b < a)
def sortF (l : List L) : List L := l.mergeSort leF
theorem le_tot (a b : L) : leF a b = true ∨ leF b a = true := by
  unfold leF
  rw [decide_eq_true_eq, decide_eq_true_eq]
  rcases List.le_total a b with h | h
  · exact .inl h
  · exact .inr h
theorem le_trans' {a b c : L} (h : leF a b = true) (g : leF b c = true) : leF a c = true := by
  unfold leF at *
  rw [decide_eq_true_eq] at *
  exact List.le_trans h g
theorem le_anti {a b : L} (h : leF a b = true) (g : leF b a = true) : a = b := by
  unfold leF at *
  rw [decide_eq_true_eq] at *
  exact List.le_antisymm h g
theorem sort_unique : ∀ {xs ys : List L}, xs.Pairwise (fun a b => leF a b = true) → ys.Pairwise (fun a b => leF a b = true) → xs.Perm ys → xs = ys
  | [], ys, _, _, p => by
    have := p.length_eq
    cases ys with
    | nil => rfl
    | cons y r => exact nomatch this
  | x :: xs, [], _, _, p => nomatch p.length_eq
  | x :: xs, y :: ys, hx, hy, p => by
    rw [List.pairwise_cons] at hx hy
    have e : x = y := by
      have h1 : x ∈ y :: ys := p.mem_iff.mp (by simp)
      have h2 : y ∈ x :: xs := p.mem_iff.mpr (by simp)
      rw [List.mem_cons] at h1 h2
      rcases h1 with h1 | h1
      · exact h1
      · rcases h2 with h2 | h2
        · exact h2.symm
        · exact le_anti (hx.1 y h2) (hy.1 x h1)
    subst e
    rw [sort_unique hx.2 hy.2 (List.perm_cons x |>.mp p)]
theorem sort_perm (l : List L) : (sortF l).Perm l := List.mergeSort_perm l leF
theorem sort_sorted (l : List L) : (sortF l).Pairwise (fun a b => leF a b = true) := List.pairwise_mergeSort (le := leF) (fun a b c h g => le_trans' h g) (fun a b => by
  rw [Bool.or_eq_true]
  exact le_tot a b) l
theorem sort_mem {l : List L} {y : L} : y ∈ sortF l ↔ y ∈ l := (sort_perm l).mem_iff
theorem sort_len (l : List L) : (sortF l).length = l.length := (sort_perm l).length_eq
theorem sort_nodup {l : List L} (h : l.Nodup) : (sortF l).Nodup := (sort_perm l).nodup_iff.mpr h

theorem le_cps {x p : Str} (h : (!ltCps x.cps.toList p.cps.toList) = true) : leF p.cps.toList x.cps.toList = true := by
  rw [ltCps_eq] at h
  unfold leF
  rw [decide_eq_true_eq]
  intro z
  rw [decide_eq_true z] at h
  exact nomatch h
theorem rise_all : ∀ (r : List Str) (p : Str), risingS p r = true → (p :: r).Pairwise fun a b => leF a.cps.toList b.cps.toList = true
  | [], p, _ => by simp
  | x :: r, p, h => by
    rw [risingS, Bool.and_eq_true] at h
    have ih := rise_all r x h.2
    have h1 := le_cps h.1
    refine List.pairwise_cons.mpr ⟨fun y hy => ?_, ih⟩
    rw [List.mem_cons] at hy
    rcases hy with rfl | hy
    · exact h1
    · exact le_trans' h1 ((List.pairwise_cons.mp ih).1 y hy)
theorem sorted_is {ys : List Str} {ks : List L} (hp : ys.Perm (ks.map tx)) (hs : sortedS ys = true) : ys = (sortF ks).map tx := by
  have e : ys = (ys.map fun z => z.cps.toList).map tx := by
    rw [List.map_map]
    exact (List.map_id' ys).symm.trans (List.map_congr_left fun z _ => rfl)
  have h1 : (ys.map fun z => z.cps.toList).Perm ks := by
    have := hp.map fun z : Str => z.cps.toList
    rw [List.map_map] at this
    rw [show ks.map ((fun z : Str => z.cps.toList) ∘ tx) = ks from (List.map_congr_left fun z _ => rfl).trans (List.map_id' ks)] at this
    exact this
  have h2 : (ys.map fun z => z.cps.toList).Pairwise fun a b => leF a b = true := by
    rw [List.pairwise_map]
    cases ys with
    | nil => exact .nil
    | cons p r => exact rise_all r p hs
  rw [e, sort_unique h2 (sort_sorted ks) (h1.trans (sort_perm ks).symm)]
section
variable {K : PySem.W.Frag} {σ : L2.St} {H H' : Hp} {te : TE} {xs : List V} {a p d : Addr} {ks : List L}
theorem el_sortD (h : Ev te σ H (.ref d)) (hd : H d = some (.dK (dkS ks))) (hn : ks.length ≤ 100000) : EvL (tCB rSortDA (tCons te tNil)) σ H ((sortF ks).map fun p => V.str (tx p)) := fun H1 e Q q =>
  h H1 e _ fun H2 e2 => ⟨d, dkS ks, ks.map tx, rfl, .inl ((e.trans e2) d _ hd), by unfold dkS; rw [List.map_map, List.map_map]; rfl, by rw [List.length_map]; exact hn, fun ys p hp hs hn => by
    have := sorted_is hp hs
    subst this
    rw [List.map_map]
    exact q p _ (fresh_back e2 hn) (e2.trans (Ex.new hn)) upd_same⟩
theorem el_sortL (h : EvP te σ H fun v H' => ∃ a, v = .ref a ∧ SqL K H' a (ks.map fun p => V.str (tx p))) (hn : ks.length ≤ 100000) : EvL (tCB (rSortSA K) (tCons te tNil)) σ H ((sortF ks).map fun p => V.str (tx p)) := fun H1 e Q q =>
  h H1 e _ fun v H2 e2 ⟨a, hv, ha⟩ => ⟨a, ks.map tx, by rw [hv], by rw [List.map_map]; exact ha, by rw [List.length_map]; exact hn, fun ys p hp hs hn => by
    have := sorted_is hp hs
    subst this
    rw [List.map_map]
    exact q p _ (fresh_back e2 hn) (e2.trans (Ex.new hn)) upd_same⟩
def rTupS (K : PySem.W.Frag) : List V → Hp → VK → Prop := fun xs H Q => ∃ p ys, xs = [.ref p] ∧ ((SqL K H p ys ∧ ∀ l, H l = none → Q (.ref l) (upd H l (.tup ys))) ∨ (SqT K H p ys ∧ Q (.ref p) H))
theorem eu_tupL (h : EvL te σ H xs) : EvU (tCB (rTupS K) (tCons te tNil)) σ H xs := fun H1 e Q q =>
  h H1 e _ fun p H2 _ e2 hp => ⟨p, xs, rfl, .inl ⟨sq_of hp, fun l hl => q l _ (fresh_back e2 hl) (e2.trans (Ex.new hl)) upd_same⟩⟩
theorem eu_tupV (h : Ev te σ H (.ref a)) (ha : SqL K H a xs) : EvU (tCB (rTupS K) (tCons te tNil)) σ H xs := fun H1 e Q q =>
  h H1 e _ fun H2 e2 => ⟨a, xs, rfl, .inl ⟨ex_l (e.trans e2) ha, fun l hl => q l _ (fresh_back e2 hl) (e2.trans (Ex.new hl)) upd_same⟩⟩
theorem evp_k (h : Ev te σ H (.ref a)) (ha : SqL K H a xs) : EvP te σ H (fun v H' => ∃ a, v = .ref a ∧ SqL K H' a xs) := fun H1 e Q q => h H1 e Q fun H2 e2 => q _ H2 e2 ⟨a, rfl, ex_l (e.trans e2) ha⟩
theorem evp_ln (h : EvL te σ H xs) : EvP te σ H (fun v H' => ∃ a, v = .ref a ∧ SqL K H' a xs) := fun H1 e Q q => h H1 e Q fun p H2 _ e2 hp => q _ H2 e2 ⟨p, rfl, sq_of hp⟩
end
end My

set_option Elab.async false
set_option linter.all false
set_option maxRecDepth 100000
set_option maxHeartbeats 2000000
/-! == and != of two lists, of two tuples, one of them empty. -/
namespace My
open PySem PySem.Spec PyProof.Rows L2 Evl
def rEqE (K : PySem.W.Frag) : R2 := fun x y H Q => ∃ a b xs ys, x = .ref a ∧ y = .ref b ∧ ((SqL K H a xs ∧ SqL K H b ys) ∨ (SqT K H a xs ∧ SqT K H b ys)) ∧ ys = [] ∧ Q (.bl (decide (xs.length = 0))) H
def rNeE (K : PySem.W.Frag) : R2 := fun x y H Q => ∃ a b xs ys, x = .ref a ∧ y = .ref b ∧ (SqL K H a xs ∧ SqL K H b ys) ∧ ys = [] ∧ Q (.bl (!decide (xs.length = 0))) H
section
variable {X : Cx}
theorem op_eqE (hu : X.A.units + 64 < cLine) : OpR X (compareOp .Eq) (rEqE X.K) := by
  intro pins s σ H x y v u Q I rx ry h
  obtain ⟨a, b, xs, ys, rfl, rfl, hs, rfl, q⟩ := h
  cases rx
  cases ry
  have hu1 : X.A.units < cLine := by omega
  rcases hs with ⟨h1, h2⟩ | ⟨h1, h2⟩
  · obtain ⟨its, rv, p1, _⟩ := I.list h1
    obtain ⟨its2, rv2, p2, _⟩ := I.list h2
    cases rv2
    have hl := rv.length
    by_cases h0 : xs.length = 0
    · rw [decide_eq_true h0] at q
      have e : its = [] := List.eq_nil_of_length_eq_zero (by omega)
      subst e
      exact SeqAt.RcAt.lists (A := X.A) (s := s) (e := fun _ => true) p1.isList p2.isList rfl hu1 (fun j h1 _ => absurd h1 (by simp)) X.prog X.w _ _ ⟨.bl true, H, I, rfl, q⟩
    · rw [decide_eq_false h0] at q
      exact SeqAt.RcAt.lists_lengths (A := X.A) (s := s) p1.isList p2.isList (by simp; intro e; rw [e] at hl; exact h0 hl) hu1 X.prog X.w _ _ ⟨.bl false, H, I, rfl, q⟩
  · obtain ⟨its, rv, p1, _⟩ := I.tuple h1
    obtain ⟨its2, rv2, p2, _⟩ := I.tuple h2
    cases rv2
    have hl := rv.length
    have R := SeqAt.RcAt.tuples (A := X.A) (s := s) (e := fun _ => true) (show s.heap.IsTuple a its.toArray from p1) (show s.heap.IsTuple b [].toArray from p2) hu1 (fun j _ h2 => absurd h2 (by simp))
    have e : ((List.range (min its.toArray.size ([] : List Value).toArray.size)).all (fun _ => true) && its.toArray.size == ([] : List Value).toArray.size) = decide (xs.length = 0) := by
      rw [hl]
      cases its <;> simp
    rw [e] at R
    exact R X.prog X.w _ _ ⟨.bl _, H, I, rfl, q⟩
theorem op_neE (hu : X.A.units + 64 < cLine) : OpR X (compareOp .NotEq) (rNeE X.K) := by
  intro pins s σ H x y v u Q I rx ry h
  obtain ⟨a, b, xs, ys, rfl, rfl, ⟨h1, h2⟩, rfl, q⟩ := h
  cases rx
  cases ry
  have hu1 : X.A.units < cLine := by omega
  obtain ⟨its, rv, p1, _⟩ := I.list h1
  obtain ⟨its2, rv2, p2, _⟩ := I.list h2
  cases rv2
  have hl := rv.length
  by_cases h0 : xs.length = 0
  · rw [decide_eq_true h0] at q
    have e : its = [] := List.eq_nil_of_length_eq_zero (by omega)
    subst e
    exact SeqAt.RcNeAt.lists (A := X.A) (s := s) (e := fun _ => true) p1.isList p2.isList rfl hu1 (fun j h1 _ => absurd h1 (by simp)) X.prog X.w _ _ ⟨.bl false, H, I, rfl, q⟩
  · rw [decide_eq_false h0] at q
    exact SeqAt.RcNeAt.lists_lengths (A := X.A) (s := s) p1.isList p2.isList (by simp; intro e; rw [e] at hl; exact h0 hl) hu1 X.prog X.w _ _ ⟨.bl true, H, I, rfl, q⟩
end
section
variable {K : PySem.W.Frag} {σ : L2.St} {H H' : Hp} {te tb : TE} {xs : List V} {a : Addr}
theorem len0 {α : Type} [DecidableEq α] {xs : List α} : decide (xs.length = 0) = decide (xs = []) := decide_eq_decide.mpr List.length_eq_zero_iff
theorem ev_eqE (h : Ev te σ H (.ref a)) (hS : SqL K H a xs) (hb : EvL tb σ H []) : Ev (tOp (rEqE K) te tb) σ H (.bl (decide (xs.length = 0))) := fun H1 e Q q =>
  h H1 e _ fun H2 e2 => hb H2 (e.trans e2) _ fun p H3 _ e3 h3 => ⟨a, p, xs, [], rfl, rfl, .inl ⟨ex_l ((e.trans e2).trans e3) hS, sq_of h3⟩, rfl, q H3 (e2.trans e3)⟩
theorem ev_eqET (h : Ev te σ H (.ref a)) (hS : SqT K H a xs) (hb : EvU tb σ H []) : Ev (tOp (rEqE K) te tb) σ H (.bl (decide (xs.length = 0))) := fun H1 e Q q =>
  h H1 e _ fun H2 e2 => hb H2 (e.trans e2) _ fun p H3 _ e3 h3 => ⟨a, p, xs, [], rfl, rfl, .inr ⟨ex_t ((e.trans e2).trans e3) hS, st_of h3⟩, rfl, q H3 (e2.trans e3)⟩
theorem ev_neE (h : Ev te σ H (.ref a)) (hS : SqL K H a xs) (hb : EvL tb σ H []) : Ev (tOp (rNeE K) te tb) σ H (.bl (!decide (xs.length = 0))) := fun H1 e Q q =>
  h H1 e _ fun H2 e2 => hb H2 (e.trans e2) _ fun p H3 _ e3 h3 => ⟨a, p, xs, [], rfl, rfl, ⟨ex_l ((e.trans e2).trans e3) hS, sq_of h3⟩, rfl, q H3 (e2.trans e3)⟩
end
end My

set_option Elab.async false
set_option linter.all false
set_option maxRecDepth 100000
set_option maxHeartbeats 2000000
/-! e.replace(..) behind a test that gives out a token. -/
namespace My
open PySem PySem.Spec PyProof.Rows L2 Evl
section
variable {X : Cx}
theorem pe_ifTok {op : CmpOp} {r : R2} {l a b : Expr} {tl ta tb : TE} {i : Int} {j : Nat} {p pos pos2 : Pos} (ho : OpR X (compareOp op) r) (hl : PE X l tl) (ha : PET X a ta) (hb : PE X b tb) (hm : behindInMarks op (.Constant (.int i) j p) = false) :
    PE X (.IfExp (.Compare l [op] [.Constant (.int i) j p] pos) a b pos2) (tIf (tTest (tOp r tl (tC (.int i)))) ta tb) := by
  refine ⟨fun pins s σ H Q I h => ?_⟩
  refine wpAny_IfExp (wpAny_isTrue_Compare1 (thn (hl.run pins s σ H _ I h) fun v s1 ⟨x, H1, I1, r1, q1⟩ => wpAny_Constant_int (wpAny_mono (PySem.wpAny_toks (ho pins _ σ H1 x (.int i) v _ _ (I1.tok _) r1 ⟨_, rfl⟩ q1)) (fun c s3 q => ?_) fun _ _ z => z.2)) hm)
  obtain ⟨hk, z, H3, I3, r3, k, e, q3⟩ := q
  subst e
  cases r3
  have hk' : s1.toks + 1 ≤ s3.toks := hk
  refine wpAny_truthy_bool ?_
  cases k with
  | true => exact ha pins s3 σ H3 Q (by omega) I3 q3
  | false => exact hb.run pins s3 σ H3 Q I3 q3
end
end My

set_option Elab.async false
set_option linter.all false
set_option maxRecDepth 100000
set_option maxHeartbeats 1000000
/-! what the top has written: methods of an own class. -/
namespace My
open PySem PySem.Spec PyProof.Rows L2 Evl
def HasM (K : PySem.W.Frag) (C : Addr) (x q : Str) (st : Stmt) : Prop := ∃ (f : Addr) (oc : Value) (od : Option Addr) (kV dc pm : Value) (an : Option Addr) (cd ct : Value) (sl : Array (Option Value)),
  PySem.W.findIn K (.ref C) x = some (some (.ref f)) ∧ PySem.W.isFn K (.ref f) = true ∧ K.lookup f = some ⟨oc, od, .func (PySem.W.fnOf x q (defArgs st) (defBody st) (defScope st) .none kV dc pm an cd ct), sl⟩ ∧ PySem.W.codeIn K cd q = true ∧ PySem.W.keepIn K (.ref f) = true
section
variable {K : PySem.W.Frag} {C : Addr} {x q : Str} {st : Stmt}
theorem HasM.mk' {f : Addr} {oc : Value} {od : Option Addr} {kV dc pm : Value} {an : Option Addr} {cd ct : Value} {sl : Array (Option Value)}
    (a : PySem.W.findIn K (.ref C) x = some (some (.ref f))) (i : PySem.W.isFn K (.ref f) = true) (l : K.lookup f = some ⟨oc, od, .func (PySem.W.fnOf x q (defArgs st) (defBody st) (defScope st) .none kV dc pm an cd ct), sl⟩) (c : PySem.W.codeIn K cd q = true) (k : PySem.W.keepIn K (.ref f) = true) : HasM K C x q st :=
  ⟨f, oc, od, kV, dc, pm, an, cd, ct, sl, a, i, l, c, k⟩
theorem HasM.get (H : HasM K C x q st) : ∃ f fd, Fun K x q st f fd ∧ Meth K C x f := by
  obtain ⟨f, oc, od, kV, dc, pm, an, cd, ct, sl, a, i, l, c, k⟩ := H
  exact ⟨f, _, fun_mk l c k, ⟨a, i, k⟩⟩
end
end My

set_option Elab.async false
set_option linter.all false
set_option maxRecDepth 100000
set_option maxHeartbeats 1000000
/-! sorted of tuples of ints and texts, any number of them: a list's, a dict's keys. -/
namespace My
open PySem PySem.Spec PyProof.Rows L2 Evl
abbrev It1 := Int ⊕ List Nat
def itV : It1 → V
  | .inl n => .int n
  | .inr l => .str (tx l)
def shOk (sh : Nat → Bool) : Nat → List It1 → Bool
  | _, [] => true
  | i, .inl _ :: r => (!sh i) && shOk sh (i + 1) r
  | i, .inr _ :: r => sh i && shOk sh (i + 1) r
def lexT (a b : List It1) : Bool := PyProof.Rows.lexLt itemOrd a b
theorem items_of_vals (sh : Nat → Bool) : ∀ (k : List It1) (us : List Value) (i : Nat), Vals (k.map itV) us → shOk sh i k = true → tupItems sh i us = some k
  | [], us, i, r, _ => by
    cases r
    rfl
  | .inl n :: k, us, i, r, h => by
    rw [shOk, Bool.and_eq_true] at h
    rw [List.map_cons] at r
    cases r with
    | cons r1 r2 =>
      obtain ⟨t, rfl⟩ := r1
      rw [tupItems, if_neg (by rw [Bool.not_eq_true'] at h; rw [h.1]; exact Bool.false_ne_true), items_of_vals sh k _ (i + 1) r2 h.2]
      rfl
  | .inr l :: k, us, i, r, h => by
    rw [shOk, Bool.and_eq_true] at h
    rw [List.map_cons] at r
    cases r with
    | cons r1 r2 =>
      obtain ⟨t, rfl⟩ := r1
      rw [tupItems, if_pos h.1, items_of_vals sh k _ (i + 1) r2 h.2]
      rfl
/-- a tuple of the heap, its items as the shape says -/
def TP (h : Heap) (sh : Nat → Bool) (v : Value) (k : List It1) : Prop := ∃ a o xs n, v = Value.ref a ∧ h.get? a = some o ∧ o.cls = .type "tuple" ∧ o.data = .seq xs n ∧ tupItems sh 0 xs.toList = some k ∧ k ≠ []
theorem TP.key {h : Heap} {sh : Nat → Bool} {v : Value} {k : List It1} (t : TP h sh v k) : tupKey h sh v = some k := by
  obtain ⟨a, o, xs, n, rfl, ho, _, hd, hi, _⟩ := t
  simp only [tupKey, ho, hd]
  exact hi
theorem TP.keeps {h h' : Heap} {sh : Nat → Bool} {v : Value} {k : List It1} (t : TP h sh v k) (hk : ∀ b o, h.get? b = some o → o.cls = .type "tuple" → h'.get? b = some o) : TP h' sh v k := by
  obtain ⟨a, o, xs, n, e, ho, hc, r⟩ := t
  exact ⟨a, o, xs, n, e, hk _ _ ho hc, hc, r⟩
theorem TP.first {h : Heap} {sh : Nat → Bool} {v : Value} {k : List It1} (t : TP h sh v k) : ∃ f, TupOf h sh v f := by
  obtain ⟨a, o, xs, n, e, ho, hc, hd, hi, hne⟩ := t
  cases hx : xs.toList with
  | nil =>
    rw [hx] at hi
    have : k = [] := (Option.some.inj hi).symm
    exact absurd this hne
  | cons f r =>
    rw [hx] at hi
    refine ⟨f, a, o, xs, n, e, ho, hc, hd, by rw [← Array.getElem?_toList, hx]; rfl, fun h0 => ?_, fun h0 => ?_⟩
    · obtain ⟨m, t, l', rfl, _⟩ := tupItems_int h0 hi
      exact ⟨m, t, rfl⟩
    · obtain ⟨m, t, l', rfl, _⟩ := tupItems_str h0 hi
      exact ⟨m, t, rfl⟩
theorem firsts_all {h : Heap} {sh : Nat → Bool} : ∀ {vs : List Value}, (∀ v ∈ vs, ∃ k, TP h sh v k) → ∃ fs, TupsOf h sh vs fs ∧ fs.length = vs.length
  | [], _ => ⟨[], .nil, rfl⟩
  | v :: vs, hv => by
    obtain ⟨k, t⟩ := hv v (by simp)
    obtain ⟨f, tf⟩ := t.first
    obtain ⟨fs, h1, h2⟩ := firsts_all (vs := vs) fun u hu => hv u (by simp [hu])
    exact ⟨f :: fs, .cons tf h1, by rw [List.length_cons, List.length_cons, h2]⟩
def ltK (h : Heap) (sh : Nat → Bool) (v u : Value) : Bool := lexT ((tupKey h sh v).getD []) ((tupKey h sh u).getD [])
theorem swo_K (h : Heap) (sh : Nat → Bool) : SrtO.Swo (ltK h sh) := by
  refine ⟨fun x y e => ?_, fun x y z h1 h2 => ?_⟩
  · cases g : ltK h sh y x with
    | false => rfl
    | true =>
      have := lex_trans (O := itemOrd) _ _ _ e g
      rw [lex_irrefl] at this
      exact nomatch this
  · cases g : ltK h sh z x with
    | false => rfl
    | true =>
      rcases lex_negTrans (O := itemOrd) ((tupKey h sh z).getD []) ((tupKey h sh y).getD []) ((tupKey h sh x).getD []) g with q | q
      · exact absurd (h2.symm.trans q) Bool.false_ne_true
      · exact absurd (h1.symm.trans q) Bool.false_ne_true
section
variable {prog : Program} {w : World} {A : Around} {E : Value → Shared → Prop} {s : Shared}
theorem sortable_K {h0 : Heap} {sh : Nat → Bool} {a : Addr} {vs : List Value} (h2 : 0 < vs.length) (hv0 : ∀ v ∈ vs, ∃ k, TP h0 sh v k) (hk0 : ∀ b o, h0.get? b = some o → o.cls = .type "tuple" → s.heap.get? b = some o) (ha : ∀ o, s.heap.get? a = some o → o.cls ≠ .type "tuple") :
    SrtO.SortableO prog w A s a vs (ltK h0 sh) := by
  intro h' keep
  have hv : ∀ v ∈ vs, ∀ k, TP h0 sh v k → TP h' sh v k := fun v hm k t => (t.keeps hk0).keeps fun b o e c => keep b o (fun z => by subst z; exact ha o e c) e
  obtain ⟨fs, f1, f2⟩ := firsts_all (h := h') (sh := sh) (vs := vs) fun v hm => (hv0 v hm).elim fun k t => ⟨k, hv v hm k t⟩
  refine ⟨tuples' true, fun Q E hq => tup_kind (s := { s with heap := h' }) (by omega) f1 hq, ?_⟩
  intro p q hm hm'
  obtain ⟨k1, t1⟩ := hv0 _ hm
  obtain ⟨k2, t2⟩ := hv0 _ hm'
  refine tup_ltAt (s := { s with heap := h' }) (shape := sh) true A (fun _ _ => False) p.1 q.1 k1 k2 (hv _ hm _ t1).key (hv _ hm' _ t2).key ⟨rfl, ?_⟩
  show PyProof.Rows.lexLt itemOrd k1 k2 = ltK h0 sh p.1 q.1
  unfold ltK
  rw [t1.key, t2.key]
  rfl
end
theorem perm_pre {α β : Type} {f : α → β} : ∀ {l : List β} {ts : List α}, l.Perm (ts.map f) → ∃ ts' : List α, ts'.Perm ts ∧ l = ts'.map f
  | [], ts, h => by
    have := h.length_eq
    rw [List.length_map, List.length_nil] at this
    rw [List.length_eq_zero_iff.mp this.symm]
    exact ⟨[], .refl _, rfl⟩
  | b :: l, ts, h => by
    have hb : b ∈ ts.map f := h.mem_iff.mp (by simp)
    obtain ⟨t, ht, rfl⟩ := List.mem_map.mp hb
    obtain ⟨p, q, rfl⟩ := List.append_of_mem ht
    have h1 : (f t :: l).Perm (f t :: (p ++ q).map f) := h.trans (by
      rw [List.map_append, List.map_append, List.map_cons]
      exact List.perm_middle)
    obtain ⟨ts', g1, g2⟩ := perm_pre (List.Perm.cons_inv h1)
    exact ⟨t :: ts', (g1.cons t).trans List.perm_middle.symm, by rw [g2]; rfl⟩
abbrev TK := Addr × List It1
def rSortTA (K : PySem.W.Frag) : List V → Hp → VK → Prop := fun vs H Q => ∃ (a : Addr) (ts : List TK) (sh : Nat → Bool), vs = [.ref a] ∧ SqL K H a (ts.map fun t => V.ref t.1) ∧ (∀ t ∈ ts, SqT K H t.1 (t.2.map itV) ∧ shOk sh 0 t.2 = true ∧ t.2 ≠ []) ∧ ts.length ≤ 100000 ∧
  ∀ (ts' : List TK) p, ts'.Perm ts → ts'.Pairwise (fun x y => lexT y.2 x.2 = false) → H p = none → Q (.ref p) (upd H p (.lst (ts'.map fun t => V.ref t.1)))
def kI : Key → It1
  | .inl i => .inl i
  | .inr x => .inr x.cps.toList
theorem kI_V (k : Key) : itV (kI k) = kV k := by cases k <;> rfl
/-- sorted(d), d's keys tuples -/
def rSortTD : List V → Hp → VK → Prop := fun vs H Q => ∃ (a : Addr) (kvs : List (List Key × V)) (sh : Nat → Bool), vs = [.ref a] ∧ Rd H a (.dT kvs) ∧ (∀ t ∈ kvs, shOk sh 0 (t.1.map kI) = true ∧ t.1 ≠ []) ∧ kvs.length ≤ 100000 ∧
  ∀ (ts' : List TK) p, (ts'.map (·.2)).Perm (kvs.map fun t => t.1.map kI) → ts'.Pairwise (fun x y => lexT y.2 x.2 = false) → (∀ t ∈ ts', H t.1 = some (.tup (t.2.map itV))) → H p = none → Q (.ref p) (upd H p (.lst (ts'.map fun t => V.ref t.1)))
section
variable {X : Cx}
theorem vals_refT : ∀ {ts : List TK} {us : List Value}, Vals (ts.map fun t => V.ref t.1) us → us = ts.map fun t => Value.ref t.1
  | [], _, .nil => rfl
  | p :: ks, _, .cons r t => by
    cases r
    rw [vals_refT t] <;> rfl
theorem vals_refT' : ∀ ts : List TK, Vals (ts.map fun t => V.ref t.1) (ts.map fun t => Value.ref t.1)
  | [] => .nil
  | _ :: r => .cons rfl (vals_refT' r)
theorem tp_of {pins : List (Addr × Obj)} {σ : L2.St} {H : Hp} {s : Shared} {sh : Nat → Bool} {t : TK} (I : Inv X pins σ H s) (h : SqT X.K H t.1 (t.2.map itV)) (h1 : shOk sh 0 t.2 = true) (h2 : t.2 ≠ []) : TP s.heap sh (.ref t.1) t.2 := by
  obtain ⟨its, r, ⟨o, ho, hc, n, hd⟩, _⟩ := I.tuple h
  exact ⟨_, o, its.toArray, n, rfl, ho, hc, hd, items_of_vals sh _ _ 0 r h1, h2⟩
theorem cr_sortedTA : CallR X (.builtin "sorted") (rSortTA X.K) := by
  intro pins s σ H vs us Q I r h
  obtain ⟨a, ts, sh, rfl, hs, ht, hn, q⟩ := h
  rw [Vals.ref1 r]
  obtain ⟨its, rv, hl, hz⟩ := I.list hs
  have ei := vals_refT rv
  have tp : ∀ t ∈ ts, TP s.heap sh (.ref t.1) t.2 := fun t hm => tp_of I (ht t hm).1 (ht t hm).2.1 (ht t hm).2.2
  have hall : ∀ v ∈ its, ∃ k, TP s.heap sh v k := fun v hv => by
    rw [ei] at hv
    obtain ⟨t, hm, rfl⟩ := List.mem_map.mp hv
    exact ⟨_, tp t hm⟩
  refine SrtO.sorted_ord (swo_K s.heap sh) hl.isList (by rw [ei, List.length_map]; exact sz_of hn) (fun h2 h₁ b hb kk => ?_) fun out hs' hb => ?_
  · refine sortable_K (s := { s with heap := h₁ }) (by omega) hall (fun c o e _ => (kk c o e).2) fun o e => ?_
    have e' : some o = some (seqObj "list" its.toArray 0) := e.symm.trans hb
    cases e'
    intro c
    exact absurd (Value.type.inj c) (by decide)
  · obtain ⟨ts', p1, p2⟩ := perm_pre (show out.Perm (ts.map fun t : TK => Value.ref t.1) by rw [← ei]; exact hb.perm)
    obtain ⟨ep, hat⟩ := sortedAll_at s.heap its out.toArray
    refine ⟨.ref _, upd H (s.heap.objs.size + 1) (.lst (ts'.map fun t => V.ref t.1)), I.laid (t' := s.toks) (fun _ _ => sortedAll_old) (Nat.le_succ _) ⟨?_, out, ep, ?_, hat⟩, rfl, q ts' _ p1 ?_ (I.hok.fresh (Nat.le_succ _))⟩
    · rw [List.length_map, p1.length_eq]
      exact sz_of hn
    · rw [p2]
      exact vals_refT' ts'
    · have hp : (ts'.map fun t : TK => Value.ref t.1).Pairwise (fun x y => ltK s.heap sh y x = false) := by rw [← p2]; exact hs'
      rw [List.pairwise_map] at hp
      refine hp.imp_of_mem fun {x y} hx hy e => ?_
      have tx' := tp x (p1.mem_iff.mp hx)
      have ty' := tp y (p1.mem_iff.mp hy)
      unfold ltK at e
      rw [tx'.key, ty'.key] at e
      exact e
theorem cr_sortedTD (hcalm : X.calm = true) : CallR X (.builtin "sorted") rSortTD := by
  intro pins s σ H vs us Q I r h
  obtain ⟨d, kvs, sh, rfl, hd, ht, hn, q⟩ := h
  rw [Vals.ref1 r]
  obtain ⟨z, hs, ks, pr, o, es, ep, ho, hx, hdt, he, hnd⟩ := (show ObjOk X.prog X.w H s.heap d (.dT kvs) from hd.ok I.hok)
  have l1 : es.size = ks.length := size_of_entries he
  have l2 : kvs.length = ks.length := Paired.length pr
  refine Calls.call_function_entry kind_sorted plain_sorted entry_sorted (args_sorted1 _) ?_
  unfold Builtin.«sorted»
  refine wpAny_bind (m := checkCount "sorted" 1 1 _) (wpAny_pure ?_)
  refine wpAny_bind (PySem.W.kdu_collect (A := X.A.in1) (kdl_raw hs hx hdt) (I.ok.hd hcalm) ho (by omega) fun h' tk acc' kp it => ?_)
  have ea : acc'.toList = ks.map fun x => Value.ref x.2.1 := by
    have hl : acc'.toList.length = ks.length := by rw [Array.length_toList, it.1]; exact l1
    apply List.ext_getElem?
    intro j
    rw [List.getElem?_map]
    cases hj : acc'.toList[j]? with
    | none =>
      have h1 := List.getElem?_eq_none_iff.mp hj
      rw [List.getElem?_eq_none (by omega)]
      all_goals rfl
    | some v =>
      obtain ⟨en, hen, hv⟩ := it.2 j v (by rw [← Array.getElem?_toList]; exact hj)
      have qe := entry_at he j
      rw [hen] at qe
      cases hb : ks[j]? with
      | none =>
        rw [hb] at qe
        exact nomatch (show some en = none from qe)
      | some b =>
        rw [hb] at qe
        have e2 : en = entryOfKey (tupleKind (mixKind X.prog X.w)) b := Option.some.inj qe
        rw [hv, e2]
        all_goals rfl
  have I1 : Inv X pins σ H { s with heap := h', toks := tk } := I.kept kp
  -- the pairs (key's place, key)
  have tk0 : ∀ {l : List (List Key × V)} {m : List (List Key × Addr × Value)}, Paired (fun (p : List Key × V) (q : List Key × Addr × Value) => p.1 = q.1 ∧ H q.2.1 = some (.tup (p.1.map kV)) ∧ RelV p.2 q.2.2) l m → (∀ t ∈ l, shOk sh 0 (t.1.map kI) = true ∧ t.1 ≠ []) →
      ∃ ts : List TK, (m.map fun x => Value.ref x.2.1) = ts.map (fun t => Value.ref t.1) ∧ ts.map (·.2) = l.map (fun t => t.1.map kI) ∧ ∀ t ∈ ts, H t.1 = some (.tup (t.2.map itV)) ∧ shOk sh 0 t.2 = true ∧ t.2 ≠ [] := by
    intro l m q
    induction q with
    | nil => intro _; exact ⟨[], rfl, rfl, fun t h => absurd h (by simp)⟩
    | @cons p q ps qs hq t ih =>
      intro hl
      obtain ⟨ts, a1, a2, a3⟩ := ih fun t ht => hl t (by simp [ht])
      have hp := hl p (by simp)
      refine ⟨(q.2.1, p.1.map kI) :: ts, by rw [List.map_cons, List.map_cons, a1], by rw [List.map_cons, List.map_cons, a2], fun t ht => ?_⟩
      rcases List.mem_cons.mp ht with rfl | ht
      · refine ⟨?_, hp.1, fun e => hp.2 (List.map_eq_nil_iff.mp e)⟩
        show H q.2.1 = _
        rw [hq.2.1, List.map_map]
        congr 2
        exact List.map_congr_left fun k _ => (kI_V k).symm
      · exact a3 t ht
  obtain ⟨ts, e1, e2, e3⟩ := tk0 pr ht
  have ei : acc'.toList = ts.map fun t => Value.ref t.1 := by rw [ea, e1]
  have hlen : acc'.toList.length ≤ sizeLine := by rw [ea, List.length_map]; omega
  refine wpAny_bind (wpAny_newList ?_ hlen)
  have hoL : (h'.push (seqObj "list" acc'.toList.toArray 0)).get? h'.objs.size = some (seqObj "list" acc'.toList.toArray 0) := Heap.get?_push_size _ rfl
  have tp : ∀ t ∈ ts, TP h' sh (.ref t.1) t.2 := fun t hm => tp_of (X := X) (s := { s with heap := h', toks := tk }) I1 (st_of (e3 t hm).1) (e3 t hm).2.1 (e3 t hm).2.2
  have hall : ∀ v ∈ acc'.toList, ∃ k, TP h' sh v k := fun v hv => by
    rw [ei] at hv
    obtain ⟨t, hm, rfl⟩ := List.mem_map.mp hv
    exact ⟨_, tp t hm⟩
  show wpAny _ _ _ _ _ { s with heap := h'.push (seqObj "list" acc'.toList.toArray 0), toks := tk }
  refine wpAny_bind (wpAny_holding (wpAny_call_entry slot_list_sort ⟨_, hoL, rfl⟩ entry_list_sort
    (SrtO.list_sort_ord (s := { s with heap := h'.push (seqObj "list" acc'.toList.toArray 0), toks := tk }) (swo_K h' sh) hoL hlen (fun h2 => ?_) fun out hs' hb => ⟨_, rfl, ?_⟩)
    (args_list_sort _)))
  · refine sortable_K (by omega) hall (fun c o e _ => Heap.get?_push_of_some _ e) fun o e => ?_
    have e' : some o = some (seqObj "list" acc'.toList.toArray 0) := e.symm.trans hoL
    cases e'
    intro c
    exact absurd (Value.type.inj c) (by decide)
  · obtain ⟨ts', p1, p2⟩ := perm_pre (show out.Perm (ts.map fun t : TK => Value.ref t.1) by rw [← ei]; exact hb.perm)
    obtain ⟨e', he'⟩ := sortedHeap_at (vs := acc'.toList) (out := out.toArray) hoL
    refine wpAny_pure ⟨_, rfl, .ref h'.objs.size, upd H h'.objs.size (.lst (ts'.map fun t => V.ref t.1)), I1.laid (t' := tk) (fun b u e => ?_) (Nat.le_refl _)
      (show ObjOk X.prog X.w _ _ _ (.lst (ts'.map fun t => V.ref t.1)) from ⟨?_, out, e', ?_, he'⟩), rfl, q ts' _ ?_ ?_ (fun t hm => (e3 t (p1.mem_iff.mp hm)).1) (I1.hok.fresh (Nat.le_refl _))⟩
    · have hb : b < h'.objs.size := Heap.lt_size e
      rw [sortedHeap_old (Nat.ne_of_lt hb) (by rw [size_push']; exact Nat.lt_succ_of_lt hb)]
      exact Heap.get?_push_of_some _ e
    · rw [List.length_map, p1.length_eq]
      have := congrArg List.length ei
      rw [List.length_map] at this
      omega
    · rw [p2]
      exact vals_refT' ts'
    · rw [← e2]
      exact p1.map _
    · have hp : (ts'.map fun t : TK => Value.ref t.1).Pairwise (fun x y => ltK h' sh y x = false) := by rw [← p2]; exact hs'
      rw [List.pairwise_map] at hp
      refine hp.imp_of_mem fun {x y} hx hy e => ?_
      have tx' := tp x (p1.mem_iff.mp hx)
      have ty' := tp y (p1.mem_iff.mp hy)
      unfold ltK at e
      rw [tx'.key, ty'.key] at e
      exact e
end
/-! the one order of the contents -/
def sortK (l : List (List It1)) : List (List It1) := l.mergeSort fun a b => !lexT b a
theorem sortK_unique {xs ys : List (List It1)} (h1 : xs.Perm ys) (h2 : xs.Pairwise fun a b => lexT b a = false) : xs = sortK ys := by
  have hp : (sortK ys).Perm ys := List.mergeSort_perm ys _
  have hs : (sortK ys).Pairwise fun a b => lexT b a = false := by
    have := List.pairwise_mergeSort (le := fun a b => !lexT b a) (fun a b c h g => by
      rw [Bool.not_eq_true'] at h g ⊢
      cases e : lexT c a with
      | false => rfl
      | true =>
        rcases lex_negTrans (O := itemOrd) c b a e with q | q
        · exact absurd (g.symm.trans q) Bool.false_ne_true
        · exact absurd (h.symm.trans q) Bool.false_ne_true) (fun a b => by
      cases e : lexT b a with
      | false => rfl
      | true =>
        cases f : lexT a b with
        | false => rfl
        | true =>
          have := lex_trans (O := itemOrd) _ _ _ e f
          rw [lex_irrefl] at this
          exact nomatch this) ys
    exact this.imp fun h => by rwa [Bool.not_eq_true'] at h
  have uniq : ∀ {xs ys : List (List It1)}, xs.Pairwise (fun a b => lexT b a = false) → ys.Pairwise (fun a b => lexT b a = false) → xs.Perm ys → xs = ys := by
    intro xs
    induction xs with
    | nil => intro ys _ _ h; exact h.nil_eq
    | cons x xs ih =>
      intro ys ha hb h
      cases ys with
      | nil => exact absurd h.length_eq (by simp)
      | cons y ys =>
        rw [List.pairwise_cons] at ha hb
        have e : x = y := by
          have hx : x ∈ y :: ys := h.mem_iff.mp (by simp)
          have hy : y ∈ x :: xs := h.mem_iff.mpr (by simp)
          rcases List.mem_cons.mp hx with e | hx
          · exact e
          · rcases List.mem_cons.mp hy with e | hy
            · exact e.symm
            · exact lex_total (O := itemOrd) x y (hb.1 x hx) (ha.1 y hy)
        subst e
        rw [ih ha.2 hb.2 (List.Perm.cons_inv h)]
  exact uniq h2 hs (h1.trans hp.symm)
end My

set_option Elab.async false
set_option linter.all false
set_option maxRecDepth 100000
set_option maxHeartbeats 1000000
/-! t[::-1] of a tuple; d[k] = v by a comprehension with tuple keys. -/
namespace My
open PySem PySem.Spec PyProof.Rows L2 Evl
section
variable {prog : Program} {w : World} {A : Around} {E : Value → Shared → Prop} {s : Shared}
theorem fm_congr {α β : Type} {f g : α → Option β} : ∀ (l : List α), (∀ x ∈ l, f x = g x) → l.filterMap f = l.filterMap g
  | [], _ => rfl
  | a :: l, h => by
    rw [List.filterMap_cons, List.filterMap_cons, h a (by simp), fm_congr l fun x hx => h x (by simp [hx])]
theorem pick_back (xs : Array Value) : ((List.range xs.size).filterMap fun (m : Nat) => xs[(((xs.size : Int) - 1) + (m : Int) * (-1)).toNat]?).toArray = xs.toList.reverse.toArray := by
  have e : (List.range xs.size).filterMap (fun (m : Nat) => xs[(((xs.size : Int) - 1) + (m : Int) * (-1)).toNat]?) = xs.toList.reverse := by
    have e1 : (List.range xs.size).filterMap (fun (m : Nat) => xs[(((xs.size : Int) - 1) + (m : Int) * (-1)).toNat]?) = (List.range xs.size).filterMap (fun (m : Nat) => xs.toList.reverse[m]?) := by
      refine fm_congr _ fun m hm => ?_
      have := List.mem_range.mp hm
      rw [List.getElem?_reverse (by rw [Array.length_toList]; exact this), Array.length_toList, Array.getElem?_toList]
      congr 1
      omega
    rw [e1]
    have h : ∀ (l : List Value) (n : Nat), n = l.length → (List.range n).filterMap (fun (m : Nat) => l[m]?) = l := by
      intro l n hn
      subst hn
      induction l with
      | nil => rfl
      | cons a r ih =>
        rw [List.length_cons, List.range_succ_eq_map, List.filterMap_cons]
        show a :: _ = _
        rw [List.filterMap_map]
        exact congrArg (a :: ·) ih
    exact h _ _ (by rw [List.length_reverse, Array.length_toList])
  rw [e]
theorem getItem_tuple_back {t sl : Addr} {items : Array Value} {vl vu vs : Value} {Q : Value → Shared → Prop} (ht : IsTup s.heap t items) (hs : s.heap.IsSliceOf sl vl vu vs) (pl : IsPart vl none) (pu : IsPart vu none) (ps : IsPart vs (some (-1)))
    (h : Q (.ref s.heap.objs.size) { s with heap := s.heap.push { cls := .type "tuple", data := .seq items.toList.reverse.toArray } })
    (hsz : items.size ≤ sizeLine) : wpAny (model prog w) A (getItem (.ref t) (.ref sl)) Q E s := by
  have htake : sizeOk (.seq items.toList.reverse.toArray) := by
    show items.toList.reverse.toArray.size ≤ sizeLine
    rw [List.size_toArray, List.length_reverse, Array.length_toList]
    exact hsz
  obtain ⟨os, hos, hcs, hds⟩ := id hs
  have hTs : s.TypeIs (.ref sl) "slice" := ⟨os, hos, hcs⟩
  unfold getItem
  try with_reducible refine wpAny_holding ?_
  first | refine wpAny_bind (wpAny_pure ?_) | skip
  refine wpAny_bind (wpAny_sequenceKey ht.typeIs (by decide) ?_)
  refine wpAny_bind (wpAny_callSpecial?_slot (name := Str.ofString "__getitem__") ht.typeIs PyProof.Rows.slot_tuple_getitem
    (wpAny_call_entry PyProof.Rows.slot_tuple_getitem ht.typeIs entry_tuple_getitem ?_ (args_tuple_getitem _ _)))
  show wpAny _ _ (Builtin.Tuple.tupleItemsOf (.ref t) >>= _) _ _ s
  refine wpAny_bind (tupleItemsOf_ ht ?_)
  refine wpAny_bind (wpAny_typeOf hTs ?_)
  rw [if_pos (by decide)]
  have hap : ∀ {Q : Int × Int × Nat → Shared → Prop} {A : Around} {E : Value → Shared → Prop}, Q ((items.size : Int) - 1, -1, items.size) s → wpAny (model prog w) A (Builtin.Slice.sliceApplied (.ref sl) (pure (items.size : Int))) Q E s := by
    intro Q A E q
    unfold Builtin.Slice.sliceApplied Builtin.Slice.sliceFields
    refine wpAny_bind (wpAny_bind (wpAny_field hos hds (x := vl) rfl (wpAny_bind (wpAny_field hos hds (x := vu) rfl (wpAny_bind (wpAny_field hos hds (x := vs) rfl (wpAny_pure ?_)))))))
    refine wpAny_bind (HT.slicePart_ ps ?_)
    show wpAny _ _ (if ((-1 : Int) == 0) = true then _ else _) _ _ s
    rw [if_neg (by decide)]
    refine wpAny_bind (HT.slicePart_ pl (wpAny_bind (HT.slicePart_ pu (wpAny_bind (wpAny_pure ?_)))))
    show wpAny _ _ (match Builtin.Slice.sliceAdjust none none (-1) (items.size : Int) with | (lo, hi) => pure (lo, (-1 : Int), Builtin.Slice.slicePlaces lo hi (-1))) _ _ s
    have e : Builtin.Slice.sliceAdjust none none (-1) (items.size : Int) = ((items.size : Int) - 1, -1) := by
      unfold Builtin.Slice.sliceAdjust
      simp
    rw [e]
    show wpAny _ _ (pure ((items.size : Int) - 1, (-1 : Int), Builtin.Slice.slicePlaces ((items.size : Int) - 1) (-1) (-1))) _ _ s
    have e2 : Builtin.Slice.slicePlaces ((items.size : Int) - 1) (-1) (-1) = items.size := by
      unfold Builtin.Slice.slicePlaces
      have h1 : ¬ ((-1 : Int) > 0) := by omega
      have h2 : (- -1 : Int) = 1 := by decide
      simp only [h1, if_false, h2, Int.ediv_one]
      split <;> omega
    rw [e2]
    exact wpAny_pure q
  refine wpAny_bind (hap ?_)
  show wpAny _ _ (if (((items.size : Int) - 1) == 0 && (-1 : Int) == 1 && items.size == items.size) = true then _ else _) _ _ s
  rw [if_neg (by rw [show ((-1 : Int) == 1) = false by decide, Bool.and_false, Bool.false_and]; exact Bool.false_ne_true), pick_back]
  first
    | exact wpAny_bind (m := Builtin.Tuple.tupleExact _) (wpAny_newObj_type (wpAny_pure ⟨_, rfl, wpAny_pure h⟩) htake)
    | exact wpAny_bind (m := Builtin.Tuple.tupleExact _) (wpAny_newObj_type (wpAny_bind (wpAny_pure (wpAny_pure ⟨_, rfl, wpAny_pure h⟩))) htake)
    | exact wpAny_bind (wpAny_bind (m := Builtin.Tuple.tupleExact _) (wpAny_newObj_type (wpAny_pure (wpAny_pure ⟨_, rfl, wpAny_pure h⟩)) htake))
    | exact wpAny_bind (wpAny_bind (m := Builtin.Tuple.tupleExact _) (wpAny_newObj_type (wpAny_pure ⟨_, rfl, wpAny_pure h⟩) htake))
end
section
variable {X : Cx}
def tRevT (K : PySem.W.Frag) (te : TE) : TE := fun σ H Q => te σ H fun x H1 => ∃ a xs, x = .ref a ∧ SqT K H1 a xs ∧ ∀ p, H1 p = none → Q (.ref p) (upd H1 p (.tup xs.reverse))
theorem pe_revT {e : Expr} {te : TE} {k : Nat} {p1 p2 p3 pos : Pos} (he : PE X e te) : PE X (.Subscript e (.Slice none none (some (.UnaryOp .USub (.Constant (.int 1) k p1) p2)) p3) pos) (tRevT X.K te) := by
  refine ⟨fun pins s σ H Q I h => ?_⟩
  refine Subscript_ (thn (he.run pins s σ H _ I h) fun v s1 ⟨x, H1, I1, r1, q1⟩ => ?_)
  obtain ⟨a, xs, ex, hx, q⟩ := q1
  subst ex
  cases r1
  have hst : PO X (some (.UnaryOp .USub (.Constant (.int 1) k p1) p2)) (tPart (tUn (rU fun i => .int (-i)) (tC (.int 1)))) := po_some (pe_un un_neg pe_int)
  refine wpAny_Slice (thn (po_none.run pins s1 σ H1 (fun o H2 => o = none ∧ H2 = H1) I1 ⟨rfl, rfl⟩) fun vl s2 ⟨l, H2, I2, pl, el, e2⟩ => ?_)
  subst el e2
  refine thn (po_none.run pins s2 σ H2 (fun o H3 => o = none ∧ H3 = H2) I2 ⟨rfl, rfl⟩) fun vu s3 ⟨u, H3, I3, pu, eu, e3⟩ => ?_
  subst eu e3
  refine thn (hst.run pins s3 σ H3 (fun o H4 => o = some (-1) ∧ H4 = H3) I3 ⟨1, rfl, -1, rfl, rfl, rfl⟩) fun vs s4 ⟨o, H4, I4, ps, eo, e4⟩ => ?_
  subst eo e4
  have I5 : Inv X pins σ H4 { s4 with heap := s4.heap.push { cls := .type "slice", data := .fields #[vl, vu, vs] } } := I4.kept (t' := s4.toks) fun b ob q => Heap.get?_push_of_some _ q
  obtain ⟨its, r, ht, hz⟩ := I5.tuple hx
  have hlen := r.length
  show wpAny (model X.prog X.w) X.A (subscriptTail e (.Slice none none (some (.UnaryOp .USub (.Constant (.int 1) k p1) p2)) p3) (.ref a) (.ref s4.heap.objs.size)) (EP X pins σ Q) X.xe { s4 with heap := s4.heap.push { cls := .type "slice", data := .fields #[vl, vu, vs] } }
  refine tail_any (ops := [.ref a, .ref s4.heap.objs.size]) ht.typeIs (PyProof.Rows.slot_tuple_getitem.lookup) ?_ (by with_unfolding_all rfl)
  refine getItem_tuple_back ht (Heap.IsSliceOf.new _ vl vu vs) pl pu ps ?_ (by rw [List.size_toArray]; omega)
  refine ⟨.ref _, _, I5.laid (t' := s4.toks) (o := .tup xs.reverse) (fun b ob q => Heap.get?_push_of_some _ q) (Nat.le_refl _) ?_, rfl, q _ (I5.hok.fresh (Nat.le_refl _))⟩
  exact ⟨by rw [List.length_reverse]; exact hz, _, r.reverse, IsTup.new _ _⟩
end
end My

set_option Elab.async false
set_option linter.all false
set_option maxRecDepth 100000
set_option maxHeartbeats 1000000
/-! dict comprehensions whose keys are tuples (the statement and its proof go as HandS.DictComp's). -/
namespace My
open PySem PySem.Spec PyProof.Rows L2 Evl
theorem d_dictSetT {X : Cx} {pins : List (Addr × Obj)} {σ : L2.St} {H : Hp} {s : Shared} {E : Value → Shared → Prop} {D b : Addr} {kvs : List (List Key × V)} {k : List Key} {v : V} {u r : Value} {Q : Unit → Shared → Prop} (hu : X.A.units + 1 < cLine) (I : Inv X pins σ H s) (hD : H D = some (.dT kvs))
    (hb : H b = some (.tup (k.map kV))) (hz : kvs.length < sizeLine) (ry : RelV (.ref b) u) (rv : RelV v r) (h : ∀ s', Inv X pins σ (upd H D (.dT (putK kvs k v))) s' → Q () s') : wpAny (model X.prog X.w) X.A (dictSet D u r) Q E s := by
  cases (show u = Value.ref b from ry)
  obtain ⟨z, hd, xs, rel, dd⟩ := dt_of I.hok hD
  have hz : xs.length ≤ sizeLine := by rw [← Paired.length rel]; exact z
  have hl : (putK kvs k v).length ≤ sizeLine := by have := length_putK kvs k v; omega
  refine wpAny_dictSet_heap (hsz := hz) (show X.A.units < cLine by omega) (key_of I.hok hb) dd fun h' dd' hs => h _ ?_
  obtain ⟨q, es, ep, hq, h2, h3, h4, _, h5⟩ := dd'
  refine d_write I (by rw [hD]; exact True.intro) hs ⟨q, hq⟩ ⟨hl, hd, _, (rel.put k hb rv).keeps fun c ys ec => ?_, q, es, ep, hq, h2, h3, h4, h5⟩
  rw [upd_ne (ne_of ec hD (fun z => nomatch z))]
  exact ec
section
variable {X : Cx}
def tDcT (wi : TI) (g : TG) (tt : TT) (tk tv : TE) (vs : List Nat) : TE := fun σ H Q => wi σ H fun J H1 => ∀ D, H1 D = none → ∃ W : Nat → Nat → Hp → Prop, (∃ m, W 0 m (upd H1 D (.dT []))) ∧ ∀ i m H, W i m H →
  (J.stop i H ∧ Q (.ref D) H) ∨ (J.go i H ∧ ∃ Nx : Hp → Prop, (∀ H', Nx H' → ∃ m', m' < m ∧ W (i + 1) m' H') ∧ ∀ x H', J.yld i H x H' → g x (wipe σ vs) H' fun σ2 H2 => wipe σ2 vs = wipe σ vs ∧ tt σ2 H2 fun b H3 =>
    if b = true then tk σ2 H3 fun y H4 => tv σ2 H4 fun z H5 => ∃ kvs k kb, y = .ref kb ∧ H5 kb = some (.tup (k.map kV)) ∧ H5 D = some (.dT kvs) ∧ kvs.length < sizeLine ∧ Nx (upd H5 D (.dT (putK kvs k z))) else Nx H3)
theorem dct_core {pins : List (Addr × Obj)} {s : Shared} {σ : L2.St} {H : Hp} {Q : VK} {kx vx tg iter : Expr} {ifs : List Expr} {scope : Scope} {own : List (Str × Nat)} {pos pos' : Pos} {wi : TI} {g : TG} {tt : TT} {tk tv : TE} {use : Option (Value → Sem Unit)} {Qf : Value → Shared → Prop}
    (hu : X.A.units + 1 < cLine) (hc : X.calm = true) (hN : X.N.Nodup) (I : Inv X pins σ H s) (hi : PI X tg iter wi) (ok : BlkOk X.N X.env.scope scope own)
    (hg : ∀ (s : Shared) (H : Hp) (C : Addr) (cl : List (Str × Addr)) (fp : List Addr), PG (X.blk s H scope (compEnvC scope cl C X.env) fp) tg g) (ht : ∀ (s : Shared) (H : Hp) (C : Addr) (cl : List (Str × Addr)) (fp : List Addr), PTs (X.blk s H scope (compEnvC scope cl C X.env) fp) ifs tt)
    (hk : ∀ (s : Shared) (H : Hp) (C : Addr) (cl : List (Str × Addr)) (fp : List Addr), PE (X.blk s H scope (compEnvC scope cl C X.env) fp) kx tk)
    (he : ∀ (s : Shared) (H : Hp) (C : Addr) (cl : List (Str × Addr)) (fp : List Addr), PE (X.blk s H scope (compEnvC scope cl C X.env) fp) vx tv) (hs : ∀ x, foldedSetIterable iter X.env x = pure x)
    (h : tDcT wi g tt tk tv (own.map (·.2)) σ H Q)
    (hRR : ∀ D C s' m H', Inv X pins σ H' s' → Q (.ref D) H' → s'.heap.Ns C m → FpOk X pins H' C → compPost (model X.prog X.w) X.A X.xe use Qf (.ref D) C (.ok .next) s') :
    wpAny (model X.prog X.w) X.A (comprehension (.DictComp kx vx [⟨tg, iter, ifs, 0⟩] scope pos) scope X.env pos' newDict false (eval iter X.env) use) Qf X.xe s := by
  have hfree : ∀ y ∈ scope.names, y.2 = .free → ∃ c, X.env.cells.lookup y.1 = some c := fun y hy e => by
    rcases ok.free y hy e with k | k
    · exact I.ok.has _ (.inl k)
    · exact I.ok.has _ (.inr k)
  refine wpAny_comprehension_free (use := use) rfl hs (closure_ok hfree) ok.kind (fun y hy e => by rw [ok.uniq y hy, e])
    (thn (hi.run pins s σ H _ I h) fun xv s1 hx => thn hx fun itv s2 h2 => ?_)
  obtain ⟨it, fp, tn, J, H2, e, I2, T, st2, f2, q⟩ := h2
  subst e
  refine wpAny_newObj_type (newEnv_comp ?_)
  generalize hD : s2.heap.objs.size = D
  have hDn : H2 D = none := I2.hok.fresh (Nat.le_of_eq hD)
  obtain ⟨W, ⟨m0, w0⟩, turn⟩ := q D hDn
  -- the new list
  generalize hs3 : ({ s2 with heap := s2.heap.push { cls := .type "dict", data := .dict #[] } } : Shared) = s3
  have I3 : Inv X pins σ (upd H2 D (.dT [])) s3 := by
    rw [← hs3]
    refine I2.laid (t' := s2.toks) (fun b o e => Heap.get?_push_of_some _ e) (Nat.le_of_eq hD) ?_
    rw [← hD]
    exact dt_empty s2.heap I2.big
  have h3 : s3.heap = s2.heap.push { cls := .type "dict", data := .dict #[] } := by rw [← hs3]
  have sz : ∀ b ∈ fp, b < s2.heap.objs.size := fun b hb => by
    obtain ⟨o, e, _⟩ := T.obj _ _ st2 b hb
    exact Heap.lt_size e
  have f3 : ∀ b ∈ fp, FpOk X pins (upd H2 D (.dT [])) b ∧ b < s3.heap.objs.size := fun b hb => by
    have hlt := sz b hb
    refine ⟨⟨?_, (f2 b hb).2⟩, by rw [h3, Heap.size_push]; exact Nat.lt_succ_of_lt hlt⟩
    rw [upd_ne (by rw [← hD]; exact Nat.ne_of_lt hlt)]
    exact (f2 b hb).1
  have st3 : tn 0 s3.heap := T.keep _ _ _ st2 fun b _ o e => by rw [h3]; exact Heap.get?_push_of_some _ e
  have I4 := block_start I3 ok hN f3
  have pg := hg s3 (upd H2 D (.dT [])) s3.heap.objs.size (cellsFrom (s3.heap.objs.size + 1) scope.names (cloFrom X.env.cells scope.names [])) fp
  have pt := ht s3 (upd H2 D (.dT [])) s3.heap.objs.size (cellsFrom (s3.heap.objs.size + 1) scope.names (cloFrom X.env.cells scope.names [])) fp
  have pk := hk s3 (upd H2 D (.dT [])) s3.heap.objs.size (cellsFrom (s3.heap.objs.size + 1) scope.names (cloFrom X.env.cells scope.names [])) fp
  have pe := he s3 (upd H2 D (.dT [])) s3.heap.objs.size (cellsFrom (s3.heap.objs.size + 1) scope.names (cloFrom X.env.cells scope.names [])) fp
  show codeAny _ _ (.compStart (.DictComp kx vx [⟨tg, iter, ifs, 0⟩] scope pos) 0 (.ref it) (.ref D) (compEnvC scope (cellsFrom (s3.heap.objs.size + 1) scope.names (cloFrom X.env.cells scope.names [])) s3.heap.objs.size X.env)) (compPost (model X.prog X.w) X.A X.xe use Qf (.ref D) s3.heap.objs.size) { s3 with heap := pushCells (s3.heap.push { cls := .type "dict", data := .dict #[] }) scope.names }
  have nfp : ∀ b ∈ fp, (upd H2 D (.dT [])) b = none := fun b hb => (f3 b hb).1.1
  generalize hce : compEnvC scope (cellsFrom (s3.heap.objs.size + 1) scope.names (cloFrom X.env.cells scope.names [])) s3.heap.objs.size X.env = ce at I4 pg pt pk pe ⊢
  have cL : ce.locals = s3.heap.objs.size := by subst hce; rfl
  generalize hH3 : upd H2 D (.dT []) = H3 at I3 I4 pg pt pk pe w0 nfp f3
  generalize hs4 : ({ s3 with heap := pushCells (s3.heap.push { cls := .type "dict", data := .dict #[] }) scope.names } : Shared) = s4 at I4 ⊢
  have st4 : tn 0 s4.heap := T.keep _ _ _ st3 fun b _ o e => by rw [← hs4]; exact pushCells_keeps _ _ _ _ (Heap.get?_push_of_some _ e)
  have stat : ∀ {σ' : L2.St} {H' : Hp} {s' : Shared}, Inv (X.blk s3 H3 scope ce fp) [] σ' H' s' → (∀ b ∈ fp, H' b = none) → ∀ b ∈ fp, FpOk (X.blk s3 H3 scope ce fp) [] H' b := fun {σ' H' s'} I' hn b hb =>
    ⟨hn b hb, (I'.ok.exf b hb).1, I'.ok.exfs b hb, .inl hb, fun x c e => (I'.ok.exf b hb).2 x c e, fun p hp => absurd (show p ∈ ([] : List (Addr × Obj)) ++ [] from hp) (by simp)⟩
  have loop : codeAny (model X.prog X.w) X.A (.compLoop (.DictComp kx vx [⟨tg, iter, ifs, 0⟩] scope pos) 0 (.ref it) (.ref D) ce) (compPost (model X.prog X.w) X.A X.xe use Qf (.ref D) s3.heap.objs.size) s4 := by
    refine compLoop_anyD (fun n s' => ∃ i H', Inv (X.blk s3 H3 scope ce fp) [] (wipe σ (own.map (·.2))) H' s' ∧ tn i s'.heap ∧ (∀ b ∈ fp, H' b = none) ∧ W i n H') ?_ m0 ⟨0, H3, I4, st4, nfp, w0⟩
    rintro n s5 ⟨i, H5, I5, st5, n5, w5⟩
    rcases turn i n H5 w5 with ⟨stop, qq⟩ | ⟨go, Nx, hNx, step⟩
    · have td := T.done (X.blk s3 H3 scope ce fp) rfl rfl rfl hc i [] s5 _ H5 (fun _ _ => False) I5 (stat I5 n5) st5 stop
      refine thnF td fun r s6 ⟨hr, I6⟩ => ?_
      subst hr
      -- back in the def's context
      have I7 : Inv X pins σ H5 s6 := I3.call' (ch := fp) I6.os I6.base I6.hok I6.bare fun b hb => ⟨(f3 b hb).1.2.2.2.1, (f3 b hb).1.2.1, (f3 b hb).1.2.2.2.2.1, (f3 b hb).1.2.2.2.2.2⟩
      have nC : H5 s3.heap.objs.size = none := by
        have z : H5 ce.locals = none := I6.free
        rw [cL] at z
        exact z
      obtain ⟨m, hn, _⟩ := I6.loc
      have hn : s6.heap.Ns ce.locals m := hn
      rw [cL] at hn
      exact hRR D s3.heap.objs.size s6 m H5 I7 qq hn (I3.fpOk (Nat.le_refl _) nC)
    · have ti := T.item (X.blk s3 H3 scope ce fp) rfl rfl rfl hc i [] s5 _ H5 (fun _ _ => False) I5 (stat I5 n5) st5 go
      refine thnF ti fun r s6 ⟨u, hr, h6⟩ => ?_
      subst hr
      refine thnF h6 fun _ s7 ⟨x, H7, I7, r7, y7, st7, n7⟩ => ?_
      have I7' := I7.pinned (stat I7 n7) (T.obj _ _ st7)
      refine thnF (pg.run _ s7 _ H7 x u _ I7' r7 (step x H7 y7)) fun _ s8 ⟨σ8, H8, I8, hw8, q8⟩ => ?_
      refine thnF (pt.run _ s8 σ8 H8 _ I8 q8) fun b s9 ⟨H9, I9, q9⟩ => ?_
      -- the turn's end
      have fin : ∀ {s' : Shared} {H' : Hp}, Inv (X.blk s3 H3 scope ce fp) ([] ++ pinsAt fp s7.heap) σ8 H' s' → Nx H' → ∃ m, m < n ∧ ∃ i H', Inv (X.blk s3 H3 scope ce fp) [] (wipe σ (own.map (·.2))) H' s' ∧ tn i s'.heap ∧ (∀ b ∈ fp, H' b = none) ∧ W i m H' := fun {s' H'} I' nx => by
        obtain ⟨m', hm, w'⟩ := hNx H' nx
        have pin' : ∀ b ∈ fp, ∀ o, s7.heap.get? b = some o → s'.heap.get? b = some o ∧ H' b = none := fun b hb o e =>
          let z := I'.pin (b, o) (List.mem_append_right _ (List.mem_append_right _ (mem_pinsAt hb e)))
          ⟨z.1, z.2.1⟩
        have hl : (wipe σ (own.map (·.2))).length = σ8.length := by rw [← hw8, wipe_length]
        refine ⟨m', hm, i + 1, H', (I'.unpinned (pins := [])).weak hl (fun j v e => ?_), T.keep _ _ _ st7 fun b hb o e => (pin' b hb o e).1, fun b hb => ?_, w'⟩
        · rw [← hw8] at e
          exact (wipe_some e).1
        · obtain ⟨o, e, _⟩ := T.obj _ _ st7 b hb
          exact (pin' b hb o e).2
      cases b with
      | false =>
        simp only [Bool.false_eq_true, if_false] at q9 ⊢
        exact fin I9 q9
      | true =>
        simp only [if_true] at q9 ⊢
        refine thnF (pk.run _ s9 σ8 H9 _ I9 q9) fun z s10 ⟨yk, H10, I10, r10, q10⟩ => ?_
        refine thnF (pe.run _ s10 σ8 H10 _ I10 q10) fun z2 s11 ⟨yv, H11, I11, r11, kvs, k, kb, ek, hkb, hD11, hz11, nx⟩ => ?_
        subst ek
        exact d_dictSetT (X := X.blk s3 H3 scope ce fp) hu I11 hD11 (hkb) hz11 r10 r11 fun s12 I12 => fin I12 nx
  exact codeAny_compStart_dict loop (T.self X.A 0 _ _ _ st4 loop)
/-- as a value -/
theorem pe_dcT (hu : X.A.units + 1 < cLine) {kx vx tg iter : Expr} {ifs : List Expr} {scope : Scope} {own : List (Str × Nat)} {pos : Pos} {wi : TI} {g : TG} {tt : TT} {tk tv : TE} (hc : X.calm = true) (hN : X.N.Nodup) (hi : PI X tg iter wi) (ok : BlkOk X.N X.env.scope scope own)
    (hg : ∀ (s : Shared) (H : Hp) (C : Addr) (cl : List (Str × Addr)) (fp : List Addr), PG (X.blk s H scope (compEnvC scope cl C X.env) fp) tg g) (ht : ∀ (s : Shared) (H : Hp) (C : Addr) (cl : List (Str × Addr)) (fp : List Addr), PTs (X.blk s H scope (compEnvC scope cl C X.env) fp) ifs tt)
    (hk : ∀ (s : Shared) (H : Hp) (C : Addr) (cl : List (Str × Addr)) (fp : List Addr), PE (X.blk s H scope (compEnvC scope cl C X.env) fp) kx tk)
    (he : ∀ (s : Shared) (H : Hp) (C : Addr) (cl : List (Str × Addr)) (fp : List Addr), PE (X.blk s H scope (compEnvC scope cl C X.env) fp) vx tv) (hs : ∀ x, foldedSetIterable iter X.env x = pure x := by intro _; rfl) :
    PE X (.DictComp kx vx [⟨tg, iter, ifs, 0⟩] scope pos) (tDcT wi g tt tk tv (own.map (·.2))) := by
  refine ⟨fun pins s σ H Q I h => ?_⟩
  rw [arm_eval_DictComp]
  refine dct_core hu hc hN I hi ok hg ht hk he hs h fun D C s' m H' I' q hn f => ⟨m, hn, fun h'' sb => ?_⟩
  obtain ⟨f0, f1, f2, f3, f4, f5⟩ := f
  exact ⟨.ref D, H', I'.turned (t' := s'.toks) (fun b o hb e => (sb.2 b hb).trans e) f0 f1 f3 f4 f5, rfl, q⟩
end
end My

set_option Elab.async false
set_option linter.all false
set_option maxRecDepth 100000
set_option maxHeartbeats 1000000
/-! x = {k: v for ..}: a dict comprehension into a local. -/
namespace My
open PySem PySem.Spec PyProof.Rows L2 Evl
section
variable {X : Cx}
theorem ps_setDc {i : Nat} {y : Str} {py : Pos} {kx vx tg iter : Expr} {ifs : List Expr} {scope : Scope} {own : List (Str × Nat)} {pos spos : Pos} {wi : TI} {g : TG} {tt : TT} {tk tv : TE} (hc : X.calm = true) (hN : X.N.Nodup) (hy : X.N[i]? = some y) (hyl : X.env.scope.names.lookup y = some .local)
    (hsw : swapsWith (.DictComp kx vx [⟨tg, iter, ifs, 0⟩] scope pos) (some (.Name y py)) spos.line X.env = pure true) (hi : PI X tg iter wi) (ok : BlkOk X.N X.env.scope scope own)
    (hg : ∀ (s : Shared) (H : Hp) (C : Addr) (cl : List (Str × Addr)) (fp : List Addr), PG (X.blk s H scope (compEnvC scope cl C X.env) fp) tg g) (ht : ∀ (s : Shared) (H : Hp) (C : Addr) (cl : List (Str × Addr)) (fp : List Addr), PTs (X.blk s H scope (compEnvC scope cl C X.env) fp) ifs tt)
    (hk : ∀ (s : Shared) (H : Hp) (C : Addr) (cl : List (Str × Addr)) (fp : List Addr), PE (X.blk s H scope (compEnvC scope cl C X.env) fp) kx tk)
    (he : ∀ (s : Shared) (H : Hp) (C : Addr) (cl : List (Str × Addr)) (fp : List Addr), PE (X.blk s H scope (compEnvC scope cl C X.env) fp) vx tv) (hs : ∀ x, foldedSetIterable iter X.env x = pure x := by intro _; rfl) :
    PS X (.Assign [.Name y py] (.DictComp kx vx [⟨tg, iter, ifs, 0⟩] scope pos) spos) (tAsg (tDc wi g tt tk tv (own.map (·.2))) (gName i)) := by
  refine ⟨fun pins s σ H D I h => ?_⟩
  rw [exec_Assign_Name_used _ _ _ _ hsw]
  refine wpAny_bind (wpAny_standAt (wpAny_bind ?_))
  show wpAny _ X.A (do let _ ← comprehension (.DictComp kx vx [⟨tg, iter, ifs, 0⟩] scope pos) scope X.env (firstIterPos [⟨tg, iter, ifs, 0⟩] pos) newDict false (eval iter X.env) (some (assign (.Name y py) X.env))) _ _ s
  have h : tDc wi g tt tk tv (own.map (·.2)) σ H (fun x H1 => gName i x σ H1 D.nx) := h
  refine wpAny_bind (thn (dc_core (Qf := fun _ s' => SP X pins D .next s') hc hN I hi ok hg ht hk he hs h fun L C s' m H' I' q hn f => ?_) fun _ s' hq => wpAny_pure (wpAny_pure hq))
  show wpAny _ _ (assign (.Name y py) X.env (.ref L)) _ _ _
  refine wpAny_assign_Name (store_ok2 (v := V.ref L) I' hN hy (.inl hyl) rfl (fun s2 I2 ⟨a, sb, ha⟩ => ?_) (.inr hyl))
  obtain ⟨f0, f1, f2, f3, f4, f5⟩ := f
  have haC : C ≠ a := by
    rcases ha with z | z
    · rw [z]; exact f1
    · exact fun e => f4 y a z e.symm
  refine ⟨m, hn.sameBut sb haC, fun h3 sb3 => ?_⟩
  exact ⟨_, H', I2.turned (t' := s2.toks) (fun b o hb e => (sb3.2 b hb).trans e) f0 f1 f3 f4 f5, q⟩
theorem ps_setDcT {i : Nat} {y : Str} {py : Pos} {kx vx tg iter : Expr} {ifs : List Expr} {scope : Scope} {own : List (Str × Nat)} {pos spos : Pos} {wi : TI} {g : TG} {tt : TT} {tk tv : TE} (hu : X.A.units + 1 < cLine) (hc : X.calm = true) (hN : X.N.Nodup) (hy : X.N[i]? = some y) (hyl : X.env.scope.names.lookup y = some .local)
    (hsw : swapsWith (.DictComp kx vx [⟨tg, iter, ifs, 0⟩] scope pos) (some (.Name y py)) spos.line X.env = pure true) (hi : PI X tg iter wi) (ok : BlkOk X.N X.env.scope scope own)
    (hg : ∀ (s : Shared) (H : Hp) (C : Addr) (cl : List (Str × Addr)) (fp : List Addr), PG (X.blk s H scope (compEnvC scope cl C X.env) fp) tg g) (ht : ∀ (s : Shared) (H : Hp) (C : Addr) (cl : List (Str × Addr)) (fp : List Addr), PTs (X.blk s H scope (compEnvC scope cl C X.env) fp) ifs tt)
    (hk : ∀ (s : Shared) (H : Hp) (C : Addr) (cl : List (Str × Addr)) (fp : List Addr), PE (X.blk s H scope (compEnvC scope cl C X.env) fp) kx tk)
    (he : ∀ (s : Shared) (H : Hp) (C : Addr) (cl : List (Str × Addr)) (fp : List Addr), PE (X.blk s H scope (compEnvC scope cl C X.env) fp) vx tv) (hs : ∀ x, foldedSetIterable iter X.env x = pure x := by intro _; rfl) :
    PS X (.Assign [.Name y py] (.DictComp kx vx [⟨tg, iter, ifs, 0⟩] scope pos) spos) (tAsg (tDcT wi g tt tk tv (own.map (·.2))) (gName i)) := by
  refine ⟨fun pins s σ H D I h => ?_⟩
  rw [exec_Assign_Name_used _ _ _ _ hsw]
  refine wpAny_bind (wpAny_standAt (wpAny_bind ?_))
  show wpAny _ X.A (do let _ ← comprehension (.DictComp kx vx [⟨tg, iter, ifs, 0⟩] scope pos) scope X.env (firstIterPos [⟨tg, iter, ifs, 0⟩] pos) newDict false (eval iter X.env) (some (assign (.Name y py) X.env))) _ _ s
  have h : tDcT wi g tt tk tv (own.map (·.2)) σ H (fun x H1 => gName i x σ H1 D.nx) := h
  refine wpAny_bind (thn (dct_core (Qf := fun _ s' => SP X pins D .next s') hu hc hN I hi ok hg ht hk he hs h fun L C s' m H' I' q hn f => ?_) fun _ s' hq => wpAny_pure (wpAny_pure hq))
  show wpAny _ _ (assign (.Name y py) X.env (.ref L)) _ _ _
  refine wpAny_assign_Name (store_ok2 (v := V.ref L) I' hN hy (.inl hyl) rfl (fun s2 I2 ⟨a, sb, ha⟩ => ?_) (.inr hyl))
  obtain ⟨f0, f1, f2, f3, f4, f5⟩ := f
  have haC : C ≠ a := by
    rcases ha with z | z
    · rw [z]; exact f1
    · exact fun e => f4 y a z e.symm
  refine ⟨m, hn.sameBut sb haC, fun h3 sb3 => ?_⟩
  exact ⟨_, H', I2.turned (t' := s2.toks) (fun b o hb e => (sb3.2 b hb).trans e) f0 f1 f3 f4 f5, q⟩
theorem sw_trueD {kx vx : Expr} {gs : List Comprehension} {scope : Scope} {pos py : Pos} {y : Str} {l : Nat} {env : Env} (hk : env.scope.kind = .function) (hy : env.scope.names.lookup y = some .local) (hl : (py.line == pos.line) = true)
    (ha : (scope.names.any fun (n, k) => n == y && (k == .local || k == .cell)) = false) : swapsWith (.DictComp kx vx gs scope pos) (some (.Name y py)) l env = pure true := by
  have ky : env.kindOf y = some .local := hy
  have hb : env.blockKind = .function := by unfold Env.blockKind; rw [hk]; rfl
  unfold swapsWith
  simp only [hb, ky, ha, Expr.pos, hl]
  rfl
end
end My

set_option Elab.async false
set_option linter.all false
set_option maxRecDepth 100000
set_option maxHeartbeats 1000000
/-! a written dict of the top, keys and values texts: its look-ups. -/
namespace My
open PySem PySem.Spec PyProof.Rows L2 Evl
def strOf : Value → Str
  | .str x _ => x
  | _ => Str.empty
def isStrV : Value → Bool
  | .str _ _ => true
  | _ => false
/-- what the table says of a key -/
def tabF : List (List Nat × List Nat) → List Nat → Option (List Nat)
  | [], _ => none
  | p :: r, l => if p.1 = l then some p.2 else tabF r l
def HasD (K : PySem.W.Frag) (w : World) (x : Str) (tab : List (List Nat × List Nat)) : Prop := ∃ (d : Addr) (es : Array DictEntry) (n : Nat), PySem.W.nsIn K mainGlobals x = some (some (.ref d)) ∧ K.lookup d = some ⟨.type "dict", none, .dict es n, #[]⟩ ∧
  es.toList.map He.keyOf = He.keysIn w.params (tab.map fun p => tx p.1) ∧ (d == sysModules) = false ∧ es.toList.map (fun e => strOf e.val) = tab.map (fun p => tx p.2) ∧ es.toList.all (fun e => isStrV e.val) = true
theorem HasD.mk' {K : PySem.W.Frag} {w : World} {x : Str} {tab : List (List Nat × List Nat)} {d : Addr} {es : Array DictEntry} {n : Nat} (a : PySem.W.nsIn K mainGlobals x = some (some (.ref d))) (l : K.lookup d = some ⟨.type "dict", none, .dict es n, #[]⟩)
    (k : es.toList.map He.keyOf = He.keysIn w.params (tab.map fun p => tx p.1)) (z : (d == sysModules) = false) (v : es.toList.map (fun e => strOf e.val) = tab.map (fun p => tx p.2)) (s : es.toList.all (fun e => isStrV e.val) = true) : HasD K w x tab := ⟨d, es, n, a, l, k, z, v, s⟩
/-- the dict as a global -/
def GD (K : PySem.W.Frag) (w : World) (mg : Str → Option Value) (x : Str) (tab : List (List Nat × List Nat)) : Prop := ∃ (d : Addr) (es : Array DictEntry) (n : Nat), mg x = some (.ref d) ∧ KDict K w d es n ∧
  ∀ l, ∃ r, PySem.W.nsIn K d (tx l) = some r ∧ r.isSome = (tabF tab l).isSome ∧ ∀ y, tabF tab l = some y → ∃ u, r = some u ∧ RelV (.str (tx y)) u
theorem find_tab {P : Params} : ∀ {es : List DictEntry} {tab : List (List Nat × List Nat)}, es.map He.keyOf = He.keysIn P (tab.map fun p => tx p.1) → es.map (fun e => strOf e.val) = tab.map (fun p => tx p.2) → es.all (fun e => isStrV e.val) = true →
    (es.any (·.refKey) = false) ∧ ∀ l, (es.find? (·.key.isStr (tx l))).isSome = (tabF tab l).isSome ∧ ∀ y, tabF tab l = some y → ∃ e, es.find? (·.key.isStr (tx l)) = some e ∧ RelV (.str (tx y)) e.val
  | [], [], _, _, _ => ⟨rfl, fun l => ⟨rfl, fun y h => nomatch h⟩⟩
  | [], p :: r, h, _, _ => by cases h
  | e :: es, [], h, _, _ => by cases h
  | e :: es, p :: r, h, h2, h3 => by
    have h1 : He.keyOf e :: es.map He.keyOf = some (tx p.1, PyData.keyHash P (tx p.1)) :: He.keysIn P (r.map fun p => tx p.1) := h
    injection h1 with k1 k2
    rw [List.map_cons, List.map_cons] at h2
    injection h2 with v1 v2
    rw [List.all_cons, Bool.and_eq_true] at h3
    obtain ⟨i1, i2⟩ := find_tab k2 v2 h3.2
    have hk : ∃ t, e.key = .str (tx p.1) t := by
      unfold He.keyOf at k1
      split at k1
      · rename_i x t q
        obtain ⟨h5, h6⟩ := Prod.mk.inj (Option.some.inj k1)
        exact ⟨t, by rw [q, h5]⟩
      · cases k1
    obtain ⟨t, hk⟩ := hk
    have hv : ∃ t, e.val = .str (tx p.2) t := by
      cases q : e.val with
      | str x t =>
        rw [q] at v1
        exact ⟨t, by rw [← v1]; rfl⟩
      | _ => rw [q] at h3; exact nomatch h3.1
    obtain ⟨t2, hv⟩ := hv
    have hstr : ∀ l, e.key.isStr (tx l) = decide (p.1 = l) := fun l => by
      rw [hk]
      show (tx p.1 == tx l) = _
      by_cases hl : p.1 = l
      · subst hl
        rw [decide_eq_true rfl]
        exact beq_self_eq_true _
      · rw [decide_eq_false hl]
        exact beq_eq_false_iff_ne.mpr fun z => hl (tx_inj z)
    refine ⟨?_, fun l => ?_⟩
    · rw [List.any_cons, i1, Bool.or_false]
      unfold DictEntry.refKey
      rw [hk]
    · rw [List.find?_cons, hstr]
      unfold tabF
      by_cases hl : p.1 = l
      · rw [decide_eq_true hl, if_pos hl]
        exact ⟨rfl, fun y hy => ⟨e, rfl, by cases hy; exact ⟨t2, hv⟩⟩⟩
      · rw [decide_eq_false hl, if_neg hl]
        exact i2 l
theorem HasD.gd {K : PySem.W.Frag} {w : World} {mg : Str → Option Value} {h : Heap} {x : Str} {tab : List (List Nat × List Nat)} (X : K.In h) (G : h.Ns mainGlobals mg) (H : HasD K w x tab) : GD K w mg x tab := by
  obtain ⟨d, es, n, a, l, k, z, v, s⟩ := H
  refine ⟨d, es, n, PySem.W.mg_of X G a, ⟨l, He.keysLit_of k, z⟩, fun y => ?_⟩
  obtain ⟨i1, i2⟩ := find_tab k v s
  obtain ⟨j1, j2⟩ := i2 y
  refine ⟨(es.toList.find? (·.key.isStr (tx y))).map (·.val), ?_, by rw [Option.isSome_map]; exact j1, fun q hq => ?_⟩
  · unfold PySem.W.nsIn
    rw [l]
    show (match es.toList.find? (·.key.isStr (tx y)) with
      | some e => some (some e.val)
      | none => if es.toList.any (·.refKey) then none else some none) = _
    cases e : es.toList.find? (·.key.isStr (tx y)) with
    | some en => rfl
    | none =>
      show (if es.toList.any (·.refKey) = true then none else some none) = _
      rw [if_neg (by rw [i1]; exact Bool.false_ne_true)]
      rfl
  · obtain ⟨en, h1, h2⟩ := j2 q hq
    exact ⟨en.val, by rw [h1]; rfl, h2⟩
/-! the rules: x in T, x not in T, T[x] -/
theorem pe_gr {X : Cx} {x : Str} {d : Addr} {pos : Pos} (g : X.mg x = some (.ref d)) (hg : Gl X x := by rfl) (hd : (x == ("__debug__" : Str)) = false := by decide) : PE X (.Name x pos) (tC (.ref d)) := pe_glob (v := .ref d) hg g rfl hd

section
variable {K : PySem.W.Frag} {w : World} {σ : L2.St} {H : Hp} {te : TE} {d : Addr} {tab : List (List Nat × List Nat)} {l y : List Nat}
theorem ev_inKd (h : Ev te σ H (.str (tx l))) (hl : ∀ l, ∃ r, PySem.W.nsIn K d (tx l) = some r ∧ r.isSome = (tabF tab l).isSome ∧ ∀ y, tabF tab l = some y → ∃ u, r = some u ∧ RelV (.str (tx y)) u) :
    Ev (tOp (fun x y H Q => ∃ (z : Str) (r : Option Value), x = .str z ∧ y = .ref d ∧ PySem.W.nsIn K d z = some r ∧ Q (.bl r.isSome) H) te (tC (.ref d))) σ H (.bl (tabF tab l).isSome) := fun H1 e Q q => h H1 e _ fun H2 e2 => by
  obtain ⟨r, h1, h2, _⟩ := hl l
  exact ⟨tx l, r, rfl, rfl, h1, by rw [h2]; exact q H2 e2⟩
theorem ev_niKd (h : Ev te σ H (.str (tx l))) (hl : ∀ l, ∃ r, PySem.W.nsIn K d (tx l) = some r ∧ r.isSome = (tabF tab l).isSome ∧ ∀ y, tabF tab l = some y → ∃ u, r = some u ∧ RelV (.str (tx y)) u) :
    Ev (tOp (fun x y H Q => ∃ (z : Str) (r : Option Value), x = .str z ∧ y = .ref d ∧ PySem.W.nsIn K d z = some r ∧ Q (.bl (!r.isSome)) H) te (tC (.ref d))) σ H (.bl (!(tabF tab l).isSome)) := fun H1 e Q q => h H1 e _ fun H2 e2 => by
  obtain ⟨r, h1, h2, _⟩ := hl l
  exact ⟨tx l, r, rfl, rfl, h1, by rw [h2]; exact q H2 e2⟩
theorem ev_ixKd {es : Array DictEntry} {n : Nat} (h : Ev te σ H (.str (tx l))) (D : KDict K w d es n) (hl : ∀ l, ∃ r, PySem.W.nsIn K d (tx l) = some r ∧ r.isSome = (tabF tab l).isSome ∧ ∀ y, tabF tab l = some y → ∃ u, r = some u ∧ RelV (.str (tx y)) u) (hy : tabF tab l = some y) :
    Ev (tOp (rIxD K w) (tC (.ref d)) te) σ H (.str (tx y)) := fun H1 e Q q => h H1 e _ fun H2 e2 => by
  obtain ⟨r, h1, _, h3⟩ := hl l
  obtain ⟨u, h4, h5⟩ := h3 y hy
  exact ⟨d, tx l, .str (tx y), rfl, rfl, ⟨es, n, u, D.at_, D.lit, by rw [h1, h4], h5⟩, q H2 e2⟩
end
end My

set_option Elab.async false
set_option linter.all false
set_option maxRecDepth 100000
set_option maxHeartbeats 1000000
/-! xs.extend(a tuple). -/
namespace My
open PySem PySem.Spec PyProof.Rows L2 Evl PySem.AutoSeq1
theorem ext_tuple (l : Addr) (items : Array Value) (n : Nat) (b : Addr) (items2 : Array Value) (n2 : Nat) (od : Option Addr) (sl : Array (Option Value)) (hs0 : ¬(!items.isEmpty && Builtin.List.listTooLong (items.size + items2.size)) = true) (hs1 : items.size ≤ sizeLine) (hs2 : items.size + items2.size ≤ sizeLine + 1) :
    Meets (Builtin.«list.extend» ⟨[.ref l, .ref b], []⟩) (fun _ R s => s.heap.get? l = some { cls := .type "list", dict := none, data := .seq items n, slots := #[] } ∧ s.heap.get? b = some { cls := .type "tuple", dict := od, data := .seq items2 n2, slots := sl } ∧ R (.ok (.ret Value.none)) { s with heap := s.heap.update l (Obj.mapSeq fun x => x ++ items2), toks := s.toks }) :=
  .of_wp fun prog w A R s h => by
    obtain ⟨hp, g, d, tk, os⟩ := s; obtain ⟨hl, hb, h⟩ := h; have f2 := AutoSeq1.sub_tuple_tuple; have f4 := AutoSeq1.sub_tuple_list; have f5 := AutoSeq1.sub_list_tuple;
    have hz' : (items ++ items2).size ≤ sizeLine + 1 := by rw [Array.size_append]; exact hs2
    wp_walk using (wpAny_updateSeq hl rfl (hz := hs1) (_hz' := hz')), wpAny_loadPart' hl, wpAny_loadPart' hb; exact ⟨_, rfl, h⟩
section
variable {X : Cx}
def rExtT (K : PySem.W.Frag) : V → List V → Hp → VK → Prop := fun x vs H Q => ∃ l b xs zs, x = .ref l ∧ vs = [.ref b] ∧ H l = some (.lst xs) ∧ SqT K H b zs ∧ xs.length + zs.length ≤ sizeLine ∧ Q .non (upd H l (.lst (xs ++ zs)))
theorem mt_extendT : MtR X "list.extend" (rExtT X.K) := by
  intro pins s σ H x vs v us Q I rx rv h
  obtain ⟨l, b, xs, zs, rfl, rfl, hH, hB, hz, q⟩ := h
  cases rx
  obtain ⟨u, rfl, ru⟩ := rv.one
  cases ru
  obtain ⟨z, its, n, r, hl, e⟩ := I.lstM hH
  obtain ⟨its2, r2, ⟨o, ho, hc, n2, hd⟩, z2⟩ := I.tuple hB
  have hl2 := r2.length
  obtain ⟨oc, od, odt, osl⟩ := o
  have hc : oc = .type "tuple" := hc
  have hd : odt = .seq its2.toArray n2 := hd
  subst hc hd
  have hsz : its.toArray.size + its2.toArray.size ≤ sizeLine := by rw [List.size_toArray, List.size_toArray]; omega
  have hlong : ¬ (!its.toArray.isEmpty && Builtin.List.listTooLong (its.toArray.size + its2.toArray.size)) = true := by
    rw [notLongL hsz, Bool.and_false]
    exact Bool.false_ne_true
  refine call_meets F.slot_list_extend ⟨_, e, rfl⟩ F.entry_list_extend (F.args_list_extend_2 _ _)
    (ext_tuple l its.toArray n b its2.toArray n2 od osl hlong (by rw [List.size_toArray]; omega) (by omega)) ⟨e, ho, ?_⟩
  refine ⟨.non, _, I.lset (its' := its ++ its2) hH e (by simp) (r.append r2) ?_, rfl, q⟩
  rw [List.length_append]
  omega
end
end My


set_option Elab.async false
set_option linter.all false
set_option maxRecDepth 100000
set_option maxHeartbeats 4000000
namespace K50
open PySem PySem.Spec PyProof.Rows L2 Evl My
def topS (i : Nat) : Stmt := PySem.Challenge.pw_lineage_k50_whole_plans_read.main.body.getD i (.Pass ⟨0, 0, 0, 0⟩)
def digL : List Nat := [48, 49, 50, 51, 52, 53, 54, 55, 56, 57]
def letL : List Nat := (List.range 26).map (· + 97)
theorem dig_eq : (Str.ofString "0123456789") = tx digL := by decide +kernel
theorem let_eq : (Str.ofString "abcdefghijklmnopqrstuvwxyz") = tx letL := by decide +kernel
def madeP (signs : List Nat) (most : Nat) (l : List Nat) : Bool := decide (1 ≤ l.length) && decide (l.length ≤ most) && l.all fun c => decide (c ∈ signs)
def nameP (l : List Nat) : Bool := madeP (digL ++ [97, 98, 99, 100, 101, 102]) 20 l && decide (l.length = 20)
def wordP (l : List Nat) : Bool := madeP (letL ++ digL) 12 l && decide (l.headD 0 ∈ letL)
def segP (l : List Nat) : Bool := madeP (letL ++ digL ++ [46, 45, 95]) 20 l && !(decide (l = [46]) || decide (l = [46, 46]))
/-- a text or another plain scalar -/
def Tst (d : D) (g : List Nat → Bool) (z : V) : Prop := (∃ l, d = .str l ∧ l.length ≤ 1000 ∧ z = .bl (g l)) ∨ (kitB (tyD d) "str" = some false ∧ z = .bl false)
section
variable {P : Program} {w : World} {K : PySem.W.Frag} {mg : Str → Option Value} {base : Heap}
abbrev s_made_of : Stmt := topS 5
theorem sc_made_of : FnScope ["value", "signs", "most", "sign"] ["value", "signs", "most"] (defScope s_made_of) := ⟨rfl, rfl, rfl, by decide +kernel, rfl, by decide +kernel, by decide +kernel⟩
/- 0 value, 1 signs*, 2 most, 3 sign -/
def ok_made_of (vs : List V) (H : Hp) (z : V) : Prop := ∃ (v : V) (d : D) (signs : List Nat) (most : Nat), vs = [v, .str (tx signs), .int (most : Int)] ∧ Rep H v d ∧ signs.length ≤ 100 ∧ Tst d (madeP signs most) z
theorem fn_made_of {f : Addr} {fd : FuncData} {k : Nat} (F : Fun K "made_of" "made_of" s_made_of f fd) (N : Nb mg) : FnOk P w K mg base CX0 (k + 1) f fd ["value", "signs", "most"] (spV ok_made_of) := by
  refine F.ok sc_made_of (fun vs H Q E h => ?_) (fun cdv A outer s H vs Q E hr h => ?_)
  · obtain ⟨_, ⟨_, _, _, _, rfl, _⟩, _⟩ := h
    rfl
  · obtain ⟨z, ⟨v, d, signs, most, rfl, hR, hs, hT⟩, q⟩ := h
    refine ⟨_, (pss_one (ps_ret (pe_and (pe_callB call_isi (by rfl) N.isinstance PyProof.Rows.boot_isinstance (pa_cons (pv 0) (pa_cons (pe_bltn (v := .ty "str") (by rfl) N.str PyProof.Rows.boot_str rfl) pa_nil))) (pe_and (pe_chain op_le op_le pe_int (pe_callB call_len_str (by rfl) N.len PySem.boot_len (pa_cons (pv 0) pa_nil)) (pv 2)) (pe_one (pe_callB (cr_all rfl) (by rfl) N.all PyProof.Rows.boot_all (pa_cons (pe_lc (own := [("sign", 3)]) (by rfl) sc_made_of.nd (pi_str (pv 0)) (blkOk_by (own := [("sign", 3)]) (N := ["value", "signs", "most", "sign"]) (sc := defScope s_made_of) (by decide +kernel)) (fun _ _ _ _ _ => (pg_name (i := 3) sc_made_of.nd rfl (Or.inl rfl))) (fun _ _ _ _ _ => pts_nil) (fun _ _ _ _ _ => (pe_cmpR op_in_sign (pv 3) (pv 1) rfl))) pa_nil))))))), ?_⟩
    rcases hT with ⟨l, rfl, hl, rfl⟩ | ⟨hk, rfl⟩
    · cases hR
      refine s_ret (ev_is (ev_andV (a := true) (ev_isi (ev_v rfl) (.str l) (by rfl)) fun _ => ev_andV (ev_chain (ev_cn 1) (ev_lenS (ev_v rfl) (by omega)) rv_I0 (fun _ => ev_v rfl) (fun _ => rv_I0)) fun _ => ev_all (bs := l.map fun c => decide (c ∈ signs)) ?_) ?_) fun H1 e1 => q H1 e1
      · rw [List.map_map]
        exact el_lcS (fun c => .bl (decide (c ∈ signs))) (ev_v rfl) (by omega) (fun _ => rfl) fun c H1 e1 hc => ev_op (ev_v rfl) (ev_v rfl) rv_inSn
      · have e : (l.map fun c => decide (c ∈ signs)).all id = l.all fun c => decide (c ∈ signs) := by rw [List.all_map]; rfl
        rw [e, Bool.true_and]
        unfold madeP
        congr 3
        · exact decide_eq_decide.mpr (by omega)
        · exact decide_eq_decide.mpr (by omega)
    · exact s_ret (ev_is (ev_andV (a := false) (b := false) (ev_isi (ev_v rfl) hR hk) (fun z => nomatch z)) rfl) fun H1 e1 => q H1 e1
def ok_is (g : List Nat → Bool) (vs : List V) (H : Hp) (z : V) : Prop := ∃ (v : V) (d : D), vs = [v] ∧ Rep H v d ∧ Tst d g z
theorem made_true {signs : List Nat} {most : Nat} {l : List Nat} (h : madeP signs most l = true) : 1 ≤ l.length := by
  unfold madeP at h
  rw [Bool.and_eq_true, Bool.and_eq_true] at h
  exact of_decide_eq_true h.1.1
abbrev s_is_word : Stmt := topS 6
theorem sc_is_word : FnScope ["value"] ["value"] (defScope s_is_word) := ⟨rfl, rfl, rfl, by decide +kernel, rfl, by decide +kernel, by decide +kernel⟩
theorem fn_is_word {f : Addr} {fd : FuncData} {k : Nat} (F : Fun K "is_word" "is_word" s_is_word f fd) (N : Nb mg) (g_DIGITS : GS mg "DIGITS" (tx digL)) (g_LETTERS : GS mg "LETTERS" (tx letL)) (g_LONGEST_WORD : GI mg "LONGEST_WORD" 12) (C_made_of : Cal P w K mg base k "made_of" ["value", "signs", "most"] (spV ok_made_of)) : FnOk P w K mg base CX0 (k + 1) f fd ["value"] (spV (ok_is wordP)) := by
  refine F.ok sc_is_word (fun vs H Q E h => ?_) (fun cdv A outer s H vs Q E hr h => ?_)
  · obtain ⟨_, ⟨_, _, rfl, _⟩, _⟩ := h
    rfl
  · obtain ⟨z, ⟨v, d, rfl, hR, hT⟩, q⟩ := h
    refine ⟨_, (pss_one (ps_ret (pe_and (pe_cal C_made_of hr (pa_cons (pv 0) (pa_cons (pe_op op_add_str (pe_gs g_LETTERS) (pe_gs g_DIGITS)) (pa_cons (pe_gi g_LONGEST_WORD) pa_nil)))) (pe_one (pe_cmpR op_in_sign (pe_ix ix_str (pv 0) pe_int (fun _ _ => rfl)) (pe_gs g_LETTERS) rfl))))), ?_⟩
    have args : EvA (tCons (tVar 0) (tCons (tOp (fun x y H Q => ∃ i j, x = .str i ∧ y = .str j ∧ i.length + j.length ≤ sizeLine ∧ Q (.str (i ++ j)) H) (tC (.str (tx letL))) (tC (.str (tx digL)))) (tCons (tC (.int 12)) tNil))) [some v] H [v, .str (tx (letL ++ digL)), .int ((12 : Nat) : Int)] :=
      ea_cons (ev_v rfl) (ea_cons (ev_op ev_c ev_c (rv_addS (by decide))) (ea_cons ev_c ea_nil))
    rcases hT with ⟨l, rfl, hl, rfl⟩ | ⟨hk, rfl⟩
    · refine s_ret (ev_is (ev_andV (a := madeP (letL ++ digL) 12 l) (b := decide (l.headD 0 ∈ letL)) (ev_cal args fun H1 e1 => ⟨v, _, _, 12, rfl, hR.mono e1, by decide, .inl ⟨l, rfl, hl, rfl⟩⟩) fun hm => ?_) rfl) fun H1 e1 => q H1 e1
      cases hR
      have h1 := made_true hm
      have h0 : l[0]? = some (l.headD 0) := by
        cases l with
        | nil => exact absurd h1 (by decide)
        | cons a r => rfl
      exact ev_op (ev_op (ev_v rfl) (ev_cn 0) (rv_ixSn (by omega) h0)) ev_c rv_inSn
    · exact s_ret (ev_is (ev_andV (a := false) (b := false) (ev_cal args fun H1 e1 => ⟨v, _, _, 12, rfl, hR.mono e1, by decide, .inr ⟨hk, rfl⟩⟩) (fun z => nomatch z)) rfl) fun H1 e1 => q H1 e1
abbrev s_is_segment : Stmt := topS 7
theorem sc_is_segment : FnScope ["value"] ["value"] (defScope s_is_segment) := ⟨rfl, rfl, rfl, by decide +kernel, rfl, by decide +kernel, by decide +kernel⟩
theorem inV_str {l a b : List Nat} : inV (.str (tx l)) [.str (tx a), .str (tx b)] = (decide (l = a) || decide (l = b)) := by
  have e : ∀ a : List Nat, (tx a == tx l) = decide (l = a) := fun a => by
    by_cases h : l = a
    · subst h
      rw [decide_eq_true rfl]
      exact beq_self_eq_true _
    · rw [decide_eq_false h]
      exact beq_eq_false_iff_ne.mpr fun z => h (tx_inj z).symm
  show ((tx a == tx l) || ((tx b == tx l) || false)) = _
  rw [e, e, Bool.or_false]
theorem fn_is_segment {f : Addr} {fd : FuncData} {k : Nat} (F : Fun K "is_segment" "is_segment" s_is_segment f fd) (N : Nb mg) (g_DIGITS : GS mg "DIGITS" (tx digL)) (g_LETTERS : GS mg "LETTERS" (tx letL)) (g_LONGEST_SEGMENT : GI mg "LONGEST_SEGMENT" 20) (C_made_of : Cal P w K mg base k "made_of" ["value", "signs", "most"] (spV ok_made_of)) : FnOk P w K mg base CX0 (k + 1) f fd ["value"] (spV (ok_is segP)) := by
  refine F.ok sc_is_segment (fun vs H Q E h => ?_) (fun cdv A outer s H vs Q E hr h => ?_)
  · obtain ⟨_, ⟨_, _, rfl, _⟩, _⟩ := h
    rfl
  · obtain ⟨z, ⟨v, d, rfl, hR, hT⟩, q⟩ := h
    refine ⟨_, (pss_one (ps_ret (pe_and (pe_cal C_made_of hr (pa_cons (pv 0) (pa_cons (pe_op op_add_str (pe_op op_add_str (pe_gs g_LETTERS) (pe_gs g_DIGITS)) pe_str) (pa_cons (pe_gi g_LONGEST_SEGMENT) pa_nil)))) (pe_one (pe_cmpR op_notIn_seq (pv 0) (pe_tup (pa_cons pe_str (pa_cons pe_str pa_nil))) rfl))))), ?_⟩
    have args : EvA (tCons (tVar 0) (tCons (tOp (fun x y H Q => ∃ i j, x = .str i ∧ y = .str j ∧ i.length + j.length ≤ sizeLine ∧ Q (.str (i ++ j)) H) (tOp (fun x y H Q => ∃ i j, x = .str i ∧ y = .str j ∧ i.length + j.length ≤ sizeLine ∧ Q (.str (i ++ j)) H) (tC (.str (tx letL))) (tC (.str (tx digL)))) (tC (.str ".-_"))) (tCons (tC (.int 20)) tNil))) [some v] H [v, .str (tx (letL ++ digL ++ [46, 45, 95])), .int ((20 : Nat) : Int)] :=
      ea_cons (ev_v rfl) (ea_cons (ev_op (ev_op ev_c ev_c (rv_addS (by decide))) (ev_cs [46, 45, 95] (by decide +kernel)) (rv_addS (by decide))) (ea_cons ev_c ea_nil))
    rcases hT with ⟨l, rfl, hl, rfl⟩ | ⟨hk, rfl⟩
    · refine s_ret (ev_is (ev_andV (a := madeP (letL ++ digL ++ [46, 45, 95]) 20 l) (b := !(decide (l = [46]) || decide (l = [46, 46]))) (ev_cal args fun H1 e1 => ⟨v, _, _, 20, rfl, hR.mono e1, by decide, .inl ⟨l, rfl, hl, rfl⟩⟩) fun hm => ?_) rfl) fun H1 e1 => q H1 e1
      cases hR
      rw [← inV_str]
      exact ev_niU (ev_v rfl) (eu_tup (ea_cons (ev_cs [46] (by decide +kernel)) (ea_cons (ev_cs [46, 46] (by decide +kernel)) ea_nil)) (by decide)) rfl rfl
    · exact s_ret (ev_is (ev_andV (a := false) (b := false) (ev_cal args fun H1 e1 => ⟨v, _, _, 20, rfl, hR.mono e1, by decide, .inr ⟨hk, rfl⟩⟩) (fun z => nomatch z)) rfl) fun H1 e1 => q H1 e1
abbrev s_is_path : Stmt := topS 8
theorem sc_is_path : FnScope ["value", "part"] ["value"] (defScope s_is_path) := ⟨rfl, rfl, rfl, by decide +kernel, rfl, by decide +kernel, by decide +kernel⟩
def txs (ps : List (List Nat)) : List V := ps.map fun p => V.str (tx p)
theorem txs_len (ps : List (List Nat)) : (txs ps).length = ps.length := by unfold txs; rw [List.length_map]
def pathP (l : List Nat) : Bool := (splitT 47 l).all segP
theorem splitT_len (c : Nat) : ∀ l, (splitT c l).length ≤ l.length + 1
  | [] => Nat.le_refl _
  | x :: r => by
    have := splitT_len c r
    rw [splitT]
    split
    · rw [List.length_cons, List.length_cons]; omega
    · split
      · simp
      · rename_i p q h
        rw [h] at this
        rw [List.length_cons] at this ⊢
        rw [List.length_cons]
        omega
theorem splitT_part (c : Nat) : ∀ (l : List Nat) (p : List Nat), p ∈ splitT c l → p.length ≤ l.length
  | [], p, h => by
    rw [splitT, List.mem_singleton] at h
    rw [h]
    exact Nat.le_refl _
  | x :: r, p, h => by
    have ih := splitT_part c r
    rw [splitT] at h
    split at h
    · rw [List.mem_cons] at h
      rcases h with rfl | h
      · exact Nat.zero_le _
      · exact Nat.le_succ_of_le (ih p h)
    · split at h
      · rw [List.mem_singleton] at h
        rw [h]
        simp
      · rename_i a b hab
        rw [hab] at ih
        rw [List.mem_cons] at h
        rcases h with rfl | h
        · exact Nat.succ_le_succ (ih a (by simp))
        · exact Nat.le_succ_of_le (ih p (by simp [h]))
theorem el_splitT {σ : L2.St} {H : Hp} {te tb : TE} {l : List Nat} {c : Nat} (hc : c < 128) (ha : Ev te σ H (.str (tx l))) (hb : Ev tb σ H (.str (tx [c]))) (hz : l.length ≤ 50000) :
    EvL (tM1 (fun x xs H Q => ∃ a b, x = .str a ∧ xs = [.str b] ∧ (b.length == 0) = false ∧ a.length + 2 ≤ sizeLine ∧ rNewStrs (Txt.split a b) H Q) te tb) σ H (txs (splitT c l)) := by
  have := el_split ha hb rfl (by rw [tx_len]; omega)
  rw [split_tx hc, List.map_map] at this
  exact this
theorem bls_txs {α : Type} (f : List Nat → V) (g : List Nat → α) (h : α → V) (ps : List (List Nat)) (e : ∀ p, f p = h (g p)) : (txs ps).map (fun v => match v with | .str s => f s.cps.toList | _ => .non) = (ps.map g).map h := by
  unfold txs
  rw [List.map_map, List.map_map]
  refine List.map_congr_left fun p _ => ?_
  exact e p
theorem fn_is_path {f : Addr} {fd : FuncData} {k : Nat} (F : Fun K "is_path" "is_path" s_is_path f fd) (N : Nb mg) (C_is_segment : Cal P w K mg base k "is_segment" ["value"] (spV (ok_is segP))) : FnOk P w K mg base CX0 (k + 1) f fd ["value"] (spV (ok_is pathP)) := by
  refine F.ok sc_is_path (fun vs H Q E h => ?_) (fun cdv A outer s H vs Q E hr h => ?_)
  · obtain ⟨_, ⟨_, _, rfl, _⟩, _⟩ := h
    rfl
  · obtain ⟨z, ⟨v, d, rfl, hR, hT⟩, q⟩ := h
    refine ⟨_, (pss_one (ps_ret (pe_and (pe_callB call_isi (by rfl) N.isinstance PyProof.Rows.boot_isinstance (pa_cons (pv 0) (pa_cons (pe_bltn (v := .ty "str") (by rfl) N.str PyProof.Rows.boot_str rfl) pa_nil))) (pe_one (pe_callB (cr_all rfl) (by rfl) N.all PyProof.Rows.boot_all (pa_cons (pe_lc (own := [("part", 1)]) (by rfl) sc_is_path.nd (pi_list (pe_split (pv 0) pe_str)) (blkOk_by (own := [("part", 1)]) (N := ["value", "part"]) (sc := defScope s_is_path) (by decide +kernel)) (fun _ _ _ _ _ => (pg_name (i := 1) sc_is_path.nd rfl (Or.inl rfl))) (fun _ _ _ _ _ => pts_nil) (fun _ _ _ _ _ => (pe_cal C_is_segment hr (pa_cons (pv 1) pa_nil)))) pa_nil)))))), ?_⟩
    rcases hT with ⟨l, rfl, hl, rfl⟩ | ⟨hk, rfl⟩
    · cases hR
      have hsl := splitT_len 47 l
      refine s_ret (ev_is (ev_andV (a := true) (ev_isi (ev_v rfl) (.str l) (by rfl)) fun _ => ev_all (bs := (splitT 47 l).map segP) ?_) ?_) fun H1 e1 => q H1 e1
      · rw [← bls_txs (fun p => .bl (segP p)) segP V.bl _ fun _ => rfl, ← show (txs (splitT 47 l)).filter (fun _ => true) = txs (splitT 47 l) from List.filter_eq_self.mpr fun _ _ => rfl]
        refine el_lcF (fun _ => true) _ (el_splitT (by decide) (ev_v rfl) (ev_cs [47] (by decide +kernel)) (by omega)) (by rw [txs_len]; omega) (fun _ => rfl) (fun x H1 e1 hx => et_yes) (fun x H1 e1 hx _ => ?_)
        obtain ⟨p, hp, rfl⟩ := List.mem_map.mp hx
        exact ev_cal (ea_cons (ev_v rfl) ea_nil) fun H2 e2 => ⟨_, .str p, rfl, .str _, .inl ⟨p, rfl, Nat.le_trans (splitT_part 47 l p hp) hl, rfl⟩⟩
      · rw [List.all_map, Bool.true_and]
        rfl
    · exact s_ret (ev_is (ev_andV (a := false) (b := false) (ev_isi (ev_v rfl) hR hk) (fun z => nomatch z)) rfl) fun H1 e1 => q H1 e1
/-! numbers of up to three digits -/
def countP (l : List Nat) : Bool := madeP digL 3 l && (decide (l = [48]) || !decide (l.headD 0 = 48))
abbrev s_is_count : Stmt := topS 12
theorem sc_is_count : FnScope ["text", "sign"] ["text"] (defScope s_is_count) := ⟨rfl, rfl, rfl, by decide +kernel, rfl, by decide +kernel, by decide +kernel⟩
def ok_test (g : List Nat → Bool) (vs : List V) (H : Hp) (z : V) : Prop := ∃ l : List Nat, vs = [.str (tx l)] ∧ l.length ≤ 1000 ∧ z = .bl (g l)
theorem str_dec {a b : List Nat} : decide (V.str (tx a) = V.str (tx b)) = decide (a = b) := decide_eq_decide.mpr ⟨fun h => tx_inj (V.str.inj h), fun h => by rw [h]⟩
theorem head_get {l : List Nat} (h : l ≠ []) : l[0]? = some (l.headD 0) := by
  cases l with
  | nil => exact absurd rfl h
  | cons a r => rfl
theorem head_dec {c d : Nat} : decide (V.str (tx [c]) = V.str (tx [d])) = decide (c = d) := decide_eq_decide.mpr ⟨fun h => (List.cons.inj (tx_inj (V.str.inj h))).1, fun h => by rw [h]⟩
theorem fn_is_count {f : Addr} {fd : FuncData} {k : Nat} (F : Fun K "is_count" "is_count" s_is_count f fd) (N : Nb mg) (g_DIGITS : GS mg "DIGITS" (tx digL)) : FnOk P w K mg base CX0 (k + 1) f fd ["text"] (spV (ok_test countP)) := by
  refine F.ok sc_is_count (fun vs H Q E h => ?_) (fun cdv A outer s H vs Q E hr h => ?_)
  · obtain ⟨_, ⟨_, rfl, _⟩, _⟩ := h
    rfl
  · obtain ⟨_, ⟨l, rfl, hl, hz⟩, q⟩ := h
    rw [hz] at q
    refine ⟨_, (pss_cons (ps_if (PW.pt (pw_or (pt_not (pt_chain op_le op_le pe_int (pe_callB call_len_str (by rfl) N.len PySem.boot_len (pa_cons (pv 0) pa_nil)) pe_int)) (pw_or1 (pt_not (pt_val (pe_callB (cr_all rfl) (by rfl) N.all PyProof.Rows.boot_all (pa_cons (pe_lc (own := [("sign", 1)]) (by rfl) sc_is_count.nd (pi_str (pv 0)) (blkOk_by (own := [("sign", 1)]) (N := ["text", "sign"]) (sc := defScope s_is_count) (by decide +kernel)) (fun _ _ _ _ _ => (pg_name (i := 1) sc_is_count.nd rfl (Or.inl rfl))) (fun _ _ _ _ _ => pts_nil) (fun _ _ _ _ _ => (pe_cmpR op_in_sign (pv 1) (pe_gs g_DIGITS) rfl))) pa_nil))))))) (pss_one (ps_ret pe_bl)) pss_nil)
      (pss_one (ps_ret (pe_or (pe_cmpR op_eq (pv 0) pe_str (nomark _)) (pe_one (pe_cmpR op_ne (pe_ix ix_str (pv 0) pe_int (fun _ _ => rfl)) pe_str (nomark _))))))), ?_⟩
    refine q_when (b := !(decide ((1 : Int) ≤ (l.length : Int)) && decide ((l.length : Int) ≤ (3 : Int))) || !(l.all fun c => decide (c ∈ digL))) (et_or (et_not (et_test (ev_chain (ev_cn 1) (ev_lenS (ev_v rfl) (by omega)) rv_I0 (fun _ => ev_cn 3) (fun _ => rv_I0)))) fun _ => et_not (et_B (ev_is (ev_all (bs := l.map fun c => decide (c ∈ digL)) ?_) (by rw [List.all_map]; rfl)))) (fun hb H1 e1 => ?_) fun hb H1 e1 => ?_
    · rw [List.map_map]
      exact el_lcS (fun c => .bl (decide (c ∈ digL))) (ev_v rfl) (by omega) (fun _ => rfl) fun c H1 e1 hc => ev_op (ev_v rfl) ev_c rv_inSn
    · have hm : madeP digL 3 l = false := by
        unfold madeP
        rw [show decide (1 ≤ l.length) = decide ((1 : Int) ≤ (l.length : Int)) from decide_eq_decide.mpr (by omega), show decide (l.length ≤ 3) = decide ((l.length : Int) ≤ (3 : Int)) from decide_eq_decide.mpr (by omega)]
        revert hb
        cases decide ((1 : Int) ≤ (l.length : Int)) <;> cases decide ((l.length : Int) ≤ (3 : Int)) <;> cases (l.all fun c => decide (c ∈ digL)) <;> simp
      refine s_ret ev_c fun H2 e2 => ?_
      unfold countP at q
      rw [hm] at q
      exact q H2 (e1.trans e2)
    · have hm : madeP digL 3 l = true := by
        unfold madeP
        rw [show decide (1 ≤ l.length) = decide ((1 : Int) ≤ (l.length : Int)) from decide_eq_decide.mpr (by omega), show decide (l.length ≤ 3) = decide ((l.length : Int) ≤ (3 : Int)) from decide_eq_decide.mpr (by omega)]
        revert hb
        cases decide ((1 : Int) ≤ (l.length : Int)) <;> cases decide ((l.length : Int) ≤ (3 : Int)) <;> cases (l.all fun c => decide (c ∈ digL)) <;> simp
      have h1 := made_true hm
      have h0 : l ≠ [] := fun e => by rw [e] at h1; exact absurd h1 (by decide)
      refine s_ret (ev_is (ev_orV (a := decide (l = [48])) (b := !decide (l.headD 0 = 48)) (ev_is (ev_op (ev_v rfl) (ev_cs [48] (by decide +kernel)) (rv_eq rfl)) (congrArg V.bl str_dec)) fun _ => ev_is (ev_op (ev_op (ev_v rfl) (ev_cn 0) (rv_ixSn (by omega) (head_get h0))) (ev_cs [48] (by decide +kernel)) (rv_ne rfl)) (congrArg (fun b => V.bl (!b)) head_dec)) ?_) fun H2 e2 => q H2 (e1.trans e2)
      unfold countP
      rw [hm, Bool.true_and]
end
end K50

set_option Elab.async false
set_option linter.all false
set_option maxRecDepth 100000
set_option maxHeartbeats 4000000
namespace K50
open PySem PySem.Spec PyProof.Rows L2 Evl My
/-! texts in lists -/
theorem txs_get {ps : List L} {i : Nat} {p : L} (h : ps[i]? = some p) : (txs ps)[i]? = some (.str (tx p)) := by
  unfold txs
  rw [List.getElem?_map, h]
  rfl
theorem txs_get' {ps : List L} {i : Nat} {v : V} (h : (txs ps)[i]? = some v) : v = .str (tx (ps.getD i [])) ∧ i < ps.length ∧ ps[i]? = some (ps.getD i []) := by
  unfold txs at h
  rw [List.getElem?_map] at h
  obtain ⟨p, hp, rfl⟩ := Option.map_eq_some_iff.mp h
  have hl := (List.getElem?_eq_some_iff.mp hp).1
  rw [List.getD_eq_getElem?_getD, hp]
  exact ⟨rfl, hl, rfl⟩
theorem getD_some {α : Type} {ps : List α} {i : Nat} {d : α} (h : i < ps.length) : ps[i]? = some (ps.getD i d) := by
  rw [List.getD_eq_getElem?_getD, List.getElem?_eq_getElem h]
  rfl
theorem getD_mem {α : Type} {ps : List α} {i : Nat} {d : α} (h : i < ps.length) : ps.getD i d ∈ ps := List.mem_of_getElem? (getD_some (d := d) h)
theorem txs_drop (ps : List L) (n : Nat) : txs (ps.drop n) = (txs ps).drop n := by unfold txs; rw [List.map_drop]
theorem txs_flat (ps : List L) : (txs ps).all flatV = true := by
  unfold txs
  rw [List.all_map, List.all_eq_true]
  intro x _
  rfl
theorem txs_in (l : L) (ps : List L) : inV (.str (tx l)) (txs ps) = decide (l ∈ ps) := by
  unfold inV txs
  rw [List.any_map]
  induction ps with
  | nil => rfl
  | cons p r ih =>
    rw [List.any_cons, ih]
    show ((tx p == tx l) || _) = _
    by_cases h : l = p
    · subst h
      rw [show (tx l == tx l) = true from beq_self_eq_true _, Bool.true_or, decide_eq_true (by simp)]
    · rw [show (tx p == tx l) = false from beq_eq_false_iff_ne.mpr fun z => h (tx_inj z).symm, Bool.false_or]
      exact decide_eq_decide.mpr (by simp [h])
theorem el_is {σ : L2.St} {H : Hp} {te : TE} {xs ys : List V} (h : EvL te σ H xs) (e : xs = ys) : EvL te σ H ys := by
  rw [← e]
  exact h
mutual
def NoL : D → Prop
  | .tup ds => NoLL ds
  | .lst _ => False
  | .non => True
  | .bl _ => True
  | .int _ => True
  | .str _ => True
def NoLL : List D → Prop
  | [] => True
  | d :: ds => NoL d ∧ NoLL ds
end
mutual
theorem Rep.keepT {H H1 : Hp} (k : ∀ a us, H a = some (.tup us) → H1 a = some (.tup us)) : ∀ {v : V} {d : D}, NoL d → Rep H v d → Rep H1 v d
  | _, _, _, .non => .non
  | _, _, _, .bl b => .bl b
  | _, _, _, .int i => .int i
  | _, _, _, .str l => .str l
  | _, .tup ds, h, .tup q r => .tup (k _ _ q) (Reps.keepT k (by rw [NoL] at h; exact h) r)
  | _, .lst ds, h, .lst q r => (by rw [NoL] at h; exact h.elim)
theorem Reps.keepT {H H1 : Hp} (k : ∀ a us, H a = some (.tup us) → H1 a = some (.tup us)) : ∀ {vs : List V} {ds : List D}, NoLL ds → Reps H vs ds → Reps H1 vs ds
  | _, _, _, .nil => .nil
  | _, _ :: _, h, .cons r rs => .cons (Rep.keepT k (by rw [NoLL] at h; exact h.1) r) (Reps.keepT k (by rw [NoLL] at h; exact h.2) rs)
end
theorem nol_app : ∀ {a b : List D}, NoLL a → NoLL b → NoLL (a ++ b)
  | [], _, _, h => h
  | d :: a, b, h, g => by
    rw [NoLL] at h
    show NoLL (d :: (a ++ b))
    rw [NoLL]
    exact ⟨h.1, nol_app h.2 g⟩
theorem nol_all {α : Type} {f : α → D} : ∀ {l : List α}, (∀ x ∈ l, NoL (f x)) → NoLL (l.map f)
  | [], _ => by rw [List.map_nil, NoLL]; trivial
  | x :: l, h => by
    rw [List.map_cons, NoLL]
    exact ⟨h x (by simp), nol_all fun y hy => h y (by simp [hy])⟩
theorem reps_txs (H : Hp) : ∀ ps : List L, Reps H (txs ps) (ps.map .str)
  | [] => .nil
  | p :: ps => .cons (.str p) (reps_txs H ps)
/-! the kinds of arguments, the operations -/
inductive Kd where
  | p | d | w | n | s
  deriving DecidableEq
def kdT : Kd → L
  | .p => [112, 97, 116, 104]
  | .d => [100, 105, 114]
  | .w => [119, 111, 114, 100]
  | .n => [99, 111, 117, 110, 116]
  | .s => [115, 116, 101, 112]
def goodF : Kd → L → Bool
  | .p, l => pathP l
  | .d, l => decide (l = [46]) || pathP l
  | .w, l => decide (l.length ≤ 12)
  | .n, l => countP l
  | .s, l => wordP l
def oJ : L := [106, 111, 105, 110]
def opTab : List (L × List Kd) := [([102, 105, 108, 101], [.p]), ([97, 108, 108], [.d]), ([107, 101, 101, 112], [.w, .s]), ([100, 114, 111, 112], [.w, .s]), ([115, 119, 97, 112], [.w, .w, .s]), ([117, 110, 100, 101, 114], [.w, .s]), ([115, 111, 114, 116], [.s]), ([114, 101, 118, 101, 114, 115, 101], [.s]), ([117, 110, 105, 113, 117, 101], [.s]), ([104, 101, 97, 100], [.n, .s]), ([116, 97, 105, 108], [.n, .s]), ([110, 117, 109, 98, 101, 114], [.s]), ([99, 111, 117, 110, 116], [.s]), ([101, 97, 99, 104], [.s, .s]), ([115, 97, 109, 101], [.s, .s])]
def tabK : List (L × List Kd) → L → Option (List Kd)
  | [], _ => none
  | p :: r, l => if p.1 = l then some p.2 else tabK r l
def kdsF (op : L) : Option (List Kd) := tabK opTab op
def shapeF (op : L) (many : Nat) : Option (List Kd) := if op = oJ then (if 1 ≤ many ∧ many ≤ 6 then some (List.replicate many .s) else none) else kdsF op
def joinK : List Kd → L
  | [] => []
  | [k] => kdT k
  | k :: r => kdT k ++ 32 :: joinK r
def shapT : List (L × L) := opTab.map fun p => (p.1, joinK p.2)
theorem tab_map (f : List Kd → L) (l : L) : ∀ t : List (L × List Kd), tabF (t.map fun p => (p.1, f p.2)) l = (tabK t l).map f
  | [] => rfl
  | p :: r => by
    rw [List.map_cons, tabF, tabK]
    by_cases h : p.1 = l
    · rw [if_pos h, if_pos h]
      rfl
    · rw [if_neg h, if_neg h]
      exact tab_map f l r
theorem tab_mem {l : L} {ks : List Kd} : ∀ {t : List (L × List Kd)}, tabK t l = some ks → ∃ p ∈ t, p.1 = l ∧ p.2 = ks
  | [], h => nomatch h
  | p :: r, h => by
    rw [tabK] at h
    by_cases e : p.1 = l
    · rw [if_pos e] at h
      exact ⟨p, by simp, e, Option.some.inj h⟩
    · rw [if_neg e] at h
      obtain ⟨q, hq, r⟩ := tab_mem h
      exact ⟨q, by simp [hq], r⟩
theorem tab_all {P : List Kd → Prop} {l : L} {ks : List Kd} (h : kdsF l = some ks) (hp : ∀ p ∈ opTab, P p.2) : P ks := by
  obtain ⟨p, hm, _, e⟩ := tab_mem h
  rw [← e]
  exact hp p hm
theorem kds_split {l : L} {ks : List Kd} (h : kdsF l = some ks) : splitT 32 (joinK ks) = ks.map kdT := tab_all (P := fun ks => splitT 32 (joinK ks) = ks.map kdT) h (by decide +kernel)
theorem kds_len {l : L} {ks : List Kd} (h : kdsF l = some ks) : (joinK ks).length ≤ 40 ∧ ks.length ≤ 6 := tab_all (P := fun ks => (joinK ks).length ≤ 40 ∧ ks.length ≤ 6) h (by decide +kernel)
theorem kdT_inj {a b : Kd} : kdT a = kdT b ↔ a = b := ⟨fun h => by revert h; cases a <;> cases b <;> decide, fun h => by rw [h]⟩
abbrev Ar := Kd × L
def numF (l : L) : Nat := l.foldl (fun n c => 10 * n + (c - 48)) 0
def argV (p : Ar) : V := if p.1 = .n then .int (numF p.2 : Nat) else .str (tx p.2)
def argD (p : Ar) : D := if p.1 = .n then .int (numF p.2 : Nat) else .str p.2
structure Stp where
  nm : L
  op : L
  args : List Ar
def stepF (ws : List L) : Option Stp :=
  if ws.length < 4 ∨ wordP (ws.getD 0 []) = false ∨ ws.getD 1 [] ≠ [61] then none else
  match shapeF (ws.getD 2 []) (ws.length - 3) with
  | none => none
  | some ks => if ks.length = ws.length - 3 ∧ (ks.zip (ws.drop 3)).all (fun p => goodF p.1 p.2) = true then some ⟨ws.getD 0 [], ws.getD 2 [], ks.zip (ws.drop 3)⟩ else none
def insF (st : Stp) : List L := (st.args.filter fun p => decide (p.1 = .s)).map (·.2)
structure Wf (st : Stp) : Prop where
  shp : shapeF st.op st.args.length = some (st.args.map (·.1))
  few : st.args.length ≤ 6
  sml : ∀ p ∈ st.args, p.2.length ≤ 1000
  num : ∀ p ∈ st.args, goodF p.1 p.2 = true
theorem shape_len {op : L} {m : Nat} {ks : List Kd} (h : shapeF op m = some ks) : ks.length ≤ 6 := by
  unfold shapeF at h
  split at h
  · split at h
    · cases h
      rename_i h
      rw [List.length_replicate]
      omega
    · cases h
  · exact (kds_len h).2
theorem step_wf {ws : List L} {st : Stp} (h : stepF ws = some st) (hl : ∀ p ∈ ws, p.length ≤ 1000) : Wf st := by
  unfold stepF at h
  split at h
  · cases h
  · split at h
    · cases h
    · rename_i ks hks
      split at h
      · rename_i hg
        cases h
        have hlen : (ks.zip (ws.drop 3)).length = ks.length := by
          rw [List.length_zip, List.length_drop]
          omega
        refine ⟨?_, ?_, fun p hp => ?_, fun p hp => List.all_eq_true.mp hg.2 p hp⟩
        · show shapeF _ (ks.zip (ws.drop 3)).length = some ((ks.zip (ws.drop 3)).map (·.1))
          rw [hlen, hg.1, hks, List.map_fst_zip (by rw [List.length_drop]; omega)]
        · show (ks.zip (ws.drop 3)).length ≤ 6
          rw [hlen]
          exact shape_len hks
        · have := List.of_mem_zip (show (p.1, p.2) ∈ ks.zip (ws.drop 3) from hp)
          exact hl _ (List.mem_of_mem_drop this.2)
      · cases h
theorem num_text : ∀ l, countP l = true → PySem.intText? (tx l) = some ((numF l : Nat) : Int) := by
  intro l h
  have h1 : ∀ a ∈ digL, PySem.intText? (tx [a]) = some ((numF [a] : Nat) : Int) := by decide +kernel
  have h2 : ∀ a ∈ digL, ∀ b ∈ digL, PySem.intText? (tx [a, b]) = some ((numF [a, b] : Nat) : Int) := by decide +kernel
  have h3 : ∀ a ∈ digL, ∀ b ∈ digL, ∀ c ∈ digL, PySem.intText? (tx [a, b, c]) = some ((numF [a, b, c] : Nat) : Int) := by decide +kernel
  unfold countP madeP at h
  rw [Bool.and_eq_true, Bool.and_eq_true, Bool.and_eq_true, List.all_eq_true] at h
  obtain ⟨⟨⟨ha, hb⟩, hc⟩, _⟩ := h
  have ha := of_decide_eq_true ha
  have hb := of_decide_eq_true hb
  match l, ha, hb, hc with
  | [a], _, _, hc => exact h1 a (of_decide_eq_true (hc a (by simp)))
  | [a, b], _, _, hc => exact h2 a (of_decide_eq_true (hc a (by simp))) b (of_decide_eq_true (hc b (by simp)))
  | [a, b, c], _, _, hc => exact h3 a (of_decide_eq_true (hc a (by simp))) b (of_decide_eq_true (hc b (by simp))) c (of_decide_eq_true (hc c (by simp)))
  | [], ha, _, _ => exact absurd ha (by decide)
  | _ :: _ :: _ :: _ :: _, _, hb, _ => simp at hb
theorem count_len {l : L} (h : countP l = true) : l.length ≤ 3 := by
  unfold countP madeP at h
  rw [Bool.and_eq_true, Bool.and_eq_true, Bool.and_eq_true] at h
  exact of_decide_eq_true h.1.1.2
theorem rep_s (n : Nat) : (List.replicate n [V.str (tx (kdT .s))]).flatten = txs ((List.replicate n Kd.s).map kdT) := by
  induction n with
  | zero => rfl
  | succ n ih =>
    rw [List.replicate_succ, List.flatten_cons, ih, List.replicate_succ, List.map_cons]
    rfl
section
variable {P : Program} {w : World} {K : PySem.W.Frag} {mg : Str → Option Value} {base : Heap}
theorem ev_word {σ : L2.St} {H : Hp} {ta tb : TE} {a : Addr} {ws : List L} {i : Nat} (ha : Ev ta σ H (.ref a)) (hb : Ev tb σ H (.int (i : Int))) (hS : SqL K H a (txs ws)) (h : i < ws.length) : Ev (tOp (rIxL K) ta tb) σ H (.str (tx (ws.getD i []))) := ev_ixL ha hb hS (txs_get (getD_some h))
theorem el_drop {σ : L2.St} {H : Hp} {ta tb : TE} {a : Addr} {ws : List L} {i : Nat} (ha : Ev ta σ H (.ref a)) (hb : Ev tb σ H (.int (i : Int))) (hS : SqL K H a (txs ws)) : EvL (tSl (rSlL K) ta (tPart tb) tNoPart) σ H (txs (ws.drop i)) := by
  rw [txs_drop, ← cutV_drop]
  exact el_sl ha (eo_some hb) eo_none hS
theorem ev_eqS {σ : L2.St} {H : Hp} {ta tb : TE} {a b : L} (ha : Ev ta σ H (.str (tx a))) (hb : Ev tb σ H (.str (tx b))) : Ev (tOp rEq ta tb) σ H (.bl (decide (a = b))) := ev_is (ev_op ha hb (rv_eq rfl)) (congrArg V.bl str_dec)
abbrev s_fits : Stmt := topS 13
theorem sc_fits : FnScope ["kind", "text"] ["kind", "text"] (defScope s_fits) := ⟨rfl, rfl, rfl, by decide +kernel, rfl, by decide +kernel, by decide +kernel⟩
def ok_fits (vs : List V) (H : Hp) (z : V) : Prop := ∃ (kd : Kd) (l : L), vs = [.str (tx (kdT kd)), .str (tx l)] ∧ l.length ≤ 1000 ∧ z = .bl (goodF kd l)
theorem fn_fits {f : Addr} {fd : FuncData} {k : Nat} (F : Fun K "fits" "fits" s_fits f fd) (N : Nb mg) (C_is_path : Cal P w K mg base k "is_path" ["value"] (spV (ok_is pathP))) (C_is_word : Cal P w K mg base k "is_word" ["value"] (spV (ok_is wordP))) (C_is_count : Cal P w K mg base k "is_count" ["text"] (spV (ok_test countP))) : FnOk P w K mg base CX0 (k + 1) f fd ["kind", "text"] (spV ok_fits) := by
  refine F.ok sc_fits (fun vs H Q E h => ?_) (fun cdv A outer s H vs Q E hr h => ?_)
  · obtain ⟨_, ⟨_, _, rfl, _⟩, _⟩ := h
    rfl
  · obtain ⟨_, ⟨kd, l, rfl, hl, hz⟩, q⟩ := h
    rw [hz] at q
    refine ⟨_, (pss_cons (ps_if (pt_cmpR op_eq (pv 0) pe_str (nomark _)) (pss_one (ps_ret (pe_cal C_is_path hr (pa_cons (pv 1) pa_nil)))) pss_nil)
      (pss_cons (ps_if (pt_cmpR op_eq (pv 0) pe_str (nomark _)) (pss_one (ps_ret (pe_or (pe_cmpR op_eq (pv 1) pe_str (nomark _)) (pe_one (pe_cal C_is_path hr (pa_cons (pv 1) pa_nil)))))) pss_nil)
      (pss_cons (ps_if (pt_cmpR op_eq (pv 0) pe_str (nomark _)) (pss_one (ps_ret (pe_cmpR op_le (pe_callB call_len_str (by rfl) N.len PySem.boot_len (pa_cons (pv 1) pa_nil)) pe_int (nomark _)))) pss_nil)
      (pss_one (ps_ret (pe_ifExp (pt_cmpR op_eq (pv 0) pe_str (nomark _)) (pe_cal C_is_count hr (pa_cons (pv 1) pa_nil)) (pe_cal C_is_word hr (pa_cons (pv 1) pa_nil)))))))), ?_⟩
    have tst : ∀ (c : Kd) {H' : Hp} {t : Str}, t = tx (kdT c) → EvT (tTest (tOp rEq (tVar 0) (tC (.str t)))) [some (.str (tx (kdT kd))), some (.str (tx l))] H' (decide (kd = c)) := fun c H' t ht => et_is (et_test (ev_eqS (ev_v rfl) (ev_cs (kdT c) ht))) (decide_eq_decide.mpr kdT_inj)
    have path : ∀ {H' : Hp}, Ev (tCall (spV (ok_is pathP)) [] E0 (tCons (tVar 1) tNil)) [some (.str (tx (kdT kd))), some (.str (tx l))] H' (.bl (pathP l)) := fun {H'} => ev_cal (ea_cons (ev_v rfl) ea_nil) fun H1 e1 => ⟨_, .str l, rfl, .str l, .inl ⟨l, rfl, hl, rfl⟩⟩
    refine q_when (tst .p (by decide +kernel)) (fun hb H1 e1 => ?_) fun hb H1 e1 => ?_
    · have := of_decide_eq_true hb
      subst this
      exact s_ret path fun H2 e2 => q H2 (e1.trans e2)
    refine q_when (tst .d (by decide +kernel)) (fun hc H2 e2 => ?_) fun hc H2 e2 => ?_
    · have := of_decide_eq_true hc
      subst this
      exact s_ret (ev_orV (a := decide (l = [46])) (b := pathP l) (ev_eqS (ev_v rfl) (ev_cs [46] (by decide +kernel))) fun _ => path) fun H3 e3 => q H3 ((e1.trans e2).trans e3)
    refine q_when (tst .w (by decide +kernel)) (fun hd H3 e3 => ?_) fun hd H3 e3 => ?_
    · have := of_decide_eq_true hd
      subst this
      refine s_ret (ev_is (ev_op (ev_lenS (ev_v rfl) (by omega)) (ev_cn 12) rv_I0) ?_) fun H4 e4 => q H4 (((e1.trans e2).trans e3).trans e4)
      exact congrArg V.bl (decide_eq_decide.mpr (by omega))
    refine s_ret (ev_if (tst .n (by decide +kernel)) (fun he => ?_) fun he => ?_) fun H4 e4 => q H4 (((e1.trans e2).trans e3).trans e4)
    · have := of_decide_eq_true he
      subst this
      exact ev_cal (ea_cons (ev_v rfl) ea_nil) fun H5 e5 => ⟨l, rfl, hl, rfl⟩
    · have hs : kd = .s := by
        have h1 := of_decide_eq_false hb
        have h2 := of_decide_eq_false hc
        have h3 := of_decide_eq_false hd
        have h4 := of_decide_eq_false he
        cases kd <;> first | rfl | exact absurd rfl h1 | exact absurd rfl h2 | exact absurd rfl h3 | exact absurd rfl h4
      subst hs
      exact ev_cal (ea_cons (ev_v rfl) ea_nil) fun H5 e5 => ⟨_, .str l, rfl, .str l, .inl ⟨l, rfl, hl, rfl⟩⟩
abbrev s_kinds_of : Stmt := topS 14
theorem sc_kinds_of : FnScope ["words"] ["words"] (defScope s_kinds_of) := ⟨rfl, rfl, rfl, by decide +kernel, rfl, by decide +kernel, by decide +kernel⟩
def sp_kinds (K : PySem.W.Frag) : Sp := fun vs H Q _ => ∃ (a : Addr) (ws : List L), vs = [.ref a] ∧ SqL K H a (txs ws) ∧ 4 ≤ ws.length ∧ ws.length ≤ 1000 ∧ (shapeF (ws.getD 2 []) (ws.length - 3) = none → ∀ H', Ex H H' → Q .non H') ∧
  ∀ ks, shapeF (ws.getD 2 []) (ws.length - 3) = some ks → ∀ p H', H p = none → Ex H H' → H' p = some (.lst (txs (ks.map kdT))) → Q (.ref p) H'
theorem fn_kinds_of {f : Addr} {fd : FuncData} {k : Nat} (F : Fun K "kinds_of" "kinds_of" s_kinds_of f fd) (N : Nb mg) (g_SHAPES : GD K w mg "SHAPES" shapT) : FnOk P w K mg base CX0 (k + 1) f fd ["words"] (sp_kinds K) := by
  refine F.ok sc_kinds_of (fun vs H Q E h => ?_) (fun cdv A outer s H vs Q E hr h => ?_)
  · obtain ⟨_, _, rfl, _⟩ := h
    rfl
  · obtain ⟨a, ws, rfl, hS, h4, hn, q0, q1⟩ := h
    obtain ⟨dS, es, nS, m_SHAPES, D_SHAPES, hT⟩ := g_SHAPES
    refine ⟨_, (pss_cons (ps_if (pt_cmpR op_eq (pe_ix ix_list (pv 0) pe_int (fun _ _ => rfl)) pe_str (nomark _)) (pss_one (ps_ret (pe_ifExp (pt_chain op_le op_le pe_int (pe_callB call_len_seq (by rfl) N.len PySem.boot_len (pa_cons (pv 0) pa_nil)) pe_int) (pe_op op_rep (pe_lst (pa_cons pe_str pa_nil)) (pe_op op_sub (pe_callB call_len_seq (by rfl) N.len PySem.boot_len (pa_cons (pv 0) pa_nil)) pe_int)) pe_non))) pss_nil)
      (pss_cons (ps_if (pt_cmpR (op_notIn_kd D_SHAPES) (pe_ix ix_list (pv 0) pe_int (fun _ _ => rfl)) (pe_gr m_SHAPES) rfl) (pss_one (ps_ret pe_non)) pss_nil)
      (pss_one (ps_ret (pe_split (pe_ix ix_kdict (pe_gr m_SHAPES) (pe_ix ix_list (pv 0) pe_int (fun _ _ => rfl)) (fun _ _ => rfl)) pe_str))))), ?_⟩
    have lenV : ∀ {H' : Hp}, Ex H H' → Ev (tCB (rLenS K) (tCons (tVar 0) tNil)) [some (.ref a)] H' (.int ((ws.length : Nat) : Int)) := fun e => ev_is (ev_len (ev_v rfl) (ex_l e hS)) (by rw [txs_len])
    refine q_when (et_test (ev_eqS (ev_word (i := 2) (ev_v rfl) (ev_cn 2) hS (by omega)) (ev_cs oJ (by decide +kernel)))) (fun hb H1 e1 => ?_) fun hb H1 e1 => ?_
    · have hj := of_decide_eq_true hb
      refine r_ret (r_if (et_test (ev_chain (k := decide ((4 : Int) ≤ (ws.length : Int))) (m := decide ((ws.length : Int) ≤ (9 : Int))) (ev_cn 4) (lenV e1) rv_I0 (fun _ => ev_cn 9) (fun _ => rv_I0)) H1 (Ex.refl H1) _ fun H2 e2 => ?_))
      by_cases hm : ws.length ≤ 9
      · rw [decide_eq_true (by omega), decide_eq_true (by omega), if_pos (by rfl)]
        refine el_is (el_rep (k := ws.length - 3) (xs := [V.str (tx (kdT .s))]) (evl_n (el_lst (ea_cons (ev_cs (kdT .s) (by decide +kernel)) ea_nil) (by show 1 ≤ 100000; decide))) (ev_is (ev_op (lenV (e1.trans e2)) (ev_cn 3) rv_I0) (by congr 1; omega)) (by omega) (by show 1 * _ ≤ _; omega)) (rep_s _) H2 (Ex.refl H2) _ fun p H3 hp e3 h3 => q1 _ ?_ p H3 (fresh_back (e1.trans e2) hp) ((e1.trans e2).trans e3) h3
        unfold shapeF
        rw [if_pos hj, if_pos ⟨by omega, by omega⟩]
      · rw [decide_eq_false (p := (ws.length : Int) ≤ 9) (by omega), Bool.and_false, if_neg Bool.false_ne_true]
        refine r_c (q0 ?_ H2 (e1.trans e2))
        unfold shapeF
        rw [if_pos hj, if_neg (by omega)]
    · have hj := of_decide_eq_false hb
      have hsh : shapeF (ws.getD 2 []) (ws.length - 3) = kdsF (ws.getD 2 []) := by
        unfold shapeF
        rw [if_neg hj]
      have htab : tabF shapT (ws.getD 2 []) = (kdsF (ws.getD 2 [])).map joinK := tab_map joinK _ opTab
      refine q_when (et_test (ev_niKd (ev_word (i := 2) (ev_v rfl) (ev_cn 2) (ex_l e1 hS) (by omega)) hT)) (fun hc H2 e2 => ?_) fun hc H2 e2 => ?_
      · have hno : kdsF (ws.getD 2 []) = none := by
          rw [htab, Option.isSome_map] at hc
          cases e : kdsF (ws.getD 2 []) with
          | none => rfl
          | some x => rw [e] at hc; exact nomatch hc
        exact s_ret ev_c fun H3 e3 => q0 (hsh.trans hno) H3 ((e1.trans e2).trans e3)
      · obtain ⟨ks, hks⟩ : ∃ ks, kdsF (ws.getD 2 []) = some ks := by
          rw [htab, Option.isSome_map] at hc
          cases e : kdsF (ws.getD 2 []) with
          | none => rw [e] at hc; exact nomatch hc
          | some x => exact ⟨x, rfl⟩
        rw [hks] at htab
        have := (kds_len hks).1
        refine s_retL (xs := txs (ks.map kdT)) (el_is (el_splitT (l := joinK ks) (by decide) (ev_ixKd (ev_word (i := 2) (ev_v rfl) (ev_cn 2) (ex_l (e1.trans e2) hS) (by omega)) D_SHAPES hT htab) (ev_cs [32] (by decide +kernel)) (by omega)) (by rw [kds_split hks])) fun p H3 hp e3 h3 => q1 ks (hsh.trans hks) p H3 (fresh_back (e1.trans e2) hp) ((e1.trans e2).trans e3) h3
end
end K50

set_option Elab.async false
set_option linter.all false
set_option maxRecDepth 100000
set_option maxHeartbeats 4000000
namespace K50
open PySem PySem.Spec PyProof.Rows L2 Evl My
theorem range_zip {α β γ : Type} (g : α → β → γ) (da : α) (db : β) : ∀ (as : List α) (bs : List β), as.length = bs.length → (List.range as.length).map (fun i => g (as.getD i da) (bs.getD i db)) = (as.zip bs).map fun p => g p.1 p.2
  | [], [], _ => rfl
  | a :: as, [], h => by simp at h
  | [], b :: bs, h => by simp at h
  | a :: as, b :: bs, h => by
    rw [List.length_cons, List.range_succ_eq_map, List.map_cons, List.map_map, List.zip_cons_cons, List.map_cons, ← range_zip g da db as bs (by simpa using h)]
    rfl
theorem txs_getD {ps : List L} {i : Nat} {v : V} (h : (txs ps)[i]? = some v) : v = .str (tx (ps.getD i [])) := (txs_get' h).1
theorem kdt_get {ks : List Kd} {i : Nat} {v : V} (h : (txs (ks.map kdT))[i]? = some v) : v = .str (tx (kdT (ks.getD i .s))) ∧ i < ks.length := by
  obtain ⟨h1, h2, h3⟩ := txs_get' h
  rw [List.length_map] at h2
  refine ⟨?_, h2⟩
  rw [h1, List.getD_eq_getElem?_getD, List.getD_eq_getElem?_getD, List.getElem?_map, List.getElem?_eq_getElem h2]
  rfl
theorem r_tup {ta : TA} {σ : L2.St} {H : Hp} {Q : VK} (h : ta σ H fun vs H1 => vs.length ≤ sizeLine ∧ ∀ p, H1 p = none → Q (.ref p) (upd H1 p (.tup vs))) : tTup ta σ H Q := h
section
variable {K : PySem.W.Frag} {σ : L2.St} {H H' : Hp} {ta : TA} {ta1 tb1 te tl : TE} {tt : TT} {xs ys : List V} {x z v : V} {p : Addr} {t1 t2 : Bool}
theorem el_lcZF {j1 j2 : Nat} {vs : List Nat} (f : Nat → Bool) (v : Nat → V) (h : EvZ K ta σ H t1 t2 xs ys) (hl : xs.length = ys.length) (hz : xs.length ≤ 40000) (hw : ∀ x y, wipe (((wipe σ vs).set j1 (some x)).set j2 (some y)) vs = wipe σ vs)
    (ht : ∀ (i : Nat) (x y : V) H1, Ex H H1 → xs[i]? = some x → ys[i]? = some y → EvT tt (((wipe σ vs).set j1 (some x)).set j2 (some y)) H1 (f i))
    (he : ∀ (i : Nat) (x y : V) H1, Ex H H1 → xs[i]? = some x → ys[i]? = some y → f i = true → Ev te (((wipe σ vs).set j1 (some x)).set j2 (some y)) H1 (v i)) :
    EvL (tLc (iZs K t1 t2 ta) (gTup K 2 (gCons (gName j1) (gCons (gName j2) gNil))) tt te vs) σ H (((List.range xs.length).filter f).map v) := by
  intro H0 e Q q
  refine h H0 e _ fun a b H1 e1 ha hb => ⟨a, b, xs, ys, rfl, ha, hb, fun Dl hD => ?_⟩
  refine ⟨fun i m H' => m = xs.length - i ∧ i ≤ xs.length ∧ Ex H1 H' ∧ H' Dl = some (.lst (((List.range i).filter f).map v)), ⟨xs.length, rfl, Nat.zero_le _, Ex.new hD, upd_same⟩, ?_⟩
  rintro i m H' ⟨rfl, hi, ex, hll⟩
  by_cases hlt : i < xs.length
  · have gx : xs[i]? = some xs[i] := List.getElem?_eq_getElem hlt
    have hlt2 : i < ys.length := by omega
    have gy : ys[i]? = some ys[i] := List.getElem?_eq_getElem hlt2
    refine .inr ⟨⟨xs, ys, _, _, ex_b ex ha, ex_b ex hb, hl, gx, gy⟩, fun H' => Ex H1 H' ∧ H' Dl = some (.lst (((List.range (i + 1)).filter f).map v)), fun H2 p2 => ⟨xs.length - (i + 1), by omega, rfl, hlt, p2⟩, fun v' H2 y => ?_⟩
    obtain ⟨T, x', y', rfl, hT, rfl, f1, f2⟩ := y
    refine ⟨T, [x', y'], rfl, st_of upd_same, rfl, x', [y'], rfl, y', [], rfl, rfl, hw _ _, ?_⟩
    have eT : Ex H1 (upd H' T (.tup [x', y'])) := ex.trans (Ex.new hT)
    have fx := f1 xs (ex_b ex ha)
    have fy := f2 ys (ex_b ex hb)
    refine ht i x' y' H1 (e.trans e1) fx fy _ eT _ fun H3 e3 => ?_
    have E3 := eT.trans e3
    have l3 := e3 Dl _ ((Ex.new hT) Dl _ hll)
    rw [List.range_succ, List.filter_append]
    cases hf : f i with
    | false =>
      rw [if_neg (by decide)]
      refine ⟨E3, ?_⟩
      rw [l3]
      simp [hf]
    | true =>
      rw [if_pos rfl]
      refine he i x' y' H1 (e.trans e1) fx fy hf H3 E3 _ fun H4 e4 => ⟨_, e4 Dl _ l3, sz_lt ?_, (E3.trans e4).mut hD, ?_⟩
      · have h1 := List.length_filter_le f (List.range i)
        rw [List.length_range] at h1
        rw [List.length_map]
        omega
      · rw [upd_same]
        simp [hf]
  · have e0 : i = xs.length := by omega
    subst e0
    exact .inl ⟨⟨xs, ys, ex_b ex ha, ex_b ex hb, rfl, hl.symm⟩, q Dl H' (fresh_back e1 hD) (e1.trans ex) hll⟩
theorem ez_n2 {a : Addr} (h1 : Ev ta1 σ H (.ref a)) (hp : SqL K H a xs) (h2 : EvL tb1 σ H ys) : EvZ K (tCons ta1 (tCons tb1 tNil)) σ H false false xs ys := ez_vn h1 hp h2
theorem ez_vt {a b : Addr} (h1 : Ev ta1 σ H (.ref a)) (hp : SqL K H a xs) (h2 : Ev tb1 σ H (.ref b)) (hq : SqT K H b ys) : EvZ K (tCons ta1 (tCons tb1 tNil)) σ H false true xs ys := fun H1 e Q q =>
  h1 H1 e _ fun H2 e2 => h2 H2 (e.trans e2) _ fun H3 e3 => q a b H3 (e2.trans e3) (ex_l ((e.trans e2).trans e3) hp) (ex_t ((e.trans e2).trans e3) hq)
end
theorem zip_filter {α β : Type} (f : α → Bool) (g : β → V) (da : α) (db : β) (as : List α) (bs : List β) (h : as.length = bs.length) : ((List.range as.length).filter fun i => f (as.getD i da)).map (fun i => g (bs.getD i db)) = ((as.zip bs).filter fun p => f p.1).map fun p => g p.2 := by
  induction as generalizing bs with
  | nil => rfl
  | cons a as ih =>
    cases bs with
    | nil => simp at h
    | cons b bs =>
      have := ih bs (by simpa using h)
      rw [List.length_cons, List.range_succ_eq_map, List.zip_cons_cons, List.filter_cons, List.filter_cons, List.filter_map]
      show (if f a = true then 0 :: _ else _).map _ = _
      cases f a with
      | true =>
        rw [if_pos rfl, if_pos rfl, List.map_cons, List.map_cons, List.map_map, ← this]
        rfl
      | false =>
        rw [if_neg (by decide), if_neg (by decide), List.map_map, ← this]
        rfl
section
variable {P : Program} {w : World} {K : PySem.W.Frag} {mg : Str → Option Value} {base : Heap}
abbrev s_step_of : Stmt := topS 15
theorem sc_step_of : FnScope ["words", "kinds", "kind", "text", "args"] ["words"] (defScope s_step_of) := ⟨rfl, rfl, rfl, by decide +kernel, rfl, by decide +kernel, by decide +kernel⟩
/- 0 words, 1 kinds, 2 kind, 3 text, 4 args -/
def sp_step (K : PySem.W.Frag) : Sp := fun vs H Q _ => ∃ (a : Addr) (ws : List L), vs = [.ref a] ∧ SqL K H a (txs ws) ∧ ws.length ≤ 1000 ∧ (∀ p ∈ ws, p.length ≤ 1000) ∧ (stepF ws = none → ∀ H', Ex H H' → Q .non H') ∧
  ∀ st, stepF ws = some st → ∀ p b H', H p = none → Ex H H' → H' p = some (.tup [.str (tx st.nm), .str (tx st.op), .ref b]) → H' b = some (.tup (st.args.map argV)) → Q (.ref p) H'
theorem fn_step_of {f : Addr} {fd : FuncData} {k : Nat} (F : Fun K "step_of" "step_of" s_step_of f fd) (N : Nb mg) (C_is_word : Cal P w K mg base k "is_word" ["value"] (spV (ok_is wordP))) (C_kinds_of : Cal P w K mg base k "kinds_of" ["words"] (sp_kinds K)) (C_fits : Cal P w K mg base k "fits" ["kind", "text"] (spV ok_fits)) : FnOk P w K mg base CX0 (k + 1) f fd ["words"] (sp_step K) := by
  refine F.ok sc_step_of (fun vs H Q E h => ?_) (fun cdv A outer s H vs Q E hr h => ?_)
  · obtain ⟨_, _, rfl, _⟩ := h
    rfl
  · obtain ⟨a, ws, rfl, hS, hn, hl, q0, q1⟩ := h
    refine ⟨_, (pss_cons (ps_if (PW.pt (pw_or (pt_cmpR op_lt (pe_callB call_len_seq (by rfl) N.len PySem.boot_len (pa_cons (pv 0) pa_nil)) pe_int (nomark _)) (pw_or (pt_not (pt_val (pe_cal C_is_word hr (pa_cons (pe_ix ix_list (pv 0) pe_int (fun _ _ => rfl)) pa_nil)))) (pw_or1 (pt_cmpR op_ne (pe_ix ix_list (pv 0) pe_int (fun _ _ => rfl)) pe_str (nomark _)))))) (pss_one (ps_ret pe_non)) pss_nil)
      (pss_cons (ps_set (i := 1) sc_step_of.nd rfl (Or.inl rfl) (pe_cal C_kinds_of hr (pa_cons (pv 0) pa_nil)))
      (pss_cons (ps_if (PW.pt (pw_or (pt_cmpR op_isN (pv 1) pe_non (nomark _)) (pw_or1 (pt_cmpR op_ne (pe_callB call_len_seq (by rfl) N.len PySem.boot_len (pa_cons (pv 1) pa_nil)) (pe_op op_sub (pe_callB call_len_seq (by rfl) N.len PySem.boot_len (pa_cons (pv 0) pa_nil)) pe_int) (nomark _))))) (pss_one (ps_ret pe_non)) pss_nil)
      (pss_cons (ps_if (pt_not (pt_val (pe_callB (cr_all rfl) (by rfl) N.all PyProof.Rows.boot_all (pa_cons (pe_lc (own := [("kind", 2), ("text", 3)]) (by rfl) sc_step_of.nd (pi_zs false false rfl N.zip (pa_cons (pv 1) (pa_cons (pe_slice sl_list (pv 0) (po_some pe_int) po_none) pa_nil)) (pk_cons pe_bl pk_nil)) (blkOk_by (own := [("kind", 2), ("text", 3)]) (N := ["words", "kinds", "kind", "text", "args"]) (sc := defScope s_step_of) (by decide +kernel)) (fun _ _ _ _ _ => (show PG _ _ (gTup K 2 _) from pg_tup rfl (pgs_cons (pg_name (i := 2) sc_step_of.nd rfl (Or.inl rfl)) (pgs_cons (pg_name (i := 3) sc_step_of.nd rfl (Or.inl rfl)) pgs_nil)))) (fun _ _ _ _ _ => pts_nil) (fun _ _ _ _ _ => (pe_cal C_fits hr (pa_cons (pv 2) (pa_cons (pv 3) pa_nil))))) pa_nil)))) (pss_one (ps_ret pe_non)) pss_nil)
      (pss_cons (ps_setLc (i := 4) (own := [("kind", 2), ("text", 3)]) (by rfl) sc_step_of.nd rfl rfl (sw_true rfl rfl rfl (by decide +kernel)) (pi_zs false false rfl N.zip (pa_cons (pv 1) (pa_cons (pe_slice sl_list (pv 0) (po_some pe_int) po_none) pa_nil)) (pk_cons pe_bl pk_nil)) (blkOk_by (own := [("kind", 2), ("text", 3)]) (N := ["words", "kinds", "kind", "text", "args"]) (sc := defScope s_step_of) (by decide +kernel)) (fun _ _ _ _ _ => (show PG _ _ (gTup K 2 _) from pg_tup rfl (pgs_cons (pg_name (i := 2) sc_step_of.nd rfl (Or.inl rfl)) (pgs_cons (pg_name (i := 3) sc_step_of.nd rfl (Or.inl rfl)) pgs_nil)))) (fun _ _ _ _ _ => pts_nil) (fun _ _ _ _ _ => (pe_ifExp (pt_cmpR op_eq (pv 2) pe_str (nomark _)) (pe_callTy call_int_str (by rfl) N.int PyProof.Rows.boot_int (pa_cons (pv 3) pa_nil)) (pv 3))))
      (pss_one (ps_ret (pe_tup (pa_cons (pe_ix ix_list (pv 0) pe_int (fun _ _ => rfl)) (pa_cons (pe_ix ix_list (pv 0) pe_int (fun _ _ => rfl)) (pa_cons (pe_callTy call_tuple_of (by rfl) N.tuple PyProof.Rows.boot_tuple (pa_cons (pv 4) pa_nil)) pa_nil))))))))))), ?_⟩
    have lenV : ∀ {H' : Hp} {σ : L2.St}, Ex H H' → σ[0]? = some (some (.ref a)) → Ev (tCB (rLenS K) (tCons (tVar 0) tNil)) σ H' (.int ((ws.length : Nat) : Int)) := fun e hv => ev_is (ev_len (ev_v hv) (ex_l e hS)) (by rw [txs_len])
    refine q_when (b := decide ((ws.length : Int) < 4) || (!(wordP (ws.getD 0 [])) || !decide (ws.getD 1 [] = [61]))) (et_or (et_test (ev_op (lenV (Ex.refl _) rfl) (ev_cn 4) rv_I0)) fun hb => ?_) (fun hb H1 e1 => ?_) fun hb H1 e1 => ?_
    · have h4 : 4 ≤ ws.length := by have := of_decide_eq_false hb; omega
      have hw0 : (ws.getD 0 []).length ≤ 1000 := hl _ (getD_mem (by omega))
      exact et_or (et_not (et_B (ev_cal (ea_cons (ev_word (i := 0) (ev_v rfl) (ev_cn 0) hS (by omega)) ea_nil) fun H2 e2 => ⟨_, .str _, rfl, .str _, .inl ⟨_, rfl, hw0, rfl⟩⟩))) fun _ => et_test (ev_is (ev_op (ev_word (i := 1) (ev_v rfl) (ev_cn 1) hS (by omega)) (ev_cs [61] (by decide +kernel)) (rv_ne rfl)) (congrArg (fun b => V.bl (!b)) str_dec))
    · refine s_ret ev_c fun H2 e2 => q0 ?_ H2 (e1.trans e2)
      unfold stepF
      rw [if_pos ?_]
      rw [Bool.or_eq_true, Bool.or_eq_true, Bool.not_eq_true', Bool.not_eq_true', decide_eq_true_eq] at hb
      rcases hb with hb | hb | hb
      · exact .inl (by omega)
      · exact .inr (.inl hb)
      · exact .inr (.inr (of_decide_eq_false hb))
    · rw [Bool.or_eq_false_iff, Bool.or_eq_false_iff, Bool.not_eq_false', Bool.not_eq_false'] at hb
      obtain ⟨hb1, hb2, hb3⟩ := hb
      have h4 : 4 ≤ ws.length := by have := of_decide_eq_false hb1; omega
      have hb3 := of_decide_eq_true hb3
      have hst : stepF ws = match shapeF (ws.getD 2 []) (ws.length - 3) with
        | none => none
        | some ks => if ks.length = ws.length - 3 ∧ (ks.zip (ws.drop 3)).all (fun p => goodF p.1 p.2) = true then some ⟨ws.getD 0 [], ws.getD 2 [], ks.zip (ws.drop 3)⟩ else none := by
        have hno : ¬ (ws.length < 4 ∨ wordP (ws.getD 0 []) = false ∨ ws.getD 1 [] ≠ [61]) := by
          rintro (h | h | h)
          · omega
          · rw [hb2] at h
            exact nomatch h
          · exact h hb3
        rw [stepF, if_neg hno]
        try rfl
      have hS1 := ex_l e1 hS
      refine r_asg (r_call (r_cons (r_var rfl (r_nil ⟨a, ws, rfl, hS1, h4, hn, fun hsh H2 e2 => ?_, fun ks hsh p H2 hp e2 h2 => ?_⟩))))
      · refine q_when (et_or (a := true) (b := false) (et_is (et_isN (ev_v (v := .non) rfl)) (by rfl)) fun z => nomatch z) (fun _ H3 e3 => ?_) fun z => nomatch z
        exact s_ret ev_c fun H4 e4 => q0 (by rw [hst, hsh]) H4 (((e1.trans e2).trans e3).trans e4)
      · rw [hsh] at hst
        have e12 := e1.trans e2
        refine q_when (b := !decide (ks.length = ws.length - 3)) (et_is (et_or (a := false) (et_isN (ev_v (v := .ref p) rfl)) fun _ => et_test (ev_op (ev_is (ev_len (ev_v rfl) (sq_of h2)) (by rw [txs_len, List.length_map])) (ev_op (lenV e12 rfl) (ev_cn 3) rv_I0) (rv_ne rfl))) ?_) (fun hc H3 e3 => ?_) fun hc H3 e3 => ?_
        · rw [Bool.false_or]
          congr 1
          refine decide_eq_decide.mpr ⟨fun h => ?_, fun h => ?_⟩
          · have := V.int.inj h
            omega
          · rw [h]
            congr 1
            omega
        · refine s_ret ev_c fun H4 e4 => q0 ?_ H4 ((e12.trans e3).trans e4)
          show stepF ws = none
          rw [hst]
          refine if_neg fun h => ?_
          rw [Bool.not_eq_true'] at hc
          exact of_decide_eq_false hc h.1
        · rw [Bool.not_eq_false'] at hc
          have hkl := of_decide_eq_true hc
          have hk6 := shape_len hsh
          have hdl : (ws.drop 3).length = ws.length - 3 := List.length_drop
          have hzl : (txs (ks.map kdT)).length = (txs (ws.drop 3)).length := by rw [txs_len, txs_len, List.length_map, hdl, hkl]
          have hzz : (txs (ks.map kdT)).length = ks.length := by rw [txs_len, List.length_map]
          have hS3 := ex_l (e12.trans e3) hS
          have hp3 := e3 _ _ h2
          have hrest : ∀ i, (ws.drop 3).getD i [] ∈ (ws.drop 3) ∨ (ws.drop 3).getD i [] = [] := fun i => by
            by_cases hi : i < (ws.drop 3).length
            · exact .inl (getD_mem hi)
            · exact .inr (by rw [List.getD_eq_getElem?_getD, List.getElem?_eq_none (by omega)]; rfl)
          have hrl : ∀ i, ((ws.drop 3).getD i []).length ≤ 1000 := fun i => by
            rcases hrest i with h | h
            · exact hl _ (List.mem_of_mem_drop h)
            · rw [h]
              exact Nat.zero_le _
          refine q_when (b := !((ks.zip (ws.drop 3)).all fun p => goodF p.1 p.2)) (et_not (et_B (ev_is (ev_all (bs := (List.range ks.length).map fun i => goodF (ks.getD i .s) ((ws.drop 3).getD i [])) ?_) ?_))) (fun hg H4 e4 => ?_) fun hg H4 e4 => ?_
          · rw [List.map_map]
            refine el_is (el_lcZ (fun i => .bl (goodF (ks.getD i .s) ((ws.drop 3).getD i []))) (ez_vn (ev_v rfl) (sq_of hp3) (el_drop (i := 3) (ev_v rfl) (ev_cn 3) hS3)) hzl (by omega) (fun _ _ => rfl) fun i x y H4 e4 hx hy => ?_) (by rw [hzz]; rfl)
            obtain ⟨rfl, hi⟩ := kdt_get hx
            have := txs_getD hy
            subst this
            exact ev_cal (ea_cons (ev_v rfl) (ea_cons (ev_v rfl) ea_nil)) fun H5 e5 => ⟨_, _, rfl, hrl i, rfl⟩
          · rw [range_zip goodF .s [] ks (ws.drop 3) (by omega), List.all_map]
            rfl
          · refine s_ret ev_c fun H5 e5 => q0 ?_ H5 (((e12.trans e3).trans e4).trans e5)
            show stepF ws = none
            rw [hst]
            refine if_neg fun h => ?_
            rw [h.2] at hg
            exact nomatch hg
          · rw [Bool.not_eq_false'] at hg
            have hst2 : stepF ws = some ⟨ws.getD 0 [], ws.getD 2 [], ks.zip (ws.drop 3)⟩ := hst.trans (if_pos ⟨hkl, hg⟩)
            have hgood : ∀ i, i < ks.length → goodF (ks.getD i .s) ((ws.drop 3).getD i []) = true := fun i hi => by
              have : (ks.getD i .s, (ws.drop 3).getD i []) ∈ ks.zip (ws.drop 3) := by
                refine List.mem_of_getElem? (i := i) ?_
                rw [List.getElem?_zip_eq_some]
                exact ⟨getD_some hi, getD_some (by omega)⟩
              exact List.all_eq_true.mp hg _ this
            have hS4 := ex_l (e12.trans (e3.trans e4)) hS
            refine q_asgL (xs := (ks.zip (ws.drop 3)).map argV) (el_is (el_lcZ (fun i => argV (ks.getD i .s, (ws.drop 3).getD i [])) (ez_vn (ev_v rfl) (sq_of (e4 _ _ hp3)) (el_drop (i := 3) (ev_v rfl) (ev_cn 3) hS4)) hzl (by omega) (fun _ _ => rfl) fun i x y H5 e5 hx hy => ?_) ?_) fun r H5 hr5 e5 h5 => ?_
            · obtain ⟨rfl, hi⟩ := kdt_get hx
              have := txs_getD hy
              subst this
              refine ev_if (b := decide (ks.getD i .s = .n)) (et_is (et_test (ev_eqS (ev_v rfl) (ev_cs (kdT .n) (by decide +kernel)))) (decide_eq_decide.mpr kdT_inj)) (fun hb => ?_) fun hb => ?_
              · have hkn := of_decide_eq_true hb
                have hgi := hgood i hi
                rw [hkn] at hgi
                unfold argV
                rw [if_pos hkn]
                exact fun H6 e6 Q' q' => ev_v (v := .str (tx ((ws.drop 3).getD i []))) rfl H6 e6 _ fun H7 e7 => ⟨tx ((ws.drop 3).getD i []), _, rfl, num_text _ hgi, by rw [tx_len]; have := count_len hgi; omega, q' H7 e7⟩
              · unfold argV
                rw [if_neg (of_decide_eq_false hb)]
                exact ev_v rfl
            · rw [hzz]
              exact range_zip (fun a b => argV (a, b)) .s [] ks (ws.drop 3) (by omega)
            · have E5 := e12.trans (e3.trans (e4.trans e5))
              have hS5 := ex_l E5 hS
              refine r_ret (r_tup (r_cons (r_ev (ev_word (i := 0) (ev_v rfl) (ev_cn 0) hS5 (by omega)) (Ex.refl _) fun H6 e6 => r_cons (r_ev (ev_word (i := 2) (ev_v rfl) (ev_cn 2) (ex_l e6 hS5) (by omega)) (Ex.refl _) fun H7 e7 => r_cons (eu_tupV (ev_v rfl) (sq_of ((e6.trans e7) _ _ h5)) H7 (Ex.refl _) _ fun b H8 hb8 e8 h8 => r_nil ⟨sz_of (by show 3 ≤ 100000; decide), fun p2 hp2 => q1 _ hst2 p2 b _ (fresh_back (((E5.trans e6).trans e7).trans e8) hp2) ((((E5.trans e6).trans e7).trans e8).trans (Ex.new hp2)) upd_same ?_⟩)))))
              exact (Ex.new hp2) b _ h8
abbrev s_inputs_of : Stmt := topS 16
theorem sc_inputs_of : FnScope ["step", "op", "args", "kinds", "kind", "arg"] ["step"] (defScope s_inputs_of) := ⟨rfl, rfl, rfl, by decide +kernel, rfl, by decide +kernel, by decide +kernel⟩
/- 0 step, 1 op, 2 args, 3 kinds, 4 kind, 5 arg -/
theorem argV_s {p : Ar} (h : p.1 = .s) : argV p = .str (tx p.2) := by
  unfold argV
  rw [h, if_neg (by decide)]
def sp_inputs : Sp := fun vs H Q _ => ∃ (a b : Addr) (st : Stp) (rest : List V), vs = [.ref a] ∧ H a = some (.tup (.str (tx st.nm) :: .str (tx st.op) :: .ref b :: rest)) ∧ H b = some (.tup (st.args.map argV)) ∧ Wf st ∧ ∀ p H', Ex H H' → H' p = some (.tup (txs (insF st))) → Q (.ref p) H'
theorem fn_inputs_of {f : Addr} {fd : FuncData} {k : Nat} (F : Fun K "inputs_of" "inputs_of" s_inputs_of f fd) (N : Nb mg) (g_SHAPES : GD K w mg "SHAPES" shapT) : FnOk P w K mg base CX0 (k + 1) f fd ["step"] sp_inputs := by
  refine F.ok sc_inputs_of (fun vs H Q E h => ?_) (fun cdv A outer s H vs Q E hr h => ?_)
  · obtain ⟨_, _, _, _, rfl, _⟩ := h
    rfl
  · obtain ⟨a, b, st, rest, rfl, ha, hb, hw, q⟩ := h
    obtain ⟨dS, es, nS, m_SHAPES, D_SHAPES, hT⟩ := g_SHAPES
    refine ⟨_, (pss_cons (ps_par (i := 1) (j := 2) (by rfl) sc_inputs_of.nd rfl rfl (by decide) rfl rfl (pa_cons (pe_ix ix_tup (pv 0) pe_int (fun _ _ => rfl)) (pa_cons (pe_ix ix_tup (pv 0) pe_int (fun _ _ => rfl)) pa_nil)) (by rfl))
      (pss_cons (ps_if (pt_cmpR op_eq (pv 1) pe_str (nomark _)) (pss_one (ps_ret (pv 2))) pss_nil)
      (pss_cons (ps_set (i := 3) sc_inputs_of.nd rfl (Or.inl rfl) (pe_split (pe_ix ix_kdict (pe_gr m_SHAPES) (pv 1) (fun _ _ => rfl)) pe_str))
      (pss_one (ps_ret (pe_callTy call_tuple_of (by rfl) N.tuple PyProof.Rows.boot_tuple (pa_cons (pe_lc (own := [("kind", 4), ("arg", 5)]) (by rfl) sc_inputs_of.nd (pi_zs false true rfl N.zip (pa_cons (pv 3) (pa_cons (pv 2) pa_nil)) (pk_cons pe_bl pk_nil)) (blkOk_by (own := [("kind", 4), ("arg", 5)]) (N := ["step", "op", "args", "kinds", "kind", "arg"]) (sc := defScope s_inputs_of) (by decide +kernel)) (fun _ _ _ _ _ => (show PG _ _ (gTup K 2 _) from pg_tup rfl (pgs_cons (pg_name (i := 4) sc_inputs_of.nd rfl (Or.inl rfl)) (pgs_cons (pg_name (i := 5) sc_inputs_of.nd rfl (Or.inl rfl)) pgs_nil)))) (fun _ _ _ _ _ => (pts_one (pt_cmpR op_eq (pv 4) pe_str (nomark _)))) (fun _ _ _ _ _ => (pv 5))) pa_nil))))))), ?_⟩
    have hshp := hw.shp
    refine q_par (ea_cons (ev_ixT (j := 1) (ev_v rfl) (ev_cn 1) (st_of ha) rfl) (ea_cons (ev_ixT (j := 2) (ev_v rfl) (ev_cn 2) (st_of ha) rfl) ea_nil)) fun H1 e1 => ?_
    refine q_when (et_test (ev_eqS (ev_v rfl) (ev_cs oJ (by decide +kernel)))) (fun hj H2 e2 => ?_) fun hj H2 e2 => ?_
    · have hj := of_decide_eq_true hj
      unfold shapeF at hshp
      rw [if_pos hj] at hshp
      split at hshp
      · have he : st.args.map (·.1) = List.replicate st.args.length Kd.s := (Option.some.inj hshp).symm
        have hall : ∀ p ∈ st.args, p.1 = Kd.s := fun p hp => by
          have : p.1 ∈ List.replicate st.args.length Kd.s := by
            rw [← he]
            exact List.mem_map_of_mem hp
          exact List.eq_of_mem_replicate this
        have hin : st.args.map argV = txs (insF st) := by
          unfold insF txs
          rw [List.filter_eq_self.mpr fun p hp => decide_eq_true (hall p hp), List.map_map]
          exact List.map_congr_left fun p hp => argV_s (hall p hp)
        refine r_ret (r_var rfl (q b H2 (e1.trans e2) ?_))
        rw [← hin]
        exact (e1.trans e2) _ _ hb
      · cases hshp
    · have hj := of_decide_eq_false hj
      unfold shapeF at hshp
      rw [if_neg hj] at hshp
      have htab : tabF shapT st.op = some (joinK (st.args.map (·.1))) := (tab_map joinK _ opTab).trans (congrArg (Option.map joinK) hshp)
      have hkl := kds_len hshp
      refine q_asgL (xs := txs ((st.args.map (·.1)).map kdT)) (el_is (el_splitT (l := joinK (st.args.map (·.1))) (by decide) (ev_ixKd (ev_v rfl) D_SHAPES hT htab) (ev_cs [32] (by decide +kernel)) (by have := hkl.1; omega)) (by rw [kds_split hshp])) fun p H3 hp e3 h3 => ?_
      have E3 := (e1.trans e2).trans e3
      have hxl : (txs ((st.args.map (·.1)).map kdT)).length = (st.args.map argV).length := by rw [txs_len, List.length_map, List.length_map, List.length_map]
      refine s_retU (xs := txs (insF st)) (eu_tupL (el_is (el_lcZF (fun i => decide ((st.args.map (·.1)).getD i .s = .s)) (fun i => (st.args.map argV).getD i .non) (ez_vt (ev_v rfl) (sq_of h3) (ev_v rfl) (st_of (E3 _ _ hb))) hxl (by rw [hxl, List.length_map]; have := hw.few; omega) (fun _ _ => rfl) (fun i x y H4 e4 hx hy => ?_) fun i x y H4 e4 hx hy hf => ?_) ?_)) fun p4 H4 hp4 e4 h4 => q p4 H4 (E3.trans e4) h4
      · obtain ⟨rfl, hi⟩ := kdt_get hx
        exact et_is (et_test (ev_eqS (ev_v rfl) (ev_cs (kdT .s) (by decide +kernel)))) (decide_eq_decide.mpr kdT_inj)
      · refine ev_is (ev_v (v := y) rfl) ?_
        rw [List.getD_eq_getElem?_getD, hy]
        rfl
      · rw [txs_len, List.length_map, zip_filter (fun k => decide (k = Kd.s)) (fun v => v) .s .non _ _ (by rw [List.length_map, List.length_map]), List.zip_map', List.filter_map, List.map_map]
        unfold insF txs
        rw [List.map_map]
        refine List.map_congr_left fun p hp => ?_
        have := of_decide_eq_true (List.mem_filter.mp hp).2
        exact argV_s this
end
end K50

set_option Elab.async false
set_option linter.all false
set_option maxRecDepth 100000
set_option maxHeartbeats 4000000
namespace K50
open PySem PySem.Spec PyProof.Rows L2 Evl My
/-- the words of a line -/
def wordsF (l : L) : List L := (splitT 32 l).filter fun p => decide (p ≠ [])
def saysF (l : L) : Bool := decide (wordsF l ≠ []) && !decide (((wordsF l).headD []).headD 0 = 35)
theorem split_cons_ne {c x : Nat} {r : L} (h : ¬ x = c) : ∃ p q, splitT c r = p :: q ∧ splitT c (x :: r) = (x :: p) :: q := by
  cases e : splitT c r with
  | nil => exact absurd e (split_ne c r)
  | cons p q => exact ⟨p, q, rfl, by rw [splitT, if_neg h, e]⟩
theorem words_sp (r : L) : wordsF (32 :: r) = wordsF r := by
  unfold wordsF
  rw [splitT, if_pos rfl, List.filter_cons, if_neg (by decide)]
theorem words_ne {x : Nat} {r : L} (h : ¬ x = 32) : ∃ p ws, wordsF (x :: r) = (x :: p) :: ws := by
  obtain ⟨p, q, h1, h2⟩ := split_cons_ne (r := r) h
  refine ⟨p, q.filter fun p => decide (p ≠ []), ?_⟩
  unfold wordsF
  rw [h2, List.filter_cons, if_pos (by simp)]
def isSp (c : Nat) : Bool := decide (c = 32)
theorem words_drop : ∀ l : L, (l.dropWhile isSp = [] ∧ wordsF l = []) ∨ ∃ c r p ws, l.dropWhile isSp = c :: r ∧ isSp c = false ∧ wordsF l = (c :: p) :: ws
  | [] => .inl ⟨rfl, by unfold wordsF; rw [splitT]; rfl⟩
  | x :: r => by
    by_cases h : x = 32
    · subst h
      rw [words_sp, List.dropWhile_cons, if_pos (by rfl)]
      exact words_drop r
    · obtain ⟨p, ws, hw⟩ := words_ne (r := r) h
      refine .inr ⟨x, r, p, ws, ?_, decide_eq_false h, hw⟩
      rw [List.dropWhile_cons, if_neg (by rw [show isSp x = false from decide_eq_false h]; exact Bool.false_ne_true)]
theorem drop_len (p : Nat → Bool) : ∀ l : L, l.drop (l.takeWhile p).length = l.dropWhile p
  | [] => rfl
  | x :: r => by
    rw [List.takeWhile_cons, List.dropWhile_cons]
    by_cases h : p x = true
    · rw [if_pos h, if_pos h, List.length_cons, List.drop_succ_cons, drop_len p r]
    · rw [if_neg h, if_neg h]
      rfl
theorem take_le (p : Nat → Bool) : ∀ l : L, (l.takeWhile p).length ≤ l.length
  | [] => Nat.le_refl 0
  | a :: r => by
    have ih := take_le p r
    rw [List.takeWhile_cons]
    split
    · simp only [List.length_cons]; omega
    · simp
theorem take_lt {p : Nat → Bool} : ∀ {l : L} {c : Nat}, c ∈ l → p c = false → (l.takeWhile p).length < l.length
  | [], _, h, _ => by simp at h
  | a :: r, c, h, hp => by
    rw [List.takeWhile_cons]
    by_cases ha : p a = true
    · rw [if_pos ha, List.length_cons, List.length_cons]
      have hc : c ∈ r := by
        rcases List.mem_cons.mp h with rfl | h
        · rw [ha] at hp
          exact nomatch hp
        · exact h
      have := take_lt hc hp
      omega
    · rw [if_neg ha]
      simp
def stripL (l : L) : L := (l.dropWhile isSp).take ((l.dropWhile isSp).length - ((l.dropWhile isSp).reverse.takeWhile isSp).length)
theorem strip_tx (l : L) : Txt.stripChars (tx l) (tx [32]) = tx (stripL l) := by
  have hg : ((tx [32]).cps.contains : Nat → Bool) = isSp := by
    funext c
    show (#[32] : Array Nat).contains c = isSp c
    unfold isSp
    by_cases h : c = 32
    · subst h
      simp
    · rw [decide_eq_false h]
      simp [h]
  unfold Txt.stripChars
  rw [stripBy_eq, hg]
  have h1 : stripLo isSp true (tx l) = (l.takeWhile isSp).length := rfl
  have h2 : ∀ lo, stripHi isSp true (tx l) lo = l.length - ((l.drop lo).reverse.takeWhile isSp).length := fun lo => by
    show (tx l).length - _ = _
    rw [tx_len]
    rfl
  rw [h1, h2, drop_len]
  have h3 := str_sub (l := l) (i := (l.takeWhile isSp).length) (j := l.length - ((l.dropWhile isSp).reverse.takeWhile isSp).length)
  rw [h3, drop_len]
  unfold stripL
  congr 2
  have h4 : (l.dropWhile isSp).length = l.length - (l.takeWhile isSp).length := by rw [← drop_len, List.length_drop]
  rw [h4]
  omega
theorem strip_len (l : L) : (stripL l).length ≤ l.length := by
  unfold stripL
  rw [List.length_take, ← drop_len, List.length_drop]
  omega
theorem says_strip (l : L) : saysF l = (decide (stripL l ≠ []) && !decide ((stripL l).headD 0 = 35)) := by
  unfold saysF
  rcases words_drop l with ⟨h1, h2⟩ | ⟨c, r, p, ws, h1, h2, h3⟩
  · unfold stripL
    rw [h1, h2]
    rfl
  · have hs : stripL l = c :: r.take ((r.length) - ((c :: r).reverse.takeWhile isSp).length) := by
      unfold stripL
      rw [h1]
      have hk := take_lt (p := isSp) (l := (c :: r).reverse) (c := c) (by simp) h2
      rw [List.length_reverse, List.length_cons] at hk
      rw [List.length_cons, show r.length + 1 - ((c :: r).reverse.takeWhile isSp).length = (r.length - ((c :: r).reverse.takeWhile isSp).length) + 1 by omega, List.take_succ_cons]
    rw [h3, hs]
    simp
/-! why a step cannot be told -/
def rForm : L := [102, 111, 114, 109]
def rName : L := [110, 97, 109, 101]
def rUsed : L := [117, 115, 101, 100]
def rSteps : L := [115, 116, 101, 112, 115]
def whyF : Option Stp → List L → L
  | none, _ => rForm
  | some st, ks => if st.nm ∈ ks then rName else if (insF st).all (fun p => decide (p ∈ ks)) = false then rUsed else if ks.length = 40 then rSteps else []
theorem why_some (st : Stp) (ks : List L) : whyF (some st) ks = if st.nm ∈ ks then rName else if (insF st).all (fun p => decide (p ∈ ks)) = false then rUsed else if ks.length = 40 then rSteps else [] := rfl
theorem txs_ne (ps : List L) : ((txs ps).filter fun v => !decide (v = V.str (tx []))).map (fun v => v) = txs (ps.filter fun p => decide (p ≠ [])) := by
  unfold txs
  rw [List.map_id', List.filter_map]
  congr 1
  refine List.filter_congr fun p _ => ?_
  show (!decide (V.str (tx p) = V.str (tx []))) = decide (p ≠ [])
  by_cases h : p = []
  · subst h
    rfl
  · rw [decide_eq_false fun z => h (tx_inj (V.str.inj z)), decide_eq_true h]
    rfl
theorem dk_val (ks : List L) (w : L) : (valV (dkS ks) (.inr (tx w))).isSome = decide (w ∈ ks) := by
  unfold valV
  rw [Option.isSome_map, ← dkS_any, Bool.eq_iff_iff, List.find?_isSome, List.any_eq_true]
def EvW (te : TE) (σ : L2.St) (H : Hp) (xs : List V) : Prop := ∀ H1, Ex H H1 → ∀ Q : VK, (∀ p H2, Ex H1 H2 → H2 p = some (.tup xs) → Q (.ref p) H2) → te σ H1 Q
section
variable {K : PySem.W.Frag} {σ : L2.St} {H : Hp} {te tl : TE} {tt : TT} {xs : List V} {a : Addr}
theorem el_lcW {j : Nat} {vs : List Nat} (f : V → Bool) (g : V → V) (h : EvW tl σ H xs) (hz : xs.length ≤ 40000) (hw : ∀ x, wipe ((wipe σ vs).set j (some x)) vs = wipe σ vs)
    (ht : ∀ x H1, Ex H H1 → x ∈ xs → EvT tt ((wipe σ vs).set j (some x)) H1 (f x)) (he : ∀ x H1, Ex H H1 → x ∈ xs → f x = true → Ev te ((wipe σ vs).set j (some x)) H1 (g x)) : EvL (tLc (iTup K tl) (gName j) tt te vs) σ H ((xs.filter f).map g) := by
  intro H0 e Q q
  refine h H0 e _ fun a H1 e1 h1 => ⟨a, rfl, ⟨xs, st_of h1⟩, fun Dl hD => ?_⟩
  refine ⟨fun i m H' => m = xs.length - i ∧ i ≤ xs.length ∧ Ex H1 H' ∧ H' Dl = some (.lst (((xs.take i).filter f).map g)), ⟨xs.length, rfl, Nat.zero_le _, Ex.new hD, upd_same⟩, ?_⟩
  rintro i m H' ⟨rfl, hi, ex, hl⟩
  by_cases hlt : i < xs.length
  · have gx : xs[i]? = some xs[i] := List.getElem?_eq_getElem hlt
    refine .inr ⟨⟨xs, xs[i], st_of (ex a _ h1), gx⟩, fun H' => Ex H1 H' ∧ H' Dl = some (.lst (((xs.take (i + 1)).filter f).map g)), fun H2 p => ⟨xs.length - (i + 1), by omega, rfl, hlt, p⟩, fun x H2 y => ?_⟩
    obtain ⟨rfl, y⟩ := y
    have ex' : x = xs[i] := Option.some.inj ((y xs (st_of (ex a _ h1))).symm.trans gx)
    subst ex'
    exact ⟨hw _, lcf_turn gx hD ex hl hz (ht _ H1 (e.trans e1) (List.mem_of_getElem? gx)) (he _ H1 (e.trans e1) (List.mem_of_getElem? gx))⟩
  · have e0 : i = xs.length := by omega
    subst e0
    rw [List.take_of_length_le (Nat.le_refl _)] at hl
    exact .inl ⟨⟨xs, st_of (ex a _ h1), Nat.le_refl _⟩, q Dl H' (fresh_back e1 hD) (e1.trans ex) hl⟩
end
section
variable {P : Program} {w : World} {K : PySem.W.Frag} {mg : Str → Option Value} {base : Heap}
abbrev s_says_something : Stmt := topS 17
theorem sc_says_something : FnScope ["line", "bare"] ["line"] (defScope s_says_something) := ⟨rfl, rfl, rfl, by decide +kernel, rfl, by decide +kernel, by decide +kernel⟩
theorem fn_says {f : Addr} {fd : FuncData} {k : Nat} (F : Fun K "says_something" "says_something" s_says_something f fd) (N : Nb mg) : FnOk P w K mg base CX0 (k + 1) f fd ["line"] (spV (ok_test saysF)) := by
  refine F.ok sc_says_something (fun vs H Q E h => ?_) (fun cdv A outer s H vs Q E hr h => ?_)
  · obtain ⟨_, ⟨_, rfl, _⟩, _⟩ := h
    rfl
  · obtain ⟨_, ⟨l, rfl, hl, hz⟩, q⟩ := h
    rw [hz] at q
    refine ⟨_, (pss_cons (ps_set (i := 1) sc_says_something.nd rfl (Or.inl rfl) (pe_bm PySem.F.plainAttrs_str PySem.F.slot_str_strip PySem.F.type_str_strip mt_stripChars (pv 0) (pa_cons pe_str pa_nil)))
      (pss_one (ps_ret (pe_and (pe_cmpR op_ne (pv 1) pe_str (nomark _)) (pe_one (pe_cmpR op_ne (pe_ix ix_str (pv 1) pe_int (fun _ _ => rfl)) pe_str (nomark _))))))), ?_⟩
    have hsl := strip_len l
    refine q_asg (v := .str (tx (stripL l))) (fun H1 e1 Q' q' => ?_) fun H1 e1 => ?_
    · exact ev_v (v := .str (tx l)) rfl H1 e1 _ fun H2 e2 => ⟨rfl, r_cons (r_ev (ev_cs [32] (by decide +kernel)) (Ex.refl _) fun H3 e3 => r_nil ⟨tx l, tx [32], rfl, rfl, by rw [tx_len]; exact sz_of (by omega), by rw [strip_tx]; exact q' H3 (e2.trans e3)⟩)⟩
    · refine s_ret (ev_is (ev_andV (a := decide (stripL l ≠ [])) (b := !decide ((stripL l).headD 0 = 35)) (ev_is (ev_op (ev_v rfl) (ev_cs [] (by decide +kernel)) (rv_ne rfl)) ?_) fun hb => ?_) ?_) fun H2 e2 => q H2 (e1.trans e2)
      · refine congrArg V.bl ?_
        rw [str_dec]
        by_cases h : stripL l = []
        · rw [decide_eq_true h, decide_eq_false (fun z => z h)]
          rfl
        · rw [decide_eq_false h, decide_eq_true h]
          rfl
      · exact ev_is (ev_op (ev_op (ev_v rfl) (ev_cn 0) (rv_ixSn (by omega) (head_get (of_decide_eq_true hb)))) (ev_cs [35] (by decide +kernel)) (rv_ne rfl)) (congrArg (fun b => V.bl (!b)) head_dec)
      · rw [says_strip]
abbrev s_why_wrong : Stmt := topS 18
theorem sc_why_wrong : FnScope ["step", "names", "name"] ["step", "names"] (defScope s_why_wrong) := ⟨rfl, rfl, rfl, by decide +kernel, rfl, by decide +kernel, by decide +kernel⟩
def StAt (H : Hp) (v : V) (o : Option Stp) : Prop := match o with
  | none => v = .non
  | some st => ∃ a b rest, v = .ref a ∧ H a = some (.tup (.str (tx st.nm) :: .str (tx st.op) :: .ref b :: rest)) ∧ H b = some (.tup (st.args.map argV)) ∧ Wf st
def ok_why (vs : List V) (H : Hp) (z : V) : Prop := ∃ (v : V) (o : Option Stp) (dn : Addr) (ks : List L), vs = [v, .ref dn] ∧ H dn = some (.dK (dkS ks)) ∧ ks.length ≤ 1000 ∧ StAt H v o ∧ z = .str (tx (whyF o ks))
theorem fn_why {f : Addr} {fd : FuncData} {k : Nat} (F : Fun K "why_wrong" "why_wrong" s_why_wrong f fd) (N : Nb mg) (g_MOST_STEPS : GI mg "MOST_STEPS" 40) (C_inputs_of : Cal P w K mg base k "inputs_of" ["step"] sp_inputs) : FnOk P w K mg base CX0 (k + 1) f fd ["step", "names"] (spV ok_why) := by
  refine F.ok sc_why_wrong (fun vs H Q E h => ?_) (fun cdv A outer s H vs Q E hr h => ?_)
  · obtain ⟨_, ⟨_, _, _, _, rfl, _⟩, _⟩ := h
    rfl
  · obtain ⟨_, ⟨v, o, dn, ks, rfl, hd, hk, hv, hz⟩, q⟩ := h
    rw [hz] at q
    refine ⟨_, (pss_cons (ps_if (pt_cmpR op_isN (pv 0) pe_non (nomark _)) (pss_one (ps_ret pe_str)) pss_nil)
      (pss_cons (ps_if (pt_cmp (pc_din (hu_of hr) (pe_ix ix_tup (pv 0) pe_int (fun _ _ => rfl)) (pv 1))) (pss_one (ps_ret pe_str)) pss_nil)
      (pss_cons (ps_if (pt_not (pt_val (pe_callB (cr_all rfl) (by rfl) N.all PyProof.Rows.boot_all (pa_cons (pe_lc (own := [("name", 2)]) (by rfl) sc_why_wrong.nd (pi_tup (pe_cal C_inputs_of hr (pa_cons (pv 0) pa_nil))) (blkOk_by (own := [("name", 2)]) (N := ["step", "names", "name"]) (sc := defScope s_why_wrong) (by decide +kernel)) (fun _ _ _ _ _ => (pg_name (i := 2) sc_why_wrong.nd rfl (Or.inl rfl))) (fun _ _ _ _ _ => pts_nil) (fun _ _ _ _ _ => (pe_cmp (pc_din (hu_of hr) (pv 2) (pv 1))))) pa_nil)))) (pss_one (ps_ret pe_str)) pss_nil)
      (pss_one (ps_ret (pe_ifExp (pt_cmpR op_eq (pe_callB call_lenD (by rfl) N.len PySem.boot_len (pa_cons (pv 1) pa_nil)) (pe_gi g_MOST_STEPS) (nomark _)) pe_str pe_str)))))), ?_⟩
    cases o with
    | none =>
      have hv : v = .non := hv
      subst hv
      exact q_when (b := true) (et_is (et_isN (ev_v (v := .non) rfl)) (by rfl)) (fun _ H1 e1 => s_ret (ev_cs rForm (by decide +kernel)) fun H2 e2 => q H2 (e1.trans e2)) fun z => nomatch z
    | some st =>
      obtain ⟨a, b, rest, rfl, ha, hb, hw⟩ := hv
      refine q_when (b := false) (et_is (et_isN (ev_v (v := .ref a) rfl)) (by rfl)) (fun z => nomatch z) fun _ H1 e1 => ?_
      refine q_when (b := decide (st.nm ∈ ks)) (et_B (ev_is (ev_din (ev_v rfl) (e1 _ _ hd) (ev_ixT (j := 0) (ev_v rfl) (ev_cn 0) (st_of (e1 _ _ ha)) rfl)) (by rw [dk_val]))) (fun hb1 H2 e2 => ?_) fun hb1 H2 e2 => ?_
      · refine s_ret (ev_cs rName (by decide +kernel)) fun H3 e3 => ?_
        rw [why_some, if_pos (of_decide_eq_true hb1)] at q
        exact q H3 ((e1.trans e2).trans e3)
      have hb1 := of_decide_eq_false hb1
      have E2 := e1.trans e2
      refine q_when (b := !((insF st).all fun p => decide (p ∈ ks))) (et_not (et_B (ev_is (ev_all (bs := (insF st).map fun p => decide (p ∈ ks)) ?_) (by rw [List.all_map]; rfl)))) (fun hb2 H3 e3 => ?_) fun hb2 H3 e3 => ?_
      · rw [← bls_txs (fun p => .bl (decide (p ∈ ks))) (fun p => decide (p ∈ ks)) V.bl _ fun _ => rfl, ← show (txs (insF st)).filter (fun _ => true) = txs (insF st) from List.filter_eq_self.mpr fun _ _ => rfl]
        refine el_lcW (fun _ => true) _ (fun H3 e3 Q' q' => r_call (r_cons (r_var rfl (r_nil ⟨a, b, st, rest, rfl, (E2.trans e3) _ _ ha, (E2.trans e3) _ _ hb, hw, fun p H4 e4 h4 => q' p H4 e4 h4⟩)))) ?_ (fun _ => rfl) (fun x H3 e3 hx => et_yes) (fun x H3 e3 hx _ => ?_)
        · rw [txs_len]
          unfold insF
          rw [List.length_map]
          have := List.length_filter_le (fun p : Ar => decide (p.1 = Kd.s)) st.args
          have := hw.few
          omega
        · obtain ⟨p, hp, rfl⟩ := List.mem_map.mp hx
          exact ev_is (ev_din (ev_v rfl) ((E2.trans e3) _ _ hd) (ev_v rfl)) (by rw [dk_val]; rfl)
      · refine s_ret (ev_cs rUsed (by decide +kernel)) fun H4 e4 => ?_
        rw [why_some, if_neg hb1, if_pos (by rwa [Bool.not_eq_true'] at hb2)] at q
        exact q H4 ((E2.trans e3).trans e4)
      have E3 := E2.trans e3
      rw [Bool.not_eq_false'] at hb2
      rw [why_some, if_neg hb1, if_neg (by rw [hb2]; exact fun z => nomatch z)] at q
      refine s_ret (ev_if (b := decide (ks.length = 40)) (et_is (et_test (ev_op (fun H4 e4 Q' q' => r_cb (r_cons (r_var rfl (r_nil ⟨dn, _, rfl, (E3.trans e4) _ _ hd, q' H4 (Ex.refl _)⟩)))) ev_c (rv_eq rfl))) ?_) (fun hb3 => ?_) fun hb3 => ?_) fun H4 e4 => q H4 (E3.trans e4)
      · refine decide_eq_decide.mpr ?_
        unfold dkS
        rw [List.length_map]
        exact ⟨fun h => by have := V.int.inj h; omega, fun h => by rw [h]; rfl⟩
      · rw [if_pos (of_decide_eq_true hb3)]
        exact ev_cs rSteps (by decide +kernel)
      · rw [if_neg (of_decide_eq_false hb3)]
        exact ev_cs [] (by decide +kernel)
end
end K50

set_option Elab.async false
set_option linter.all false
set_option maxRecDepth 100000
set_option maxHeartbeats 4000000
namespace K50
open PySem PySem.Spec PyProof.Rows L2 Evl My
abbrev On := L × Nat
abbrev Ln := On × L
abbrev Row := Stp × On
def oneD (o : On) : D := .tup [.str o.1, .int (o.2 : Nat)]
def lnD (r : Ln) : D := .tup [oneD r.1, .str r.2]
def stD (r : Row) : D := .tup [.str r.1.nm, .str r.1.op, .tup (r.1.args.map argD), oneD r.2]
def nmsF (f : List Row) : List L := f.map fun r => r.1.nm
def goF (fnd : List Row) (at_ : Nat) : List Ln → (Nat × L) ⊕ List Row
  | [] => .inr fnd
  | r :: rs => if saysF r.2 = true then
      (match stepF (wordsF r.2) with
      | none => .inl (at_, rForm)
      | some st => if whyF (some st) (nmsF fnd) = [] then goF (fnd ++ [(st, r.1)]) (at_ + 1) rs else .inl (at_, whyF (some st) (nmsF fnd)))
    else goF fnd (at_ + 1) rs
def planF (lns : List Ln) : (Nat × L) ⊕ List Row := goF [] 0 lns
def planD : (Nat × L) ⊕ List Row → D
  | .inl z => .tup [.str [119, 114, 111, 110, 103], .int (z.1 : Nat), .str z.2]
  | .inr f => .tup [.str [112, 108, 97, 110], .tup (f.map stD)]
theorem go_skip {fnd : List Row} {i : Nat} {r : Ln} {rs : List Ln} (h : saysF r.2 = false) : goF fnd i (r :: rs) = goF fnd (i + 1) rs := by
  rw [goF, if_neg (by rw [h]; exact Bool.false_ne_true)]
theorem go_step {fnd : List Row} {i : Nat} {r : Ln} {rs : List Ln} {st : Stp} (h : saysF r.2 = true) (h1 : stepF (wordsF r.2) = some st) (h2 : whyF (some st) (nmsF fnd) = []) : goF fnd i (r :: rs) = goF (fnd ++ [(st, r.1)]) (i + 1) rs := by
  rw [goF, if_pos h, h1]
  exact if_pos h2
theorem go_wrong {fnd : List Row} {i : Nat} {r : Ln} {rs : List Ln} {o : Option Stp} (h : saysF r.2 = true) (h1 : stepF (wordsF r.2) = o) (h2 : whyF o (nmsF fnd) ≠ []) : goF fnd i (r :: rs) = .inl (i, whyF o (nmsF fnd)) := by
  rw [goF, if_pos h, h1]
  cases o with
  | none => rfl
  | some st => exact if_neg h2
theorem why_new {st : Stp} {ks : List L} (h : whyF (some st) ks = []) : st.nm ∉ ks ∧ (∀ p ∈ insF st, p ∈ ks) ∧ ks.length ≠ 40 := by
  rw [why_some] at h
  split at h
  · cases h
  · rename_i h1
    split at h
    · cases h
    · rename_i h2
      split at h
      · cases h
      · rename_i h3
        refine ⟨h1, fun p hp => ?_, h3⟩
        rw [Bool.not_eq_false, List.all_eq_true] at h2
        exact of_decide_eq_true (h2 p hp)
theorem ne_kind {H : Hp} {a b : Addr} {o1 o2 : HO} (ha : H a = some o1) (hb : H b = some o2) (h : o1 ≠ o2) : a ≠ b := fun e => by
  rw [e, hb] at ha
  exact h (Option.some.inj ha).symm
theorem nol_arg (p : Ar) : NoL (argD p) := by
  unfold argD
  split <;> (rw [NoL]; trivial)
theorem nol_one (o : On) : NoL (oneD o) := by
  unfold oneD
  rw [NoL, NoLL, NoLL, NoLL, NoL, NoL]
  exact ⟨trivial, trivial, trivial⟩
theorem nol_st (r : Row) : NoL (stD r) := by
  unfold stD
  rw [NoL, NoLL, NoLL, NoLL, NoLL, NoLL, NoL, NoL, NoL]
  exact ⟨trivial, trivial, nol_all fun p _ => nol_arg p, nol_one _, trivial⟩
theorem nol_ln (r : Ln) : NoL (lnD r) := by
  unfold lnD
  rw [NoL, NoLL, NoLL, NoLL, NoL]
  exact ⟨nol_one _, trivial, trivial⟩
theorem reps_args (H : Hp) : ∀ as : List Ar, Reps H (as.map argV) (as.map argD)
  | [] => .nil
  | p :: as => by
    refine .cons ?_ (reps_args H as)
    unfold argV argD
    split
    · exact .int _
    · exact .str _
theorem nms_app (f : List Row) (r : Row) : nmsF (f ++ [r]) = nmsF f ++ [r.1.nm] := by unfold nmsF; rw [List.map_append]; rfl
/-- a line in the heap -/
theorem ln_at {H : Hp} {v : V} {r : Ln} (h : Rep H v (lnD r)) : ∃ b vo, v = .ref b ∧ H b = some (.tup [vo, .str (tx r.2)]) ∧ Rep H vo (oneD r.1) := by
  unfold lnD at h
  cases h with
  | @tup b us _ e1 rs =>
    cases rs with
    | @cons v1 _ vs1 _ h1 r1 =>
      cases r1 with
      | @cons v2 _ vs2 _ h2 r2 =>
        cases r2
        cases h2
        exact ⟨b, v1, rfl, e1, h1⟩
section
variable {K : PySem.W.Frag} {σ : L2.St} {H : Hp} {ta tb te : TE} {xs ys : List V} {a p : Addr} {D : Ends} {tu tz : TS}
theorem eu_catA (ha : Ev ta σ H (.ref p)) (hS : SqT K H p xs) (hb : EvU tb σ H ys) (hx : xs ≠ []) (hy : ys ≠ []) (hz : xs.length + ys.length ≤ 100000) : EvU (tOp (rCatA K) ta tb) σ H (xs ++ ys) := fun H1 e Q q =>
  ha H1 e _ fun H2 e2 => hb H2 (e.trans e2) _ fun b H3 _ e3 hb3 => ⟨p, b, xs, ys, rfl, rfl, ex_t ((e.trans e2).trans e3) hS, st_of hb3, sz_of hz, fun z => absurd z hx, fun _ z => absurd z hy, fun _ _ l hl => q l _ (fresh_back (e2.trans e3) hl) ((e2.trans e3).trans (Ex.new hl)) upd_same⟩
theorem s_forEN {j1 j2 j3 : Nat} (h : Ev te σ H (.ref a)) (hS : SqT K H a xs) (Pv : Nat → L2.St → Hp → Prop) (h0 : ∀ H1, Ex H H1 → Pv 0 σ H1) (hk : ∀ i σ' H', i ≤ xs.length → Pv i σ' H' → SqT K H' a xs)
    (hx : ∀ i x σ' H', xs[i]? = some x → Pv i σ' H' → ∃ b y z, x = .ref b ∧ H' b = some (.tup [y, z]))
    (hs : ∀ i b y z σ' H' H2, xs[i]? = some (.ref b) → H' b = some (.tup [y, z]) → Pv i σ' H' → Ex H' H2 → tu { D with nx := Pv (i + 1), ct := Pv (i + 1), bk := D.nx } (((σ'.set j1 (some (.int (i : Int)))).set j2 (some y)).set j3 (some z)) H2)
    (hd : ∀ σ' H', Pv xs.length σ' H' → D.nx σ' H') : tFor (iEnumT K (tCons te tNil)) (gTup K 2 (gCons (gName j1) (gCons (gTup K 2 (gCons (gName j2) (gCons (gName j3) gNil))) gNil))) tu D σ H := by
  refine h H (Ex.refl H) _ fun H1 e1 => ⟨a, xs, rfl, ex_t e1 hS, ?_⟩
  refine ⟨fun i m σ' H' => m = xs.length - i ∧ i ≤ xs.length ∧ Pv i σ' H', ⟨xs.length, rfl, Nat.zero_le _, h0 H1 e1⟩, ?_⟩
  rintro i m σ' H' ⟨rfl, hi, p⟩
  have S := hk i σ' H' hi p
  by_cases hlt : i < xs.length
  · have gx : xs[i]? = some xs[i] := List.getElem?_eq_getElem hlt
    refine .inr ⟨⟨xs, _, S, gx⟩, Pv (i + 1), fun σ2 H2 p2 => ⟨xs.length - (i + 1), by omega, rfl, hlt, p2⟩, fun v H2 y => ?_⟩
    obtain ⟨T, x', rfl, hT, rfl, f1⟩ := y
    have fx := f1 xs S
    obtain ⟨b, y, z, rfl, hb⟩ := hx i x' σ' H' fx p
    exact ⟨T, [.int (i : Nat), .ref b], rfl, st_of upd_same, rfl, _, _, rfl, _, _, rfl, ⟨b, [y, z], rfl, st_of ((Ex.new hT) _ _ hb), rfl, _, _, rfl, _, _, rfl, rfl, rfl, hs i b y z σ' H' _ fx hb p (Ex.new hT)⟩⟩
  · have e0 : i = xs.length := by omega
    subst e0
    exact .inl ⟨⟨xs, S, Nat.le_refl _⟩, hd σ' H' p⟩
theorem q_forEN {j1 j2 j3 : Nat} (h : Ev te σ H (.ref a)) (hS : SqT K H a xs) (Pv : Nat → L2.St → Hp → Prop) (h0 : ∀ H1, Ex H H1 → Pv 0 σ H1) (hk : ∀ i σ' H', i ≤ xs.length → Pv i σ' H' → SqT K H' a xs)
    (hx : ∀ i x σ' H', xs[i]? = some x → Pv i σ' H' → ∃ b y z, x = .ref b ∧ H' b = some (.tup [y, z]))
    (hs : ∀ i b y z σ' H' H2, xs[i]? = some (.ref b) → H' b = some (.tup [y, z]) → Pv i σ' H' → Ex H' H2 → tu { D with nx := Pv (i + 1), ct := Pv (i + 1), bk := tz D } (((σ'.set j1 (some (.int (i : Int)))).set j2 (some y)).set j3 (some z)) H2)
    (hd : ∀ σ' H', Pv xs.length σ' H' → tz D σ' H') : tSeq (tFor (iEnumT K (tCons te tNil)) (gTup K 2 (gCons (gName j1) (gCons (gTup K 2 (gCons (gName j2) (gCons (gName j3) gNil))) gNil))) tu) tz D σ H :=
  s_forEN (D := { D with nx := tz D }) h hS Pv h0 hk hx hs hd
end
section
variable {P : Program} {w : World} {K : PySem.W.Frag} {mg : Str → Option Value} {base : Heap}
theorem el_words {σ : L2.St} {H : Hp} {j : Nat} {vs : List Nat} {l : L} {tl : TE} (hv : Ev tl σ H (.str (tx l))) (hl : l.length ≤ 1000) (hw : ∀ x, wipe ((wipe σ vs).set j (some x)) vs = wipe σ vs) (hj : ∀ x, ((wipe σ vs).set j (some x))[j]? = some (some x)) :
    EvL (tLc (iList K (tM1 (fun x xs H Q => ∃ a b, x = .str a ∧ xs = [.str b] ∧ (b.length == 0) = false ∧ a.length + 2 ≤ sizeLine ∧ rNewStrs (Txt.split a b) H Q) tl (tC (.str " ")))) (gName j) (tTest (tOp rNe (tVar j) (tC (.str "")))) (tVar j) vs) σ H (txs (wordsF l)) := by
  have hsl := splitT_len 32 l
  unfold wordsF
  rw [← txs_ne]
  exact el_lcF _ _ (el_splitT (by decide) hv (ev_cs [32] (by decide +kernel)) (by omega)) (by rw [txs_len]; omega) hw (fun x H1 e1 hx => et_test (ev_op (ev_v (hj x)) (ev_cs [] (by decide +kernel)) (rv_ne (by
    obtain ⟨p, _, rfl⟩ := List.mem_map.mp hx
    rfl)))) (fun x H1 e1 hx _ => ev_v (hj x))
theorem words_len (l : L) : (wordsF l).length ≤ l.length + 1 ∧ ∀ p ∈ wordsF l, p.length ≤ l.length :=
  ⟨Nat.le_trans (List.length_filter_le _ _) (splitT_len 32 l), fun p hp => splitT_part 32 l p (List.mem_filter.mp hp).1⟩
theorem StAt.mono {H H' : Hp} {v : V} {o : Option Stp} (e : Ex H H') (h : StAt H v o) : StAt H' v o := by
  cases o with
  | none => exact h
  | some st =>
    obtain ⟨a, b, rest, h1, h2, h3, h4⟩ := h
    exact ⟨a, b, rest, h1, e _ _ h2, e _ _ h3, h4⟩
def St3 (H : Hp) (v : V) (o : Option Stp) : Prop := match o with
  | none => v = .non
  | some st => ∃ a b, v = .ref a ∧ H a = some (.tup [.str (tx st.nm), .str (tx st.op), .ref b]) ∧ H b = some (.tup (st.args.map argV)) ∧ Wf st
theorem St3.st {H : Hp} {v : V} {o : Option Stp} (h : St3 H v o) : StAt H v o := by
  cases o with
  | none => exact h
  | some st =>
    obtain ⟨a, b, h1, h2, h3, h4⟩ := h
    exact ⟨a, b, [], h1, h2, h3, h4⟩
theorem step_use {H : Hp} {Q : VK} {E : XK} {a : Addr} {ws : List L} (hS : SqL K H a (txs ws)) (hn : ws.length ≤ 1000) (hl : ∀ p ∈ ws, p.length ≤ 1000) (h : ∀ v H', Ex H H' → St3 H' v (stepF ws) → Q v H') : sp_step K [.ref a] H Q E :=
  ⟨a, ws, rfl, hS, hn, hl, fun h0 H' e => h _ H' e (by rw [h0]; exact rfl), fun st h1 p b H' _ e h2 h3 => h _ H' e (by rw [h1]; exact ⟨p, b, rfl, h2, h3, step_wf h1 hl⟩)⟩
def Lns (lns : List Ln) : Prop := lns.length ≤ 1000 ∧ ∀ r ∈ lns, r.2.length ≤ 900
def sp_plan (K : PySem.W.Frag) : Sp := fun vs H Q _ => ∃ (a : Addr) (us : List V) (lns : List Ln), vs = [.ref a] ∧ SqT K H a us ∧ Reps H us (lns.map lnD) ∧ Lns lns ∧ ∀ v H', Ex H H' → Rep H' v (planD (planF lns)) → Q v H'
abbrev s_plan : Stmt := topS 19
theorem sc_plan : FnScope ["lines", "found", "names", "at", "one", "line", "step", "word", "reason"] ["lines"] (defScope s_plan) := ⟨rfl, rfl, rfl, by decide +kernel, rfl, by decide +kernel, by decide +kernel⟩
/- 0 lines, 1 found, 2 names, 3 at, 4 one, 5 line, 6 step, 7 word, 8 reason -/
theorem fn_plan {f : Addr} {fd : FuncData} {k : Nat} (F : Fun K "plan" "plan" s_plan f fd) (N : Nb mg) (C_says_something : Cal P w K mg base k "says_something" ["line"] (spV (ok_test saysF))) (C_step_of : Cal P w K mg base k "step_of" ["words"] (sp_step K)) (C_why_wrong : Cal P w K mg base k "why_wrong" ["step", "names"] (spV ok_why)) : FnOk P w K mg base CX0 (k + 1) f fd ["lines"] (sp_plan K) := by
  refine F.ok sc_plan (fun vs H Q E h => ?_) (fun cdv A outer s H vs Q E hr h => ?_)
  · obtain ⟨_, _, _, rfl, _⟩ := h
    rfl
  · obtain ⟨a, us, lns, rfl, hS, hR, hL, q⟩ := h
    refine ⟨_, (pss_cons (ps_set (i := 1) sc_plan.nd rfl (Or.inl rfl) (pe_lst pa_nil))
      (pss_cons (ps_set (i := 2) sc_plan.nd rfl (Or.inl rfl) pe_dnewK)
      (pss_cons (ps_for PassesOwn.never rfl (pi_enumT rfl N.enumerate (pa_cons (pv 0) pa_nil)) (pg_tup rfl (pgs_cons (pg_name (i := 3) sc_plan.nd rfl (Or.inl rfl)) (pgs_cons (pg_tup rfl (pgs_cons (pg_name (i := 4) sc_plan.nd rfl (Or.inl rfl)) (pgs_cons (pg_name (i := 5) sc_plan.nd rfl (Or.inl rfl)) pgs_nil))) pgs_nil))) (pss_one (ps_if (pt_val (pe_cal C_says_something hr (pa_cons (pv 5) pa_nil))) (pss_cons (ps_set (i := 6) sc_plan.nd rfl (Or.inl rfl) (pe_cal C_step_of hr (pa_cons (pe_lc (own := [("word", 7)]) (by rfl) sc_plan.nd (pi_list (pe_split (pv 5) pe_str)) (blkOk_by (own := [("word", 7)]) (N := ["lines", "found", "names", "at", "one", "line", "step", "word", "reason"]) (sc := defScope s_plan) (by decide +kernel)) (fun _ _ _ _ _ => (pg_name (i := 7) sc_plan.nd rfl (Or.inl rfl))) (fun _ _ _ _ _ => (pts_one (pt_cmpR op_ne (pv 7) pe_str (nomark _)))) (fun _ _ _ _ _ => (pv 7))) pa_nil)))
      (pss_cons (ps_set (i := 8) sc_plan.nd rfl (Or.inl rfl) (pe_cal C_why_wrong hr (pa_cons (pv 6) (pa_cons (pv 2) pa_nil))))
      (pss_cons (ps_if (pt_cmpR op_ne (pv 8) pe_str (nomark _)) (pss_one (ps_ret (pe_tup (pa_cons pe_str (pa_cons (pv 3) (pa_cons (pv 8) pa_nil)))))) pss_nil)
      (pss_cons (ps_dput (hu_of hr) (pv 2) (pe_ix ix_tup (pv 6) pe_int (fun _ _ => rfl)) pe_bl rfl)
      (pss_one (ps_expr (pe_bm PySem.F.plainAttrs_list PySem.F.slot_list_append PySem.F.type_list_append mt_append (pv 1) (pa_cons (pe_op op_catA (pv 6) (pe_tup (pa_cons (pv 4) pa_nil))) pa_nil)))))))) pss_nil)))
      (pss_one (ps_ret (pe_tup (pa_cons pe_str (pa_cons (pe_callTy call_tuple_of (by rfl) N.tuple PyProof.Rows.boot_tuple (pa_cons (pv 1) pa_nil)) pa_nil)))))))), ?_⟩
    have hul := hR.len
    rw [List.length_map] at hul
    have hln := hL.1
    refine q_asgL (el_lst ea_nil (by decide)) fun fl H1 hfl e1 h1 => ?_
    refine q_dnew fun dn hdn => ?_
    have hfd : fl ≠ dn := fun z => by rw [z, hdn] at h1; exact nomatch h1
    have hdn0 := fresh_back e1 hdn
    refine q_forEN (xs := us) (ev_v rfl) (ex_t (e1.trans (Ex.new hdn)) hS) (fun i σ H' => Ex H H' ∧ ∃ (fnd : List Row) (ws : List V) (y3 y4 y5 y6 y7 y8 : Option V), planF lns = goF fnd i (lns.drop i) ∧ fnd.length ≤ i ∧ i ≤ us.length ∧ H' fl = some (.lst ws) ∧ Reps H' ws (fnd.map stD) ∧ H' dn = some (.dK (dkS (nmsF fnd))) ∧ σ = [some (.ref a), some (.ref fl), some (.ref dn), y3, y4, y5, y6, y7, y8])
      (fun H2 e2 => ⟨(e1.trans (Ex.new hdn)).trans e2, [], [], none, none, none, none, none, none, rfl, Nat.le_refl 0, Nat.zero_le _, e2 _ _ ((Ex.new hdn) _ _ h1), .nil, e2 _ _ upd_same, rfl⟩) (fun i σ H' _ h => ex_t h.1 hS) ?_ ?_ ?_
    · rintro i x σ H' hx ⟨e', _⟩
      obtain ⟨d, hd, hr⟩ := hR.get' hx
      rw [List.getElem?_map] at hd
      obtain ⟨r, hr1, rfl⟩ := Option.map_eq_some_iff.mp hd
      obtain ⟨b, vo, rfl, hb, _⟩ := ln_at hr
      exact ⟨b, _, _, rfl, e' _ _ hb⟩
    · rintro i b y z σ H' H2 hx hb ⟨e', fnd, ws, y3, y4, y5, y6, y7, y8, hgo, hfi, hiu, hf', hRf, hd', rfl⟩ e2
      obtain ⟨d, hd, hr⟩ := hR.get' hx
      rw [List.getElem?_map] at hd
      obtain ⟨r, hr1, rfl⟩ := Option.map_eq_some_iff.mp hd
      obtain ⟨b', vo, hbb, hb0, ho⟩ := ln_at hr
      cases hbb
      have hbe := (e' _ _ hb0).symm.trans hb
      cases hbe
      have hi : i < us.length := (List.getElem?_eq_some_iff.mp hx).1
      have hrm := List.mem_of_getElem? hr1
      have hrl := hL.2 r hrm
      have hdrop : lns.drop i = r :: lns.drop (i + 1) := by
        have hil : i < lns.length := by omega
        rw [List.drop_eq_getElem_cons hil]
        congr 1
        exact Option.some.inj ((List.getElem?_eq_getElem hil).symm.trans hr1)
      rw [hdrop] at hgo
      have E2 := e'.trans e2
      refine s_when (b := saysF r.2) (et_B (ev_cal (ea_cons (ev_v rfl) ea_nil) fun H3 e3 => ⟨r.2, rfl, by omega, rfl⟩)) (fun hb3 H3 e3 => ?_) fun hb3 H3 e3 => ?_
      · have E3 := E2.trans e3
        have e23 := e2.trans e3
        have hwl := words_len r.2
        refine r_asg (r_call (r_cons (r_el (el_words (l := r.2) (j := 7) (vs := [7]) (ev_v rfl) (by omega) (fun _ => rfl) (fun _ => rfl)) (Ex.refl _) fun a2 H4 _ e4 h4 => r_nil (step_use (sq_of h4) (by omega) (fun p hp => by have := hwl.2 p hp; omega) fun v H5 e5 hv => ?_))))
        have E5 := (E3.trans e4).trans e5
        have e25 := (e23.trans e4).trans e5
        have hnl : (nmsF fnd).length ≤ 1000 := by unfold nmsF; rw [List.length_map]; omega
        generalize hso : stepF (wordsF r.2) = o at hv
        refine q_asg (v := .str (tx (whyF o (nmsF fnd)))) (ev_cal (ea_cons (ev_v rfl) (ea_cons (ev_v rfl) ea_nil)) fun H6 e6 => ⟨v, o, dn, nmsF fnd, rfl, (e25.trans e6) _ _ hd', hnl, hv.st.mono e6, rfl⟩) fun H6 e6 => ?_
        have E6 := E5.trans e6
        refine q_when (b := !decide (whyF o (nmsF fnd) = [])) (et_test (ev_is (ev_op (ev_v rfl) (ev_cs [] (by decide +kernel)) (rv_ne rfl)) (congrArg (fun b => V.bl (!b)) str_dec))) (fun hb7 H7 e7 => ?_) fun hb7 H7 e7 => ?_
        · have hne : whyF o (nmsF fnd) ≠ [] := fun z => by rw [z] at hb7; exact nomatch hb7
          refine r_ret (ed_tup (er_cons (evd_v (ev_cs [119, 114, 111, 110, 103] (by decide +kernel)) (.str _)) (er_cons (evd_v (ev_v rfl) (.int _)) (er_cons (evd_v (ev_v rfl) (.str _)) er_nil))) (by show 3 ≤ 100000; decide) H7 (Ex.refl _) _ fun v8 H8 e8 r8 => q v8 H8 ((E6.trans e7).trans e8) ?_)
          rw [hgo, go_wrong hb3 hso hne]
          exact r8
        · have hz : whyF o (nmsF fnd) = [] := by
            rw [Bool.not_eq_false'] at hb7
            exact of_decide_eq_true hb7
          obtain ⟨st, rfl⟩ : ∃ st, o = some st := by
            cases o with
            | none => exact nomatch (show rForm = [] from hz)
            | some st => exact ⟨st, rfl⟩
          obtain ⟨ap, bp, rfl, hap, hbp, hw⟩ := hv
          obtain ⟨hnew, _, h40⟩ := why_new hz
          have e27 := (e25.trans e6).trans e7
          have hap7 := (e6.trans e7) _ _ hap
          refine q_dput (kvs := dkS (nmsF fnd)) (e27 _ _ hd') ev_c (ev_v rfl) (ev_ixT (j := 0) (ev_v rfl) (ev_cn 0) (st_of hap7) rfl) (by unfold dkS; rw [List.length_map]; omega) fun H8 e8 => ?_
          rw [dkS_put, if_neg hnew]
          have hf8 := (e27.trans e8) _ _ hf'
          have kdn : ∀ {c o}, H7 c = some o → c ≠ dn → (upd H8 dn (.dK (dkS (nmsF fnd ++ [st.nm])))) c = some o := fun h n => by rw [upd_ne n]; exact e8 _ _ h
          have hd8 := (e27.trans e8) _ _ hd'
          have E8 : Ex H (upd H8 dn (.dK (dkS (nmsF fnd ++ [st.nm])))) := ((E6.trans e7).trans e8).mut hdn0
          have ap8 : (upd H8 dn (.dK (dkS (nmsF fnd ++ [st.nm])))) ap = some (.tup [.str (tx st.nm), .str (tx st.op), .ref bp]) := by rw [upd_ne (ne_kind (e8 _ _ hap7) hd8 (fun z => nomatch z))]; exact e8 _ _ hap7
          have bp8 : (upd H8 dn (.dK (dkS (nmsF fnd ++ [st.nm])))) bp = some (.tup (st.args.map argV)) := by rw [upd_ne (ne_kind (((e6.trans e7).trans e8) _ _ hbp) hd8 (fun z => nomatch z))]; exact ((e6.trans e7).trans e8) _ _ hbp
          have fl8 : (upd H8 dn (.dK (dkS (nmsF fnd ++ [st.nm])))) fl = some (.lst ws) := by rw [upd_ne hfd]; exact hf8
          have hkt : ∀ c us, H8 c = some (.tup us) → (upd H8 dn (.dK (dkS (nmsF fnd ++ [st.nm])))) c = some (.tup us) := fun c us h => by rw [upd_ne (ne_kind h hd8 (fun z => nomatch z))]; exact h
          have hws := hRf.len
          rw [List.length_map] at hws
          refine s_appU (ys := [.str (tx st.nm), .str (tx st.op), .ref bp] ++ [y]) fl8 (ev_v rfl) (eu_catA (ev_v rfl) (st_of ap8) (eu_tup (ea_cons (ev_v rfl) ea_nil) (by show 1 ≤ 100000; decide)) (fun z => nomatch z) (fun z => nomatch z) (by show 3 + 1 ≤ 100000; decide)) (by omega) fun p9 H9 _ e9 h9 => ?_
          have kfl : ∀ c us, H9 c = some (.tup us) → (upd H9 fl (.lst (ws ++ [.ref p9]))) c = some (.tup us) := fun c us h => by rw [upd_ne (ne_kind h (e9 _ _ fl8) (fun z => nomatch z))]; exact h
          refine ⟨(E8.trans e9).mut hfl, fnd ++ [(st, r.1)], ws ++ [.ref p9], _, _, _, _, _, _, by rw [hgo, go_step hb3 hso hz], by rw [List.length_append]; show _ + 1 ≤ _; omega, hi, upd_same, ?_, ?_, rfl⟩
          · rw [List.map_append]
            refine (Reps.keepT kfl (nol_all fun x _ => nol_st x) ((Reps.keepT hkt (nol_all fun x _ => nol_st x) (hRf.mono (e27.trans e8))).mono e9)).append (.cons ?_ .nil)
            refine .tup (kfl _ _ h9) (.cons (.str _) (.cons (.str _) (.cons (.tup (kfl _ _ (e9 _ _ bp8)) (reps_args _ _)) (.cons ?_ .nil))))
            exact Rep.keepT kfl (nol_one _) ((Rep.keepT hkt (nol_one _) (ho.mono (((E6.trans e7).trans e8)))).mono e9)
          · rw [upd_ne hfd.symm, nms_app]
            exact e9 _ _ upd_same
      · exact ⟨E2.trans e3, fnd, ws, _, _, _, _, _, _, by rw [hgo, go_skip hb3], by omega, hi, e3 _ _ (e2 _ _ hf'), hRf.mono (e2.trans e3), e3 _ _ (e2 _ _ hd'), rfl⟩
    · rintro σ H' ⟨e', fnd, ws, y3, y4, y5, y6, y7, y8, hgo, hfi, hiu, hf', hRf, hd', rfl⟩
      have hend : planF lns = .inr fnd := by
        rw [hgo, hul, List.drop_length]
        rfl
      rw [hend] at q
      refine r_ret (ed_tup (er_cons (evd_v (ev_cs [112, 108, 97, 110] (by decide +kernel)) (.str _)) (er_cons (d := .tup (fnd.map stD)) (fun H1 e Q q => eu_tupV (ev_v rfl) (sq_of hf') H1 e _ fun p H2 hp e2 h2 => q (.ref p) H2 e2 (.tup h2 (hRf.mono (e.trans e2)))) er_nil)) (by show 2 ≤ 100000; decide) H' (Ex.refl _) _ fun v3 H3 e3 r3 => q v3 H3 (e'.trans e3) r3)
end
end K50

set_option Elab.async false
set_option linter.all false
set_option maxRecDepth 100000
set_option maxHeartbeats 4000000
namespace K50
open PySem PySem.Spec PyProof.Rows L2 Evl My
def kBuild : L := [98, 117, 105, 108, 100]
def kNone : L := [110, 111, 110, 101]
section
variable {P : Program} {w : World} {K : PySem.W.Frag} {mg : Str → Option Value} {base : Heap}
abbrev s_lines_of : Stmt := topS 20
theorem sc_lines_of : FnScope ["path", "texts", "clashed"] ["path", "texts", "clashed"] (defScope s_lines_of) := ⟨rfl, rfl, rfl, by decide +kernel, rfl, by decide +kernel, by decide +kernel⟩
def lofV (kvs : List (Key × V)) (cl : List L) (p : L) : List V := if p ∈ cl then [.str (tx kNone), .str (tx [99, 108, 97, 115, 104])] else match valV kvs (.inr (tx p)) with
  | some v => [.str (tx [108, 105, 110, 101, 115]), v]
  | none => [.str (tx kNone), .str (tx [102, 105, 108, 101])]
def sp_lof (K : PySem.W.Frag) : Sp := fun vs H Q _ => ∃ (d c : Addr) (kvs : List (Key × V)) (cl : List L) (p : L), vs = [.str (tx p), .ref d, .ref c] ∧ H d = some (.dK kvs) ∧ SqT K H c (txs cl) ∧ ∀ r H', Ex H H' → H' r = some (.tup (lofV kvs cl p)) → Q (.ref r) H'
theorem fn_lines_of {f : Addr} {fd : FuncData} {k : Nat} (F : Fun K "lines_of" "lines_of" s_lines_of f fd) (N : Nb mg) : FnOk P w K mg base CX0 (k + 1) f fd ["path", "texts", "clashed"] (sp_lof K) := by
  refine F.ok sc_lines_of (fun vs H Q E h => ?_) (fun cdv A outer s H vs Q E hr h => ?_)
  · obtain ⟨_, _, _, _, _, rfl, _⟩ := h
    rfl
  · obtain ⟨d, c, kvs, cl, p, rfl, hd, hS, q⟩ := h
    refine ⟨_, (pss_cons (ps_if (pt_cmpR op_in_seq (pv 0) (pv 2) rfl) (pss_one (ps_ret (pe_tup (pa_cons pe_str (pa_cons pe_str pa_nil))))) pss_nil)
      (pss_one (ps_ret (pe_ifExp (pt_cmp (pc_din (hu_of hr) (pv 0) (pv 1))) (pe_tup (pa_cons pe_str (pa_cons (pe_dget (hu_of hr) (pv 1) (pv 0) (fun _ _ => rfl)) pa_nil))) (pe_tup (pa_cons pe_str (pa_cons pe_str pa_nil))))))), ?_⟩
    unfold lofV at q
    refine q_when (b := decide (p ∈ cl)) (et_is (et_test (ev_op (ev_v rfl) (ev_v rfl) (rv_isT hS rfl (txs_flat cl)))) (txs_in p cl)) (fun hb H1 e1 => ?_) fun hb H1 e1 => ?_
    · rw [if_pos (of_decide_eq_true hb)] at q
      exact s_retU (eu_tup (ea_cons (ev_cs kNone (by decide +kernel)) (ea_cons (ev_cs [99, 108, 97, 115, 104] (by decide +kernel)) ea_nil)) (by show 2 ≤ 100000; decide)) fun r H2 _ e2 h2 => q r H2 (e1.trans e2) h2
    · rw [if_neg (of_decide_eq_false hb)] at q
      refine r_ret (r_if (et_B (ev_din (ev_v rfl) (e1 _ _ hd) (ev_v rfl)) H1 (Ex.refl _) _ fun H2 e2 => ?_))
      cases hv : valV kvs (.inr (tx p)) with
      | none =>
        rw [hv] at q
        rw [if_neg (by exact fun z => nomatch z)]
        exact eu_tup (ea_cons (ev_cs kNone (by decide +kernel)) (ea_cons (ev_cs [102, 105, 108, 101] (by decide +kernel)) ea_nil)) (by show 2 ≤ 100000; decide) H2 (Ex.refl _) _ fun r H3 _ e3 h3 => q r H3 ((e1.trans e2).trans e3) h3
      | some v =>
        rw [hv] at q
        rw [if_pos (by rfl)]
        exact eu_tup (ea_cons (ev_cs [108, 105, 110, 101, 115] (by decide +kernel)) (ea_cons (ev_dget (ev_v rfl) ((e1.trans e2) _ _ hd) (ev_v rfl) hv) ea_nil)) (by show 2 ≤ 100000; decide) H2 (Ex.refl _) _ fun r H3 _ e3 h3 => q r H3 ((e1.trans e2).trans e3) h3
abbrev s_plan_of : Stmt := topS 21
theorem sc_plan_of : FnScope ["texts", "clashed", "told"] ["texts", "clashed"] (defScope s_plan_of) := ⟨rfl, rfl, rfl, by decide +kernel, rfl, by decide +kernel, by decide +kernel⟩
def sp_plof (K : PySem.W.Frag) : Sp := fun vs H Q _ => ∃ (d c : Addr) (kvs : List (Key × V)) (cl : List L), vs = [.ref d, .ref c] ∧ H d = some (.dK kvs) ∧ SqT K H c (txs cl) ∧
  (kBuild ∈ cl → ∀ r H', Ex H H' → H' r = some (.tup [.str (tx kNone), .str (tx [99, 108, 97, 115, 104])]) → Q (.ref r) H') ∧
  (kBuild ∉ cl → valV kvs (.inr (tx kBuild)) = none → ∀ r H', Ex H H' → H' r = some (.tup [.str (tx kNone), .str (tx [102, 105, 108, 101])]) → Q (.ref r) H') ∧
  (kBuild ∉ cl → ∀ v, valV kvs (.inr (tx kBuild)) = some v → ∃ (a : Addr) (us : List V) (lns : List Ln), v = .ref a ∧ SqT K H a us ∧ Reps H us (lns.map lnD) ∧ Lns lns ∧ ∀ v H', Ex H H' → Rep H' v (planD (planF lns)) → Q v H')
theorem fn_plan_of {f : Addr} {fd : FuncData} {k : Nat} (F : Fun K "plan_of" "plan_of" s_plan_of f fd) (N : Nb mg) (C_lines_of : Cal P w K mg base k "lines_of" ["path", "texts", "clashed"] (sp_lof K)) (C_plan : Cal P w K mg base k "plan" ["lines"] (sp_plan K)) : FnOk P w K mg base CX0 (k + 1) f fd ["texts", "clashed"] (sp_plof K) := by
  refine F.ok sc_plan_of (fun vs H Q E h => ?_) (fun cdv A outer s H vs Q E hr h => ?_)
  · obtain ⟨_, _, _, _, rfl, _⟩ := h
    rfl
  · obtain ⟨d, c, kvs, cl, rfl, hd, hS, q1, q2, q3⟩ := h
    refine ⟨_, (pss_cons (ps_set (i := 2) sc_plan_of.nd rfl (Or.inl rfl) (pe_cal C_lines_of hr (pa_cons pe_str (pa_cons (pv 0) (pa_cons (pv 1) pa_nil)))))
      (pss_one (ps_ret (pe_ifExp (pt_cmpR op_eq (pe_ix ix_tup (pv 2) pe_int (fun _ _ => rfl)) pe_str (nomark _)) (pv 2) (pe_cal C_plan hr (pa_cons (pe_ix ix_tup (pv 2) pe_int (fun _ _ => rfl)) pa_nil)))))), ?_⟩
    refine r_asg (r_call (r_cons (r_ev (ev_cs kBuild (by decide +kernel)) (Ex.refl _) fun H0 e0 => r_cons (r_var rfl (r_cons (r_var rfl (r_nil ⟨d, c, kvs, cl, kBuild, rfl, e0 _ _ hd, ex_t e0 hS, fun r H1 e1 h1 => ?_⟩)))))))
    have E1 := e0.trans e1
    have tst : ∀ (z : L) (v : V), H1 r = some (.tup [.str (tx z), v]) → EvT (tTest (tOp rEq (tOp (rIxT K) (tVar 2) (tC (.int 0))) (tC (.str "none")))) [some (.ref d), some (.ref c), some (.ref r)] H1 (decide (z = kNone)) := fun z v h => et_test (ev_eqS (ev_ixT (j := 0) (ev_v rfl) (ev_cn 0) (st_of h) rfl) (ev_cs kNone (by decide +kernel)))
    refine r_ret (r_if ?_)
    unfold lofV at h1
    by_cases hb : kBuild ∈ cl
    · rw [if_pos hb] at h1
      refine (tst _ _ h1) H1 (Ex.refl _) _ fun H2 e2 => ?_
      rw [decide_eq_true rfl, if_pos rfl]
      exact r_var rfl (q1 hb r H2 (E1.trans e2) (e2 _ _ h1))
    · rw [if_neg hb] at h1
      cases hv : valV kvs (.inr (tx kBuild)) with
      | none =>
        rw [hv] at h1
        refine (tst _ _ h1) H1 (Ex.refl _) _ fun H2 e2 => ?_
        rw [decide_eq_true rfl, if_pos rfl]
        exact r_var rfl (q2 hb hv r H2 (E1.trans e2) (e2 _ _ h1))
      | some v =>
        rw [hv] at h1
        obtain ⟨a, us, lns, rfl, hSa, hR, hL, qq⟩ := q3 hb v hv
        refine (tst _ _ h1) H1 (Ex.refl _) _ fun H2 e2 => ?_
        rw [decide_eq_false (by decide), if_neg Bool.false_ne_true]
        have E2 := E1.trans e2
        refine r_call (r_cons (r_ev (ev_ixT (j := 1) (ev_v rfl) (ev_cn 1) (st_of (e2 _ _ h1)) rfl) (Ex.refl _) fun H3 e3 => r_nil ⟨a, us, lns, rfl, ex_t (E2.trans e3) hSa, hR.mono (E2.trans e3), hL, fun v H4 e4 r4 => qq v H4 ((E2.trans e3).trans e4) r4⟩))
end
end K50

set_option Elab.async false
set_option linter.all false
set_option maxRecDepth 100000
set_option maxHeartbeats 4000000
namespace K50
open PySem PySem.Spec PyProof.Rows L2 Evl My
/-- what a step hangs on -/
inductive Reach (rows : List Row) (name : L) : L → Prop
  | base : Reach rows name name
  | step {r : Row} {x : L} : Reach rows name r.1.nm → r ∈ rows → x ∈ insF r.1 → Reach rows name x
def putH (r : Row) (found : List L) : List L := if r.1.nm ∈ found then found ++ (insF r.1).filter (fun x => decide (x ∉ found)) else found
def hangF (rows : List Row) (name : L) : List L := rows.foldr putH [name]
def Fwd : List Row → Prop
  | [] => True
  | r :: rs => (∀ r' ∈ rs, r'.1.nm ∉ insF r.1) ∧ Fwd rs
theorem put_mem {r : Row} {found : List L} {x : L} : x ∈ putH r found ↔ x ∈ found ∨ (r.1.nm ∈ found ∧ x ∈ insF r.1) := by
  unfold putH
  split
  · rename_i h
    rw [List.mem_append, List.mem_filter, decide_eq_true_eq]
    constructor
    · rintro (h1 | ⟨h1, _⟩)
      · exact .inl h1
      · exact .inr ⟨h, h1⟩
    · rintro (h1 | ⟨_, h1⟩)
      · exact .inl h1
      · by_cases hx : x ∈ found
        · exact .inl hx
        · exact .inr ⟨h1, hx⟩
  · rename_i h
    constructor
    · exact .inl
    · rintro (h1 | ⟨h1, _⟩)
      · exact h1
      · exact absurd h1 h
theorem hang_inv (rows : List Row) (name : L) : ∀ (rs : List Row), (∀ r ∈ rs, r ∈ rows) → Fwd rs → name ∈ rs.foldr putH [name] ∧ (∀ x ∈ rs.foldr putH [name], Reach rows name x) ∧ ∀ r ∈ rs, r.1.nm ∈ rs.foldr putH [name] → ∀ x ∈ insF r.1, x ∈ rs.foldr putH [name]
  | [], _, _ => ⟨by simp, fun x h => by
      have : x = name := by simpa using h
      rw [this]
      exact .base, fun r h => absurd h (by simp)⟩
  | r :: rs, hs, hf => by
    rw [Fwd] at hf
    obtain ⟨a, b, c⟩ := hang_inv rows name rs (fun x h => hs x (by simp [h])) hf.2
    rw [List.foldr_cons]
    refine ⟨put_mem.mpr (.inl a), fun x h => ?_, fun r' h' hn x hx => ?_⟩
    · rcases put_mem.mp h with h | ⟨h1, h2⟩
      · exact b x h
      · exact .step (b _ h1) (hs r (by simp)) h2
    · rcases List.mem_cons.mp h' with rfl | h'
      · rcases put_mem.mp hn with h | ⟨h, _⟩
        · exact put_mem.mpr (.inr ⟨h, hx⟩)
        · exact put_mem.mpr (.inr ⟨h, hx⟩)
      · rcases put_mem.mp hn with h | ⟨_, h⟩
        · exact put_mem.mpr (.inl (c r' h' h x hx))
        · exact absurd h (hf.1 r' h')
theorem hang_reach {rows : List Row} {name x : L} (hf : Fwd rows) : x ∈ hangF rows name ↔ Reach rows name x := by
  obtain ⟨a, b, c⟩ := hang_inv rows name rows (fun _ h => h) hf
  refine ⟨b x, fun h => ?_⟩
  induction h with
  | base => exact a
  | step _ hr hx ih => exact c _ hr ih _ hx
/-- a plan's rows -/
structure POk (rows : List Row) : Prop where
  few : rows.length ≤ 40
  nd : (nmsF rows).Nodup
  wf : ∀ r ∈ rows, Wf r.1
  inn : ∀ r ∈ rows, ∀ x ∈ insF r.1, x ∈ nmsF rows
  fwd : Fwd rows
theorem fwd_app : ∀ {a : List Row} {r : Row}, Fwd a → (∀ r' ∈ a, r.1.nm ∉ insF r'.1) → Fwd (a ++ [r])
  | [], r, _, _ => ⟨fun r' h => absurd h (by simp), trivial⟩
  | x :: a, r, h, g => by
    rw [Fwd] at h
    refine ⟨fun r' hr' => ?_, fwd_app h.2 fun r' h' => g r' (by simp [h'])⟩
    rcases List.mem_append.mp hr' with hr' | hr'
    · exact h.1 r' hr'
    · rw [List.mem_singleton.mp hr']
      exact g x (by simp)
theorem pok_snoc {rows : List Row} {st : Stp} {o : On} (h : POk rows) (hw : Wf st) (hz : whyF (some st) (nmsF rows) = []) : POk (rows ++ [(st, o)]) := by
  obtain ⟨h1, h2, h3⟩ := why_new hz
  have hl : (nmsF rows).length = rows.length := by unfold nmsF; rw [List.length_map]
  refine ⟨?_, ?_, fun r hr => ?_, fun r hr x hx => ?_, fwd_app h.fwd fun r' hr' hx => h1 (h.inn r' hr' _ hx)⟩
  · rw [List.length_append]
    show _ + 1 ≤ 40
    have := h.few
    omega
  · rw [nms_app, List.nodup_append]
    refine ⟨h.nd, by simp, fun a ha b hb => ?_⟩
    rw [List.mem_singleton] at hb
    subst hb
    exact fun e => h1 (by rw [← e]; exact ha)
  · rcases List.mem_append.mp hr with hr | hr
    · exact h.wf r hr
    · rw [List.mem_singleton.mp hr]
      exact hw
  · rw [nms_app]
    rcases List.mem_append.mp hr with hr | hr
    · exact List.mem_append_left _ (h.inn r hr x hx)
    · rw [List.mem_singleton.mp hr] at hx
      exact List.mem_append_left _ (h2 x hx)
theorem go_pok : ∀ (lns : List Ln) (fnd : List Row) (i : Nat) (f : List Row), (∀ r ∈ lns, r.2.length ≤ 900) → POk fnd → goF fnd i lns = .inr f → POk f
  | [], fnd, i, f, _, hp, h => by
    rw [goF] at h
    cases h
    exact hp
  | r :: rs, fnd, i, f, hl, hp, h => by
    by_cases hs : saysF r.2 = true
    · cases ho : stepF (wordsF r.2) with
      | none =>
        rw [goF, if_pos hs, ho] at h
        exact nomatch h
      | some st =>
        by_cases hz : whyF (some st) (nmsF fnd) = []
        · rw [go_step hs ho hz] at h
          refine go_pok rs _ _ f (fun x hx => hl x (by simp [hx])) (pok_snoc hp (step_wf ho fun p hp => ?_) hz) h
          have h1 := (words_len r.2).2 p hp
          have h2 := hl r (by simp)
          omega
        · rw [go_wrong hs ho hz] at h
          exact nomatch h
    · rw [go_skip (by simpa using hs)] at h
      exact go_pok rs fnd (i + 1) f (fun x hx => hl x (by simp [hx])) hp h
theorem plan_pok {lns : List Ln} {f : List Row} (hl : Lns lns) (h : planF lns = .inr f) : POk f :=
  go_pok lns [] 0 f hl.2 ⟨Nat.zero_le _, List.nodup_nil, fun r h => absurd h (by simp), fun r h => absurd h (by simp), trivial⟩ h
/-- the rows below -/
def downF (rows : List Row) (name : L) : List Row := rows.filter fun r => decide (r.1.nm ∈ hangF rows name)
/-! the row of a name -/
def rowOf (rows : List Row) (x : L) : Option Row := rows.find? fun r => decide (r.1.nm = x)
theorem row_some {rows : List Row} {x : L} (h : x ∈ nmsF rows) : ∃ r, rowOf rows x = some r ∧ r ∈ rows ∧ r.1.nm = x := by
  unfold rowOf
  cases e : rows.find? fun r => decide (r.1.nm = x) with
  | none =>
    obtain ⟨r, hr, he⟩ := List.mem_map.mp h
    exact absurd (decide_eq_true he) (List.find?_eq_none.mp e r hr)
  | some r => exact ⟨r, rfl, List.mem_of_find?_eq_some e, by have := List.find?_some e; simpa using this⟩
theorem row_uniq {rows : List Row} (hn : (nmsF rows).Nodup) {r r' : Row} (h : r ∈ rows) (h' : r' ∈ rows) (e : r.1.nm = r'.1.nm) : r = r' := by
  induction rows with
  | nil => simp at h
  | cons a rs ih =>
    unfold nmsF at hn
    rw [List.map_cons, List.nodup_cons] at hn
    rcases List.mem_cons.mp h with g | g
    · rcases List.mem_cons.mp h' with g' | g'
      · rw [g, g']
      · exact absurd (by rw [← g, e]; exact List.mem_map_of_mem g') hn.1
    · rcases List.mem_cons.mp h' with g' | g'
      · exact absurd (by rw [← g', ← e]; exact List.mem_map_of_mem g) hn.1
      · exact ih hn.2 g g'
end K50

set_option Elab.async false
set_option linter.all false
set_option maxRecDepth 100000
set_option maxHeartbeats 4000000
namespace K50
open PySem PySem.Spec PyProof.Rows L2 Evl My
theorem args_reps {H : Hp} : ∀ {vs : List V} {as : List Ar}, Reps H vs (as.map argD) → vs = as.map argV
  | vs, [], h => by cases h; rfl
  | vs, p :: as, h => by
    rw [List.map_cons] at h
    cases h with
    | cons h r =>
      rw [List.map_cons, args_reps r]
      congr 1
      unfold argD argV at *
      split
      · rename_i e
        rw [if_pos e] at h
        cases h
        rfl
      · rename_i e
        rw [if_neg e] at h
        cases h
        rfl
/-- a row in the heap -/
theorem row_at {H : Hp} {v : V} {r : Row} (h : Rep H v (stD r)) : ∃ a b vo, v = .ref a ∧ H a = some (.tup [.str (tx r.1.nm), .str (tx r.1.op), .ref b, vo]) ∧ H b = some (.tup (r.1.args.map argV)) ∧ Rep H vo (oneD r.2) := by
  unfold stD at h
  cases h with
  | @tup a us _ e1 rs =>
    cases rs with
    | cons h1 r1 =>
      cases r1 with
      | cons h2 r2 =>
        cases r2 with
        | cons h3 r3 =>
          cases r3 with
          | cons h4 r4 =>
            cases r4
            cases h1
            cases h2
            cases h3 with
            | tup e2 rs2 =>
              have := args_reps rs2
              subst this
              exact ⟨a, _, _, rfl, e1, e2, h4⟩
/-- a row's name, read off the heap -/
def nmV (H : Hp) (v : V) : L := match v with
  | .ref a => (match H a with
    | some (.tup (.str s :: _)) => s.cps.toList
    | _ => [])
  | _ => []
theorem nmV_at {H : Hp} {v : V} {r : Row} (h : Rep H v (stD r)) : nmV H v = r.1.nm := by
  obtain ⟨a, b, vo, rfl, ha, _⟩ := row_at h
  show (match H a with
    | some (.tup (.str s :: _)) => s.cps.toList
    | _ => []) = _
  rw [ha]
  rfl
theorem reps_filter {H : Hp} (S : List L) : ∀ {us : List V} {rows : List Row}, Reps H us (rows.map stD) → Reps H (us.filter fun v => decide (nmV H v ∈ S)) ((rows.filter fun r => decide (r.1.nm ∈ S)).map stD)
  | us, [], h => by cases h; exact .nil
  | us, r :: rows, h => by
    rw [List.map_cons] at h
    cases h with
    | @cons v _ vs _ h1 r1 =>
      have ih := reps_filter S r1
      rw [List.filter_cons, List.filter_cons, nmV_at h1]
      by_cases hs : r.1.nm ∈ S
      · rw [decide_eq_true hs, if_pos rfl, if_pos rfl]
        exact .cons h1 ih
      · rw [decide_eq_false hs, if_neg (by decide), if_neg (by decide)]
        exact ih
theorem snoc {α : Type} {l : List α} (h : l ≠ []) : ∃ a x, l = a ++ [x] := ⟨l.dropLast, l.getLast h, (List.dropLast_concat_getLast h).symm⟩
section
variable {K : PySem.W.Frag} {σ : L2.St} {H : Hp} {td ty : TE} {kvs : List (Key × V)} {d : Addr} {l : L}
theorem ev_dni (h : Ev td σ H (.ref d)) (hd : H d = some (.dK kvs)) (hk : Ev ty σ H (.str (tx l))) : Ev (tDNotIn ty td) σ H (.bl (!(valV kvs (.inr (tx l))).isSome)) := fun H1 e Q q =>
  hk H1 e _ fun H2 e2 => h H2 (e.trans e2) _ fun H3 e3 => ⟨d, _, rfl, DGet.k (k := Sum.inr (tx l)) (((e.trans e2).trans e3) d _ hd), q H3 (e2.trans e3)⟩
end
theorem s_extW {K : PySem.W.Frag} {σ : L2.St} {H : Hp} {te tb : TE} {D : Ends} {l : Addr} {xs ys : List V} (hl : H l = some (.lst xs)) (ha : Ev te σ H (.ref l)) (h : EvW tb σ H ys) (hz : xs.length + ys.length ≤ 100000) (k : ∀ H1, Ex H H1 → D.nx σ (upd H1 l (.lst (xs ++ ys)))) :
    tDrop (tBM K "list" (rExtT K) te (tCons tb tNil)) D σ H := ha H (Ex.refl H) _ fun H1 e1 =>
  ⟨Or.inl ⟨rfl, xs, sq_of (e1 l _ hl)⟩, h H1 e1 _ fun p H2 e2 h2 => ⟨l, p, xs, ys, rfl, rfl, e2 l _ (e1 l _ hl), st_of h2, sz_of hz, k H2 (e1.trans e2)⟩⟩
theorem r_bm0 {K : PySem.W.Frag} {σ : L2.St} {H : Hp} {Q : VK} {T : String} {r : V → List V → Hp → VK → Prop} {to : TE} (h : to σ H fun x H1 => tyV K T x H1 ∧ r x [] H1 Q) : tBM0 K T r to σ H Q := h
theorem ins_len {st : Stp} (h : Wf st) : (insF st).length ≤ 6 := by
  unfold insF
  rw [List.length_map]
  have := List.length_filter_le (fun p : Ar => decide (p.1 = Kd.s)) st.args
  have := h.few
  omega
theorem r_dcT {K : PySem.W.Frag} {σ : L2.St} {H : Hp} {Q : VK} {i : Nat} {a : Addr} {xs : List V} {g : TG} {tt : TT} {tk tv : TE} {vs : List Nat} (hv : σ[i]? = some (some (.ref a))) (hS : SqT K H a xs) (Pv : Addr → Nat → Hp → Prop) (h0 : ∀ D, H D = none → Pv D 0 (upd H D (.dK []))) (hl : ∀ D i H', i ≤ xs.length → Pv D i H' → SqT K H' a xs)
    (hs : ∀ D, H D = none → ∀ i x H', xs[i]? = some x → Pv D i H' → g x (wipe σ vs) H' fun σ2 H2 => wipe σ2 vs = wipe σ vs ∧ tt σ2 H2 fun b H3 =>
      if b = true then tk σ2 H3 fun y H4 => tv σ2 H4 fun z H5 => ∃ kvs k, y = kV k ∧ H5 D = some (.dK kvs) ∧ kvs.length < sizeLine ∧ Pv D (i + 1) (upd H5 D (.dK (putK kvs k z))) else Pv D (i + 1) H3) (hd : ∀ D H', H D = none → Pv D xs.length H' → Q (.ref D) H') : tDc (iTup K (tVar i)) g tt tk tv vs σ H Q :=
  ⟨_, hv, a, rfl, ⟨xs, hS⟩, fun D hD => dc_tup (Pv D) (h0 D hD) (hl D) (hs D hD) fun H' p => hd D H' hD p⟩
section
variable {P : Program} {w : World} {K : PySem.W.Frag} {mg : Str → Option Value} {base : Heap}
def sp_below (K : PySem.W.Frag) : Sp := fun vs H Q _ => ∃ (a : Addr) (us : List V) (rows : List Row) (x : L), vs = [.ref a, .str (tx x)] ∧ SqT K H a us ∧ Reps H us (rows.map stD) ∧ POk rows ∧ x ∈ nmsF rows ∧
  ∀ p ws H', H p = none → Ex H H' → H' p = some (.lst ws) → Reps H' ws ((downF rows x).map stD) → Q (.ref p) H'
abbrev s_below : Stmt := topS 22
theorem sc_below : FnScope ["told", "name", "steps", "step", "found", "queue", "here"] ["told", "name"] (defScope s_below) := ⟨rfl, rfl, rfl, by decide +kernel, rfl, by decide +kernel, by decide +kernel⟩
/- 0 told, 1 name, 2 steps, 3 step, 4 found*, 5 queue, 6 here -/
theorem fn_below {f : Addr} {fd : FuncData} {k : Nat} (F : Fun K "below" "below" s_below f fd) (N : Nb mg) (C_inputs_of : Cal P w K mg base k "inputs_of" ["step"] sp_inputs) : FnOk P w K mg base CX0 (k + 1) f fd ["told", "name"] (sp_below K) := by
  refine F.ok sc_below (fun vs H Q E h => ?_) (fun cdv A outer s H vs Q E hr h => ?_)
  · obtain ⟨_, _, _, _, rfl, _⟩ := h
    rfl
  · obtain ⟨a, us, rows, x, rfl, hS, hR, hp, hx, q⟩ := h
    refine ⟨_, (pss_cons (ps_setDc (i := 2) (own := [("step", 3)]) (by rfl) sc_below.nd rfl rfl (sw_trueD rfl rfl rfl (by decide +kernel)) (pi_tup (pv 0)) (blkOk_by (own := [("step", 3)]) (N := ["told", "name", "steps", "step", "found", "queue", "here"]) (sc := defScope s_below) (by decide +kernel)) (fun _ _ _ _ _ => (pg_name (i := 3) sc_below.nd rfl (Or.inl rfl))) (fun _ _ _ _ _ => pts_nil) (fun _ _ _ _ _ => (pe_ix (r := rIxT K) ix_tup (pv 3) pe_int (fun _ _ => rfl))) (fun _ _ _ _ _ => (pv 3)))
      (pss_cons (ps_set (i := 4) sc_below.nd rfl (Or.inr rfl) pe_dnewK)
      (pss_cons (ps_set (i := 5) sc_below.nd rfl (Or.inl rfl) (pe_lst (pa_cons (pv 1) pa_nil)))
      (pss_cons (ps_while PassesOwn.never (pt_truth (pv 5) (by intro _; rfl)) (pss_cons (ps_set (i := 6) sc_below.nd rfl (Or.inl rfl) (pe_bm0 PySem.F.plainAttrs_list PySem.F.slot_list_pop PySem.F.type_list_pop mt_pop (pv 5)))
      (pss_one (ps_if (pt_cmp (pc_dnotin (hu_of hr) (pv 6) (pv 4))) (pss_cons (ps_dput (hu_of hr) (pv 4) (pv 6) pe_bl rfl)
      (pss_one (ps_expr (pe_bm PySem.F.plainAttrs_list PySem.F.slot_list_extend PySem.F.type_list_extend mt_extendT (pv 5) (pa_cons (pe_cal C_inputs_of hr (pa_cons (pe_dget (hu_of hr) (pv 2) (pv 6) (fun _ _ => rfl)) pa_nil)) pa_nil))))) pss_nil))))
      (pss_one (ps_ret (pe_lc (own := [("step", 3)]) (by rfl) sc_below.nd (pi_tup (pv 0)) (blkOk_by (own := [("step", 3)]) (N := ["told", "name", "steps", "step", "found", "queue", "here"]) (sc := defScope s_below) (by decide +kernel)) (fun _ _ _ _ _ => (pg_name (i := 3) sc_below.nd rfl (Or.inl rfl))) (fun _ _ _ _ _ => (pts_one (pt_cmp (pc_din (hu_of hr) (pe_ix (r := rIxT K) ix_tup (pv 3) pe_int (fun _ _ => rfl)) (pv 4))))) (fun _ _ _ _ _ => (pv 3))))))))), ?_⟩
    have hul := hR.len
    rw [List.length_map] at hul
    have hfew := hp.few
    have rowI : ∀ {i : Nat} {v : V}, us[i]? = some v → ∃ r, rows[i]? = some r ∧ Rep H v (stD r) := fun {i v} hv => by
      obtain ⟨d, hd, hr⟩ := hR.get' hv
      rw [List.getElem?_map] at hd
      obtain ⟨r, hr1, rfl⟩ := Option.map_eq_some_iff.mp hd
      exact ⟨r, hr1, hr⟩
    -- the dict of the steps
    refine r_asg (r_dcT rfl hS (fun dS i H' => Ex H H' ∧ ∃ kvs : List (Key × V), H' dS = some (.dK kvs) ∧ kvs.length ≤ i ∧ ∀ (j : Nat) (r : Row) (v : V), j < i → rows[j]? = some r → us[j]? = some v → valV kvs (.inr (tx r.1.nm)) = some v) (fun dS hdS => ⟨Ex.new hdS, [], upd_same, Nat.le_refl 0, fun j r v h => absurd h (by omega)⟩) (fun dS i H' _ h => ex_t h.1 hS) ?_ ?_)
    · rintro dS hdS i v H' hv ⟨e', kvs, hk, hkl, hkv⟩
      have hi : i < us.length := (List.getElem?_eq_some_iff.mp hv).1
      obtain ⟨r, hr, hrep⟩ := rowI hv
      obtain ⟨ra, rb, vo, rfl, hra, hrb, hvo⟩ := row_at hrep
      refine ⟨rfl, tyes_ (iteT (r_ev (ev_ixT (j := 0) (ev_v rfl) (ev_cn 0) (st_of (e' _ _ hra)) rfl) (Ex.refl _) fun H2 e2 => r_var rfl ⟨kvs, .inr (tx r.1.nm), rfl, e2 _ _ hk, sz_lt (by omega), (e'.trans e2).mut hdS, _, upd_same, ?_, ?_⟩))⟩
      · have := length_putK kvs (.inr (tx r.1.nm)) (V.ref ra)
        omega
      · intro j r' v' hj hr' hv'
        rw [valV_put]
        rcases Nat.lt_or_ge j i with hlt | hge
        · have hne : r'.1.nm ≠ r.1.nm := fun e => by
            have h1 : (nmsF rows)[j]? = (nmsF rows)[i]? := by
              unfold nmsF
              rw [List.getElem?_map, List.getElem?_map, hr', hr]
              exact congrArg some e
            have hil : i < (nmsF rows).length := by unfold nmsF; rw [List.length_map]; omega
            have hjl : j < (nmsF rows).length := by omega
            rw [List.getElem?_eq_getElem hjl, List.getElem?_eq_getElem hil] at h1
            exact List.pairwise_iff_getElem.mp hp.nd j i hjl hil hlt (Option.some.inj h1)
          rw [if_neg fun z => hne (inr_tx.mp z)]
          exact hkv j r' v' hlt hr' hv'
        · have : j = i := by omega
          subst this
          rw [hr] at hr'
          cases hr'
          rw [if_pos rfl, ← hv']
          exact hv.symm
    rintro dS H1 hdS ⟨e1, kvs, hk, hkl, hkv⟩
    have hrow : ∀ y ∈ nmsF rows, ∃ r ra rb vo, r ∈ rows ∧ r.1.nm = y ∧ valV kvs (.inr (tx y)) = some (.ref ra) ∧ H ra = some (.tup [.str (tx r.1.nm), .str (tx r.1.op), .ref rb, vo]) ∧ H rb = some (.tup (r.1.args.map argV)) := fun y hy => by
      obtain ⟨r, hr, he⟩ := List.mem_map.mp hy
      obtain ⟨j, hj, hrj⟩ := List.getElem_of_mem hr
      have hrj' : rows[j]? = some r := by rw [List.getElem?_eq_getElem hj, hrj]
      have hju : j < us.length := by omega
      obtain ⟨r', hr', hrep⟩ := rowI (List.getElem?_eq_getElem hju)
      rw [hrj'] at hr'
      cases hr'
      obtain ⟨ra, rb, vo, hv, hra, hrb, _⟩ := row_at hrep
      refine ⟨r, ra, rb, vo, hr, he, ?_, hra, hrb⟩
      rw [← he, hkv j r _ (by omega) hrj' (List.getElem?_eq_getElem hju), hv]
    refine q_dnew fun dF hdF => ?_
    have hSF : dS ≠ dF := fun z => by rw [z, hdF] at hk; exact nomatch hk
    have hdF0 := fresh_back e1 hdF
    refine q_asgL (xs := txs [x]) (el_lst (ea_cons (ev_v rfl) ea_nil) (by show 1 ≤ 100000; decide)) fun qL H2 hqL e2 h2 => ?_
    have E1 : Ex H (upd H1 dF (.dK [])) := e1.trans (Ex.new hdF)
    have hqL0 := fresh_back E1 hqL
    have hqF : dF ≠ qL := fun z => by rw [← z, upd_same] at hqL; exact nomatch hqL
    have hqS : dS ≠ qL := fun z => by rw [← z, upd_ne hSF] at hqL; rw [hk] at hqL; exact nomatch hqL
    let W : Nat → L2.St → Hp → Prop := fun m σ' H' => ∃ (fs qs : List L) (y3 y6 : Option V), m = 7 * (rows.length - fs.length) + qs.length ∧ Ex H H' ∧ H' dS = some (.dK kvs) ∧ H' dF = some (.dK (dkS fs)) ∧ H' qL = some (.lst (txs qs)) ∧ fs.Nodup ∧ (∀ y ∈ fs, y ∈ nmsF rows ∧ Reach rows x y) ∧ (∀ y ∈ qs, y ∈ nmsF rows ∧ Reach rows x y) ∧ (x ∈ fs ∨ x ∈ qs) ∧
      (∀ r ∈ rows, r.1.nm ∈ fs → ∀ y ∈ insF r.1, y ∈ fs ∨ y ∈ qs) ∧ qs.length ≤ 1 + 6 * fs.length ∧ σ' = [some (.ref a), some (.str (tx x)), some (.ref dS), y3, some (.ref dF), some (.ref qL), y6]
    refine q_while W (7 * rows.length + 1) ⟨[], [x], none, none, rfl, E1.trans e2, e2 _ _ (by rw [upd_ne hSF]; exact hk), e2 _ _ upd_same, h2, List.nodup_nil, fun y h => absurd h (by simp), fun y h => by
      rw [List.mem_singleton.mp h]
      exact ⟨hx, .base⟩, .inr (by simp), fun r _ h => absurd h (by simp), Nat.le_refl 1, rfl⟩ ?_
    rintro m σ' H' ⟨fs, qs, y3, y6, hm, e', hS', hF', hQ', hfn, hfs, hqs, hx', hcl, hql, rfl⟩
    by_cases hq0 : qs = []
    · subst hq0
      refine ⟨false, fun H3 e3 Q' q' => r_ev (ev_v (v := .ref qL) rfl) (Ex.refl _) fun H4 e4 => ⟨false, .inl ⟨[], sq_of ((e3.trans e4) _ _ hQ'), rfl⟩, q' H4 e4⟩, (fun z => nomatch z), fun _ H3 e3 => ?_⟩
      have E3 := e'.trans e3
      have hmem : ∀ y, y ∈ fs ↔ Reach rows x y := fun y => ⟨fun h => (hfs y h).2, fun h => by
        induction h with
        | base => exact hx'.resolve_right (by simp)
        | step _ hr hy ih => exact (hcl _ hr ih _ hy).resolve_right (by simp)⟩
      have hiff : ∀ y, decide (y ∈ fs) = decide (y ∈ hangF rows x) := fun y => decide_eq_decide.mpr ((hmem y).trans (hang_reach hp.fwd).symm)
      refine s_retL (xs := (us.filter fun v => decide (nmV H v ∈ hangF rows x)).map fun v => v) (el_lcT (fun v => decide (nmV H v ∈ hangF rows x)) (fun v => v) (ev_v rfl) (ex_t E3 hS) (by omega) (fun _ => rfl) (fun v H4 e4 hv => ?_) fun v H4 e4 hv _ => ev_v rfl) fun p H4 hp4 e4 h4 => q p _ H4 (fresh_back E3 hp4) (E3.trans e4) h4 ?_
      · obtain ⟨i, hi, hvi⟩ := List.getElem_of_mem hv
        obtain ⟨r, hr, hrep⟩ := rowI (show us[i]? = some v by rw [List.getElem?_eq_getElem hi, hvi])
        rw [nmV_at hrep]
        obtain ⟨ra, rb, vo, rfl, hra, hrb, hvo⟩ := row_at hrep
        exact et_B (ev_is (ev_din (ev_v rfl) ((e3.trans e4) _ _ hF') (ev_ixT (j := 0) (ev_v rfl) (ev_cn 0) (st_of ((E3.trans e4) _ _ hra)) rfl)) (by rw [dk_val, hiff]))
      · rw [List.map_id']
        exact (reps_filter (hangF rows x) hR).mono (E3.trans e4)
    · obtain ⟨qs', y, rfl⟩ := snoc hq0
      refine ⟨true, fun H3 e3 Q' q' => r_ev (ev_v (v := .ref qL) rfl) (Ex.refl _) fun H4 e4 => ⟨true, .inl ⟨txs (qs' ++ [y]), sq_of ((e3.trans e4) _ _ hQ'), by unfold txs; rw [List.map_append]; cases qs' <;> rfl⟩, q' H4 e4⟩, fun _ H3 e3 => ⟨fun σ2 H2 => ∃ m', m' < m ∧ W m' σ2 H2, fun _ _ h => h, ?_⟩, fun z => nomatch z⟩
      have E3 := e'.trans e3
      refine r_asg (r_bm0 (r_ev (ev_v (v := .ref qL) rfl) (Ex.refl _) fun H4 e4 => ⟨.inl ⟨rfl, _, sq_of ((e3.trans e4) _ _ hQ')⟩, qL, txs (qs' ++ [y]), .str (tx y), rfl, rfl, (e3.trans e4) _ _ hQ', ?_, ?_⟩))
      · rw [txs_len, List.length_append]
        exact txs_get (by rw [List.getElem?_append_right (by show _ ≤ qs'.length + 1 - 1; omega)]; show [y][qs'.length + 1 - 1 - qs'.length]? = _; rw [show qs'.length + 1 - 1 - qs'.length = 0 by omega]; rfl)
      have hdl : (txs (qs' ++ [y])).dropLast = txs qs' := by
        unfold txs
        rw [List.map_append]
        exact List.dropLast_concat
      rw [hdl]
      have E4 := E3.trans e4
      have hS4 := (e3.trans e4) _ _ hS'
      have hF4 := (e3.trans e4) _ _ hF'
      have hQ4 := (e3.trans e4) _ _ hQ'
      have Eq : Ex H (upd H4 qL (.lst (txs qs'))) := E4.mut hqL0
      have hSq : (upd H4 qL (.lst (txs qs'))) dS = some (.dK kvs) := by rw [upd_ne hqS]; exact hS4
      have hFq : (upd H4 qL (.lst (txs qs'))) dF = some (.dK (dkS fs)) := by rw [upd_ne hqF]; exact hF4
      have hy := hqs y (by simp)
      rw [List.length_append] at hm hql
      have hm : m = 7 * (rows.length - fs.length) + (qs'.length + 1) := hm
      have hql : qs'.length + 1 ≤ 1 + 6 * fs.length := hql
      have hsub : fs.length ≤ rows.length := by
        have := nodup_sub hfn (fun z hz => (hfs z hz).1)
        unfold nmsF at this
        rwa [List.length_map] at this
      refine s_when (b := !decide (y ∈ fs)) (et_B (ev_is (ev_dni (ev_v rfl) hFq (ev_v rfl)) (by rw [dk_val]))) (fun hb H5 e5 => ?_) fun hb H5 e5 => ?_
      · rw [Bool.not_eq_true'] at hb
        have hyn := of_decide_eq_false hb
        have hnd2 : (fs ++ [y]).Nodup := by
          rw [List.nodup_append]
          refine ⟨hfn, by simp, fun c hc d hd => ?_⟩
          rw [List.mem_singleton.mp hd]
          exact fun e => hyn (e ▸ hc)
        have hsub2 : fs.length + 1 ≤ rows.length := by
          have := nodup_sub (a := fs ++ [y]) (b := nmsF rows) hnd2 (fun z hz => by
            rcases List.mem_append.mp hz with hz | hz
            · exact (hfs z hz).1
            · rw [List.mem_singleton.mp hz]
              exact hy.1)
          unfold nmsF at this
          rw [List.length_map, List.length_append] at this
          exact this
        refine q_dput (kvs := dkS fs) (e5 _ _ hFq) ev_c (ev_v rfl) (ev_v rfl) (by unfold dkS; rw [List.length_map]; omega) fun H6 e6 => ?_
        rw [dkS_put, if_neg hyn]
        have E6 : Ex H H6 := (Eq.trans e5).trans e6
        have hSd : (upd H6 dF (.dK (dkS (fs ++ [y])))) dS = some (.dK kvs) := by rw [upd_ne hSF]; exact (e5.trans e6) _ _ hSq
        have hQd : (upd H6 dF (.dK (dkS (fs ++ [y])))) qL = some (.lst (txs qs')) := by rw [upd_ne hqF.symm]; exact (e5.trans e6) _ _ upd_same
        have Ed : Ex H (upd H6 dF (.dK (dkS (fs ++ [y])))) := E6.mut hdF0
        obtain ⟨r, ra, rb, vo, hr, hrn, hval, hra, hrb⟩ := hrow y hy.1
        have hil := ins_len (hp.wf r hr)
        refine s_extW (ys := txs (insF r.1)) hQd (ev_v rfl) (fun H8 e8 Q' q' => r_call (r_cons (r_ev (ev_dget (ev_v rfl) (e8 _ _ hSd) (ev_v rfl) hval) (Ex.refl _) fun H9 e9 => r_nil ⟨ra, rb, r.1, [vo], rfl, (Ed.trans (e8.trans e9)) _ _ hra, (Ed.trans (e8.trans e9)) _ _ hrb, hp.wf r hr, fun p H10 e10 h10 => q' p H10 (e9.trans e10) h10⟩))) (by rw [txs_len, txs_len]; omega) fun H7 e7 => ?_
        have hFd : H7 dF = some (.dK (dkS (fs ++ [y]))) := e7 _ _ upd_same
        refine ⟨7 * (rows.length - (fs ++ [y]).length) + (qs' ++ insF r.1).length, ?_, fs ++ [y], qs' ++ insF r.1, _, _, rfl, (Ed.trans e7).mut hqL0, ?_, ?_, ?_, hnd2, ?_, ?_, ?_, ?_, ?_, rfl⟩
        · rw [List.length_append, List.length_append, hm]
          show 7 * (rows.length - (fs.length + 1)) + _ < _
          omega
        · rw [upd_ne hqS]
          exact e7 _ _ hSd
        · rw [upd_ne hqF]
          exact hFd
        · rw [upd_same]
          unfold txs
          rw [List.map_append]
        · intro z hz
          rcases List.mem_append.mp hz with hz | hz
          · exact hfs z hz
          · rw [List.mem_singleton.mp hz]
            exact hy
        · intro z hz
          rcases List.mem_append.mp hz with hz | hz
          · exact hqs z (List.mem_append_left _ hz)
          · exact ⟨hp.inn r hr z hz, .step (by rw [hrn]; exact hy.2) hr hz⟩
        · rcases hx' with h | h
          · exact .inl (List.mem_append_left _ h)
          · rcases List.mem_append.mp h with h | h
            · exact .inr (List.mem_append_left _ h)
            · exact .inl (List.mem_append_right _ h)
        · intro r' hr' hn z hz
          rcases List.mem_append.mp hn with hn | hn
          · rcases hcl r' hr' hn z hz with h | h
            · exact .inl (List.mem_append_left _ h)
            · rcases List.mem_append.mp h with h | h
              · exact .inr (List.mem_append_left _ h)
              · exact .inl (List.mem_append_right _ h)
          · have : r' = r := row_uniq hp.nd hr' hr ((List.mem_singleton.mp hn).trans hrn.symm)
            rw [this] at hz
            exact .inr (List.mem_append_right _ hz)
        · rw [List.length_append, List.length_append]
          show _ ≤ 1 + 6 * (fs.length + 1)
          omega
      · rw [Bool.not_eq_false'] at hb
        have hyf := of_decide_eq_true hb
        refine ⟨7 * (rows.length - fs.length) + qs'.length, by omega, fs, qs', _, _, rfl, Eq.trans e5, e5 _ _ hSq, e5 _ _ hFq, e5 _ _ upd_same, hfn, hfs, fun z hz => hqs z (List.mem_append_left _ hz), ?_, ?_, by omega, rfl⟩
        · rcases hx' with h | h
          · exact .inl h
          · rcases List.mem_append.mp h with h | h
            · exact .inr h
            · rw [List.mem_singleton.mp h]
              exact .inl hyf
        · intro r' hr' hn z hz
          rcases hcl r' hr' hn z hz with h | h
          · exact .inl h
          · rcases List.mem_append.mp h with h | h
            · exact .inr h
            · rw [List.mem_singleton.mp h]
              exact .inl hyf
end
end K50

set_option Elab.async false
set_option linter.all false
set_option maxRecDepth 100000
set_option maxHeartbeats 4000000
namespace K50
open PySem PySem.Spec PyProof.Rows L2 Evl My
def itD : It1 → D
  | .inl n => .int n
  | .inr l => .str l
def keyD (k : List It1) : D := .tup (k.map itD)
theorem nol_it (x : It1) : NoL (itD x) := by cases x <;> (unfold itD; rw [NoL]; trivial)
theorem nol_key (k : List It1) : NoL (keyD k) := by
  unfold keyD
  rw [NoL]
  exact nol_all fun x _ => nol_it x
theorem reps_it (H : Hp) : ∀ k : List It1, Reps H (k.map itV) (k.map itD)
  | [] => .nil
  | .inl n :: k => .cons (.int n) (reps_it H k)
  | .inr l :: k => .cons (.str l) (reps_it H k)
theorem it_reps {H : Hp} : ∀ {vs : List V} {k : List It1}, Reps H vs (k.map itD) → vs = k.map itV
  | vs, [], h => by cases h; rfl
  | vs, .inl n :: k, h => by
    cases h with
    | cons h r =>
      cases h
      rw [it_reps r]
      rfl
  | vs, .inr l :: k, h => by
    cases h with
    | cons h r =>
      cases h
      rw [it_reps r]
      rfl
theorem keys_at {H : Hp} : ∀ {xs : List V} {ks : List (List It1)}, Reps H xs (ks.map keyD) → ∃ ts : List TK, xs = ts.map (fun t => V.ref t.1) ∧ ts.map (·.2) = ks ∧ ∀ t ∈ ts, H t.1 = some (.tup (t.2.map itV))
  | xs, [], h => by
    cases h
    exact ⟨[], rfl, rfl, fun t h => absurd h (by simp)⟩
  | xs, k :: ks, h => by
    rw [List.map_cons] at h
    cases h with
    | @cons v _ vs _ h1 r1 =>
      obtain ⟨ts, a1, a2, a3⟩ := keys_at r1
      unfold keyD at h1
      cases h1 with
      | @tup a us _ e rs =>
        have := it_reps rs
        subst this
        refine ⟨(a, k) :: ts, by rw [a1]; rfl, by rw [List.map_cons, a2], fun t ht => ?_⟩
        rcases List.mem_cons.mp ht with rfl | ht
        · exact e
        · exact a3 t ht
theorem at_keys {H : Hp} : ∀ {ts : List TK}, (∀ t ∈ ts, H t.1 = some (.tup (t.2.map itV))) → Reps H (ts.map fun t => V.ref t.1) ((ts.map (·.2)).map keyD)
  | [], _ => .nil
  | t :: ts, h => .cons (.tup (h t (by simp)) (reps_it H t.2)) (at_keys fun u hu => h u (by simp [hu]))
section
variable {K : PySem.W.Frag} {σ : L2.St} {H : Hp} {te tl : TE} {tt : TT} {ds : List D}
/-- sorted(..) of a list of tuples of ints and texts -/
theorem ed_sortT {ks : List (List It1)} {sh : Nat → Bool} (h : EvD te σ H (.lst (ks.map keyD))) (hs : ∀ k ∈ ks, shOk sh 0 k = true ∧ k ≠ []) (hn : ks.length ≤ 100000) : EvD (tCB (rSortTA K) (tCons te tNil)) σ H (.lst ((sortK ks).map keyD)) := fun H1 e Q q =>
  h H1 e _ fun v H2 e2 r2 => by
    cases r2 with
    | @lst a xs _ ha rs =>
      obtain ⟨ts, h1, h2, h3⟩ := keys_at rs
      subst h1
      refine ⟨a, ts, sh, rfl, sq_of ha, fun t ht => ⟨st_of (h3 t ht), hs t.2 (by rw [← h2]; exact List.mem_map_of_mem ht)⟩, by rw [← List.length_map (f := fun t : TK => t.2), h2]; exact hn, fun ts' p hp hw hf => ?_⟩
      refine q (.ref p) _ (e2.trans (Ex.new hf)) ?_
      have hk : ts'.map (·.2) = sortK ks := sortK_unique (by rw [← h2]; exact hp.map _) (List.pairwise_map.mpr hw)
      rw [← hk]
      exact .lst upd_same (at_keys fun t ht => (Ex.new hf) _ _ (h3 t (hp.mem_iff.mp ht)))
theorem ed_tupL (h : EvD te σ H (.lst ds)) (hd : NoLL ds) : EvD (tCB (rTupS K) (tCons te tNil)) σ H (.tup ds) := fun H1 e Q q =>
  h H1 e _ fun v H2 e2 r2 => by
    cases r2 with
    | @lst a xs _ ha rs =>
      exact ⟨a, xs, rfl, .inl ⟨sq_of ha, fun l hl => q (.ref l) _ (e2.trans (Ex.new hl)) (.tup upd_same (rs.mono (Ex.new hl)))⟩⟩
/-- a comprehension over a new list of data -/
theorem ed_lcM {α : Type} {j : Nat} {vs : List Nat} (A B : α → D) (f : α → Bool) {l : List α} (h : EvD tl σ H (.lst (l.map A))) (hz : l.length ≤ 40000) (hw : ∀ x, wipe ((wipe σ vs).set j (some x)) vs = wipe σ vs) (hA : ∀ x ∈ l, NoL (A x)) (hB : ∀ x ∈ l, NoL (B x))
    (ht : ∀ x z H1, Ex H H1 → z ∈ l → Rep H1 x (A z) → EvT tt ((wipe σ vs).set j (some x)) H1 (f z)) (he : ∀ x z H1, Ex H H1 → z ∈ l → Rep H1 x (A z) → f z = true → EvD te ((wipe σ vs).set j (some x)) H1 (B z)) : EvD (tLc (iList K tl) (gName j) tt te vs) σ H (.lst ((l.filter f).map B)) := by
  intro H0 e Q q
  refine h H0 e _ fun v H1 e1 r1 => ?_
  cases r1 with
  | @lst a xs _ ha rs =>
    refine ⟨a, rfl, ⟨xs, sq_of ha⟩, fun Dl hD => ?_⟩
    have hxl := rs.len
    rw [List.length_map] at hxl
    refine ⟨fun i m H' => m = xs.length - i ∧ i ≤ xs.length ∧ Ex H1 H' ∧ ∃ us, H' Dl = some (.lst us) ∧ us.length ≤ i ∧ Reps H' us (((l.take i).filter f).map B), ⟨xs.length, rfl, Nat.zero_le _, Ex.new hD, [], upd_same, Nat.le_refl 0, .nil⟩, ?_⟩
    rintro i m H' ⟨rfl, hi, ex, us, hl, hul, hr⟩
    by_cases hlt : i < xs.length
    · have gx : xs[i]? = some xs[i] := List.getElem?_eq_getElem hlt
      obtain ⟨d, hd, hrep⟩ := rs.get' gx
      rw [List.getElem?_map] at hd
      obtain ⟨z, hz', rfl⟩ := Option.map_eq_some_iff.mp hd
      have hzm := List.mem_of_getElem? hz'
      refine .inr ⟨⟨xs, xs[i], sq_of (ex a _ ha), gx⟩, fun H' => Ex H1 H' ∧ ∃ us, H' Dl = some (.lst us) ∧ us.length ≤ i + 1 ∧ Reps H' us (((l.take (i + 1)).filter f).map B), fun H2 p => ⟨xs.length - (i + 1), by omega, rfl, hlt, p⟩, fun x H2 y => ?_⟩
      obtain ⟨rfl, y⟩ := y
      have ex' : x = xs[i] := Option.some.inj ((y xs (sq_of (ex a _ ha))).symm.trans gx)
      subst ex'
      refine ⟨hw _, ?_⟩
      refine ht _ z H1 (e.trans e1) hzm hrep _ ex _ fun H3 e3 => ?_
      have E3 := ex.trans e3
      have nB : NoLL (((l.take i).filter f).map B) := nol_all fun x hx => hB x (List.mem_of_mem_take (List.mem_filter.mp hx).1)
      rw [List.take_add_one, hz', List.filter_append]
      cases hf : f z with
      | false =>
        rw [if_neg (by decide)]
        refine ⟨E3, us, e3 Dl _ hl, by omega, ?_⟩
        rw [show (some z).toList.filter f = [] by simp [hf], List.append_nil]
        exact hr.mono e3
      | true =>
        rw [if_pos rfl]
        refine he _ z H1 (e.trans e1) hzm hrep hf _ E3 _ fun v H4 e4 r4 => ⟨us, e4 Dl _ (e3 Dl _ hl), sz_lt (by omega), (E3.trans e4).mut hD, us ++ [v], upd_same, by rw [List.length_append]; show _ + 1 ≤ _; omega, ?_⟩
        have kt : ∀ b ws, H4 b = some (.tup ws) → upd H4 Dl (.lst (us ++ [v])) b = some (.tup ws) := fun b ws hb => by
          rw [upd_ne (ne_kind hb (e4 Dl _ (e3 Dl _ hl)) (fun z => nomatch z))]
          exact hb
        rw [show (some z).toList.filter f = [z] by simp [hf], List.map_append]
        exact (Reps.keepT kt nB (hr.mono (e3.trans e4))).append (.cons (Rep.keepT kt (hB z hzm) r4) .nil)
    · have e0 : i = xs.length := by omega
      subst e0
      rw [List.take_of_length_le (by omega)] at hr
      exact .inl ⟨⟨xs, sq_of (ex a _ ha), Nat.le_refl _⟩, q (.ref Dl) H' (e1.trans ex) (.lst hl hr)⟩
end
/-! what the two tell -/
def oneK (o : On) : List It1 := [.inr o.1, .inl (o.2 : Nat)]
theorem one_key (o : On) : oneD o = keyD (oneK o) := rfl
def tbyD (rows : List Row) (x : L) : D := .tup ((sortK ((downF rows x).map fun r => oneK r.2)).map keyD)
def oFile : L := [102, 105, 108, 101]
def oAll : L := [97, 108, 108]
def isSrc (r : Row) : Bool := decide (r.1.op = oFile) || decide (r.1.op = oAll)
def srcF (r : Row) : L × L := (r.1.op, (r.1.args.headD (.s, [])).2)
def addP (acc : List (L × L)) (p : L × L) : List (L × L) := if p ∈ acc then acc else acc ++ [p]
def dedP (l : List (L × L)) : List (L × L) := l.foldl addP []
def keyP (p : L × L) : List It1 := [.inr p.1, .inr p.2]
def srcD (rows : List Row) (x : L) : D := .tup ((sortK ((dedP (((downF rows x).filter isSrc).map srcF)).map keyP)).map keyD)
theorem src_arg {r : Row} (hw : Wf r.1) (h : isSrc r = true) : ∃ k, r.1.args = [(k, (srcF r).2)] ∧ (k = .p ∨ k = .d) := by
  have hs := hw.shp
  unfold isSrc at h
  rw [Bool.or_eq_true, decide_eq_true_eq, decide_eq_true_eq] at h
  have hk : ∃ k, r.1.args.map (·.1) = [k] ∧ (k = Kd.p ∨ k = Kd.d) := by
    rcases h with h | h
    · rw [h] at hs
      refine ⟨.p, ?_, .inl rfl⟩
      have : shapeF oFile r.1.args.length = some [Kd.p] := by
        unfold shapeF
        rw [if_neg (by decide)]
        rfl
      exact (Option.some.inj (this.symm.trans hs)).symm
    · rw [h] at hs
      refine ⟨.d, ?_, .inr rfl⟩
      have : shapeF oAll r.1.args.length = some [Kd.d] := by
        unfold shapeF
        rw [if_neg (by decide)]
        rfl
      exact (Option.some.inj (this.symm.trans hs)).symm
  obtain ⟨k, hk, hn⟩ := hk
  unfold srcF
  match ha : r.1.args, hk with
  | [(k', t)], hk =>
    have : k' = k := by simpa using hk
    subst this
    exact ⟨k', rfl, hn⟩
  | [], hk => simp at hk
  | _ :: _ :: _, hk => simp at hk
theorem down_mem {rows : List Row} {x : L} {r : Row} (h : r ∈ downF rows x) : r ∈ rows := (List.mem_filter.mp h).1
theorem down_len (rows : List Row) (x : L) : (downF rows x).length ≤ rows.length := List.length_filter_le _ _
section
variable {P : Program} {w : World} {K : PySem.W.Frag} {mg : Str → Option Value} {base : Heap}
def sp_on (K : PySem.W.Frag) (g : List Row → L → D) : Sp := fun vs H Q _ => ∃ (a : Addr) (us : List V) (rows : List Row) (x : L), vs = [.ref a, .str (tx x)] ∧ SqT K H a us ∧ Reps H us (rows.map stD) ∧ POk rows ∧ x ∈ nmsF rows ∧ ∀ v H', Ex H H' → Rep H' v (g rows x) → Q v H'
theorem ed_below {σ : L2.St} {H : Hp} {i j : Nat} {a : Addr} {us : List V} {rows : List Row} {x : L} (h1 : σ[i]? = some (some (.ref a))) (h2 : σ[j]? = some (some (.str (tx x)))) (hS : SqT K H a us) (hR : Reps H us (rows.map stD)) (hp : POk rows) (hx : x ∈ nmsF rows) : EvD (tCall (sp_below K) [] E0 (tCons (tVar i) (tCons (tVar j) tNil))) σ H (.lst ((downF rows x).map stD)) := fun H1 e Q q =>
  r_call (r_cons (r_var h1 (r_cons (r_var h2 (r_nil ⟨a, us, rows, x, rfl, ex_t e hS, hR.mono e, hp, hx, fun p ws H2 hp2 e2 h3 r3 => q (.ref p) H2 e2 (.lst h3 r3)⟩)))))
theorem ed_row3 {σ : L2.St} {H : Hp} {j : Nat} {v : V} {r : Row} (hv : σ[j]? = some (some v)) (h : Rep H v (stD r)) : EvD (tOp (rIxT K) (tVar j) (tC (.int 3))) σ H (oneD r.2) := by
  obtain ⟨ra, rb, vo, rfl, hra, hrb, hvo⟩ := row_at h
  exact evd_v (ev_ixT (j := 3) (ev_v hv) (ev_cn 3) (st_of hra) rfl) hvo
theorem tby_end {te : TE} {σ : L2.St} {H : Hp} {rows : List Row} {x : L} (hp : POk rows) (h : EvD te σ H (.lst (((downF rows x).filter fun _ => true).map fun r => oneD r.2))) : EvD (tCB (rTupS K) (tCons (tCB (rSortTA K) (tCons te tNil)) tNil)) σ H (tbyD rows x) := by
  refine ed_tupL (ed_sortT (sh := fun i => i == 0) (ks := (downF rows x).map fun r => oneK r.2) ?_ (fun k hk => ?_) ?_) (nol_all fun k _ => nol_key k)
  · rw [List.map_map]
    rw [show (downF rows x).filter (fun _ => true) = downF rows x from List.filter_eq_self.mpr fun _ _ => rfl] at h
    exact h
  · obtain ⟨r, hr, rfl⟩ := List.mem_map.mp hk
    exact ⟨rfl, fun z => nomatch z⟩
  · rw [List.length_map]
    have := down_len rows x
    have := hp.few
    omega
abbrev s_told_by : Stmt := topS 23
theorem sc_told_by : FnScope ["told", "name", "step"] ["told", "name"] (defScope s_told_by) := ⟨rfl, rfl, rfl, by decide +kernel, rfl, by decide +kernel, by decide +kernel⟩
theorem fn_told_by {f : Addr} {fd : FuncData} {k : Nat} (F : Fun K "told_by" "told_by" s_told_by f fd) (N : Nb mg) (C_below : Cal P w K mg base k "below" ["told", "name"] (sp_below K)) : FnOk P w K mg base CX0 (k + 1) f fd ["told", "name"] (sp_on K tbyD) := by
  refine F.ok sc_told_by (fun vs H Q E h => ?_) (fun cdv A outer s H vs Q E hr h => ?_)
  · obtain ⟨_, _, _, _, rfl, _⟩ := h
    rfl
  · obtain ⟨a, us, rows, x, rfl, hS, hR, hp, hx, q⟩ := h
    refine ⟨_, (pss_one (ps_ret (pe_callTy call_tuple_of (by rfl) N.tuple PyProof.Rows.boot_tuple (pa_cons (pe_callB cr_sortedTA (by rfl) N.sorted PyProof.Rows.boot_sorted (pa_cons (pe_lc (own := [("step", 2)]) (by rfl) sc_told_by.nd (pi_list (pe_cal C_below hr (pa_cons (pv 0) (pa_cons (pv 1) pa_nil)))) (blkOk_by (own := [("step", 2)]) (N := ["told", "name", "step"]) (sc := defScope s_told_by) (by decide +kernel)) (fun _ _ _ _ _ => (pg_name (i := 2) sc_told_by.nd rfl (Or.inl rfl))) (fun _ _ _ _ _ => pts_nil) (fun _ _ _ _ _ => (pe_ix (r := rIxT K) ix_tup (pv 2) pe_int (fun _ _ => rfl)))) pa_nil)) pa_nil)))), ?_⟩
    exact r_ret (tby_end hp (ed_lcM stD (fun r => oneD r.2) (fun _ => true) (ed_below rfl rfl hS hR hp hx) (by have := down_len rows x; have := hp.few; omega) (fun _ => rfl) (fun r _ => nol_st r) (fun r _ => nol_one _) (fun v r H1 e1 hr1 h1 => et_yes) (fun v r H1 e1 hr1 h1 _ => ed_row3 rfl h1)) H (Ex.refl _) _ fun v H1 e1 r1 => q v H1 e1 r1)
end
end K50

set_option Elab.async false
set_option linter.all false
set_option maxRecDepth 100000
set_option maxHeartbeats 4000000
namespace K50
open PySem PySem.Spec PyProof.Rows L2 Evl My
def mkP (p : L × L) : List Key := [.inr (tx p.1), .inr (tx p.2)]
theorem mkP_inj {p q : L × L} : mkP p = mkP q ↔ p = q := ⟨fun h => by
    have h1 := (List.cons.inj h).1
    have h2 := (List.cons.inj (List.cons.inj h).2).1
    exact Prod.ext (inr_tx.mp h1) (inr_tx.mp h2), fun h => by rw [h]⟩
theorem mkP_key (p : L × L) : (mkP p).map kI = keyP p := rfl
def dtP (l : List (L × L)) : List (List Key × V) := l.map fun p => (mkP p, V.bl true)
theorem dtP_any (l : List (L × L)) (p : L × L) : (dtP l).any (fun kv => decide (kv.1 = mkP p)) = decide (p ∈ l) := by
  unfold dtP
  rw [List.any_map, Bool.eq_iff_iff, List.any_eq_true, decide_eq_true_eq]
  constructor
  · rintro ⟨k, hk, h⟩
    have := mkP_inj.mp (of_decide_eq_true h)
    rw [← this]
    exact hk
  · exact fun h => ⟨p, h, decide_eq_true rfl⟩
theorem dtP_put (l : List (L × L)) (p : L × L) : putK (dtP l) (mkP p) (V.bl true) = dtP (addP l p) := by
  unfold addP
  by_cases h : p ∈ l
  · have e : (dtP l).any (fun kv => decide (kv.1 = mkP p)) = true := by rw [dtP_any, decide_eq_true h]
    unfold putK
    rw [if_pos e, if_pos h]
    have : ∀ l : List (L × L), (dtP l).map (fun kv => if kv.1 = mkP p then (kv.1, V.bl true) else kv) = dtP l := by
      intro l
      unfold dtP
      rw [List.map_map]
      refine List.map_congr_left fun k _ => ?_
      show (if mkP k = mkP p then (mkP k, V.bl true) else (mkP k, V.bl true)) = _
      rw [ite_self]
    exact this l
  · have e : (dtP l).any (fun kv => decide (kv.1 = mkP p)) = false := by rw [dtP_any, decide_eq_false h]
    unfold putK
    rw [e, if_neg (by decide), if_neg h]
    unfold dtP
    rw [List.map_append]
    rfl
theorem add_len' (acc : List (L × L)) (p : L × L) : (addP acc p).length ≤ acc.length + 1 := by
  unfold addP
  split
  · omega
  · rw [List.length_append]
    exact Nat.le_refl _
theorem dedP_len : ∀ (l acc : List (L × L)), (l.foldl addP acc).length ≤ acc.length + l.length
  | [], acc => Nat.le_refl _
  | p :: l, acc => by
    have h1 := dedP_len l (addP acc p)
    have h2 := add_len' acc p
    rw [List.foldl_cons, List.length_cons]
    omega
theorem dedP_snoc (l : List (L × L)) (p : L × L) : dedP (l ++ [p]) = addP (dedP l) p := by
  unfold dedP
  rw [List.foldl_append]
  rfl
theorem src_test {K : PySem.W.Frag} {σ : L2.St} {H : Hp} {tj : TE} {l : L} (h : Ev tj σ H (.str (tx l))) : Ev (tOp (rIn K false) tj (tTup (tCons (tC (.str "file")) (tCons (tC (.str "all")) tNil)))) σ H (.bl (decide (l = oFile) || decide (l = oAll))) := by
  rw [← inV_str]
  exact ev_inU h (eu_tup (ea_cons (ev_cs oFile (by decide +kernel)) (ea_cons (ev_cs oAll (by decide +kernel)) ea_nil)) (by show 2 ≤ 100000; decide)) rfl rfl
section
variable {P : Program} {w : World} {K : PySem.W.Frag} {mg : Str → Option Value} {base : Heap}
abbrev s_sources : Stmt := topS 24
theorem sc_sources : FnScope ["told", "name", "marks", "step"] ["told", "name"] (defScope s_sources) := ⟨rfl, rfl, rfl, by decide +kernel, rfl, by decide +kernel, by decide +kernel⟩
/- 0 told, 1 name, 2 marks, 3 step -/
theorem fn_sources {f : Addr} {fd : FuncData} {k : Nat} (F : Fun K "sources" "sources" s_sources f fd) (N : Nb mg) (C_below : Cal P w K mg base k "below" ["told", "name"] (sp_below K)) : FnOk P w K mg base CX0 (k + 1) f fd ["told", "name"] (sp_on K srcD) := by
  refine F.ok sc_sources (fun vs H Q E h => ?_) (fun cdv A outer s H vs Q E hr h => ?_)
  · obtain ⟨_, _, _, _, rfl, _⟩ := h
    rfl
  · obtain ⟨a, us, rows, x, rfl, hS, hR, hp, hx, q⟩ := h
    refine ⟨_, (pss_cons (ps_setDcT (i := 2) (own := [("step", 3)]) (hu_of hr) (by rfl) sc_sources.nd rfl rfl (sw_trueD rfl rfl rfl (by decide +kernel)) (pi_list (pe_cal C_below hr (pa_cons (pv 0) (pa_cons (pv 1) pa_nil)))) (blkOk_by (own := [("step", 3)]) (N := ["told", "name", "marks", "step"]) (sc := defScope s_sources) (by decide +kernel)) (fun _ _ _ _ _ => (pg_name (i := 3) sc_sources.nd rfl (Or.inl rfl))) (fun _ _ _ _ _ => (pts_one (pt_cmpR (r := rIn K false) op_in_seq (pe_ix (r := rIxT K) ix_tup (pv 3) pe_int (fun _ _ => rfl)) (pe_tup (pa_cons pe_str (pa_cons pe_str pa_nil))) rfl))) (fun _ _ _ _ _ => (pe_tup (pa_cons (pe_ix (r := rIxT K) ix_tup (pv 3) pe_int (fun _ _ => rfl)) (pa_cons (pe_ix (r := rIxT K) ix_tup (pe_ix (r := rIxT K) ix_tup (pv 3) pe_int (fun _ _ => rfl)) pe_int (fun _ _ => rfl)) pa_nil)))) (fun _ _ _ _ _ => pe_bl))
      (pss_one (ps_ret (pe_callTy call_tuple_of (by rfl) N.tuple PyProof.Rows.boot_tuple (pa_cons (pe_callB (cr_sortedTD rfl) (by rfl) N.sorted PyProof.Rows.boot_sorted (pa_cons (pv 2) pa_nil)) pa_nil))))), ?_⟩
    have hdl := down_len rows x
    have hfew := hp.few
    refine r_asg (ed_below rfl rfl hS hR hp hx H (Ex.refl _) _ fun v H1 e1 r1 => ?_)
    cases r1 with
    | @lst l ws _ hl rs =>
      have hwl := rs.len
      rw [List.length_map] at hwl
      refine ⟨l, rfl, ⟨ws, sq_of hl⟩, fun D hD => ?_⟩
      let prs : Nat → List (L × L) := fun i => (((downF rows x).take i).filter isSrc).map srcF
      refine ⟨fun i m H' => m = ws.length - i ∧ i ≤ ws.length ∧ Ex H1 H' ∧ H' D = some (.dT (dtP (dedP (prs i)))), ⟨ws.length, rfl, Nat.zero_le _, Ex.new hD, upd_same⟩, ?_⟩
      rintro i m H' ⟨rfl, hi, ex, hd⟩
      by_cases hlt : i < ws.length
      · have gx : ws[i]? = some ws[i] := List.getElem?_eq_getElem hlt
        obtain ⟨d, hdd, hrep⟩ := rs.get' gx
        rw [List.getElem?_map] at hdd
        obtain ⟨r, hr, rfl⟩ := Option.map_eq_some_iff.mp hdd
        have hrm := List.mem_of_getElem? hr
        have hw := hp.wf r (down_mem hrm)
        have hprs : prs (i + 1) = prs i ++ (if isSrc r = true then [srcF r] else []) := by
          show (((downF rows x).take (i + 1)).filter isSrc).map srcF = _
          rw [List.take_add_one, hr, List.filter_append, List.map_append]
          congr 1
          cases hs : isSrc r <;> simp [hs]
        refine .inr ⟨⟨ws, ws[i], sq_of (ex l _ hl), gx⟩, fun H' => Ex H1 H' ∧ H' D = some (.dT (dtP (dedP (prs (i + 1))))), fun H2 p => ⟨ws.length - (i + 1), by omega, rfl, hlt, p⟩, fun y H2 hy => ?_⟩
        obtain ⟨rfl, hy⟩ := hy
        have ey : y = ws[i] := Option.some.inj ((hy ws (sq_of (ex l _ hl))).symm.trans gx)
        subst ey
        obtain ⟨ra, rb, vo, hv, hra, hrb, hvo⟩ := row_at hrep
        rw [hv]
        refine ⟨rfl, (et_test (src_test (ev_ixT (j := 1) (ev_v rfl) (ev_cn 1) (st_of (ex _ _ hra)) rfl))) H2 (Ex.refl _) _ fun H3 e3 => ?_⟩
        have E3 := ex.trans e3
        show (if isSrc r = true then _ else _)
        cases hs : isSrc r with
        | false =>
          rw [if_neg Bool.false_ne_true]
          rw [hs, if_neg Bool.false_ne_true, List.append_nil] at hprs
          exact ⟨E3, by rw [hprs]; exact e3 _ _ hd⟩
        | true =>
          rw [if_pos rfl]
          rw [hs, if_pos rfl] at hprs
          obtain ⟨kk, hargs, hkn⟩ := src_arg hw hs
          rw [hargs] at hrb
          have hav : argV (kk, (srcF r).2) = .str (tx (srcF r).2) := by
            unfold argV
            rw [if_neg (by rcases hkn with h | h <;> (rw [h]; exact fun z => nomatch z))]
          refine eu_tup (ea_cons (ev_ixT (j := 1) (ev_v rfl) (ev_cn 1) (st_of (E3 _ _ hra)) rfl) (ea_cons (ev_ixT (j := 0) (ev_ixT (j := 2) (ev_v rfl) (ev_cn 2) (st_of (E3 _ _ hra)) rfl) (ev_cn 0) (st_of (E3 _ _ hrb)) rfl) ea_nil)) (by show 2 ≤ 100000; decide) H3 (Ex.refl _) _ fun kb H4 _ e4 h4 => ?_
          refine r_c ⟨dtP (dedP (prs i)), mkP (srcF r), kb, rfl, ?_, e4 _ _ (e3 _ _ hd), sz_lt ?_, (E3.trans e4).mut hD, ?_⟩
          · rw [h4, hav]
            rfl
          · unfold dtP
            rw [List.length_map]
            have h1 := dedP_len (prs i) []
            have h2 : (prs i).length ≤ i := by
              show ((((downF rows x).take i).filter isSrc).map srcF).length ≤ i
              rw [List.length_map]
              refine Nat.le_trans (List.length_filter_le _ _) ?_
              rw [List.length_take]
              omega
            unfold dedP
            rw [List.length_nil] at h1
            omega
          · rw [upd_same, dtP_put, hprs, dedP_snoc]
      · have e0 : i = ws.length := by omega
        subst e0
        refine .inl ⟨⟨ws, sq_of (ex l _ hl), Nat.le_refl _⟩, ?_⟩
        have hpe : prs ws.length = ((downF rows x).filter isSrc).map srcF := by
          show (((downF rows x).take ws.length).filter isSrc).map srcF = _
          rw [List.take_of_length_le (by omega)]
        rw [hpe] at hd
        generalize hq : dedP (((downF rows x).filter isSrc).map srcF) = pp at hd
        have hpl : pp.length ≤ 40 := by
          have h1 := dedP_len (((downF rows x).filter isSrc).map srcF) []
          rw [List.length_map] at h1
          have h2 := List.length_filter_le isSrc (downF rows x)
          rw [← hq]
          unfold dedP
          rw [List.length_nil] at h1
          omega
        have hsort : EvD (tCB rSortTD (tCons (tVar 2) tNil)) [some (.ref a), some (.str (tx x)), some (.ref D), none] H' (.lst ((sortK (pp.map keyP)).map keyD)) := fun H5 e5 Q' q' => by
          refine r_cb (r_cons (r_var rfl (r_nil ⟨D, dtP pp, fun _ => true, rfl, .inl (e5 _ _ hd), fun t ht => ?_, ?_, fun ts' p h1 h2 h3 h4 => ?_⟩)))
          · obtain ⟨z, _, rfl⟩ := List.mem_map.mp ht
            exact ⟨rfl, fun z => nomatch z⟩
          · unfold dtP
            rw [List.length_map]
            omega
          · refine q' (.ref p) _ (Ex.new h4) ?_
            have hk : ts'.map (·.2) = sortK (pp.map keyP) := sortK_unique (by
              have e : (dtP pp).map (fun t => t.1.map kI) = pp.map keyP := by
                unfold dtP
                rw [List.map_map]
                exact List.map_congr_left fun z _ => mkP_key z
              rw [← e]
              exact h1) (List.pairwise_map.mpr h2)
            rw [← hk]
            exact .lst upd_same (at_keys fun t ht => (Ex.new h4) _ _ (h3 t ht))
        refine r_ret (ed_tupL hsort (nol_all fun k _ => nol_key k) H' (Ex.refl _) _ fun v H5 e5 r5 => q v H5 ((e1.trans ex).trans e5) ?_)
        unfold srcD
        rw [hq]
        exact r5
end
end K50

set_option Elab.async false
set_option linter.all false
set_option maxRecDepth 100000
set_option maxHeartbeats 4000000
namespace K50
open PySem PySem.Spec PyProof.Rows L2 Evl My
section
variable {P : Program} {w : World} {K : PySem.W.Frag} {mg : Str → Option Value} {base : Heap}
abbrev s_law_mixed : Stmt := topS 26
theorem sc_law_mixed : FnScope ["number", "place", "first", "second", "third"] ["number", "place"] (defScope s_law_mixed) := ⟨rfl, rfl, rfl, by decide +kernel, rfl, by decide +kernel, by decide +kernel⟩
/- 0 number, 1 place, 2 first, 3 second, 4 third -/
def ok_mixed_ (vs : List V) (H : Hp) (z : V) : Prop := ∃ n p : Nat, vs = [.int (n : Int), .int (p : Int)] ∧ z = .int (mixF n p : Nat)
theorem fn_mixed_ {f : Addr} {fd : FuncData} {k : Nat} (F : Fun K "_law_mixed" "_law_mixed" s_law_mixed f fd) (N : Nb mg) : FnOk P w K mg base CX0 (k + 1) f fd ["number", "place"] (spV ok_mixed_) := by
  refine F.ok sc_law_mixed (fun vs H Q E h => ?_) (fun cdv A outer s H vs Q E hr h => ?_)
  · obtain ⟨_, ⟨_, _, rfl, _⟩, _⟩ := h
    rfl
  · obtain ⟨_, ⟨n, p, rfl, hz⟩, q⟩ := h
    rw [hz] at q
    refine ⟨_, (pss_cons (ps_set (i := 2) sc_law_mixed.nd rfl (Or.inl rfl) (pe_op op_mod (pe_callTy call_int1 (by rfl) N.int PyProof.Rows.boot_int (pa_cons (pe_op op_add (pe_op op_add (pe_op op_mul (pv 0) pe_int) (pe_op op_mul (pv 1) pe_int)) pe_int) pa_nil)) pe_int))
      (pss_cons (ps_set (i := 3) sc_law_mixed.nd rfl (Or.inl rfl) (pe_op op_mod (pe_callTy call_int1 (by rfl) N.int PyProof.Rows.boot_int (pa_cons (pe_op op_add (pe_op op_add (pe_op op_mulW (pv 2) (pv 2)) (pe_op op_mul pe_int (pv 2))) (pv 1)) pa_nil)) pe_int))
      (pss_cons (ps_set (i := 4) sc_law_mixed.nd rfl (Or.inl rfl) (pe_op op_mod (pe_callTy call_int1 (by rfl) N.int PyProof.Rows.boot_int (pa_cons (pe_op op_add (pe_op op_mulW (pv 3) (pv 3)) (pv 2)) pa_nil)) pe_int))
      (pss_one (ps_ret (pe_op op_add (pe_op op_mulW (pv 3) pe_int) (pv 4))))))), ?_⟩
    have l1 : (n * 48271 + p * 69621 + 11) % m89 < 2 ^ 89 := Nat.lt_trans (Nat.mod_lt _ (by decide)) (by decide)
    refine q_asg (v := .int (((n * 48271 + p * 69621 + 11) % m89 : Nat) : Int)) (ev_op (ev_int (ev_op (ev_op (ev_op (ev_v rfl) (ev_cn 48271) (rv_mulN (.inr (by decide)))) (ev_op (ev_v rfl) (ev_cn 69621) (rv_mulN (.inr (by decide)))) rv_addN) (ev_cn 11) rv_addN)) (ev_cn m89) (rv_modN (by decide))) fun H1 e1 => ?_
    unfold mixF at q
    generalize (n * 48271 + p * 69621 + 11) % m89 = a at l1 q ⊢
    have l2 : (a * a + 7 * a + p) % m107 < 2 ^ 107 := Nat.lt_trans (Nat.mod_lt _ (by decide)) (by decide)
    refine q_asg (v := .int (((a * a + 7 * a + p) % m107 : Nat) : Int)) (ev_op (ev_int (ev_op (ev_op (ev_op (ev_v rfl) (ev_v rfl) (rv_mulWN l1 l1 (by decide) (by decide) (by decide))) (ev_op (ev_cn 7) (ev_v rfl) (rv_mulN (.inl (by decide)))) rv_addN) (ev_v rfl) rv_addN)) (ev_cn m107) (rv_modN (by decide))) fun H2 e2 => ?_
    dsimp only at q
    generalize (a * a + 7 * a + p) % m107 = b at l2 q ⊢
    refine q_asg (v := .int (((b * b + a) % m89 : Nat) : Int)) (ev_op (ev_int (ev_op (ev_op (ev_v rfl) (ev_v rfl) (rv_mulWN l2 l2 (by decide) (by decide) (by decide))) (ev_v rfl) rv_addN)) (ev_cn m89) (rv_modN (by decide))) fun H3 e3 => ?_
    exact s_ret (ev_op (ev_op (ev_v rfl) (ev_cn m89) (rv_mulWN (m := 89) l2 (by decide) (by decide) (by decide) (by decide))) (ev_v rfl) rv_addN) fun H4 e4 => q H4 (((e1.trans e2).trans e3).trans e4)
abbrev s_law_rest : Stmt := topS 27
theorem sc_law_rest : FnScope ["script", "place", "fills", "number"] ["script", "place", "fills"] (defScope s_law_rest) := ⟨rfl, rfl, rfl, by decide +kernel, rfl, by decide +kernel, by decide +kernel⟩
/- 0 script, 1 place, 2 fills, 3 number -/
def ok_rest_ (K : PySem.W.Frag) (vs : List V) (H : Hp) (z : V) : Prop := ∃ (sc : Addr) (xs : List Int) (p f : Nat), vs = [.ref sc, .int (p : Int), .int (f : Int)] ∧ SqL K H sc (xs.map V.int) ∧ z = .int (restF xs p f : Nat)
theorem fn_rest_ {f : Addr} {fd : FuncData} {k : Nat} (F : Fun K "_law_rest" "_law_rest" s_law_rest f fd) (N : Nb mg) (C_law_mixed : Cal P w K mg base k "_law_mixed" ["number", "place"] (spV ok_mixed_)) : FnOk P w K mg base CX0 (k + 1) f fd ["script", "place", "fills"] (spV (ok_rest_ K)) := by
  refine F.ok sc_law_rest (fun vs H Q E h => ?_) (fun cdv A outer s H vs Q E hr h => ?_)
  · obtain ⟨_, ⟨_, _, _, _, rfl, _⟩, _⟩ := h
    rfl
  · obtain ⟨_, ⟨sc, xs, p, f, rfl, hS, hz⟩, q⟩ := h
    rw [hz] at q
    refine ⟨_, (pss_cons (ps_set (i := 3) sc_law_rest.nd rfl (Or.inl rfl) pe_int)
      (pss_cons (ps_if (pt_cmpR op_gt (pe_callB call_len_seq (by rfl) N.len PySem.boot_len (pa_cons (pv 0) pa_nil)) pe_int (nomark _)) (pss_one (ps_set (i := 3) sc_law_rest.nd rfl (Or.inl rfl) (pe_callTy call_int1 (by rfl) N.int PyProof.Rows.boot_int (pa_cons (pe_ix ix_list (pv 0) (pe_op op_mod (pe_callTy call_int1 (by rfl) N.int PyProof.Rows.boot_int (pa_cons (pv 1) pa_nil)) (pe_callB call_len_seq (by rfl) N.len PySem.boot_len (pa_cons (pv 0) pa_nil))) (fun _ _ => rfl)) pa_nil)))) pss_nil)
      (pss_cons (ps_if (pt_cmpR op_lt (pv 3) pe_int (nomark _)) (pss_one (ps_set (i := 3) sc_law_rest.nd rfl (Or.inl rfl) (pe_op op_sub pe_int (pe_op op_mul pe_int (pv 3))))) pss_nil)
      (pss_cons (ps_if (PW.pt (pw_and (pt_cmpR op_eq (pv 2) pe_int (nomark _)) (pw_and (pt_cmpR op_lt (pv 1) (pe_callB call_len_seq (by rfl) N.len PySem.boot_len (pa_cons (pv 0) pa_nil)) (nomark _)) (pw_and1 (pt_cmpR op_ge (pv 3) (pe_op op_pow pe_int pe_int) (nomark _)))))) (pss_one (ps_ret (pe_op op_sub (pv 3) (pe_op op_pow pe_int pe_int)))) pss_nil)
      (pss_one (ps_ret (pe_cal C_law_mixed hr (pa_cons (pe_op op_add (pv 3) (pe_op op_mul (pv 2) pe_int)) (pa_cons (pv 1) pa_nil))))))))), ?_⟩
    have hlen : ∀ σ' H', Ex H H' → σ'[0]? = some (some (.ref sc)) → Ev (tCB (rLenS K) (tCons (tVar 0) tNil)) σ' H' (.int (xs.length : Int)) := fun σ' H' e' s' => by
      have := ev_len (K := K) (ta := tVar 0) (ev_v s') (ex_l e' hS)
      rw [List.length_map] at this
      exact this
    obtain ⟨i0, hi0⟩ : ∃ i0 : Int, i0 = if 0 < xs.length then xs.getD (p % xs.length) 0 else 0 := ⟨_, rfl⟩
    have hn : (if 0 < xs.length then absF (xs.getD (p % xs.length) 0) else 0) = absF i0 := by
      rw [hi0]
      split <;> rfl
    unfold restF at q
    rw [hn] at q
    refine q_asg (ev_cn 0) fun H1 e1 => ?_
    refine q_ifAsg (v := .int i0) (b := decide ((0 : Int) < (xs.length : Int))) (et_test (ev_op (hlen _ _ e1 rfl) (ev_cn 0) rv_I0)) (fun hb => ?_) (fun hb => ?_) fun H2 e2 => ?_
    · have h0 : 0 < xs.length := by have := of_decide_eq_true hb; omega
      rw [if_pos h0] at hi0
      have hj : p % xs.length < xs.length := Nat.mod_lt _ h0
      exact ev_int (ev_op (ev_v rfl) (ev_op (ev_int (ev_v rfl)) (hlen _ _ e1 rfl) (rv_modN h0)) (rv_ixLn (ex_l e1 hS) (by
        rw [hi0, List.getElem?_map, List.getD_eq_getElem?_getD, List.getElem?_eq_getElem hj]
        rfl)))
    · have h0 : ¬ 0 < xs.length := by have := of_decide_eq_false hb; omega
      rw [if_neg h0] at hi0
      rw [hi0]
      rfl
    refine q_ifAsg (v := .int (absF i0 : Nat)) (b := decide (i0 < 0)) (et_test (ev_op (ev_v rfl) (ev_cn 0) rv_I0)) (fun hb => ?_) (fun hb => ?_) fun H3 e3 => ?_
    · have h0 := of_decide_eq_true hb
      refine ev_is (ev_op (ev_cn 1) (ev_op (ev_cn 2) (ev_v rfl) (rv_I (.inl ⟨by decide, by decide⟩))) rv_I0) ?_
      unfold absF
      rw [if_pos h0, Int.toNat_of_nonneg (by omega)]
      rfl
    · have h0 := of_decide_eq_false hb
      unfold absF
      rw [if_neg h0, Int.toNat_of_nonneg (by omega)]
      rfl
    have E3 := (e1.trans e2).trans e3
    generalize absF i0 = n at q ⊢
    have t18 : Ev (tOp (rI CPow fun i j => .int (i ^ j.toNat)) (tC (.int 10)) (tC (.int 18))) [some (.ref sc), some (.int (p : Int)), some (.int (f : Int)), some (.int (n : Int))] H3 (.int ((10 ^ 18 : Nat) : Int)) := ev_op (ev_cn 10) (ev_cn 18) (rv_I (by unfold CPow; decide))
    refine q_when (b := decide (f = 0) && (decide (p < xs.length) && decide (10 ^ 18 ≤ n))) (et_and (et_test (ev_is (ev_op (ev_v rfl) (ev_cn 0) (rv_eq rfl)) (congrArg V.bl (decide_eq_decide.mpr ⟨fun h => by have := V.int.inj h; omega, fun h => by rw [h]⟩)))) fun _ =>
      et_and (et_test (ev_is (ev_op (ev_v rfl) (hlen _ _ E3 rfl) rv_I0) (congrArg V.bl (decide_eq_decide.mpr (by omega))))) fun _ => et_test (ev_is (ev_op (ev_v rfl) t18 rv_I0) (congrArg V.bl (decide_eq_decide.mpr (by omega))))) (fun hb H4 e4 => ?_) fun hb H4 e4 => ?_
    · rw [Bool.and_eq_true, Bool.and_eq_true, decide_eq_true_eq, decide_eq_true_eq, decide_eq_true_eq] at hb
      rw [if_pos ⟨hb.1, hb.2.1, hb.2.2⟩] at q
      exact s_ret (ev_op (ev_v rfl) (t18.mono e4) (rv_subN hb.2.2)) fun H5 e5 => q H5 ((E3.trans e4).trans e5)
    · have hb' : ¬ (f = 0 ∧ p < xs.length ∧ 10 ^ 18 ≤ n) := fun h => by
        rw [decide_eq_true h.1, decide_eq_true h.2.1, decide_eq_true h.2.2] at hb
        exact nomatch hb
      rw [if_neg hb'] at q
      exact s_ret (ev_cal (ea_cons (ev_op (ev_v rfl) (ev_op (ev_v rfl) (ev_cn 1000003) (rv_mulN (.inr (by decide)))) rv_addN) (ea_cons (ev_v rfl) ea_nil)) fun _ _ => ⟨_, p, rfl, rfl⟩) fun H5 e5 => q H5 ((E3.trans e4).trans e5)
abbrev s_law_pool : Stmt := topS 28
theorem sc_law_pool : FnScope ["script"] ["script"] (defScope s_law_pool) := ⟨rfl, rfl, rfl, by decide +kernel, rfl, by decide +kernel, by decide +kernel⟩
def ok_pool_ (K : PySem.W.Frag) (vs : List V) (H : Hp) (z : List V) : Prop := ∃ (sc : Addr) (xs : List Int), vs = [.ref sc] ∧ SqL K H sc (xs.map V.int) ∧ z = [.ref sc, .int ((0 : Nat) : Int), .int (restF xs 0 0 : Nat), .int ((0 : Nat) : Int)]
theorem fn_pool_ {f : Addr} {fd : FuncData} {k : Nat} (F : Fun K "_law_pool" "_law_pool" s_law_pool f fd) (N : Nb mg) (C_law_rest : Cal P w K mg base k "_law_rest" ["script", "place", "fills"] (spV (ok_rest_ K))) : FnOk P w K mg base CX0 (k + 1) f fd ["script"] (spL (ok_pool_ K)) := by
  refine F.ok sc_law_pool (fun vs H Q E h => ?_) (fun cdv A outer s H vs Q E hr h => ?_)
  · obtain ⟨_, ⟨_, _, rfl, _⟩, _⟩ := h
    rfl
  · obtain ⟨_, ⟨sc, xs, rfl, hS, hz⟩, q⟩ := h
    rw [hz] at q
    refine ⟨_, (pss_one (ps_ret (pe_lst (pa_cons (pv 0) (pa_cons pe_int (pa_cons (pe_cal C_law_rest hr (pa_cons (pv 0) (pa_cons pe_int (pa_cons pe_int pa_nil)))) (pa_cons pe_int pa_nil))))))), ?_⟩
    exact s_retL (el_lst (ea_cons (ev_v rfl) (ea_cons (ev_cn 0) (ea_cons (ev_cal (ea_cons (ev_v rfl) (ea_cons (ev_cn 0) (ea_cons (ev_cn 0) ea_nil))) fun H1 e1 => ⟨sc, xs, 0, 0, rfl, ex_l e1 hS, rfl⟩) (ea_cons (ev_cn 0) ea_nil)))) (by show 4 ≤ 100000; decide)) fun p H1 hp e1 h1 => q p H1 hp e1 h1
abbrev s_law_draw : Stmt := topS 30
theorem sc_law_draw : FnScope ["pool", "limit", "value"] ["pool", "limit"] (defScope s_law_draw) := ⟨rfl, rfl, rfl, by decide +kernel, rfl, by decide +kernel, by decide +kernel⟩
/- 0 pool, 1 limit, 2 value -/
theorem fn_draw {f : Addr} {fd : FuncData} {k : Nat} (F : Fun K "_law_draw" "_law_draw" s_law_draw f fd) (N : Nb mg) (C_law_rest : Cal P w K mg base k "_law_rest" ["script", "place", "fills"] (spV (ok_rest_ K))) : FnOk P w K mg base CX0 (k + 1) f fd ["pool", "limit"] (sp_draw K) := by
  refine F.ok sc_law_draw (fun vs H Q E h => ?_) (fun cdv A outer s H vs Q E hr h => ?_)
  · obtain ⟨_, _, _, _, rfl, _⟩ := h
    rfl
  · obtain ⟨p, sc, xs, limit, rfl, hP, h0, hlim, q⟩ := h
    refine ⟨_, (pss_cut (ps_if (pt_cmpR op_le (pe_ix ix_list (pv 0) pe_int (fun _ _ => rfl)) pe_int (nomark _)) (pss_cons (ps_asg (pe_op op_add (pe_ix ix_list (pv 0) pe_int (fun _ _ => rfl)) pe_int) (pg_sub (pv 0) pe_int set_list))
      (pss_one (ps_asg (pe_cal C_law_rest hr (pa_cons (pe_ix ix_list (pv 0) pe_int (fun _ _ => rfl)) (pa_cons (pe_ix ix_list (pv 0) pe_int (fun _ _ => rfl)) (pa_cons (pe_ix ix_list (pv 0) pe_int (fun _ _ => rfl)) pa_nil)))) (pg_sub (pv 0) pe_int set_list)))) pss_nil)
      (pss_cons (ps_set (i := 2) sc_law_draw.nd rfl (Or.inl rfl) (pe_op op_mod (pe_callTy call_int1 (by rfl) N.int PyProof.Rows.boot_int (pa_cons (pe_ix ix_list (pv 0) pe_int (fun _ _ => rfl)) pa_nil)) (pv 1)))
      (pss_cons (ps_asg (pe_op op_fdivW (pe_callTy call_int1 (by rfl) N.int PyProof.Rows.boot_int (pa_cons (pe_ix ix_list (pv 0) pe_int (fun _ _ => rfl)) pa_nil)) (pv 1)) (pg_sub (pv 0) pe_int set_list))
      (pss_one (ps_ret (pv 2)))))), ?_⟩
    have hP0 := hP
    obtain ⟨pl, r, f, hp, hS⟩ := hP
    refine q_cut (M := fun σ' H' => σ' = [some (.ref p), some (.int (limit : Int)), none] ∧ Keep p H H' ∧ ∃ r f : Nat, H' p = some (.lst [.ref sc, .int (pl : Int), .int (r : Int), .int (f : Int)])) ?_ ?_
    · refine s_when (b := decide ((r : Int) ≤ ((1 : Nat) : Int))) (et_test (ev_op (ev_ixL (ev_v rfl) (ev_cn 2) (sq_of hp) rfl) (ev_cn 1) rv_I0)) (fun hb H1 e1 => ?_) fun hb H1 e1 => ⟨rfl, .of e1, r, f, e1 p _ hp⟩
      refine q_setL (j := 3) (v := .int ((f + 1 : Nat) : Int)) (e1 p _ hp) (ev_op (ev_ixL (ev_v rfl) (ev_cn 3) (sq_of (e1 p _ hp)) rfl) (ev_cn 1) rv_addN) (ev_v rfl) (ev_cn 3) (by show 3 < 4; decide) fun H2 e2 => ?_
      have E2 := e1.trans e2
      have k2 : Keep p H (upd H2 p (.lst [.ref sc, .int (pl : Int), .int (r : Int), .int ((f + 1 : Nat) : Int)])) := (Keep.of E2).trans .upd
      refine s_setL (j := 2) (v := .int (restF xs pl (f + 1) : Nat)) (xs := [.ref sc, .int (pl : Int), .int (r : Int), .int ((f + 1 : Nat) : Int)]) upd_same (ev_cal (ea_cons (ev_ixL (ev_v rfl) (ev_cn 0) (sq_of upd_same) rfl) (ea_cons (ev_ixL (ev_v rfl) (ev_cn 1) (sq_of upd_same) rfl) (ea_cons (ev_ixL (ev_v rfl) (ev_cn 3) (sq_of upd_same) rfl) ea_nil))) fun H3 e3 => ⟨sc, xs, pl, f + 1, rfl, ex_l e3 (sc_keep hp k2 hS), rfl⟩) (ev_v rfl) (ev_cn 2) (by show 2 < 4; decide) fun H3 e3 => ?_
      exact ⟨rfl, (k2.trans (.of e3)).trans .upd, _, _, upd_same⟩
    · rintro σ' H' ⟨rfl, hk, r', f', hp'⟩
      refine q_asg (v := .int ((r' % limit : Nat) : Int)) (ev_op (ev_int (ev_ixL (ev_v rfl) (ev_cn 2) (sq_of hp') rfl)) (ev_v rfl) (rv_modN h0)) fun H1 e1 => ?_
      refine q_setL (j := 2) (v := .int ((r' / limit : Nat) : Int)) (e1 p _ hp') (ev_op (ev_int (ev_ixL (ev_v rfl) (ev_cn 2) (sq_of (e1 p _ hp')) rfl)) (ev_v rfl) (rv_divWN (n := 63) h0 hlim (by decide) (by decide))) (ev_v rfl) (ev_cn 2) (by show 2 < 4; decide) fun H2 e2 => ?_
      have k3 : Keep p H (upd H2 p (.lst [.ref sc, .int (pl : Int), .int ((r' / limit : Nat) : Int), .int (f' : Int)])) := (hk.trans (.of (e1.trans e2))).trans .upd
      refine s_ret (ev_v rfl) fun H3 e3 => q (r' % limit) H3 (Nat.mod_lt _ h0) (G.exR ⟨k3, hP0.mk' (r := r' / limit) (f := f') k3 upd_same⟩ e3)
abbrev s_law_pick : Stmt := topS 31
theorem sc_law_pick : FnScope ["pool", "options"] ["pool", "options"] (defScope s_law_pick) := ⟨rfl, rfl, rfl, by decide +kernel, rfl, by decide +kernel, by decide +kernel⟩
/- 0 pool, 1 options -/
theorem fn_pick {f : Addr} {fd : FuncData} {k : Nat} (F : Fun K "_law_pick" "_law_pick" s_law_pick f fd) (N : Nb mg) (C_law_draw : Cal P w K mg base k "_law_draw" ["pool", "limit"] (sp_draw K)) : FnOk P w K mg base CX0 (k + 1) f fd ["pool", "options"] (sp_pick K) := by
  refine F.ok sc_law_pick (fun vs H Q E h => ?_) (fun cdv A outer s H vs Q E hr h => ?_)
  · obtain ⟨_, _, _, _, _, rfl, _⟩ := h
    rfl
  · obtain ⟨p, sc, ns, a, xs, rfl, hP, hS, hne, hx, hl, q⟩ := h
    refine ⟨_, (pss_one (ps_ret (pe_ix ix_list (pv 1) (pe_cal C_law_draw hr (pa_cons (pv 0) (pa_cons (pe_callB call_len_seq (by rfl) N.len PySem.boot_len (pa_cons (pv 1) pa_nil)) pa_nil))) (fun _ _ => rfl)))), ?_⟩
    have h0 : 0 < xs.length := List.length_pos_iff.mpr hx
    refine r_ret (r_op (r_var rfl (r_call (r_cons (r_var rfl (r_cons (r_ev (ev_len (K := K) (ev_v rfl) hS) (Ex.refl H) fun H3 e3 => r_nil ?_)))))))
    refine ⟨p, sc, ns, xs.length, rfl, hP.ex e3, h0, by omega, fun v H4 hv g => ?_⟩
    exact rv_ixLn (keep_l g.1 hne (ex_l e3 hS)) (List.getElem?_eq_getElem hv) H4 (Ex.refl H4) _ fun H5 e5 => q _ H5 (List.getElem_mem hv) ((G.exL e3 g).exR e5)
abbrev s_law_next : Stmt := topS 29
theorem sc_law_next : FnScope ["pool"] ["pool"] (defScope s_law_next) := ⟨rfl, rfl, rfl, by decide +kernel, rfl, by decide +kernel, by decide +kernel⟩
/- 0 pool -/
def sp_next (K : PySem.W.Frag) : Sp := fun vs H Q _ => ∃ (p sc : Addr) (ns : List Int), vs = [.ref p] ∧ Pool K H p sc ns ∧ ∀ H', G K p sc ns H H' → Q .non H'
theorem fn_next {f : Addr} {fd : FuncData} {k : Nat} (F : Fun K "_law_next" "_law_next" s_law_next f fd) (N : Nb mg) (C_law_rest : Cal P w K mg base k "_law_rest" ["script", "place", "fills"] (spV (ok_rest_ K))) : FnOk P w K mg base CX0 (k + 1) f fd ["pool"] (sp_next K) := by
  refine F.ok sc_law_next (fun vs H Q E h => ?_) (fun cdv A outer s H vs Q E hr h => ?_)
  · obtain ⟨_, _, _, rfl, _⟩ := h
    rfl
  · obtain ⟨p, sc, xs, rfl, hP, q⟩ := h
    refine ⟨_, (pss_cons (ps_asg (pe_op op_add (pe_ix ix_list (pv 0) pe_int (fun _ _ => rfl)) pe_int) (pg_sub (pv 0) pe_int set_list))
      (pss_cons (ps_asg (pe_cal C_law_rest hr (pa_cons (pe_ix ix_list (pv 0) pe_int (fun _ _ => rfl)) (pa_cons (pe_ix ix_list (pv 0) pe_int (fun _ _ => rfl)) (pa_cons pe_int pa_nil)))) (pg_sub (pv 0) pe_int set_list))
      (pss_one (ps_asg pe_int (pg_sub (pv 0) pe_int set_list))))), ?_⟩
    have hP0 := hP
    obtain ⟨pl, r, f, hp, hS⟩ := hP
    refine q_setL (j := 1) (v := .int ((pl + 1 : Nat) : Int)) hp (ev_op (ev_ixL (ev_v rfl) (ev_cn 1) (sq_of hp) rfl) (ev_cn 1) rv_addN) (ev_v rfl) (ev_cn 1) (by show 1 < 4; decide) fun H1 e1 => ?_
    have k1 : Keep p H (upd H1 p (.lst [.ref sc, .int ((pl + 1 : Nat) : Int), .int (r : Int), .int (f : Int)])) := (Keep.of e1).trans .upd
    refine q_setL (j := 2) (v := .int (restF xs (pl + 1) 0 : Nat)) (xs := [.ref sc, .int ((pl + 1 : Nat) : Int), .int (r : Int), .int (f : Int)]) upd_same (ev_cal (ea_cons (ev_ixL (ev_v rfl) (ev_cn 0) (sq_of upd_same) rfl) (ea_cons (ev_ixL (ev_v rfl) (ev_cn 1) (sq_of upd_same) rfl) (ea_cons (ev_cn 0) ea_nil))) fun H3 e3 => ⟨sc, xs, pl + 1, 0, rfl, ex_l e3 (sc_keep hp k1 hS), rfl⟩) (ev_v rfl) (ev_cn 2) (by show 2 < 4; decide) fun H2 e2 => ?_
    have k2 : Keep p H (upd H2 p (.lst [.ref sc, .int ((pl + 1 : Nat) : Int), .int (restF xs (pl + 1) 0 : Nat), .int (f : Int)])) := (k1.trans (.of e2)).trans .upd
    refine s_setL (j := 3) (v := .int ((0 : Nat) : Int)) (xs := [.ref sc, .int ((pl + 1 : Nat) : Int), .int (restF xs (pl + 1) 0 : Nat), .int (f : Int)]) upd_same (ev_cn 0) (ev_v rfl) (ev_cn 3) (by show 3 < 4; decide) fun H3 e3 => ?_
    have k3 : Keep p H (upd H3 p (.lst [.ref sc, .int ((pl + 1 : Nat) : Int), .int (restF xs (pl + 1) 0 : Nat), .int ((0 : Nat) : Int)])) := (k2.trans (.of e3)).trans .upd
    exact q _ ⟨k3, hP0.mk' k3 upd_same⟩
end
end K50

set_option Elab.async false
set_option linter.all false
set_option maxRecDepth 100000
set_option maxHeartbeats 4000000
namespace K50
open PySem PySem.Spec PyProof.Rows L2 Evl My
/-! sameness, of equal data -/
mutual
def Wid : D → Prop
  | .tup ds => ds.length ≤ 10000 ∧ WidL ds
  | .lst ds => ds.length ≤ 10000 ∧ WidL ds
  | _ => True
def WidL : List D → Prop
  | [] => True
  | d :: ds => Wid d ∧ WidL ds
end
theorem WidL_get : ∀ {ds : List D} {i : Nat} {d : D}, WidL ds → ds[i]? = some d → Wid d
  | [], _, _, _, h => nomatch h
  | d :: ds, 0, _, p, h => by cases h; rw [WidL] at p; exact p.1
  | d :: ds, i + 1, _, p, h => by rw [WidL] at p; exact WidL_get (ds := ds) (i := i) p.2 h
def isTD : D → Bool
  | .tup _ => true
  | _ => false
def isLD : D → Bool
  | .lst _ => true
  | _ => false
def isSD : D → Bool
  | .str _ => true
  | _ => false
def isID : D → Bool
  | .int _ => true
  | .bl _ => true
  | _ => false
def isBD : D → Bool
  | .bl _ => true
  | _ => false
theorem kTD (d : D) : kitB (tyD d) "tuple" = some (isTD d) := by cases d <;> rfl
theorem kLD (d : D) : kitB (tyD d) "list" = some (isLD d) := by cases d <;> rfl
theorem kSD (d : D) : kitB (tyD d) "str" = some (isSD d) := by cases d <;> rfl
theorem kID (d : D) : kitB (tyD d) "int" = some (isID d) := by cases d <;> rfl
theorem kBD (d : D) : kitB (tyD d) "bool" = some (isBD d) := by cases d <;> rfl
theorem kDD (d : D) : kitB (tyD d) "dict" = some false := by cases d <;> rfl
section
variable {P : Program} {w : World} {K : PySem.W.Frag} {mg : Str → Option Value} {base : Heap}
theorem ev_isN {te : TE} {σ : L2.St} {H : Hp} {v : V} (h : Ev te σ H v) : Ev (tOp (fun x y H Q => y = .non ∧ Q (.bl (decide (x = .non))) H) te (tC .non)) σ H (.bl (decide (v = .non))) := fun H1 e Q q =>
  h H1 e _ fun H2 e2 => ⟨rfl, q H2 e2⟩
theorem ev_isBA {te : TE} {σ : L2.St} {H : Hp} {v : V} {b : Bool} (h : Ev te σ H v) : Ev (tOp rIsBA te (tC (.bl b))) σ H (.bl (decide (v = .bl b))) := fun H1 e Q q =>
  h H1 e _ fun H2 e2 => ⟨b, rfl, q H2 e2⟩
theorem ev_isNv {i : Nat} {c : Bool} {σ : L2.St} {H : Hp} {v : V} (h : σ[i]? = some (some v)) (hc : decide (v = .non) = c) : Ev (tOp (fun x y H Q => y = .non ∧ Q (.bl (decide (x = .non))) H) (tVar i) (tC .non)) σ H (.bl c) := ev_is (ev_isN (ev_v h)) (by rw [hc])
theorem ev_isBv {i : Nat} {c b : Bool} {σ : L2.St} {H : Hp} {v : V} (h : σ[i]? = some (some v)) (hc : decide (v = .bl b) = c) : Ev (tOp rIsBA (tVar i) (tC (.bl b))) σ H (.bl c) := ev_is (ev_isBA (ev_v h)) (by rw [hc])
theorem ev_lenQ {σ : L2.St} {H : Hp} {ta : TE} {p : Addr} {xs : List V} (ha : Ev ta σ H (.ref p)) (h : SqL K H p xs ∨ SqT K H p xs) : Ev (tCB (rLenS K) (tCons ta tNil)) σ H (.int (xs.length : Int)) := by
  rcases h with h | h
  · exact ev_len ha h
  · exact ev_lenT ha h
theorem rv_ixQ {H : Hp} {p : Addr} {xs : List V} {i : Nat} {v : V} (h : SqL K H p xs ∨ SqT K H p xs) (ha : xs[i]? = some v) : RV (rIx K) (.ref p) (.int (i : Int)) H v := by
  rcases h with h | h
  · exact fun H1 e Q q => .inl (rv_ixLn h ha H1 e Q q)
  · exact fun H1 e Q q => .inr (.inl (rv_ixTn h ha H1 e Q q))
theorem ex_q {H H' : Hp} {p : Addr} {xs : List V} (e : Ex H H') (h : SqL K H p xs ∨ SqT K H p xs) : SqL K H' p xs ∨ SqT K H' p xs := h.imp (ex_l e) (ex_t e)
abbrev s_law_same : Stmt := topS 32
theorem sc_law_same : FnScope ["due", "answer", "key", "k"] ["due", "answer"] (defScope s_law_same) := ⟨rfl, rfl, rfl, by decide +kernel, rfl, by decide +kernel, by decide +kernel⟩
/- 0 due*, 1 answer*, 2 key, 3 k -/
def ok_same (h : Nat) (vs : List V) (H : Hp) (z : V) : Prop := ∃ (a b : V) (d : D), vs = [a, b] ∧ Rep H a d ∧ Rep H b d ∧ Wid d ∧ height d < h ∧ z = .bl true
theorem fn_same {f : Addr} {fd : FuncData} {k h : Nat} (F : Fun K "_law_same" "_law_same" s_law_same f fd) (N : Nb mg) (C_law_same : Cal P w K mg base k "_law_same" ["due", "answer"] (spV (ok_same h))) : FnOk P w K mg base CX0 (k + 1) f fd ["due", "answer"] (spV (ok_same (h + 1))) := by
  refine F.ok sc_law_same (fun vs H Q E h => ?_) (fun cdv A outer s H vs Q E hr h => ?_)
  · obtain ⟨_, ⟨_, _, _, rfl, _⟩, _⟩ := h
    rfl
  · obtain ⟨_, ⟨a, b, d, rfl, r1, r2, hw, hh, hz⟩, q⟩ := h
    rw [hz] at q
    refine ⟨_, (pss_cons (ps_if (pt_val (pe_callB call_isi (by rfl) N.isinstance PyProof.Rows.boot_isinstance (pa_cons (pv 0) (pa_cons (pe_bltn (v := .ty "dict") (by rfl) N.dict PyProof.Rows.boot_dict rfl) pa_nil)))) pss_never pss_nil)
      (pss_cons (ps_if (PW.pt (pw_or (pt_val (pe_callB call_isi (by rfl) N.isinstance PyProof.Rows.boot_isinstance (pa_cons (pv 0) (pa_cons (pe_bltn (v := .ty "list") (by rfl) N.list PyProof.Rows.boot_list rfl) pa_nil)))) (pw_or1 (pt_val (pe_callB call_isi (by rfl) N.isinstance PyProof.Rows.boot_isinstance (pa_cons (pv 0) (pa_cons (pe_bltn (v := .ty "tuple") (by rfl) N.tuple PyProof.Rows.boot_tuple rfl) pa_nil))))))) (pss_cons (ps_if (PW.pt (pw_or (pt_cmpR op_ne (pe_callB call_isi (by rfl) N.isinstance PyProof.Rows.boot_isinstance (pa_cons (pv 0) (pa_cons (pe_bltn (v := .ty "list") (by rfl) N.list PyProof.Rows.boot_list rfl) pa_nil))) (pe_callB call_isi (by rfl) N.isinstance PyProof.Rows.boot_isinstance (pa_cons (pv 1) (pa_cons (pe_bltn (v := .ty "list") (by rfl) N.list PyProof.Rows.boot_list rfl) pa_nil))) (nomark _)) (pw_or1 (pt_cmpR op_ne (pe_callB call_isi (by rfl) N.isinstance PyProof.Rows.boot_isinstance (pa_cons (pv 0) (pa_cons (pe_bltn (v := .ty "tuple") (by rfl) N.tuple PyProof.Rows.boot_tuple rfl) pa_nil))) (pe_callB call_isi (by rfl) N.isinstance PyProof.Rows.boot_isinstance (pa_cons (pv 1) (pa_cons (pe_bltn (v := .ty "tuple") (by rfl) N.tuple PyProof.Rows.boot_tuple rfl) pa_nil))) (nomark _))))) (pss_one (ps_ret pe_bl)) pss_nil)
      (pss_one (ps_ret (pe_and (pe_cmpR op_eq (pe_callB call_len_seq (by rfl) N.len PySem.boot_len (pa_cons (pv 0) pa_nil)) (pe_callB call_len_seq (by rfl) N.len PySem.boot_len (pa_cons (pv 1) pa_nil)) (nomark _)) (pe_one (pe_callB (cr_all rfl) (by rfl) N.all PyProof.Rows.boot_all (pa_cons (pe_lc (own := [("k", 3)]) (by rfl) sc_law_same.nd (pi_range1 rfl N.range (pa_cons (pe_callB call_len_seq (by rfl) N.len PySem.boot_len (pa_cons (pv 0) pa_nil)) pa_nil)) (blkOk_by (own := [("k", 3)]) (N := ["due", "answer", "key", "k"]) (sc := defScope s_law_same) (by decide +kernel)) (fun _ _ _ _ _ => (pg_name (i := 3) sc_law_same.nd rfl (Or.inl rfl))) (fun _ _ _ _ _ => pts_nil) (fun _ _ _ _ _ => (pe_cal C_law_same hr (pa_cons (pe_ix (r := rIx K) ix_seq (pv 0) (pv 3) (fun _ _ => rfl)) (pa_cons (pe_ix (r := rIx K) ix_seq (pv 1) (pv 3) (fun _ _ => rfl)) pa_nil))))) pa_nil))))))) pss_nil)
      (pss_cons (ps_if (PW.pt (pw_or (pt_cmpR op_isN (pv 0) pe_non (nomark _)) (pw_or1 (pt_cmpR op_isN (pv 1) pe_non (nomark _))))) (pss_one (ps_ret (pe_and (pe_cmpR op_isN (pv 0) pe_non (nomark _)) (pe_one (pe_cmpR op_isN (pv 1) pe_non (nomark _)))))) pss_nil)
      (pss_cons (ps_if (PW.pt (pw_or (pt_val (pe_callB call_isi (by rfl) N.isinstance PyProof.Rows.boot_isinstance (pa_cons (pv 0) (pa_cons (pe_bltn (v := .ty "bool") (by rfl) N.bool PyProof.Rows.boot_bool rfl) pa_nil)))) (pw_or1 (pt_val (pe_callB call_isi (by rfl) N.isinstance PyProof.Rows.boot_isinstance (pa_cons (pv 1) (pa_cons (pe_bltn (v := .ty "bool") (by rfl) N.bool PyProof.Rows.boot_bool rfl) pa_nil))))))) (pss_one (ps_ret (pe_and (pe_callB call_isi (by rfl) N.isinstance PyProof.Rows.boot_isinstance (pa_cons (pv 0) (pa_cons (pe_bltn (v := .ty "bool") (by rfl) N.bool PyProof.Rows.boot_bool rfl) pa_nil))) (pe_and (pe_callB call_isi (by rfl) N.isinstance PyProof.Rows.boot_isinstance (pa_cons (pv 1) (pa_cons (pe_bltn (v := .ty "bool") (by rfl) N.bool PyProof.Rows.boot_bool rfl) pa_nil))) (pe_one (pe_cmpR op_eq (pv 0) (pv 1) (nomark _))))))) pss_nil)
      (pss_cons (ps_if (pt_val (pe_callB call_isi (by rfl) N.isinstance PyProof.Rows.boot_isinstance (pa_cons (pv 0) (pa_cons (pe_bltn (v := .ty "str") (by rfl) N.str PyProof.Rows.boot_str rfl) pa_nil)))) (pss_one (ps_ret (pe_and (pe_callB call_isi (by rfl) N.isinstance PyProof.Rows.boot_isinstance (pa_cons (pv 1) (pa_cons (pe_bltn (v := .ty "str") (by rfl) N.str PyProof.Rows.boot_str rfl) pa_nil))) (pe_one (pe_cmpR op_eq (pv 0) (pv 1) (nomark _)))))) pss_nil)
      (pss_one (ps_ret (pe_and (pe_callB call_isi (by rfl) N.isinstance PyProof.Rows.boot_isinstance (pa_cons (pv 1) (pa_cons (pe_bltn (v := .ty "int") (by rfl) N.int PyProof.Rows.boot_int rfl) pa_nil))) (pe_one (pe_cmpR op_eq (pv 0) (pv 1) (nomark _))))))))))), ?_⟩
    have isi0 : ∀ {T : String} {σ : L2.St} {H' : Hp} {c : Bool}, Ex H H' → σ[0]? = some (some a) → kitB (tyD d) T = some c → Ev (tCB (rIsi K) (tCons (tVar 0) (tCons (tC (.ty T)) tNil))) σ H' (.bl c) := fun e hv hk => ev_isi (ev_v hv) (r1.mono e) hk
    have isi1 : ∀ {T : String} {σ : L2.St} {H' : Hp} {c : Bool}, Ex H H' → σ[1]? = some (some b) → kitB (tyD d) T = some c → Ev (tCB (rIsi K) (tCons (tVar 1) (tCons (tC (.ty T)) tNil))) σ H' (.bl c) := fun e hv hk => ev_isi (ev_v hv) (r2.mono e) hk
    refine q_when (et_test (isi0 (Ex.refl H) rfl (kDD d))) (fun z => nomatch z) fun _ H1 e1 => ?_
    refine q_when (b := isLD d || isTD d) (et_or (et_test (isi0 e1 rfl (kLD d))) fun _ => et_test (isi0 e1 rfl (kTD d))) (fun hb H2 e2 => ?_) fun hb H2 e2 => ?_
    · have E2 := e1.trans e2
      refine q_when (b := false) (et_is (et_or (et_test (ev_op (isi0 E2 rfl (kLD d)) (isi1 E2 rfl (kLD d)) (rv_ne rfl))) fun _ => et_test (ev_op (isi0 E2 rfl (kTD d)) (isi1 E2 rfl (kTD d)) (rv_ne rfl))) (by simp)) (fun z => nomatch z) fun _ H3 e3 => ?_
      have E3 := E2.trans e3
      have core : ∃ (a1 b1 : Addr) (us ws : List V) (ds : List D), a = .ref a1 ∧ b = .ref b1 ∧ (SqL K H a1 us ∨ SqT K H a1 us) ∧ (SqL K H b1 ws ∨ SqT K H b1 ws) ∧ Reps H us ds ∧ Reps H ws ds ∧ ds.length ≤ 10000 ∧ WidL ds ∧ heightL ds < h := by
        cases r2 with
        | tup e2 rs2 =>
          cases r1 with
          | tup e1 rs1 =>
            rw [Wid] at hw
            rw [height] at hh
            exact ⟨_, _, _, _, _, rfl, rfl, .inr (st_of e1), .inr (st_of e2), rs1, rs2, hw.1, hw.2, by omega⟩
        | lst e2 rs2 =>
          cases r1 with
          | lst e1 rs1 =>
            rw [Wid] at hw
            rw [height] at hh
            exact ⟨_, _, _, _, _, rfl, rfl, .inl (sq_of e1), .inl (sq_of e2), rs1, rs2, hw.1, hw.2, by omega⟩
        | non => exact nomatch hb
        | bl c => exact nomatch hb
        | int i => exact nomatch hb
        | str l => exact nomatch hb
      obtain ⟨a1, b1, us, ws, ds, rfl, rfl, s1, s2, rs1, rs2, hn, hW, hH⟩ := core
      have l1 := rs1.len
      have l2 := rs2.len
      refine s_ret (ev_andV (a := true) (b := true) (ev_is (ev_op (ev_lenQ (ev_v rfl) (ex_q E3 s1)) (ev_lenQ (ev_v rfl) (ex_q E3 s2)) (rv_eq rfl)) (by rw [l1, l2, decide_eq_true rfl])) fun _ => ev_is (ev_all (bs := (List.range ds.length).map fun _ => true) ?_) (by simp)) fun H4 e4 => q H4 (E3.trans e4)
      have hg : ((List.range ds.length).map fun _ => true).map V.bl = given ((ds.length : Int)).toNat (fun _ => true) (fun _ => .bl true) := by
        rw [Int.toNat_natCast, given_all, List.map_map]
        rfl
      rw [hg]
      refine el_lcR1 (fun _ => true) (fun _ => .bl true) (n := (ds.length : Int)) (ea_cons (ev_is (ev_lenQ (ev_v rfl) (ex_q E3 s1)) (by rw [l1])) ea_nil) (by omega) (fun _ => rfl) (fun i H4 e4 hi => et_yes) fun i H4 e4 hi _ => ?_
      obtain ⟨d, gd⟩ : ∃ d, ds[i]? = some d := ⟨_, List.getElem?_eq_getElem (by omega)⟩
      obtain ⟨v1, hv1, rv1⟩ := rs1.get gd
      obtain ⟨v2, hv2, rv2⟩ := rs2.get gd
      have gh := heightL_get gd
      have E4 := E3.trans e4
      exact ev_cal (ea_cons (ev_op (ev_v rfl) (ev_v rfl) (rv_ixQ (ex_q E4 s1) hv1)) (ea_cons (ev_op (ev_v rfl) (ev_v rfl) (rv_ixQ (ex_q E4 s2) hv2)) ea_nil)) fun H5 e5 => ⟨v1, v2, d, rfl, rv1.mono (E4.trans e5), rv2.mono (E4.trans e5), WidL_get hW gd, by omega, rfl⟩
    have E2 := e1.trans e2
    cases r2 with
    | tup _ _ => exact nomatch hb
    | lst _ _ => exact nomatch hb
    | non =>
      cases r1
      refine q_when (b := true) (et_or (a := true) (b := false) (et_test (ev_isNv rfl (by rfl))) fun z => nomatch z) (fun _ H4 e4 => ?_) fun z => nomatch z
      exact s_ret (ev_andV (a := true) (b := true) (ev_isNv rfl (by rfl)) fun _ => ev_isNv rfl (by rfl)) fun H5 e5 => q H5 ((E2.trans e4).trans e5)
    | bl c =>
      cases r1
      refine q_when (b := false) (et_or (a := false) (b := false) (et_test (ev_isNv rfl (by rfl))) fun _ => et_test (ev_isNv rfl (by rfl))) (fun z => nomatch z) fun _ H4 e4 => ?_
      refine q_when (b := true) (et_or (a := true) (b := false) (et_test (isi0 (E2.trans e4) rfl (kBD _))) fun z => nomatch z) (fun _ H5 e5 => ?_) fun z => nomatch z
      exact s_ret (ev_andV (a := true) (b := true) (isi0 ((E2.trans e4).trans e5) rfl (kBD _)) fun _ => ev_andV (a := true) (b := true) (isi1 ((E2.trans e4).trans e5) rfl (kBD _)) fun _ => ev_is (ev_op (ev_v rfl) (ev_v rfl) (rv_eq (by cases c <;> rfl))) (by rw [decide_eq_true rfl])) fun H6 e6 => q H6 (((E2.trans e4).trans e5).trans e6)
    | str l =>
      cases r1
      refine q_when (b := false) (et_or (a := false) (b := false) (et_test (ev_isNv rfl (by rfl))) fun _ => et_test (ev_isNv rfl (by rfl))) (fun z => nomatch z) fun _ H4 e4 => ?_
      refine q_when (b := false) (et_or (a := false) (b := false) (et_test (isi0 (E2.trans e4) rfl (kBD _))) fun _ => et_test (isi1 (E2.trans e4) rfl (kBD _))) (fun z => nomatch z) fun _ H5 e5 => ?_
      have E5 := (E2.trans e4).trans e5
      refine q_when (b := true) (et_test (isi0 E5 rfl (kSD _))) (fun _ H6 e6 => ?_) fun z => nomatch z
      exact s_ret (ev_andV (a := true) (b := true) (isi1 (E5.trans e6) rfl (kSD _)) fun _ => ev_is (ev_op (ev_v rfl) (ev_v rfl) (rv_eq rfl)) (by rw [decide_eq_true rfl])) fun H7 e7 => q H7 ((E5.trans e6).trans e7)
    | int i =>
      cases r1
      refine q_when (b := false) (et_or (a := false) (b := false) (et_test (ev_isNv rfl (by rfl))) fun _ => et_test (ev_isNv rfl (by rfl))) (fun z => nomatch z) fun _ H4 e4 => ?_
      refine q_when (b := false) (et_or (a := false) (b := false) (et_test (isi0 (E2.trans e4) rfl (kBD _))) fun _ => et_test (isi1 (E2.trans e4) rfl (kBD _))) (fun z => nomatch z) fun _ H5 e5 => ?_
      have E5 := (E2.trans e4).trans e5
      refine q_when (b := false) (et_test (isi0 E5 rfl (kSD _))) (fun z => nomatch z) fun _ H6 e6 => ?_
      exact s_ret (ev_andV (a := true) (b := true) (isi1 (E5.trans e6) rfl (kID _)) fun _ => ev_is (ev_op (ev_v rfl) (ev_v rfl) (rv_eq rfl)) (by rw [decide_eq_true rfl])) fun H7 e7 => q H7 ((E5.trans e6).trans e7)
theorem cal_same {f : Addr} {fd : FuncData} {k : Nat} (F : Fun K "_law_same" "_law_same" s_law_same f fd) (hb : Binds K fd ["due", "answer"] []) (hk : PySem.W.keepIn K (.ref f) = true) (hm : mg "_law_same" = some (.ref f)) (N : Nb mg) : ∀ h, Cal P w K mg base (k + h) "_law_same" ["due", "answer"] (spV (ok_same h))
  | 0 => ⟨f, fd, ⟨fun vs H Q E h => by obtain ⟨_, ⟨_, _, _, _, _, _, _, h, _⟩, _⟩ := h; exact (Nat.not_lt_zero _ h).elim, fun A outer s H args us vs Q E _ _ _ _ h => by obtain ⟨_, ⟨_, _, _, _, _, _, _, h, _⟩, _⟩ := h; exact (Nat.not_lt_zero _ h).elim⟩, hb, hk, hm⟩
  | h + 1 => ⟨f, fd, fn_same F N (cal_same F hb hk hm N h), hb, hk, hm⟩
end
end K50

set_option Elab.async false
set_option linter.all false
set_option maxRecDepth 100000
set_option maxHeartbeats 4000000
namespace K50
open PySem PySem.Spec PyProof.Rows L2 Evl My
section
variable {K : PySem.W.Frag} {σ : L2.St} {H : Hp} {te tl ta tb : TE} {tt : TT} {xs : List V}
theorem el_lcSF {j : Nat} {vs : List Nat} {l : List Nat} (f : Nat → Bool) (v : Nat → V) (h : Ev tl σ H (.str (tx l))) (hz : l.length ≤ 40000) (hw : ∀ x, wipe ((wipe σ vs).set j (some x)) vs = wipe σ vs)
    (ht : ∀ c H1, Ex H H1 → c ∈ l → EvT tt ((wipe σ vs).set j (some (.str (tx [c])))) H1 (f c)) (he : ∀ c H1, Ex H H1 → c ∈ l → f c = true → Ev te ((wipe σ vs).set j (some (.str (tx [c])))) H1 (v c)) : EvL (tLc (iStr tl) (gName j) tt te vs) σ H ((l.filter f).map v) := by
  intro H0 e Q q
  refine h H0 e _ fun H1 e1 => ⟨tx l, rfl, fun Dl hD => ?_⟩
  have hsz : (tx l).cps.size = l.length := List.size_toArray
  refine ⟨fun i m H' => m = l.length - i ∧ i ≤ l.length ∧ Ex H1 H' ∧ H' Dl = some (.lst (((l.take i).filter f).map v)), ⟨l.length, rfl, Nat.zero_le _, Ex.new hD, upd_same⟩, ?_⟩
  rintro i m H' ⟨rfl, hi, ex, hl⟩
  by_cases hlt : i < l.length
  · refine .inr ⟨show i < _ by rw [hsz]; exact hlt, fun H' => Ex H1 H' ∧ H' Dl = some (.lst (((l.take (i + 1)).filter f).map v)), fun H2 p => ⟨l.length - (i + 1), by omega, rfl, hlt, p⟩, fun x H2 y => ?_⟩
    obtain ⟨rfl, c, hc, rfl⟩ := y
    have hc' : l[i]? = some c := by simpa [tx] using hc
    have hcm := List.mem_of_getElem? hc'
    refine ⟨hw _, ?_⟩
    refine ht c H1 (e.trans e1) hcm H2 ex _ fun H3 e3 => ?_
    have E3 := ex.trans e3
    have l3 := e3 Dl _ hl
    rw [List.take_add_one, hc', List.filter_append]
    cases hf : f c with
    | false =>
      rw [if_neg (by decide)]
      refine ⟨E3, ?_⟩
      rw [l3]
      simp [hf]
    | true =>
      rw [if_pos rfl]
      refine he c H1 (e.trans e1) hcm hf H3 E3 _ fun H4 e4 => ⟨_, e4 Dl _ l3, sz_lt ?_, (E3.trans e4).mut hD, ?_⟩
      · have h1 := List.length_filter_le f (l.take i)
        rw [List.length_take] at h1
        rw [List.length_map]
        omega
      · rw [upd_same]
        simp [hf]
  · have e0 : i = l.length := by omega
    subst e0
    rw [List.take_of_length_le (Nat.le_refl _)] at hl
    exact .inl ⟨show _ ≤ _ by rw [hsz]; exact Nat.le_refl _, q Dl H' (fresh_back e1 hD) (e1.trans ex) hl⟩
theorem ev_inN {x : V} (ha : Ev ta σ H x) (hb : EvL tb σ H xs) (hx : flatV x = true) (hf : xs.all flatV = true) : Ev (tOp (rIn K false) ta tb) σ H (.bl (inV x xs)) := fun H1 e Q q =>
  ha H1 e _ fun H2 e2 => hb H2 (e.trans e2) _ fun p H3 _ e3 h3 => rv_isL (sq_of h3) hx hf H3 (Ex.refl _) _ fun H4 e4 => q H4 ((e2.trans e3).trans e4)
theorem out_dec (l S : List Nat) : decide (V.int (((l.filter fun c => !decide (c ∈ S)).map (fun c => V.str (tx [c]))).length : Int) = V.int 0) = l.all fun c => decide (c ∈ S) := by
  rw [List.length_map, Bool.eq_iff_iff, decide_eq_true_eq, List.all_eq_true]
  constructor
  · intro h c hc
    have h0 : (l.filter fun c => !decide (c ∈ S)).length = 0 := by have := V.int.inj h; omega
    rw [List.length_eq_zero_iff, List.filter_eq_nil_iff] at h0
    have := h0 c hc
    simpa using this
  · intro h
    have h0 : l.filter (fun c => !decide (c ∈ S)) = [] := List.filter_eq_nil_iff.mpr fun c hc => by simpa using h c hc
    rw [h0]
    rfl
theorem int_lt1 {n : Nat} : decide (((n : Nat) : Int) < 1) = !decide (1 ≤ n) := by
  by_cases h : 1 ≤ n
  · rw [decide_eq_true h, decide_eq_false (by omega)]
    rfl
  · rw [decide_eq_false h, decide_eq_true (by omega)]
    rfl
theorem int_gt {n m : Nat} : decide (((n : Nat) : Int) > ((m : Nat) : Int)) = !decide (n ≤ m) := by
  by_cases h : n ≤ m
  · rw [decide_eq_true h, decide_eq_false (by omega)]
    rfl
  · rw [decide_eq_false h, decide_eq_true (by omega)]
    rfl
end
section
variable {P : Program} {w : World} {K : PySem.W.Frag} {mg : Str → Option Value} {base : Heap}
abbrev s_law_is_word : Stmt := topS 33
theorem sc_law_is_word : FnScope ["text", "letters", "sign"] ["text"] (defScope s_law_is_word) := ⟨rfl, rfl, rfl, by decide +kernel, rfl, by decide +kernel, by decide +kernel⟩
theorem fn_lword {f : Addr} {fd : FuncData} {k : Nat} (F : Fun K "_law_is_word" "_law_is_word" s_law_is_word f fd) (N : Nb mg) : FnOk P w K mg base CX0 (k + 1) f fd ["text"] (spV (ok_test wordP)) := by
  refine F.ok sc_law_is_word (fun vs H Q E h => ?_) (fun cdv A outer s H vs Q E hr h => ?_)
  · obtain ⟨_, ⟨_, rfl, _⟩, _⟩ := h
    rfl
  · obtain ⟨_, ⟨l, rfl, hl, hz⟩, q⟩ := h
    rw [hz] at q
    refine ⟨_, (pss_cons (ps_set (i := 1) sc_law_is_word.nd rfl (Or.inr rfl) pe_str)
      (pss_cons (ps_if (PW.pt (pw_or (pt_cmpR op_lt (pe_callB call_len_str (by rfl) N.len PySem.boot_len (pa_cons (pv 0) pa_nil)) pe_int (nomark _)) (pw_or (pt_cmpR op_gt (pe_callB call_len_str (by rfl) N.len PySem.boot_len (pa_cons (pv 0) pa_nil)) pe_int (nomark _)) (pw_or1 (pt_cmpR op_notIn_sign (pe_ix ix_str (pv 0) pe_int (fun _ _ => rfl)) (pv 1) rfl))))) (pss_one (ps_ret pe_bl)) pss_nil)
      (pss_one (ps_ret (pe_cmpR op_eq (pe_callB call_len_seq (by rfl) N.len PySem.boot_len (pa_cons (pe_lc (own := [("sign", 2)]) (by rfl) sc_law_is_word.nd (pi_str (pv 0)) (blkOk_by (own := [("sign", 2)]) (N := ["text", "letters", "sign"]) (sc := defScope s_law_is_word) (by decide +kernel)) (fun _ _ _ _ _ => (pg_name (i := 2) sc_law_is_word.nd rfl (Or.inl rfl))) (fun _ _ _ _ _ => (pts_one (pt_cmpR op_notIn_sign (pv 2) (pe_op op_add_str (pv 1) pe_str) rfl))) (fun _ _ _ _ _ => (pv 2))) pa_nil)) pe_int (nomark _)))))), ?_⟩
    refine q_asg (ev_cs letL (by decide +kernel)) fun H1 e1 => ?_
    refine q_when (b := !decide (1 ≤ l.length) || (!decide (l.length ≤ 12) || !decide (l.headD 0 ∈ letL))) (et_or (et_test (ev_is (ev_op (ev_lenS (ev_v rfl) (by omega)) (ev_cn 1) rv_I0) (congrArg V.bl int_lt1))) fun hb => et_or (et_test (ev_is (ev_op (ev_lenS (ev_v rfl) (by omega)) (ev_cn 12) rv_I0) (congrArg V.bl int_gt))) fun _ => et_test (ev_op (ev_op (ev_v rfl) (ev_cn 0) (rv_ixSn (by omega) (head_get fun z => ?_))) (ev_v rfl) rv_niSn)) (fun hb H2 e2 => ?_) fun hb H2 e2 => ?_
    · rw [z] at hb
      exact nomatch hb
    · refine s_ret ev_c fun H3 e3 => ?_
      have : wordP l = false := by
        unfold wordP madeP
        revert hb
        cases decide (1 ≤ l.length) <;> cases decide (l.length ≤ 12) <;> cases decide (l.headD 0 ∈ letL) <;> simp
      rw [this] at q
      exact q H3 ((e1.trans e2).trans e3)
    · refine s_ret (ev_is (ev_op (ev_lenN (xs := (l.filter fun c => !decide (c ∈ letL ++ digL)).map fun c => V.str (tx [c])) (el_lcSF (fun c => !decide (c ∈ letL ++ digL)) (fun c => .str (tx [c])) (ev_v rfl) (by omega) (fun _ => rfl) (fun c H3 e3 hc => et_test (ev_op (ev_v rfl) (ev_op (ev_v rfl) (ev_cs digL (by decide +kernel)) (rv_addS (by decide))) rv_niSn)) fun c H3 e3 hc _ => ev_v rfl)) ev_c (rv_eq rfl)) ?_) fun H3 e3 => q H3 ((e1.trans e2).trans e3)
      rw [out_dec]
      congr 1
      unfold wordP madeP
      revert hb
      cases decide (1 ≤ l.length) <;> cases decide (l.length ≤ 12) <;> cases decide (l.headD 0 ∈ letL) <;> simp
abbrev s_law_is_count : Stmt := topS 35
theorem sc_law_is_count : FnScope ["text", "sign"] ["text"] (defScope s_law_is_count) := ⟨rfl, rfl, rfl, by decide +kernel, rfl, by decide +kernel, by decide +kernel⟩
theorem fn_lcount {f : Addr} {fd : FuncData} {k : Nat} (F : Fun K "_law_is_count" "_law_is_count" s_law_is_count f fd) (N : Nb mg) : FnOk P w K mg base CX0 (k + 1) f fd ["text"] (spV (ok_test countP)) := by
  refine F.ok sc_law_is_count (fun vs H Q E h => ?_) (fun cdv A outer s H vs Q E hr h => ?_)
  · obtain ⟨_, ⟨_, rfl, _⟩, _⟩ := h
    rfl
  · obtain ⟨_, ⟨l, rfl, hl, hz⟩, q⟩ := h
    rw [hz] at q
    refine ⟨_, (pss_cons (ps_if (pt_cmpR op_eq (pv 0) pe_str (nomark _)) (pss_one (ps_ret pe_bl)) pss_nil)
      (pss_cons (ps_if (PW.pt (pw_or (pt_cmpR op_lt (pe_callB call_len_str (by rfl) N.len PySem.boot_len (pa_cons (pv 0) pa_nil)) pe_int (nomark _)) (pw_or (pt_cmpR op_gt (pe_callB call_len_str (by rfl) N.len PySem.boot_len (pa_cons (pv 0) pa_nil)) pe_int (nomark _)) (pw_or1 (pt_cmpR op_eq (pe_ix ix_str (pv 0) pe_int (fun _ _ => rfl)) pe_str (nomark _)))))) (pss_one (ps_ret pe_bl)) pss_nil)
      (pss_one (ps_ret (pe_cmpR op_eq (pe_callB call_len_seq (by rfl) N.len PySem.boot_len (pa_cons (pe_lc (own := [("sign", 1)]) (by rfl) sc_law_is_count.nd (pi_str (pv 0)) (blkOk_by (own := [("sign", 1)]) (N := ["text", "sign"]) (sc := defScope s_law_is_count) (by decide +kernel)) (fun _ _ _ _ _ => (pg_name (i := 1) sc_law_is_count.nd rfl (Or.inl rfl))) (fun _ _ _ _ _ => (pts_one (pt_cmpR op_notIn_sign (pv 1) pe_str rfl))) (fun _ _ _ _ _ => (pv 1))) pa_nil)) pe_int (nomark _)))))), ?_⟩
    refine q_when (et_test (ev_eqS (ev_v rfl) (ev_cs [48] (by decide +kernel)))) (fun hb H1 e1 => ?_) fun hb0 H1 e1 => ?_
    · have := of_decide_eq_true hb
      subst this
      exact s_ret ev_c fun H2 e2 => q H2 (e1.trans e2)
    refine q_when (b := !decide (1 ≤ l.length) || (!decide (l.length ≤ 3) || decide (l.headD 0 = 48))) (et_or (et_test (ev_is (ev_op (ev_lenS (ev_v rfl) (by omega)) (ev_cn 1) rv_I0) (congrArg V.bl int_lt1))) fun hb => et_or (et_test (ev_is (ev_op (ev_lenS (ev_v rfl) (by omega)) (ev_cn 3) rv_I0) (congrArg V.bl int_gt))) fun _ => et_test (ev_is (ev_op (ev_op (ev_v rfl) (ev_cn 0) (rv_ixSn (by omega) (head_get fun z => ?_))) (ev_cs [48] (by decide +kernel)) (rv_eq rfl)) (congrArg V.bl head_dec))) (fun hb H2 e2 => ?_) fun hb H2 e2 => ?_
    · rw [z] at hb
      exact nomatch hb
    · refine s_ret ev_c fun H3 e3 => ?_
      have : countP l = false := by
        unfold countP madeP
        rw [hb0, Bool.false_or]
        revert hb
        cases decide (1 ≤ l.length) <;> cases decide (l.length ≤ 3) <;> cases decide (l.headD 0 = 48) <;> simp
      rw [this] at q
      exact q H3 ((e1.trans e2).trans e3)
    · refine s_ret (ev_is (ev_op (ev_lenN (xs := (l.filter fun c => !decide (c ∈ digL)).map fun c => V.str (tx [c])) (el_lcSF (fun c => !decide (c ∈ digL)) (fun c => .str (tx [c])) (ev_v rfl) (by omega) (fun _ => rfl) (fun c H3 e3 hc => et_test (ev_op (ev_v rfl) (ev_cs digL (by decide +kernel)) rv_niSn)) fun c H3 e3 hc _ => ev_v rfl)) ev_c (rv_eq rfl)) ?_) fun H3 e3 => q H3 ((e1.trans e2).trans e3)
      rw [out_dec]
      congr 1
      unfold countP madeP
      rw [hb0, Bool.false_or]
      revert hb
      cases decide (1 ≤ l.length) <;> cases decide (l.length ≤ 3) <;> cases decide (l.headD 0 = 48) <;> simp
abbrev s_law_is_path : Stmt := topS 34
theorem sc_law_is_path : FnScope ["text", "part", "odd", "sign"] ["text"] (defScope s_law_is_path) := ⟨rfl, rfl, rfl, by decide +kernel, rfl, by decide +kernel, by decide +kernel⟩
/- 0 text, 1 part, 2 odd, 3 sign -/
theorem fn_lpath {f : Addr} {fd : FuncData} {k : Nat} (F : Fun K "_law_is_path" "_law_is_path" s_law_is_path f fd) (N : Nb mg) : FnOk P w K mg base CX0 (k + 1) f fd ["text"] (spV (ok_test pathP)) := by
  refine F.ok sc_law_is_path (fun vs H Q E h => ?_) (fun cdv A outer s H vs Q E hr h => ?_)
  · obtain ⟨_, ⟨_, rfl, _⟩, _⟩ := h
    rfl
  · obtain ⟨_, ⟨l, rfl, hl, hz⟩, q⟩ := h
    rw [hz] at q
    refine ⟨_, (pss_cons (ps_for PassesOwn.never rfl (pi_list (pe_split (pv 0) pe_str)) (pg_name (i := 1) sc_law_is_path.nd rfl (Or.inl rfl)) (pss_cons (ps_setLc (i := 2) (own := [("sign", 3)]) (by rfl) sc_law_is_path.nd rfl rfl (sw_true rfl rfl rfl (by decide +kernel)) (pi_str (pv 1)) (blkOk_by (own := [("sign", 3)]) (N := ["text", "part", "odd", "sign"]) (sc := defScope s_law_is_path) (by decide +kernel)) (fun _ _ _ _ _ => (pg_name (i := 3) sc_law_is_path.nd rfl (Or.inl rfl))) (fun _ _ _ _ _ => (pts_one (pt_cmpR op_notIn_sign (pv 3) pe_str rfl))) (fun _ _ _ _ _ => (pv 3)))
      (pss_one (ps_if (PW.pt (pw_or (pt_cmpR op_lt (pe_callB call_len_str (by rfl) N.len PySem.boot_len (pa_cons (pv 1) pa_nil)) pe_int (nomark _)) (pw_or (pt_cmpR op_gt (pe_callB call_len_str (by rfl) N.len PySem.boot_len (pa_cons (pv 1) pa_nil)) pe_int (nomark _)) (pw_or (pt_cmpR op_in_seq (pv 1) (pe_lst (pa_cons pe_str (pa_cons pe_str pa_nil))) rfl) (pw_or1 (pt_cmpR (op_neE hr.units) (pv 2) (pe_lst pa_nil) (nomark _))))))) (pss_one (ps_ret pe_bl)) pss_nil))))
      (pss_one (ps_ret pe_bl))), ?_⟩
    have hsl := splitT_len 47 l
    have hpl := splitT_part 47 l
    unfold pathP at q
    generalize hsg : splitT 47 l = ps at q hsl hpl
    refine q_forNLn (xs := txs ps) (el_is (el_splitT (l := l) (by decide) (ev_v rfl) (ev_cs [47] (by decide +kernel)) (by omega)) (by rw [hsg])) (fun p i σ H' => Ex H H' ∧ H' p = some (.lst (txs ps)) ∧ (∀ j, j < i → segP (ps.getD j []) = true) ∧ ∃ y1 y2 y3, σ = [some (.str (tx l)), y1, y2, y3]) (fun p H1 _ e1 h1 => ⟨e1, h1, fun j h => absurd h (by omega), none, none, none, rfl⟩) (fun p i σ' H' _ h => sq_of h.2.1) ?_ ?_
    · rintro p i v σ H' hx ⟨e', h', hj, y1, y2, y3, rfl⟩
      obtain ⟨rfl, hi, hpx⟩ := txs_get' hx
      generalize hpp : ps.getD i [] = pt at hpx
      have hptl := hpl pt (List.mem_of_getElem? hpx)
      refine q_asgL (xs := (pt.filter fun c => !decide (c ∈ letL ++ digL ++ [46, 45, 95])).map fun c => V.str (tx [c])) (el_lcSF (fun c => !decide (c ∈ letL ++ digL ++ [46, 45, 95])) (fun c => .str (tx [c])) (ev_v rfl) (by omega) (fun _ => rfl) (fun c H3 e3 hc => et_test (ev_op (ev_v rfl) (ev_cs (letL ++ digL ++ [46, 45, 95]) (by decide +kernel)) rv_niSn)) fun c H3 e3 hc _ => ev_v rfl) fun od H2 _ e2 h2 => ?_
      refine s_when (b := !segP pt) (et_is (et_or (et_test (ev_is (ev_op (ev_lenS (ev_v rfl) (by omega)) (ev_cn 1) rv_I0) (congrArg V.bl int_lt1))) fun _ => et_or (et_test (ev_is (ev_op (ev_lenS (ev_v rfl) (by omega)) (ev_cn 20) rv_I0) (congrArg V.bl int_gt))) fun _ => et_or (et_test (ev_is (ev_inN (ev_v rfl) (el_lst (ea_cons (ev_cs [46] (by decide +kernel)) (ea_cons (ev_cs [46, 46] (by decide +kernel)) ea_nil)) (by show 2 ≤ 100000; decide)) rfl rfl) (congrArg V.bl inV_str))) fun _ => et_test (ev_neE (ev_v rfl) (sq_of h2) (el_lst ea_nil (by decide)))) ?_) (fun hb H3 e3 => ?_) fun hb H3 e3 => ?_
      · have ho : decide (((pt.filter fun c => !decide (c ∈ letL ++ digL ++ [46, 45, 95])).map fun c => V.str (tx [c])).length = 0) = pt.all fun c => decide (c ∈ letL ++ digL ++ [46, 45, 95]) := by
          rw [← out_dec]
          exact decide_eq_decide.mpr ⟨fun h => by rw [h]; rfl, fun h => by have := V.int.inj h; omega⟩
        rw [ho]
        unfold segP madeP
        cases decide (1 ≤ pt.length) <;> cases decide (pt.length ≤ 20) <;> cases decide (pt = [46]) <;> cases decide (pt = [46, 46]) <;> cases (pt.all fun c => decide (c ∈ letL ++ digL ++ [46, 45, 95])) <;> rfl
      · refine s_ret ev_c fun H4 e4 => ?_
        have : (ps.all segP) = false := by
          rw [List.all_eq_false]
          exact ⟨pt, List.mem_of_getElem? hpx, by rw [Bool.not_eq_true'] at hb; rw [hb]; exact Bool.false_ne_true⟩
        rw [this] at q
        exact q H4 (((e'.trans e2).trans e3).trans e4)
      · refine ⟨(e'.trans e2).trans e3, (e2.trans e3) _ _ h', fun j hj' => ?_, _, _, _, rfl⟩
        rcases Nat.lt_or_ge j i with h | h
        · exact hj j h
        · have : j = i := by omega
          rw [this, hpp]
          simpa using hb
    · rintro p σ H' ⟨e', h', hj, y1, y2, y3, rfl⟩
      rw [txs_len] at hj
      refine s_ret ev_c fun H2 e2 => ?_
      have : (ps.all segP) = true := by
        rw [List.all_eq_true]
        intro x hx
        obtain ⟨j, hjl, rfl⟩ := List.getElem_of_mem hx
        have := hj j hjl
        rw [List.getD_eq_getElem?_getD, List.getElem?_eq_getElem hjl] at this
        exact this
      rw [this] at q
      exact q H2 (e'.trans e2)
end
end K50

set_option Elab.async false
set_option linter.all false
set_option maxRecDepth 100000
set_option maxHeartbeats 4000000
namespace K50
open PySem PySem.Spec PyProof.Rows L2 Evl My
def kdC : Kd → Nat
  | .p => 112
  | .d => 100
  | .w => 119
  | .n => 110
  | .s => 115
theorem kdC_inj {a b : Kd} : kdC a = kdC b ↔ a = b := ⟨fun h => by revert h; cases a <;> cases b <;> decide, fun h => by rw [h]⟩
def kvT (t : List (L × List Kd)) : List (Key × V) := t.map fun p => (Sum.inr (tx p.1), .str (tx (p.2.map kdC)))
theorem kvT_val (t : List (L × List Kd)) (l : L) : valV (kvT t) (.inr (tx l)) = (tabK t l).map fun ks => .str (tx (ks.map kdC)) := by
  unfold valV
  induction t with
  | nil => rfl
  | cons p r ih =>
    unfold kvT at ih ⊢
    rw [List.map_cons, List.find?_cons, tabK]
    by_cases h : p.1 = l
    · have h2 : decide ((Sum.inr (tx p.1) : Key) = Sum.inr (tx l)) = true := decide_eq_true (inr_tx.mpr h)
      simp only [h2, if_pos h]
      rfl
    · have h2 : decide ((Sum.inr (tx p.1) : Key) = Sum.inr (tx l)) = false := decide_eq_false fun z => h (inr_tx.mp z)
      simp only [h2, if_neg h]
      exact ih
theorem tab_app (l : L) : ∀ (a b : List (L × List Kd)), tabK (a ++ b) l = match tabK a l with
    | some ks => some ks
    | none => tabK b l
  | [], b => rfl
  | p :: a, b => by
    rw [List.cons_append, tabK, tabK]
    by_cases h : p.1 = l
    · rw [if_pos h, if_pos h]
    · rw [if_neg h, if_neg h]
      exact tab_app l a b
def opT1 : List (L × List Kd) := opTab.take 9
def opT2 : List (L × List Kd) := opTab.drop 9
theorem kds_two (l : L) : kdsF l = match tabK opT1 l with
    | some ks => some ks
    | none => tabK opT2 l := by
  have := tab_app l opT1 opT2
  rw [← this]
  rfl
theorem rep_c (n : Nat) : Txt.mul (tx [115]) ((n : Nat) : Int) = tx ((List.replicate n Kd.s).map kdC) → True := fun _ => trivial
theorem mul6 : ∀ n, 1 ≤ n → n ≤ 6 → Txt.mul (tx [115]) ((n : Nat) : Int) = tx ((List.replicate n Kd.s).map kdC) := by
  intro n h1 h2
  have : n = 1 ∨ n = 2 ∨ n = 3 ∨ n = 4 ∨ n = 5 ∨ n = 6 := by omega
  rcases this with rfl | rfl | rfl | rfl | rfl | rfl <;> decide +kernel
theorem mulOk6 : ∀ n, 1 ≤ n → n ≤ 6 → MulOk (tx [115]) ((n : Nat) : Int) := by
  intro n h1 h2
  have : n = 1 ∨ n = 2 ∨ n = 3 ∨ n = 4 ∨ n = 5 ∨ n = 6 := by omega
  unfold MulOk
  rcases this with rfl | rfl | rfl | rfl | rfl | rfl <;> decide
section
variable {P : Program} {w : World} {K : PySem.W.Frag} {mg : Str → Option Value} {base : Heap}
abbrev s_law_shape : Stmt := topS 36
theorem sc_law_shape : FnScope ["op", "many", "told", "more"] ["op", "many"] (defScope s_law_shape) := ⟨rfl, rfl, rfl, by decide +kernel, rfl, by decide +kernel, by decide +kernel⟩
def shpV (o : Option (List Kd)) : V := match o with
  | none => .non
  | some ks => .str (tx (ks.map kdC))
def ok_shape (vs : List V) (H : Hp) (z : V) : Prop := ∃ (op : L) (many : Nat), vs = [.str (tx op), .int (many : Int)] ∧ z = shpV (shapeF op many)
theorem fn_shape {f : Addr} {fd : FuncData} {k : Nat} (F : Fun K "_law_shape" "_law_shape" s_law_shape f fd) (N : Nb mg) : FnOk P w K mg base CX0 (k + 1) f fd ["op", "many"] (spV ok_shape) := by
  refine F.ok sc_law_shape (fun vs H Q E h => ?_) (fun cdv A outer s H vs Q E hr h => ?_)
  · obtain ⟨_, ⟨_, _, rfl, _⟩, _⟩ := h
    rfl
  · obtain ⟨_, ⟨op, many, rfl, hz⟩, q⟩ := h
    rw [hz] at q
    refine ⟨_, (pss_cons (ps_set (i := 2) sc_law_shape.nd rfl (Or.inl rfl) (pe_disp (pps_cons pe_str pe_str (pps_cons pe_str pe_str (pps_cons pe_str pe_str (pps_cons pe_str pe_str (pps_cons pe_str pe_str (pps_cons pe_str pe_str (pps_cons pe_str pe_str (pps_cons pe_str pe_str (pps_cons pe_str pe_str pps_nil))))))))) rfl rfl (fun z => nomatch z) (by decide)))
      (pss_cons (ps_set (i := 3) sc_law_shape.nd rfl (Or.inl rfl) (pe_disp (pps_cons pe_str pe_str (pps_cons pe_str pe_str (pps_cons pe_str pe_str (pps_cons pe_str pe_str (pps_cons pe_str pe_str (pps_cons pe_str pe_str pps_nil)))))) rfl rfl (fun z => nomatch z) (by decide)))
      (pss_cons (ps_if (pt_cmpR op_eq (pv 0) pe_str (nomark _)) (pss_one (ps_ret (pe_ifExp (pt_chain op_le op_le pe_int (pv 1) pe_int) (pe_op op_mulS pe_str (pv 1)) pe_non))) pss_nil)
      (pss_one (ps_ret (pe_ifExp (pt_cmp (pc_din (hu_of hr) (pv 0) (pv 2))) (pe_dget (hu_of hr) (pv 2) (pv 0) (fun _ _ => rfl)) (pe_ifExp (pt_cmp (pc_din (hu_of hr) (pv 0) (pv 3))) (pe_dget (hu_of hr) (pv 3) (pv 0) (fun _ _ => rfl)) pe_non))))))), ?_⟩
    refine r_asg (fun p1 hp1 => ⟨upd_same, kvT opT1, by decide +kernel, by decide, ?_⟩)
    rw [show mergeK [] (kvT opT1) = kvT opT1 by decide +kernel]
    refine r_asg (fun p2 hp2 => ⟨upd_same, kvT opT2, by decide +kernel, by decide, ?_⟩)
    rw [show mergeK [] (kvT opT2) = kvT opT2 by decide +kernel]
    have E1 : Ex H (upd (upd H p1 (.dK [])) p1 (.dK (kvT opT1))) := (Ex.new hp1).mut hp1
    have hp21 : p2 ≠ p1 := fun z => by rw [z, upd_same] at hp2; exact nomatch hp2
    have hp20 := fresh_back E1 hp2
    have E2 : Ex H (upd (upd (upd (upd H p1 (.dK [])) p1 (.dK (kvT opT1))) p2 (.dK [])) p2 (.dK (kvT opT2))) := (E1.trans (Ex.new hp2)).mut hp20
    generalize hH1 : upd (upd (upd (upd H p1 (.dK [])) p1 (.dK (kvT opT1))) p2 (.dK [])) p2 (.dK (kvT opT2)) = H1 at E2 ⊢
    have h1 : H1 p1 = some (.dK (kvT opT1)) := by rw [← hH1, upd_ne hp21.symm, upd_ne hp21.symm, upd_same]
    have h2 : H1 p2 = some (.dK (kvT opT2)) := by rw [← hH1, upd_same]
    refine q_when (et_test (ev_eqS (ev_v rfl) (ev_cs oJ (by decide +kernel)))) (fun hb H3 e3 => ?_) fun hb H3 e3 => ?_
    · have hj := of_decide_eq_true hb
      unfold shapeF at q
      rw [if_pos hj] at q
      refine s_ret (ev_if (b := decide ((1 : Int) ≤ (many : Int)) && decide ((many : Int) ≤ (6 : Int))) (et_test (ev_chain (ev_cn 1) (ev_v rfl) rv_I0 (fun _ => ev_cn 6) (fun _ => rv_I0))) (fun hc => ?_) fun hc => ?_) fun H4 e4 => q H4 ((E2.trans e3).trans e4)
      · rw [Bool.and_eq_true, decide_eq_true_eq, decide_eq_true_eq] at hc
        rw [if_pos ⟨by omega, by omega⟩]
        exact ev_op (ev_cs [115] (by decide +kernel)) (ev_v rfl) (rv_mulSn (mulOk6 many (by omega) (by omega)) (mul6 many (by omega) (by omega)))
      · rw [if_neg (fun z => by
          rw [Bool.and_eq_false_iff, decide_eq_false_iff_not, decide_eq_false_iff_not] at hc
          omega)]
        exact ev_c
    · have hj := of_decide_eq_false hb
      unfold shapeF at q
      rw [if_neg hj, kds_two] at q
      refine s_ret (ev_if (b := (tabK opT1 op).isSome) (et_B (ev_is (ev_din (ev_v rfl) (e3 _ _ h1) (ev_v rfl)) (by rw [kvT_val, Option.isSome_map]))) (fun hc => ?_) fun hc => ?_) fun H4 e4 => q H4 ((E2.trans e3).trans e4)
      · cases ht : tabK opT1 op with
        | none => rw [ht] at hc; exact nomatch hc
        | some ks => exact ev_dget (ev_v rfl) (e3 _ _ h1) (ev_v rfl) (by rw [kvT_val, ht]; rfl)
      · cases ht : tabK opT1 op with
        | some ks => rw [ht] at hc; exact nomatch hc
        | none =>
          refine ev_if (b := (tabK opT2 op).isSome) (et_B (ev_is (ev_din (ev_v rfl) (e3 _ _ h2) (ev_v rfl)) (by rw [kvT_val, Option.isSome_map]))) (fun hd => ?_) fun hd => ?_
          · cases ht2 : tabK opT2 op with
            | none => rw [ht2] at hd; exact nomatch hd
            | some ks => exact ev_dget (ev_v rfl) (e3 _ _ h2) (ev_v rfl) (by rw [kvT_val, ht2]; rfl)
          · cases ht2 : tabK opT2 op with
            | some ks => rw [ht2] at hd; exact nomatch hd
            | none => exact ev_c
abbrev s_law_words : Stmt := topS 38
theorem sc_law_words : FnScope ["text", "word"] ["text"] (defScope s_law_words) := ⟨rfl, rfl, rfl, by decide +kernel, rfl, by decide +kernel, by decide +kernel⟩
def ok_lwords (vs : List V) (H : Hp) (z : List V) : Prop := ∃ l : L, vs = [.str (tx l)] ∧ l.length ≤ 1000 ∧ z = txs (wordsF l)
theorem fn_lwords {f : Addr} {fd : FuncData} {k : Nat} (F : Fun K "_law_words" "_law_words" s_law_words f fd) (N : Nb mg) : FnOk P w K mg base CX0 (k + 1) f fd ["text"] (spL ok_lwords) := by
  refine F.ok sc_law_words (fun vs H Q E h => ?_) (fun cdv A outer s H vs Q E hr h => ?_)
  · obtain ⟨_, ⟨_, rfl, _⟩, _⟩ := h
    rfl
  · obtain ⟨_, ⟨l, rfl, hl, hz⟩, q⟩ := h
    rw [hz] at q
    refine ⟨_, (pss_one (ps_ret (pe_lc (own := [("word", 1)]) (by rfl) sc_law_words.nd (pi_list (pe_split (pv 0) pe_str)) (blkOk_by (own := [("word", 1)]) (N := ["text", "word"]) (sc := defScope s_law_words) (by decide +kernel)) (fun _ _ _ _ _ => (pg_name (i := 1) sc_law_words.nd rfl (Or.inl rfl))) (fun _ _ _ _ _ => (pts_one (pt_cmpR op_ne (pv 1) pe_str (nomark _)))) (fun _ _ _ _ _ => (pv 1))))), ?_⟩
    exact s_retL (el_words (j := 1) (vs := [1]) (ev_v rfl) hl (fun _ => rfl) fun _ => rfl) fun p H1 hp e1 h1 => q p H1 hp e1 h1
abbrev s_law_speaks : Stmt := topS 39
theorem sc_law_speaks : FnScope ["text", "terms"] ["text"] (defScope s_law_speaks) := ⟨rfl, rfl, rfl, by decide +kernel, rfl, by decide +kernel, by decide +kernel⟩
theorem fn_lspeaks {f : Addr} {fd : FuncData} {k : Nat} (F : Fun K "_law_speaks" "_law_speaks" s_law_speaks f fd) (N : Nb mg) (C_law_words : Cal P w K mg base k "_law_words" ["text"] (spL ok_lwords)) : FnOk P w K mg base CX0 (k + 1) f fd ["text"] (spV (ok_test saysF)) := by
  refine F.ok sc_law_speaks (fun vs H Q E h => ?_) (fun cdv A outer s H vs Q E hr h => ?_)
  · obtain ⟨_, ⟨_, rfl, _⟩, _⟩ := h
    rfl
  · obtain ⟨_, ⟨l, rfl, hl, hz⟩, q⟩ := h
    rw [hz] at q
    refine ⟨_, (pss_cons (ps_set (i := 1) sc_law_speaks.nd rfl (Or.inl rfl) (pe_cal C_law_words hr (pa_cons (pv 0) pa_nil)))
      (pss_one (ps_ret (pe_and (pe_cmpR (op_neE hr.units) (pv 1) (pe_lst pa_nil) (nomark _)) (pe_one (pe_cmpR op_ne (pe_ix ix_str (pe_ix ix_list (pv 1) pe_int (fun _ _ => rfl)) pe_int (fun _ _ => rfl)) pe_str (nomark _))))))), ?_⟩
    refine q_asgL (el_cal (ea_cons (ev_v rfl) ea_nil) fun H1 e1 => ⟨l, rfl, hl, rfl⟩) fun p H1 _ e1 h1 => ?_
    have hwl := words_len l
    refine s_ret (ev_is (ev_andV (a := decide (wordsF l ≠ [])) (b := !decide (((wordsF l).headD []).headD 0 = 35)) (ev_is (ev_neE (ev_v rfl) (sq_of h1) (el_lst ea_nil (by decide))) ?_) fun hb => ?_) rfl) fun H2 e2 => q H2 (e1.trans e2)
    · congr 1
      rw [txs_len]
      cases wordsF l <;> rfl
    · have hb := of_decide_eq_true hb
      have h0 : (wordsF l)[0]? = some ((wordsF l).headD []) := by
        cases h : wordsF l with
        | nil => exact absurd h hb
        | cons a r => rfl
      have hm := List.mem_of_getElem? h0
      have hne : (wordsF l).headD [] ≠ [] := of_decide_eq_true (List.mem_filter.mp hm).2
      have hln := hwl.2 _ hm
      exact ev_is (ev_op (ev_op (ev_ixL (j := 0) (ev_v rfl) (ev_cn 0) (sq_of h1) (txs_get h0)) (ev_cn 0) (rv_ixSn (by omega) (head_get hne))) (ev_cs [35] (by decide +kernel)) (rv_ne rfl)) (congrArg (fun b => V.bl (!b)) head_dec)
end
end K50

set_option Elab.async false
set_option linter.all false
set_option maxRecDepth 100000
set_option maxHeartbeats 4000000
namespace K50
open PySem PySem.Spec PyProof.Rows L2 Evl My
def allK : List Kd := [.p, .d, .w, .n, .s]
def kvG (t : L) : List (Key × V) := allK.map fun k => (Sum.inr (tx [kdC k]), .bl (goodF k t))
theorem one_inj {a b : Nat} : ((Sum.inr (tx [a]) : Key) = Sum.inr (tx [b])) ↔ a = b := inr_tx.trans ⟨fun h => (List.cons.inj h).1, fun h => by rw [h]⟩
theorem kvG_val (t : L) (k : Kd) : valV (kvG t) (.inr (tx [kdC k])) = some (.bl (goodF k t)) := by
  unfold valV kvG
  have : ∀ l : List Kd, k ∈ l → (((l.map fun k => ((Sum.inr (tx [kdC k]) : Key), V.bl (goodF k t))).find? fun kv => decide (kv.1 = Sum.inr (tx [kdC k])))).map (·.2) = some (V.bl (goodF k t)) := by
    intro l
    induction l with
    | nil => intro h; simp at h
    | cons a r ih =>
      intro h
      rw [List.map_cons, List.find?_cons]
      by_cases e : a = k
      · subst e
        rw [show decide ((Sum.inr (tx [kdC a]) : Key) = Sum.inr (tx [kdC a])) = true from decide_eq_true rfl]
        rfl
      · rw [show decide ((Sum.inr (tx [kdC a]) : Key) = Sum.inr (tx [kdC k])) = false from decide_eq_false fun z => e (kdC_inj.mp (one_inj.mp z))]
        refine ih ?_
        rcases List.mem_cons.mp h with h | h
        · exact absurd h.symm e
        · exact h
  exact this allK (by cases k <;> decide)
theorem mergeG' : ∀ g1 g2 g3 g4 g5 : Bool, mergeK [] [((Sum.inr (tx [112]) : Key), V.bl g1), (Sum.inr (tx [100]), .bl g2), (Sum.inr (tx [119]), .bl g3), (Sum.inr (tx [110]), .bl g4), (Sum.inr (tx [115]), .bl g5)] = [((Sum.inr (tx [112]) : Key), V.bl g1), (Sum.inr (tx [100]), .bl g2), (Sum.inr (tx [119]), .bl g3), (Sum.inr (tx [110]), .bl g4), (Sum.inr (tx [115]), .bl g5)] := by decide +kernel
theorem mergeG (t : L) : mergeK [] (kvG t) = kvG t := mergeG' _ _ _ _ _
theorem pairsG : ∀ g1 g2 g3 g4 g5 : Bool, [(V.str (Str.ofString "p"), V.bl g1), (V.str (Str.ofString "d"), .bl g2), (V.str (Str.ofString "w"), .bl g3), (V.str (Str.ofString "n"), .bl g4), (V.str (Str.ofString "s"), .bl g5)] = [(V.str (tx [112]), V.bl g1), (V.str (tx [100]), .bl g2), (V.str (tx [119]), .bl g3), (V.str (tx [110]), .bl g4), (V.str (tx [115]), .bl g5)] := by decide +kernel
theorem r_disp {trs : List (TE × TE)} {σ : L2.St} {H : Hp} {Q : VK} (h : ∀ p, H p = none → tPairs trs σ (upd H p (.dK [])) fun ps H2 => H2 p = some (.dK []) ∧ ∃ kvs : List (Key × V), ps = kvs.map (fun kv => (kV kv.1, kv.2)) ∧ kvs.length ≤ 15 ∧ Q (.ref p) (upd H2 p (.dK (mergeK [] kvs)))) : tDisp trs σ H Q := h
theorem r_pair {tk tv : TE} {r : List (TE × TE)} {σ : L2.St} {H : Hp} {Q : List (V × V) → Hp → Prop} (h : tk σ H fun x H1 => tv σ H1 fun y H2 => tPairs r σ H2 fun ps H3 => Q ((x, y) :: ps) H3) : tPairs ((tk, tv) :: r) σ H Q := h
theorem r_pnil {σ : L2.St} {H : Hp} {Q : List (V × V) → Hp → Prop} (h : Q [] H) : tPairs [] σ H Q := h
section
variable {P : Program} {w : World} {K : PySem.W.Frag} {mg : Str → Option Value} {base : Heap}
abbrev s_law_step : Stmt := topS 37
theorem sc_law_step : FnScope ["terms", "shape", "args", "k", "text", "good"] ["terms"] (defScope s_law_step) := ⟨rfl, rfl, rfl, by decide +kernel, rfl, by decide +kernel, by decide +kernel⟩
/- 0 terms, 1 shape, 2 args, 3 k, 4 text, 5 good -/
def sp_lstep (K : PySem.W.Frag) : Sp := fun vs H Q _ => ∃ (a : Addr) (ws : List L), vs = [.ref a] ∧ SqL K H a (txs ws) ∧ ws.length ≤ 1000 ∧ (∀ p ∈ ws, p.length ≤ 1000) ∧ (stepF ws = none → ∀ H', Ex H H' → Q .non H') ∧
  ∀ st, stepF ws = some st → ∀ p b H', H p = none → H b = none → Ex H H' → H' p = some (.lst [.str (tx st.nm), .str (tx st.op), .ref b, .str (tx (st.args.map fun z => kdC z.1))]) → H' b = some (.lst (st.args.map argV)) → Q (.ref p) H'
theorem fn_lstep {f : Addr} {fd : FuncData} {k : Nat} (F : Fun K "_law_step" "_law_step" s_law_step f fd) (N : Nb mg) (C_law_is_word : Cal P w K mg base k "_law_is_word" ["text"] (spV (ok_test wordP))) (C_law_is_path : Cal P w K mg base k "_law_is_path" ["text"] (spV (ok_test pathP))) (C_law_is_count : Cal P w K mg base k "_law_is_count" ["text"] (spV (ok_test countP))) (C_law_shape : Cal P w K mg base k "_law_shape" ["op", "many"] (spV ok_shape)) : FnOk P w K mg base CX0 (k + 1) f fd ["terms"] (sp_lstep K) := by
  refine F.ok sc_law_step (fun vs H Q E h => ?_) (fun cdv A outer s H vs Q E hr h => ?_)
  · obtain ⟨_, _, rfl, _⟩ := h
    rfl
  · obtain ⟨a, ws, rfl, hS, hn, hl, q0, q1⟩ := h
    refine ⟨_, (pss_cons (ps_if (PW.pt (pw_or (pt_cmpR op_lt (pe_callB call_len_seq (by rfl) N.len PySem.boot_len (pa_cons (pv 0) pa_nil)) pe_int (nomark _)) (pw_or (pt_not (pt_val (pe_cal C_law_is_word hr (pa_cons (pe_ix ix_list (pv 0) pe_int (fun _ _ => rfl)) pa_nil)))) (pw_or1 (pt_cmpR op_ne (pe_ix ix_list (pv 0) pe_int (fun _ _ => rfl)) pe_str (nomark _)))))) (pss_one (ps_ret pe_non)) pss_nil)
      (pss_cons (ps_set (i := 1) sc_law_step.nd rfl (Or.inl rfl) (pe_cal C_law_shape hr (pa_cons (pe_ix ix_list (pv 0) pe_int (fun _ _ => rfl)) (pa_cons (pe_op op_sub (pe_callB call_len_seq (by rfl) N.len PySem.boot_len (pa_cons (pv 0) pa_nil)) pe_int) pa_nil))))
      (pss_cons (ps_if (PW.pt (pw_or (pt_cmpR op_isN (pv 1) pe_non (nomark _)) (pw_or1 (pt_cmpR op_ne (pe_callB call_len_str (by rfl) N.len PySem.boot_len (pa_cons (pv 1) pa_nil)) (pe_op op_sub (pe_callB call_len_seq (by rfl) N.len PySem.boot_len (pa_cons (pv 0) pa_nil)) pe_int) (nomark _))))) (pss_one (ps_ret pe_non)) pss_nil)
      (pss_cons (ps_set (i := 2) sc_law_step.nd rfl (Or.inl rfl) (pe_lst pa_nil))
      (pss_cons (ps_for PassesOwn.never rfl (pi_range1 rfl N.range (pa_cons (pe_callB call_len_str (by rfl) N.len PySem.boot_len (pa_cons (pv 1) pa_nil)) pa_nil)) (pg_name (i := 3) sc_law_step.nd rfl (Or.inl rfl)) (pss_cons (ps_set (i := 4) sc_law_step.nd rfl (Or.inl rfl) (pe_ix ix_list (pv 0) (pe_op op_add pe_int (pv 3)) (fun _ _ => rfl)))
      (pss_cons (ps_set (i := 5) sc_law_step.nd rfl (Or.inl rfl) (pe_disp (pps_cons pe_str (pe_cal C_law_is_path hr (pa_cons (pv 4) pa_nil)) (pps_cons pe_str (pe_or (pe_cmpR op_eq (pv 4) pe_str (nomark _)) (pe_one (pe_cal C_law_is_path hr (pa_cons (pv 4) pa_nil)))) (pps_cons pe_str (pe_cmpR op_le (pe_callB call_len_str (by rfl) N.len PySem.boot_len (pa_cons (pv 4) pa_nil)) pe_int (nomark _)) (pps_cons pe_str (pe_cal C_law_is_count hr (pa_cons (pv 4) pa_nil)) (pps_cons pe_str (pe_cal C_law_is_word hr (pa_cons (pv 4) pa_nil)) pps_nil))))) rfl rfl (fun z => nomatch z) (by decide)))
      (pss_cons (ps_if (pt_not (pt_val (pe_dget (hu_of hr) (pv 5) (pe_ix ix_str (pv 1) (pv 3) (fun _ _ => rfl)) (fun _ _ => rfl)))) (pss_one (ps_ret pe_non)) pss_nil)
      (pss_one (ps_expr (pe_bm PySem.F.plainAttrs_list PySem.F.slot_list_append PySem.F.type_list_append mt_append (pv 2) (pa_cons (pe_ifExp (pt_cmpR op_eq (pe_ix ix_str (pv 1) (pv 3) (fun _ _ => rfl)) pe_str (nomark _)) (pe_callTy call_int_str (by rfl) N.int PyProof.Rows.boot_int (pa_cons (pv 4) pa_nil)) (pv 4)) pa_nil))))))))
      (pss_one (ps_ret (pe_lst (pa_cons (pe_ix ix_list (pv 0) pe_int (fun _ _ => rfl)) (pa_cons (pe_ix ix_list (pv 0) pe_int (fun _ _ => rfl)) (pa_cons (pv 2) (pa_cons (pv 1) pa_nil)))))))))))), ?_⟩
    have lenV : ∀ {H' : Hp} {σ : L2.St}, Ex H H' → σ[0]? = some (some (.ref a)) → Ev (tCB (rLenS K) (tCons (tVar 0) tNil)) σ H' (.int ((ws.length : Nat) : Int)) := fun e hv => ev_is (ev_len (ev_v hv) (ex_l e hS)) (by rw [txs_len])
    refine q_when (b := decide ((ws.length : Int) < 4) || (!(wordP (ws.getD 0 [])) || !decide (ws.getD 1 [] = [61]))) (et_or (et_test (ev_op (lenV (Ex.refl _) rfl) (ev_cn 4) rv_I0)) fun hb => ?_) (fun hb H1 e1 => ?_) fun hb H1 e1 => ?_
    · have h4 : 4 ≤ ws.length := by have := of_decide_eq_false hb; omega
      have hw0 : (ws.getD 0 []).length ≤ 1000 := hl _ (getD_mem (by omega))
      exact et_or (et_not (et_B (ev_cal (ea_cons (ev_word (i := 0) (ev_v rfl) (ev_cn 0) hS (by omega)) ea_nil) fun H2 e2 => ⟨_, rfl, hw0, rfl⟩))) fun _ => et_test (ev_is (ev_op (ev_word (i := 1) (ev_v rfl) (ev_cn 1) hS (by omega)) (ev_cs [61] (by decide +kernel)) (rv_ne rfl)) (congrArg (fun b => V.bl (!b)) str_dec))
    · refine s_ret ev_c fun H2 e2 => q0 ?_ H2 (e1.trans e2)
      unfold stepF
      rw [if_pos ?_]
      rw [Bool.or_eq_true, Bool.or_eq_true, Bool.not_eq_true', Bool.not_eq_true', decide_eq_true_eq] at hb
      rcases hb with hb | hb | hb
      · exact .inl (by omega)
      · exact .inr (.inl hb)
      · exact .inr (.inr (of_decide_eq_false hb))
    · rw [Bool.or_eq_false_iff, Bool.or_eq_false_iff, Bool.not_eq_false', Bool.not_eq_false'] at hb
      obtain ⟨hb1, hb2, hb3⟩ := hb
      have h4 : 4 ≤ ws.length := by have := of_decide_eq_false hb1; omega
      have hb3 := of_decide_eq_true hb3
      have hst : stepF ws = match shapeF (ws.getD 2 []) (ws.length - 3) with
        | none => none
        | some ks => if ks.length = ws.length - 3 ∧ (ks.zip (ws.drop 3)).all (fun p => goodF p.1 p.2) = true then some ⟨ws.getD 0 [], ws.getD 2 [], ks.zip (ws.drop 3)⟩ else none := by
        have hno : ¬ (ws.length < 4 ∨ wordP (ws.getD 0 []) = false ∨ ws.getD 1 [] ≠ [61]) := by
          rintro (h | h | h)
          · omega
          · rw [hb2] at h
            exact nomatch h
          · exact h hb3
        rw [stepF, if_neg hno]
        try rfl
      have hS1 := ex_l e1 hS
      refine q_asg (v := shpV (shapeF (ws.getD 2 []) (ws.length - 3))) (ev_cal (ea_cons (ev_word (i := 2) (ev_v rfl) (ev_cn 2) hS1 (by omega)) (ea_cons (ev_is (ev_op (lenV e1 rfl) (ev_cn 3) rv_I0) (show _ = V.int ((ws.length - 3 : Nat) : Int) by congr 1; omega)) ea_nil)) fun H2 e2 => ⟨_, _, rfl, rfl⟩) fun H2 e2 => ?_
      have E2 := e1.trans e2
      cases hsh : shapeF (ws.getD 2 []) (ws.length - 3) with
      | none =>
        refine q_when (et_or (a := true) (b := false) (et_is (et_isN (ev_v (v := .non) rfl)) (by rfl)) fun z => nomatch z) (fun _ H3 e3 => ?_) fun z => nomatch z
        exact s_ret ev_c fun H4 e4 => q0 (by rw [hst, hsh]) H4 ((E2.trans e3).trans e4)
      | some ks =>
        rw [hsh] at hst
        have hk6 := shape_len hsh
        have hcl : (ks.map kdC).length = ks.length := List.length_map _
        refine q_when (b := !decide (ks.length = ws.length - 3)) (et_is (et_or (a := false) (et_isN (ev_v (v := .str (tx (ks.map kdC))) rfl)) fun _ => et_test (ev_op (ev_is (ev_lenS (l := ks.map kdC) (ev_v rfl) (by omega)) (by rw [hcl])) (ev_op (lenV E2 rfl) (ev_cn 3) rv_I0) (rv_ne rfl))) ?_) (fun hc H3 e3 => ?_) fun hc H3 e3 => ?_
        · rw [Bool.false_or]
          congr 1
          refine decide_eq_decide.mpr ⟨fun h => ?_, fun h => ?_⟩
          · have := V.int.inj h
            omega
          · rw [h]
            congr 1
            omega
        · refine s_ret ev_c fun H4 e4 => q0 ?_ H4 ((E2.trans e3).trans e4)
          show stepF ws = none
          rw [hst]
          refine if_neg fun h => ?_
          rw [Bool.not_eq_true'] at hc
          exact of_decide_eq_false hc h.1
        · rw [Bool.not_eq_false'] at hc
          have hkl := of_decide_eq_true hc
          have E3 := E2.trans e3
          have hdl : (ws.drop 3).length = ws.length - 3 := List.length_drop
          have hat : ∀ i, (ws.drop 3).getD i [] = ws.getD (3 + i) [] := fun i => by
            rw [List.getD_eq_getElem?_getD, List.getD_eq_getElem?_getD, List.getElem?_drop]
          refine q_asgL (el_lst ea_nil (by decide)) fun b H4 hb4 e4 h4' => ?_
          have hb0 := fresh_back E3 hb4
          have hza : (ks.zip (ws.drop 3)).length = ks.length := by rw [List.length_zip]; omega
          refine q_forR1N (n := ks.length) (ea_cons (ev_is (ev_lenS (l := ks.map kdC) (ev_v rfl) (by omega)) (by rw [hcl])) ea_nil) (by omega) (fun i σ H' => Ex H H' ∧ i ≤ ks.length ∧ H' b = some (.lst (((ks.zip (ws.drop 3)).take i).map argV)) ∧ (∀ j, j < i → goodF (ks.getD j .s) (ws.getD (3 + j) []) = true) ∧ ∃ y3 y4 y5, σ = [some (.ref a), some (.str (tx (ks.map kdC))), some (.ref b), y3, y4, y5]) (fun H5 e5 => ⟨(E3.trans e4).trans e5, Nat.zero_le _, e5 _ _ h4', fun j h => absurd h (by omega), none, none, none, rfl⟩) ?_ ?_
          · rintro i σ H' hi ⟨e', _, hbl, hgood, y3, y4, y5, rfl⟩
            have hi3 : 3 + i < ws.length := by omega
            have hwl : (ws.getD (3 + i) []).length ≤ 1000 := hl _ (getD_mem hi3)
            have hcg : (ks.map kdC)[i]? = some (kdC (ks.getD i .s)) := by
              rw [List.getElem?_map, getD_some (d := Kd.s) hi]
              rfl
            refine q_asg (v := .str (tx (ws.getD (3 + i) []))) (ev_ixL (j := 3 + i) (ev_v rfl) (ev_is (ev_op (ev_cn 3) (ev_v rfl) rv_I0) (by congr 1)) (ex_l e' hS) (txs_get (getD_some hi3))) fun H5 e5 => ?_
            generalize hpt : ws.getD (3 + i) [] = pt at hwl
            have cpath : ∀ {H' : Hp} {σ : L2.St}, σ[4]? = some (some (.str (tx pt))) → Ev (tCall (spV (ok_test pathP)) [] E0 (tCons (tVar 4) tNil)) σ H' (.bl (pathP pt)) := fun hv => ev_cal (ea_cons (ev_v hv) ea_nil) fun H1 e1 => ⟨pt, rfl, hwl, rfl⟩
            refine r_asg (r_disp (fun pg hpg => r_pair (r_c (r_ev (cpath rfl) (Ex.refl _) fun H6 e6 => r_pair (r_c (r_ev (ev_orV (a := decide (pt = [46])) (b := pathP pt) (ev_eqS (ev_v rfl) (ev_cs [46] (by decide +kernel))) fun _ => cpath rfl) (Ex.refl _) fun H7 e7 => r_pair (r_c (r_ev (ev_is (ev_op (ev_lenS (l := pt) (ev_v rfl) (by omega)) (ev_cn 12) rv_I0) (show _ = V.bl (decide (pt.length ≤ 12)) from congrArg V.bl (decide_eq_decide.mpr (by omega)))) (Ex.refl _) fun H8 e8 => r_pair (r_c (r_ev (ev_cal (ea_cons (ev_v rfl) ea_nil) fun H1 e1 => (⟨pt, rfl, hwl, rfl⟩ : ok_test countP _ _ (V.bl (countP pt)))) (Ex.refl _) fun H9 e9 => r_pair (r_c (r_ev (ev_cal (ea_cons (ev_v rfl) ea_nil) fun H1 e1 => (⟨pt, rfl, hwl, rfl⟩ : ok_test wordP _ _ (V.bl (wordP pt)))) (Ex.refl _) fun H10 e10 => r_pnil ⟨?_, kvG pt, pairsG _ _ _ _ _, (by show 5 ≤ 15; decide), ?_⟩))))))))))))
            · exact ((((e6.trans e7).trans e8).trans e9).trans e10) _ _ upd_same
            rw [mergeG]
            have E5 := e'.trans e5
            have hpg0 := fresh_back E5 hpg
            have e610 := (((e6.trans e7).trans e8).trans e9).trans e10
            have Eg : Ex H (upd H10 pg (.dK (kvG pt))) := ((E5.trans (Ex.new hpg)).trans e610).mut hpg0
            have hbg : b ≠ pg := fun z => by rw [← z, e5 _ _ hbl] at hpg; exact nomatch hpg
            have hb10 : (upd H10 pg (.dK (kvG pt))) b = some (.lst (((ks.zip (ws.drop 3)).take i).map argV)) := by
              rw [upd_ne hbg]
              refine e610 _ _ ?_
              rw [upd_ne hbg]
              exact e5 _ _ hbl
            have hg10 : (upd H10 pg (.dK (kvG pt))) pg = some (.dK (kvG pt)) := upd_same
            generalize (upd H10 pg (.dK (kvG pt))) = H11 at Eg hb10 hg10 ⊢
            refine q_when (b := !goodF (ks.getD i .s) pt) (et_not (et_B (ev_dget (l := [kdC (ks.getD i .s)]) (ev_v rfl) hg10 (ev_op (ev_v rfl) (ev_v rfl) (rv_ixSn (l := ks.map kdC) (by omega) hcg)) (kvG_val pt _)))) (fun hb H12 e12 => ?_) fun hb H12 e12 => ?_
            · refine s_ret ev_c fun H13 e13 => q0 ?_ H13 ((Eg.trans e12).trans e13)
              show stepF ws = none
              rw [hst]
              refine if_neg fun h => ?_
              have hm : (ks.getD i .s, (ws.drop 3).getD i []) ∈ ks.zip (ws.drop 3) := by
                refine List.mem_of_getElem? (i := i) ?_
                rw [List.getElem?_zip_eq_some]
                exact ⟨getD_some hi, getD_some (by omega)⟩
              have := List.all_eq_true.mp h.2 _ hm
              rw [hat, hpt] at this
              rw [this] at hb
              exact nomatch hb
            · rw [Bool.not_eq_false'] at hb
              refine s_app (v := argV (ks.getD i .s, pt)) (e12 _ _ hb10) (ev_v rfl) (ev_if (b := decide (ks.getD i .s = .n)) (et_is (et_test (ev_is (ev_op (ev_op (ev_v rfl) (ev_v rfl) (rv_ixSn (l := ks.map kdC) (by omega) hcg)) (ev_cs [110] (by decide +kernel)) (rv_eq rfl)) (congrArg V.bl head_dec))) (decide_eq_decide.mpr (kdC_inj (b := .n)))) (fun hd => ?_) fun hd => ?_) ?_ fun H13 e13 => ?_
              · have hkn := of_decide_eq_true hd
                rw [hkn] at hb
                unfold argV
                rw [if_pos hkn]
                exact fun H6 e6 Q' q' => ev_v (v := .str (tx pt)) rfl H6 e6 _ fun H7 e7 => ⟨tx pt, _, rfl, num_text _ hb, by rw [tx_len]; have := count_len hb; omega, q' H7 e7⟩
              · unfold argV
                rw [if_neg (of_decide_eq_false hd)]
                exact ev_v rfl
              · rw [List.length_map, List.length_take]
                omega
              · refine ⟨((Eg.trans e12).trans e13).mut hb0, hi, ?_, fun j hj => ?_, _, _, _, rfl⟩
                · rw [upd_same, List.take_add_one, show (ks.zip (ws.drop 3))[i]? = some (ks.getD i .s, pt) by
                    rw [List.getElem?_zip_eq_some]
                    exact ⟨getD_some hi, by rw [← hpt, ← hat]; exact getD_some (by omega)⟩, List.map_append]
                  rfl
                · rcases Nat.lt_or_ge j i with h | h
                  · exact hgood j h
                  · have : j = i := by omega
                    rw [this, hpt]
                    exact hb
          · rintro σ H' ⟨e', _, hbl, hgood, y3, y4, y5, rfl⟩
            rw [List.take_of_length_le (by omega)] at hbl
            have hall : (ks.zip (ws.drop 3)).all (fun p => goodF p.1 p.2) = true := by
              rw [List.all_eq_true]
              intro p hp
              obtain ⟨i, hi, hpi⟩ := List.getElem_of_mem hp
              have hik : i < ks.length := by omega
              have := hgood i hik
              rw [← hat] at this
              have hz : (ks.zip (ws.drop 3))[i]? = some (ks.getD i .s, (ws.drop 3).getD i []) := by
                rw [List.getElem?_zip_eq_some]
                exact ⟨getD_some hik, getD_some (by omega)⟩
              rw [List.getElem?_eq_getElem hi, hpi] at hz
              rw [Option.some.inj hz]
              exact this
            have hst2 : stepF ws = some ⟨ws.getD 0 [], ws.getD 2 [], ks.zip (ws.drop 3)⟩ := hst.trans (if_pos ⟨hkl, hall⟩)
            have hsz : (ks.zip (ws.drop 3)).map (fun z => kdC z.1) = ks.map kdC := by
              have e1 : (ks.zip (ws.drop 3)).map (fun z => kdC z.1) = ((ks.zip (ws.drop 3)).map (·.1)).map kdC := by rw [List.map_map]; rfl
              rw [e1, List.map_fst_zip (by omega)]
            refine s_retL (el_lst (ea_cons (ev_word (i := 0) (ev_v rfl) (ev_cn 0) (ex_l e' hS) (by omega)) (ea_cons (ev_word (i := 2) (ev_v rfl) (ev_cn 2) (ex_l e' hS) (by omega)) (ea_cons (ev_v rfl) (ea_cons (ev_v rfl) ea_nil)))) (by show 4 ≤ 100000; decide)) fun p H5 hp e5 h5 => q1 _ hst2 p b H5 (fresh_back e' hp) hb0 (e'.trans e5) ?_ (e5 _ _ hbl)
            show H5 p = some (.lst [_, _, _, .str (tx ((ks.zip (ws.drop 3)).map (fun z => kdC z.1)))])
            rw [hsz]
            exact h5
end
end K50

set_option Elab.async false
set_option linter.all false
set_option maxRecDepth 100000
set_option maxHeartbeats 4000000
namespace K50
open PySem PySem.Spec PyProof.Rows L2 Evl My
/-- a row of the law's list -/
def RowA (H : Hp) (sl : Addr) (v : V) (r : Row) : Prop := ∃ p b vo, v = .ref p ∧ p ≠ sl ∧ b ≠ sl ∧ H p = some (.lst [.str (tx r.1.nm), .str (tx r.1.op), .ref b, .str (tx (r.1.args.map fun z => kdC z.1)), vo]) ∧ H b = some (.lst (r.1.args.map argV)) ∧ Rep H vo (oneD r.2)
inductive RowsA (H : Hp) (sl : Addr) : List V → List Row → Prop
  | nil : RowsA H sl [] []
  | cons {v : V} {r : Row} {vs : List V} {rs : List Row} : RowA H sl v r → RowsA H sl vs rs → RowsA H sl (v :: vs) (r :: rs)
theorem RowA.imp {H H' : Hp} {sl : Addr} {v : V} {r : Row} (k : ∀ a o, a ≠ sl → H a = some o → H' a = some o) (kt : ∀ a us, H a = some (.tup us) → H' a = some (.tup us)) (h : RowA H sl v r) : RowA H' sl v r := by
  obtain ⟨p, b, vo, h1, h2, h3, h4, h5, h6⟩ := h
  exact ⟨p, b, vo, h1, h2, h3, k _ _ h2 h4, k _ _ h3 h5, Rep.keepT kt (nol_one _) h6⟩
theorem RowsA.imp {H H' : Hp} {sl : Addr} (k : ∀ a o, a ≠ sl → H a = some o → H' a = some o) (kt : ∀ a us, H a = some (.tup us) → H' a = some (.tup us)) : ∀ {vs : List V} {rs : List Row}, RowsA H sl vs rs → RowsA H' sl vs rs
  | _, _, .nil => .nil
  | _, _, .cons h t => .cons (h.imp k kt) (RowsA.imp k kt t)
theorem RowsA.mono {H H' : Hp} {sl : Addr} {vs : List V} {rs : List Row} (e : Ex H H') (h : RowsA H sl vs rs) : RowsA H' sl vs rs := h.imp (fun a o _ h => e a o h) fun a us h => e a _ h
theorem RowsA.len {H : Hp} {sl : Addr} : ∀ {vs : List V} {rs : List Row}, RowsA H sl vs rs → vs.length = rs.length
  | _, _, .nil => rfl
  | _, _, .cons _ t => by rw [List.length_cons, List.length_cons, t.len]
theorem RowsA.get' {H : Hp} {sl : Addr} : ∀ {vs : List V} {rs : List Row} {i : Nat} {v : V}, RowsA H sl vs rs → vs[i]? = some v → ∃ r, rs[i]? = some r ∧ RowA H sl v r
  | _, _, i, _, .nil, h => by simp at h
  | _, _, 0, _, .cons h t, e => by cases e; exact ⟨_, rfl, h⟩
  | _, _, i + 1, _, .cons h t, e => @RowsA.get' H sl _ _ i _ t e
theorem RowsA.app {H : Hp} {sl : Addr} : ∀ {vs : List V} {rs : List Row} {v : V} {r : Row}, RowsA H sl vs rs → RowA H sl v r → RowsA H sl (vs ++ [v]) (rs ++ [r])
  | _, _, _, _, .nil, h => .cons h .nil
  | _, _, _, _, .cons h t, g => .cons h (t.app g)
/-- a row's name, read off the heap -/
def nmA (H : Hp) (v : V) : V := match v with
  | .ref a => (match H a with
    | some (.lst (s :: _)) => s
    | _ => .non)
  | _ => .non
theorem nmA_all {H : Hp} {sl : Addr} : ∀ {vs : List V} {rs : List Row}, RowsA H sl vs rs → vs.map (nmA H) = txs (nmsF rs)
  | _, _, .nil => rfl
  | _, _, .cons (r := r) h t => by
    obtain ⟨p, b, vo, rfl, _, _, h4, _⟩ := h
    rw [List.map_cons, nmA_all t]
    show nmA H (.ref p) :: _ = _
    have : nmA H (.ref p) = .str (tx r.1.nm) := by
      show (match H p with
        | some (.lst (s :: _)) => s
        | _ => .non) = _
      rw [h4]
    rw [this]
    rfl
theorem used_dec (st : Stp) (ks : List L) : decide (V.int ((given st.args.length (fun k => decide ((st.args.map (·.1)).getD k .p = .s) && !decide ((st.args.getD k (.p, [])).2 ∈ ks)) (fun k => .int (k : Nat))).length : Int) = V.int 0) = (insF st).all fun p => decide (p ∈ ks) := by
  unfold given
  rw [List.length_map, Bool.eq_iff_iff, decide_eq_true_eq, List.all_eq_true]
  constructor
  · intro h p hp
    have h0 : ((List.range st.args.length).filter fun k => decide ((st.args.map (·.1)).getD k .p = .s) && !decide ((st.args.getD k (.p, [])).2 ∈ ks)).length = 0 := by have := V.int.inj h; omega
    rw [List.length_eq_zero_iff, List.filter_eq_nil_iff] at h0
    unfold insF at hp
    obtain ⟨q, hq, rfl⟩ := List.mem_map.mp hp
    obtain ⟨hq1, hq2⟩ := List.mem_filter.mp hq
    obtain ⟨i, hi, rfl⟩ := List.getElem_of_mem hq1
    have := h0 i (List.mem_range.mpr hi)
    rw [List.getD_eq_getElem?_getD, List.getElem?_map, List.getElem?_eq_getElem hi, List.getD_eq_getElem?_getD, List.getElem?_eq_getElem hi] at this
    simp only [Option.map_some, Option.getD_some] at this
    rw [hq2, Bool.true_and] at this
    simpa using this
  · intro h
    have h0 : (List.range st.args.length).filter (fun k => decide ((st.args.map (·.1)).getD k .p = .s) && !decide ((st.args.getD k (.p, [])).2 ∈ ks)) = [] := by
      rw [List.filter_eq_nil_iff]
      intro i hi
      have hi := List.mem_range.mp hi
      rw [List.getD_eq_getElem?_getD, List.getElem?_map, List.getElem?_eq_getElem hi, List.getD_eq_getElem?_getD, List.getElem?_eq_getElem hi]
      simp only [Option.map_some, Option.getD_some]
      by_cases hs : (st.args[i]).1 = .s
      · have : (st.args[i]).2 ∈ insF st := by
          unfold insF
          exact List.mem_map_of_mem (List.mem_filter.mpr ⟨List.getElem_mem hi, decide_eq_true hs⟩)
        have := of_decide_eq_true (h _ this)
        simp [this]
      · simp [hs]
    rw [h0]
    rfl
section
variable {P : Program} {w : World} {K : PySem.W.Frag} {mg : Str → Option Value} {base : Heap}
theorem lstep_use {H : Hp} {Q : VK} {E : XK} {a : Addr} {ws : List L} (hS : SqL K H a (txs ws)) (hn : ws.length ≤ 1000) (hl : ∀ p ∈ ws, p.length ≤ 1000) (h0 : stepF ws = none → ∀ H', Ex H H' → Q .non H')
    (h : ∀ st, stepF ws = some st → Wf st → ∀ p b H', H p = none → H b = none → Ex H H' → H' p = some (.lst [.str (tx st.nm), .str (tx st.op), .ref b, .str (tx (st.args.map fun z => kdC z.1))]) → H' b = some (.lst (st.args.map argV)) → Q (.ref p) H') : sp_lstep K [.ref a] H Q E :=
  ⟨a, ws, rfl, hS, hn, hl, h0, fun st h1 => h st h1 (step_wf h1 hl)⟩
theorem el_nms {σ : L2.St} {H : Hp} {sl : Addr} {ws : List V} {fnd : List Row} {i j : Nat} {vs : List Nat} (hl : H sl = some (.lst ws)) (hR : RowsA H sl ws fnd) (hf : fnd.length ≤ 1000) (h1 : σ[i]? = some (some (.ref sl))) (hw : ∀ x, wipe ((wipe σ vs).set j (some x)) vs = wipe σ vs) (hj : ∀ x, ((wipe σ vs).set j (some x))[j]? = some (some x)) :
    EvL (tLc (iList K (tVar i)) (gName j) tYes (tOp (rIxL K) (tVar j) (tC (.int 0))) vs) σ H (txs (nmsF fnd)) := by
  have hlen := hR.len
  rw [← nmA_all hR, ← show ws.filter (fun _ => true) = ws from List.filter_eq_self.mpr fun _ _ => rfl]
  refine el_lcA (fun _ => true) (nmA H) (ev_v h1) (sq_of hl) (by omega) hw (fun x H1 e1 hx => et_yes) fun x H1 e1 hx _ => ?_
  obtain ⟨k, hk, hkx⟩ := List.getElem_of_mem hx
  obtain ⟨r, hr, p, b, vo, rfl, _, _, h4, _⟩ := hR.get' (show ws[k]? = some x by rw [List.getElem?_eq_getElem hk, hkx])
  refine ev_is (ev_ixL (j := 0) (ev_v (hj _)) (ev_cn 0) (sq_of (e1 _ _ h4)) rfl) ?_
  show _ = (match H p with
    | some (.lst (s :: _)) => s
    | _ => .non)
  rw [h4]
theorem gt0 {n : Nat} : decide (((0 : Nat) : Int) < ((n : Nat) : Int)) = !decide (V.int (n : Int) = V.int 0) := by
  by_cases h : n = 0
  · subst h
    rfl
  · rw [decide_eq_true (by omega), decide_eq_false fun z => h (by have := V.int.inj z; omega)]
    rfl
abbrev s_law_plan : Stmt := topS 40
theorem sc_law_plan : FnScope ["lines", "steps", "at", "one", "text", "step", "names", "told", "k", "name", "op", "args", "shape"] ["lines"] (defScope s_law_plan) := ⟨rfl, rfl, rfl, by decide +kernel, rfl, by decide +kernel, by decide +kernel⟩
/- 0 lines, 1 steps, 2 at, 3 one, 4 text, 5 step*, 6 names*, 7 told, 8 k, 9 name, 10 op, 11 args, 12 shape -/
def sp_lplan (K : PySem.W.Frag) : Sp := fun vs H Q _ => ∃ (a : Addr) (us : List V) (lns : List Ln), vs = [.ref a] ∧ SqL K H a us ∧ Reps H us (lns.map lnD) ∧ Lns lns ∧ ∀ v H', Ex H H' → Rep H' v (planD (planF lns)) → Q v H'
theorem fn_lplan {f : Addr} {fd : FuncData} {k : Nat} (F : Fun K "_law_plan" "_law_plan" s_law_plan f fd) (N : Nb mg) (C_law_speaks : Cal P w K mg base k "_law_speaks" ["text"] (spV (ok_test saysF))) (C_law_words : Cal P w K mg base k "_law_words" ["text"] (spL ok_lwords)) (C_law_step : Cal P w K mg base k "_law_step" ["terms"] (sp_lstep K)) : FnOk P w K mg base CX0 (k + 1) f fd ["lines"] (sp_lplan K) := by
  refine F.ok sc_law_plan (fun vs H Q E h => ?_) (fun cdv A outer s H vs Q E hr h => ?_)
  · obtain ⟨_, _, _, rfl, _⟩ := h
    rfl
  · obtain ⟨a, us, lns, rfl, hS, hR, hL, q⟩ := h
    refine ⟨_, (pss_cons (ps_set (i := 1) sc_law_plan.nd rfl (Or.inl rfl) (pe_lst pa_nil))
      (pss_cons (ps_for PassesOwn.never rfl (pi_range1 rfl N.range (pa_cons (pe_callB call_len_seq (by rfl) N.len PySem.boot_len (pa_cons (pv 0) pa_nil)) pa_nil)) (pg_name (i := 2) sc_law_plan.nd rfl (Or.inl rfl)) (pss_cons (ps_asg (pe_ix ix_list (pv 0) (pv 2) (fun _ _ => rfl)) (pg_tup rfl (pgs_cons (pg_name (i := 3) sc_law_plan.nd rfl (Or.inl rfl)) (pgs_cons (pg_name (i := 4) sc_law_plan.nd rfl (Or.inl rfl)) pgs_nil))))
      (pss_one (ps_if (pt_val (pe_cal C_law_speaks hr (pa_cons (pv 4) pa_nil))) (pss_cons (ps_set (i := 5) sc_law_plan.nd rfl (Or.inr rfl) (pe_cal C_law_step hr (pa_cons (pe_cal C_law_words hr (pa_cons (pv 4) pa_nil)) pa_nil)))
      (pss_cons (ps_set (i := 6) sc_law_plan.nd rfl (Or.inr rfl) (pe_lc (own := [("told", 7)]) (by rfl) sc_law_plan.nd (pi_list (pv 1)) (blkOk_by (own := [("told", 7)]) (N := ["lines", "steps", "at", "one", "text", "step", "names", "told", "k", "name", "op", "args", "shape"]) (sc := defScope s_law_plan) (by decide +kernel)) (fun _ _ _ _ _ => (pg_name (i := 7) sc_law_plan.nd rfl (Or.inl rfl))) (fun _ _ _ _ _ => pts_nil) (fun _ _ _ _ _ => (pe_ix (r := rIxL K) ix_list (pv 7) pe_int (fun _ _ => rfl)))))
      (pss_cons (ps_if (pt_cmpR op_isN (pv 5) pe_non (nomark _)) (pss_one (ps_ret (pe_tup (pa_cons pe_str (pa_cons (pv 2) (pa_cons pe_str pa_nil)))))) pss_nil)
      (pss_cons (ps_if (pt_cmpR op_in_seq (pe_ix ix_list (pv 5) pe_int (fun _ _ => rfl)) (pv 6) rfl) (pss_one (ps_ret (pe_tup (pa_cons pe_str (pa_cons (pv 2) (pa_cons pe_str pa_nil)))))) pss_nil)
      (pss_cons (ps_if (pt_cmpR op_gt (pe_callB call_len_seq (by rfl) N.len PySem.boot_len (pa_cons (pe_lc (own := [("k", 8)]) (by rfl) sc_law_plan.nd (pi_range1 rfl N.range (pa_cons (pe_callB call_len_str (by rfl) N.len PySem.boot_len (pa_cons (pe_ix ix_list (pv 5) pe_int (fun _ _ => rfl)) pa_nil)) pa_nil)) (blkOk_by (own := [("k", 8)]) (N := ["lines", "steps", "at", "one", "text", "step", "names", "told", "k", "name", "op", "args", "shape"]) (sc := defScope s_law_plan) (by decide +kernel)) (fun _ _ _ _ _ => (pg_name (i := 8) sc_law_plan.nd rfl (Or.inl rfl))) (fun _ _ _ _ _ => (pts_one (PW.pt (pw_and (pt_cmpR op_eq (pe_ix ix_str (pe_ix (r := rIxL K) ix_list (pv 5) pe_int (fun _ _ => rfl)) (pv 8) (fun _ _ => rfl)) pe_str (nomark _)) (pw_and1 (pt_cmpR (r := rIn K true) op_notIn_seq (pe_ix (r := rIxL K) ix_list (pe_ix (r := rIxL K) ix_list (pv 5) pe_int (fun _ _ => rfl)) (pv 8) (fun _ _ => rfl)) (pv 6) rfl)))))) (fun _ _ _ _ _ => (pv 8))) pa_nil)) pe_int (nomark _)) (pss_one (ps_ret (pe_tup (pa_cons pe_str (pa_cons (pv 2) (pa_cons pe_str pa_nil)))))) pss_nil)
      (pss_cons (ps_if (pt_cmpR op_eq (pe_callB call_len_seq (by rfl) N.len PySem.boot_len (pa_cons (pv 1) pa_nil)) pe_int (nomark _)) (pss_one (ps_ret (pe_tup (pa_cons pe_str (pa_cons (pv 2) (pa_cons pe_str pa_nil)))))) pss_nil)
      (pss_one (ps_expr (pe_bm PySem.F.plainAttrs_list PySem.F.slot_list_append PySem.F.type_list_append mt_append (pv 1) (pa_cons (pe_op op_cat (pv 5) (pe_lst (pa_cons (pv 3) pa_nil))) pa_nil)))))))))) pss_nil))))
      (pss_one (ps_ret (pe_tup (pa_cons pe_str (pa_cons (pe_callTy call_tuple_of (by rfl) N.tuple PyProof.Rows.boot_tuple (pa_cons (pe_lc (own := [("name", 9), ("op", 10), ("args", 11), ("shape", 12), ("one", 3)]) (by rfl) sc_law_plan.nd (pi_list (pv 1)) (blkOk_by (own := [("name", 9), ("op", 10), ("args", 11), ("shape", 12), ("one", 3)]) (N := ["lines", "steps", "at", "one", "text", "step", "names", "told", "k", "name", "op", "args", "shape"]) (sc := defScope s_law_plan) (by decide +kernel)) (fun _ _ _ _ _ => (show PG _ _ (gUnl K 5 _) from pg_unl rfl (pgs_cons (pg_name (i := 9) sc_law_plan.nd rfl (Or.inl rfl)) (pgs_cons (pg_name (i := 10) sc_law_plan.nd rfl (Or.inl rfl)) (pgs_cons (pg_name (i := 11) sc_law_plan.nd rfl (Or.inl rfl)) (pgs_cons (pg_name (i := 12) sc_law_plan.nd rfl (Or.inl rfl)) (pgs_cons (pg_name (i := 3) sc_law_plan.nd rfl (Or.inl rfl)) pgs_nil))))))) (fun _ _ _ _ _ => pts_nil) (fun _ _ _ _ _ => (pe_tup (pa_cons (pv 9) (pa_cons (pv 10) (pa_cons (pe_callTy (r := rTupS K) call_tuple_of (by rfl) N.tuple PyProof.Rows.boot_tuple (pa_cons (pv 11) pa_nil)) (pa_cons (pv 3) pa_nil))))))) pa_nil)) pa_nil))))))), ?_⟩
    have hul := hR.len
    rw [List.length_map] at hul
    have hln := hL.1
    have wrong : ∀ {σ : L2.St} {H' : Hp} {i : Nat} {e : L} {t : Str}, σ[2]? = some (some (.int (i : Int))) → t = tx e → EvD (tTup (tCons (tC (.str "wrong")) (tCons (tVar 2) (tCons (tC (.str t)) tNil)))) σ H' (planD (.inl (i, e))) := fun hv ht => ed_tup (er_cons (evd_v (ev_cs [119, 114, 111, 110, 103] (by decide +kernel)) (.str _)) (er_cons (evd_v (ev_v hv) (.int _)) (er_cons (evd_v (ev_cs _ ht) (.str _)) er_nil))) (by show 3 ≤ 100000; decide)
    refine q_asgL (el_lst ea_nil (by decide)) fun sl H1 hsl e1 h1 => ?_
    refine q_forR1N (n := us.length) (ea_cons (ev_len (ev_v rfl) (ex_l e1 hS)) ea_nil) (by omega) (fun i σ H' => Ex H H' ∧ ∃ (fnd : List Row) (ws : List V) (y2 y3 y4 y5 y6 y7 y8 y9 y10 y11 y12 : Option V), planF lns = goF fnd i (lns.drop i) ∧ fnd.length ≤ i ∧ H' sl = some (.lst ws) ∧ RowsA H' sl ws fnd ∧ σ = [some (.ref a), some (.ref sl), y2, y3, y4, y5, y6, y7, y8, y9, y10, y11, y12])
      (fun H2 e2 => ⟨e1.trans e2, [], [], none, none, none, none, none, none, none, none, none, none, none, rfl, Nat.le_refl 0, e2 _ _ h1, .nil, rfl⟩) ?_ ?_
    · rintro i σ H' hi ⟨e', fnd, ws, y2, y3, y4, y5, y6, y7, y8, y9, y10, y11, y12, hgo, hfi, hf', hRf, rfl⟩
      have gx : us[i]? = some us[i] := List.getElem?_eq_getElem hi
      obtain ⟨d, hd, hr⟩ := hR.get' gx
      rw [List.getElem?_map] at hd
      obtain ⟨r, hr1, rfl⟩ := Option.map_eq_some_iff.mp hd
      obtain ⟨b, vo, hbb, hb0, ho⟩ := ln_at hr
      have hrm := List.mem_of_getElem? hr1
      have hrl := hL.2 r hrm
      have hdrop : lns.drop i = r :: lns.drop (i + 1) := by
        have hil : i < lns.length := by omega
        rw [List.drop_eq_getElem_cons hil]
        congr 1
        exact Option.some.inj ((List.getElem?_eq_getElem hil).symm.trans hr1)
      rw [hdrop] at hgo
      rw [hbb] at gx
      refine s_unt (D := { nx := _, rt := _, ct := _, bk := _ }) (vs := [vo, .str (tx r.2)]) [3, 4] (ev_ixL (j := i) (ev_v rfl) (ev_v rfl) (ex_l e' hS) gx) (st_of (e' _ _ hb0)) rfl rfl fun H2 e2 => ?_
      have E2 := e'.trans e2
      refine s_when (b := saysF r.2) (et_B (ev_cal (ea_cons (ev_v rfl) ea_nil) fun H3 e3 => ⟨r.2, rfl, by omega, rfl⟩)) (fun hb3 H3 e3 => ?_) fun hb3 H3 e3 => ?_
      · have E3 := E2.trans e3
        have e23 := e2.trans e3
        have hwl := words_len r.2
        refine r_asg (r_call (r_cons (r_el (el_cal (xs := txs (wordsF r.2)) (ea_cons (ev_v rfl) ea_nil) fun H4 e4 => ⟨r.2, rfl, by omega, rfl⟩) (Ex.refl _) fun a2 H4 _ e4 h4 => r_nil (lstep_use (sq_of h4) (by omega) (fun p hp => by have := hwl.2 p hp; omega) (fun hso H5 e5 => ?_) fun st hso hw p b5 H5 hp5 hb5 e5 h5 h5b => ?_))))
        · have e25 := (e23.trans e4).trans e5
          have E5 := e'.trans e25
          refine q_asgL (el_nms (e25 _ _ hf') (hRf.mono e25) (by omega) rfl (fun _ => rfl) fun _ => rfl) fun nl H6 _ e6 h6 => ?_
          refine q_when (b := true) (et_is (et_isN (ev_v (v := .non) rfl)) (by rfl)) (fun _ H7 e7 => ?_) fun z => nomatch z
          refine r_ret (wrong (e := rForm) rfl (by decide +kernel) H7 (Ex.refl _) _ fun v8 H8 e8 r8 => q v8 H8 (((E5.trans e6).trans e7).trans e8) ?_)
          rw [hgo, go_wrong hb3 hso (by rw [whyF]; exact fun z => nomatch z)]
          exact r8
        · have e25 := (e23.trans e4).trans e5
          have E5 := e'.trans e25
          have hp50 : p ≠ sl := fun z => by rw [z, (e23.trans e4) _ _ hf'] at hp5; exact nomatch hp5
          have hb50 : b5 ≠ sl := fun z => by rw [z, (e23.trans e4) _ _ hf'] at hb5; exact nomatch hb5
          refine q_asgL (el_nms (e25 _ _ hf') (hRf.mono e25) (by omega) rfl (fun _ => rfl) fun _ => rfl) fun nl H6 _ e6 h6 => ?_
          refine q_when (b := false) (et_is (et_isN (ev_v (v := .ref p) rfl)) (by rfl)) (fun z => nomatch z) fun _ H7 e7 => ?_
          have e57 := e6.trans e7
          have E7 := E5.trans e57
          have hnn : (nmsF fnd).length = fnd.length := by unfold nmsF; rw [List.length_map]
          refine q_when (b := decide (st.nm ∈ nmsF fnd)) (et_is (et_test (ev_op (ev_ixL (j := 0) (ev_v rfl) (ev_cn 0) (sq_of (e57 _ _ h5)) rfl) (ev_v rfl) (rv_isL (sq_of (e7 _ _ h6)) rfl (txs_flat _)))) (txs_in _ _)) (fun hb8 H8 e8 => ?_) fun hb8 H8 e8 => ?_
          · have hin := of_decide_eq_true hb8
            refine r_ret (wrong (e := rName) rfl (by decide +kernel) H8 (Ex.refl _) _ fun v9 H9 e9 r9 => q v9 H9 ((E7.trans e8).trans e9) ?_)
            have hwy : whyF (some st) (nmsF fnd) = rName := by rw [why_some, if_pos hin]
            rw [hgo, go_wrong hb3 hso (by rw [hwy]; exact fun z => nomatch z), hwy]
            exact r9
          have hni := of_decide_eq_false hb8
          have e58 := e57.trans e8
          have E8 := E7.trans e8
          have hal : (st.args.map fun z => kdC z.1).length = st.args.length := List.length_map _
          have hfw := hw.few
          have h68 := (e7.trans e8) _ _ h6
          refine q_when (b := !((insF st).all fun p => decide (p ∈ nmsF fnd))) (et_test (ev_is (ev_op (ev_lenN (el_lcR1 (n := ((st.args.map fun z => kdC z.1).length : Int)) (fun k => decide ((st.args.map (·.1)).getD k .p = .s) && !decide ((st.args.getD k (.p, [])).2 ∈ nmsF fnd)) (fun k => .int (k : Nat)) (ea_cons (ev_lenS (l := st.args.map fun z => kdC z.1) (ev_ixL (j := 3) (ev_v rfl) (ev_cn 3) (sq_of (e58 _ _ h5)) rfl) (by omega)) ea_nil) (by omega) (fun _ => rfl) (fun k H9 e9 hk => ?_) fun k H9 e9 hk _ => ev_v rfl)) (ev_cn 0) rv_I0) ?_)) (fun hb9 H9 e9 => ?_) fun hb9 H9 e9 => ?_
          · have hk' : k < st.args.length := by omega
            have hkd : (st.args.map fun z => kdC z.1)[k]? = some (kdC ((st.args.map (·.1)).getD k .p)) := by
              rw [List.getElem?_map, List.getElem?_eq_getElem hk', List.getD_eq_getElem?_getD, List.getElem?_map, List.getElem?_eq_getElem hk']
              rfl
            refine et_and (et_is (et_test (ev_is (ev_op (ev_op (ev_ixL (j := 3) (ev_v rfl) (ev_cn 3) (sq_of ((e58.trans e9) _ _ h5)) rfl) (ev_v rfl) (rv_ixSn (l := st.args.map fun z => kdC z.1) (by omega) hkd)) (ev_cs [115] (by decide +kernel)) (rv_eq rfl)) (congrArg V.bl head_dec))) (decide_eq_decide.mpr (kdC_inj (b := .s)))) fun ha => ?_
            have ha := of_decide_eq_true ha
            have hav : (st.args.map argV)[k]? = some (.str (tx (st.args.getD k (.p, [])).2)) := by
              rw [List.getElem?_map, List.getElem?_eq_getElem hk', List.getD_eq_getElem?_getD, List.getElem?_eq_getElem hk']
              refine congrArg some (argV_s ?_)
              rw [List.getD_eq_getElem?_getD, List.getElem?_map, List.getElem?_eq_getElem hk'] at ha
              exact ha
            exact et_test (ev_is (ev_op (ev_ixL (j := k) (ev_ixL (j := 2) (ev_v rfl) (ev_cn 2) (sq_of ((e58.trans e9) _ _ h5)) rfl) (ev_v rfl) (sq_of ((e58.trans e9) _ _ h5b)) hav) (ev_v rfl) (rv_niL (sq_of (e9 _ _ h68)) rfl (txs_flat _))) (by rw [txs_in]))
          · rw [gt0, Int.toNat_natCast, hal, used_dec]
          · have hwy : whyF (some st) (nmsF fnd) = rUsed := by
              rw [why_some, if_neg hni, if_pos (by simpa using hb9)]
            refine r_ret (wrong (e := rUsed) rfl (by decide +kernel) H9 (Ex.refl _) _ fun v10 H10 e10 r10 => q v10 H10 ((E8.trans e9).trans e10) ?_)
            rw [hgo, go_wrong hb3 hso (by rw [hwy]; exact fun z => nomatch z), hwy]
            exact r10
          have hall : ((insF st).all fun p => decide (p ∈ nmsF fnd)) = true := by simpa using hb9
          have e29 := (e25.trans e58).trans e9
          have hws := hRf.len
          refine q_when (b := decide ((nmsF fnd).length = 40)) (et_is (et_test (ev_op (ev_len (ev_v rfl) (sq_of (e29 _ _ hf'))) (ev_cn 40) (rv_eq rfl))) ?_) (fun hb10 H10 e10 => ?_) fun hb10 H10 e10 => ?_
          · rw [hnn, hws]
            exact decide_eq_decide.mpr ⟨fun h => by have := V.int.inj h; omega, fun h => by rw [h]⟩
          · have hwy : whyF (some st) (nmsF fnd) = rSteps := by
              rw [why_some, if_neg hni, if_neg (by rw [hall]; exact fun z => nomatch z), if_pos (of_decide_eq_true hb10)]
            refine r_ret (wrong (e := rSteps) rfl (by decide +kernel) H10 (Ex.refl _) _ fun v11 H11 e11 r11 => q v11 H11 (((E8.trans e9).trans e10).trans e11) ?_)
            rw [hgo, go_wrong hb3 hso (by rw [hwy]; exact fun z => nomatch z), hwy]
            exact r11
          have hwy : whyF (some st) (nmsF fnd) = [] := by
            rw [why_some, if_neg hni, if_neg (by rw [hall]; exact fun z => nomatch z), if_neg (of_decide_eq_false hb10)]
          have e510 := (e58.trans e9).trans e10
          have e210 := e25.trans e510
          have hlist := e210 _ _ hf'
          refine s_appL (ys := [.str (tx st.nm), .str (tx st.op), .ref b5, .str (tx (st.args.map fun z => kdC z.1))] ++ [vo]) hlist (ev_v rfl) (el_cat (evl_k (ev_v rfl) (e510 _ _ h5)) (evl_n (el_lst (ea_cons (ev_v rfl) ea_nil) (by show 1 ≤ 100000; decide))) (by show 4 + 1 ≤ 100000; decide)) (by omega) fun pr H11 hpr e11 h11 => ?_
          have hprs : pr ≠ sl := fun z => by rw [z, hlist] at hpr; exact nomatch hpr
          have kt : ∀ c us, H11 c = some (.tup us) → (upd H11 sl (.lst (ws ++ [.ref pr]))) c = some (.tup us) := fun c us h => by rw [upd_ne (ne_kind h (e11 _ _ hlist) (fun z => nomatch z))]; exact h
          have kk : ∀ c o, c ≠ sl → H11 c = some o → (upd H11 sl (.lst (ws ++ [.ref pr]))) c = some o := fun c o n h => by rw [upd_ne n]; exact h
          refine ⟨((E8.trans e9).trans (e10.trans e11)).mut hsl, fnd ++ [(st, r.1)], ws ++ [.ref pr], _, _, _, _, _, _, _, _, _, _, _, by rw [hgo, go_step hb3 hso hwy], by rw [List.length_append]; show _ + 1 ≤ _; omega, upd_same, ?_, rfl⟩
          refine ((hRf.mono (e210.trans e11)).imp kk kt).app ⟨pr, b5, vo, rfl, hprs, hb50, kk _ _ hprs h11, kk _ _ hb50 ((e510.trans e11) _ _ h5b), Rep.keepT kt (nol_one _) (ho.mono ((E8.trans e9).trans (e10.trans e11)))⟩
      · exact ⟨E2.trans e3, fnd, ws, _, _, _, _, _, _, _, _, _, _, _, by rw [hgo, go_skip hb3], by omega, e3 _ _ (e2 _ _ hf'), hRf.mono (e2.trans e3), rfl⟩
    · rintro σ H' ⟨e', fnd, ws, y2, y3, y4, y5, y6, y7, y8, y9, y10, y11, y12, hgo, hfi, hf', hRf, rfl⟩
      have hend : planF lns = .inr fnd := by
        rw [hgo, hul, List.drop_length]
        rfl
      rw [hend] at q
      have hws := hRf.len
      have hcomp : EvD (tLc (iList K (tVar 1)) (gUnl K 5 (gNs [9, 10, 11, 12, 3])) tYes (tTup (tCons (tVar 9) (tCons (tVar 10) (tCons (tCB (rTupS K) (tCons (tVar 11) tNil)) (tCons (tVar 3) tNil))))) [9, 10, 11, 12, 3]) [some (.ref a), some (.ref sl), y2, y3, y4, y5, y6, y7, y8, y9, y10, y11, y12] H' (.lst (fnd.map stD)) := by
        intro H1 e Q q'
        refine ⟨_, rfl, sl, rfl, ⟨ws, sq_of (e _ _ hf')⟩, fun Dl hD => ?_⟩
        have hl1 := e _ _ hf'
        have hR1 := hRf.mono e
        refine ⟨fun i m H2 => m = ws.length - i ∧ i ≤ ws.length ∧ Ex H1 H2 ∧ ∃ us, H2 Dl = some (.lst us) ∧ us.length ≤ i ∧ Reps H2 us ((fnd.take i).map stD), ⟨ws.length, rfl, Nat.zero_le _, Ex.new hD, [], upd_same, Nat.le_refl 0, .nil⟩, ?_⟩
        rintro i m H2 ⟨rfl, hi, ex, us2, hl, hul2, hr⟩
        by_cases hlt : i < ws.length
        · have gx : ws[i]? = some ws[i] := List.getElem?_eq_getElem hlt
          obtain ⟨r, hr0, p, b, vo, hv, hp1, hb1, h4, h5, h6⟩ := hR1.get' gx
          refine .inr ⟨⟨ws, ws[i], sq_of (ex sl _ hl1), gx⟩, fun H2 => Ex H1 H2 ∧ ∃ us, H2 Dl = some (.lst us) ∧ us.length ≤ i + 1 ∧ Reps H2 us ((fnd.take (i + 1)).map stD), fun H3 p => ⟨ws.length - (i + 1), by omega, rfl, hlt, p⟩, fun x H3 y => ?_⟩
          obtain ⟨rfl, y⟩ := y
          have ex' : x = ws[i] := Option.some.inj ((y ws (sq_of (ex sl _ hl1))).symm.trans gx)
          subst ex'
          rw [hv]
          refine ⟨p, _, rfl, sq_of (ex _ _ h4), rfl, gNs_run (is := [9, 10, 11, 12, 3]) rfl ⟨rfl, tyes_ (iteT (r_tup (r_cons (r_var rfl (r_cons (r_var rfl (r_cons (eu_tupV (ev_v rfl) (sq_of (ex _ _ h5)) H3 (Ex.refl _) _ fun pb H4 hpb e4 h4b => r_cons (r_var rfl (r_nil ⟨sz_of (by show 4 ≤ 100000; decide), fun pt hpt => ?_⟩))))))))))⟩⟩
          have E4 : Ex H3 (upd H4 pt (.tup [.str (tx r.1.nm), .str (tx r.1.op), .ref pb, vo])) := e4.trans (Ex.new hpt)
          have hlD := E4 _ _ hl
          refine ⟨us2, hlD, sz_lt (by omega), (ex.trans E4).mut hD, us2 ++ [.ref pt], upd_same, by rw [List.length_append]; show _ + 1 ≤ _; omega, ?_⟩
          generalize hH5 : upd H4 pt (.tup [.str (tx r.1.nm), .str (tx r.1.op), .ref pb, vo]) = H5 at E4 hlD
          have hpt5 : H5 pt = some (.tup [.str (tx r.1.nm), .str (tx r.1.op), .ref pb, vo]) := by rw [← hH5, upd_same]
          have hpb5 : H5 pb = some (.tup (r.1.args.map argV)) := by
            rw [← hH5]
            exact (Ex.new hpt) _ _ h4b
          have kt : ∀ c us, H5 c = some (.tup us) → upd H5 Dl (.lst (us2 ++ [.ref pt])) c = some (.tup us) := fun c us hc => by
            rw [upd_ne (ne_kind hc hlD (fun z => nomatch z))]
            exact hc
          rw [List.take_add_one, hr0, List.map_append]
          refine (Reps.keepT kt (nol_all fun x _ => nol_st x) (hr.mono E4)).append (.cons (.tup (kt _ _ hpt5) (.cons (.str _) (.cons (.str _) (.cons (.tup (kt _ _ hpb5) (reps_args _ _)) (.cons (Rep.keepT kt (nol_one _) (h6.mono (ex.trans E4))) .nil))))) .nil)
        · have e0 : i = ws.length := by omega
          subst e0
          rw [List.take_of_length_le (by omega)] at hr
          exact .inl ⟨⟨ws, sq_of (ex sl _ hl1), Nat.le_refl _⟩, q' (.ref Dl) H2 ex (.lst hl hr)⟩
      exact r_ret (ed_tup (er_cons (evd_v (ev_cs [112, 108, 97, 110] (by decide +kernel)) (.str _)) (er_cons (ed_tupL hcomp (nol_all fun x _ => nol_st x)) er_nil)) (by show 2 ≤ 100000; decide) H' (Ex.refl _) _ fun v3 H3 e3 r3 => q v3 H3 (e'.trans e3) r3)
end
end K50

set_option Elab.async false
set_option linter.all false
set_option maxRecDepth 100000
set_option maxHeartbeats 4000000
namespace K50
open PySem PySem.Spec PyProof.Rows L2 Evl My
theorem hD_of {A : Around} {k : Nat} (hr : Room k A) : A.units + 65 < cLine := by have := hr.un; omega
/-! pairs of texts as data -/
def pD (p : L × L) : PyData := .tuple [.str (tx p.1), .str (tx p.2)]
def small (l : L) : Bool := l.all fun c => decide (c < 1114112)
theorem str_ok {l : L} (h : small l = true) : PyData.strOk (tx l) = true := by
  unfold PyData.strOk tx
  rw [Array.all_eq_true_iff_forall_mem]
  intro c hc
  have : c ∈ l := by simpa using hc
  have := List.all_eq_true.mp h c this
  exact this
theorem pD_shaped {p : L × L} (h1 : small p.1 = true) (h2 : small p.2 = true) : SeqAt.shaped (pD p) = true := by
  unfold SeqAt.shaped pD
  rw [PyData.canLay0, PyData.canLayAll0, PyData.canLayAll0, PyData.canLayAll0, PyData.canLay0, PyData.canLay0, str_ok h1, str_ok h2]
  rfl
theorem pDs_lay : ∀ {ps : List (L × L)}, (∀ p ∈ ps, small p.1 = true ∧ small p.2 = true) → PyData.canLayAll0 (ps.map pD) = true ∧ PyData.depthAll (ps.map pD) ≤ 1
  | [], _ => ⟨by rw [List.map_nil, PyData.canLayAll0], by rw [List.map_nil, PyData.depthAll]; exact Nat.zero_le _⟩
  | p :: ps, h => by
    obtain ⟨a, b⟩ := pDs_lay (ps := ps) fun q hq => h q (by simp [hq])
    have hp := h p (by simp)
    refine ⟨?_, ?_⟩
    · rw [List.map_cons, PyData.canLayAll0, a]
      unfold pD
      rw [PyData.canLay0, PyData.canLayAll0, PyData.canLayAll0, PyData.canLayAll0, PyData.canLay0, PyData.canLay0, str_ok hp.1, str_ok hp.2]
      rfl
    · rw [List.map_cons, PyData.depthAll]
      have : PyData.depth (pD p) = 1 := by
        unfold pD
        rw [PyData.depth, PyData.depthAll, PyData.depthAll, PyData.depthAll, PyData.depth, PyData.depth]
        rfl
      rw [this]
      omega
theorem pDs_shaped {ps : List (L × L)} (h : ∀ p ∈ ps, small p.1 = true ∧ small p.2 = true) : SeqAt.shaped (.list (ps.map pD)) = true := by
  obtain ⟨a, b⟩ := pDs_lay h
  unfold SeqAt.shaped
  rw [PyData.canLay0, a, PyData.depth, Bool.true_and]
  exact decide_eq_true (by omega)
theorem pD_eq {p q : L × L} : PyData.eqv (pD q) (pD p) = decide (q = p) := by
  unfold pD
  rw [PyData.eqv, PyData.eqvAll, PyData.eqvAll, PyData.eqvAll, PyData.eqv, PyData.eqv]
  have hs : ∀ a b : L, (tx a == tx b) = decide (a = b) := fun a b => by
    by_cases h : a = b
    · subst h
      rw [decide_eq_true rfl]
      exact beq_self_eq_true _
    · rw [decide_eq_false h]
      exact beq_eq_false_iff_ne.mpr fun z => h (tx_inj z)
  rw [hs, hs]
  obtain ⟨a, b⟩ := p
  obtain ⟨c, d⟩ := q
  show (decide (c = a) && (decide (d = b) && true)) = _
  rw [Bool.and_true, ← Bool.decide_and]
  exact decide_eq_decide.mpr ⟨fun h => by rw [h.1, h.2], fun h => by cases h; exact ⟨rfl, rfl⟩⟩
theorem pD_any (p : L × L) : ∀ ps : List (L × L), ((ps.map pD).any fun z => PyData.eqv z (pD p)) = decide (p ∈ ps)
  | [] => rfl
  | q :: ps => by
    rw [List.map_cons, List.any_cons, pD_any p ps, pD_eq]
    by_cases h : q = p
    · rw [decide_eq_true h, Bool.true_or]
      exact (decide_eq_true (by simp [h])).symm
    · rw [decide_eq_false h, Bool.false_or]
      refine decide_eq_decide.mpr ?_
      rw [List.mem_cons]
      exact ⟨.inr, fun g => g.resolve_left fun z => h z.symm⟩
theorem split_has {c : Nat} : ∀ {l : L} {x : Nat}, x ∈ l → x = c ∨ ∃ p ∈ splitT c l, x ∈ p
  | [], x, h => by simp at h
  | y :: r, x, h => by
    by_cases hy : y = c
    · rw [splitT, if_pos hy]
      rcases List.mem_cons.mp h with rfl | h
      · exact .inl hy
      · rcases split_has h with g | ⟨p, hp, g⟩
        · exact .inl g
        · exact .inr ⟨p, by simp [hp], g⟩
    · obtain ⟨p, q, h1, h2⟩ := split_cons_ne (r := r) hy
      rw [h2]
      rcases List.mem_cons.mp h with rfl | h
      · exact .inr ⟨x :: p, by simp, by simp⟩
      · rcases split_has (c := c) h with g | ⟨p', hp, g⟩
        · exact .inl g
        · rw [h1] at hp
          rcases List.mem_cons.mp hp with rfl | hp
          · exact .inr ⟨y :: p', by simp, by simp [g]⟩
          · exact .inr ⟨p', by simp [hp], g⟩
theorem path_small {l : L} (h : pathP l = true) : small l = true := by
  unfold small
  rw [List.all_eq_true]
  intro c hc
  rcases split_has (c := 47) hc with rfl | ⟨p, hp, hcp⟩
  · rfl
  · have := List.all_eq_true.mp h p hp
    unfold segP madeP at this
    rw [Bool.and_eq_true, Bool.and_eq_true, List.all_eq_true] at this
    have hm := of_decide_eq_true (this.1.2 c hcp)
    have hall : ∀ c ∈ letL ++ digL ++ [46, 45, 95], decide (c < 1114112) = true := by decide +kernel
    exact hall c hm
theorem src_small {r : Row} (hw : Wf r.1) (h : isSrc r = true) : small (srcF r).1 = true ∧ small (srcF r).2 = true := by
  obtain ⟨k, ha, hk⟩ := src_arg hw h
  constructor
  · show small r.1.op = true
    unfold isSrc at h
    rw [Bool.or_eq_true, decide_eq_true_eq, decide_eq_true_eq] at h
    rcases h with h | h <;> (rw [h]; rfl)
  · have := hw.num (k, (srcF r).2) (by rw [ha]; simp)
    rcases hk with rfl | rfl
    · exact path_small this
    · have this : (decide ((srcF r).2 = [46]) || pathP (srcF r).2) = true := this
      rw [Bool.or_eq_true, decide_eq_true_eq] at this
      rcases this with h | h
      · rw [h]
        rfl
      · exact path_small h
section
variable {P : Program} {w : World} {K : PySem.W.Frag} {mg : Str → Option Value} {base : Heap}
theorem eu_revT {σ : L2.St} {H : Hp} {te : TE} {a : Addr} {xs : List V} (h : Ev te σ H (.ref a)) (hS : SqT K H a xs) : EvU (tRevT K te) σ H xs.reverse := fun H1 e Q q => h H1 e _ fun H2 e2 => ⟨a, xs, rfl, ex_t (e.trans e2) hS, fun p hp => q p _ (fresh_back e2 hp) (e2.trans (Ex.new hp)) upd_same⟩
abbrev s_law_inputs : Stmt := topS 41
theorem sc_law_inputs : FnScope ["step", "name", "op", "args", "one", "shape", "k"] ["step"] (defScope s_law_inputs) := ⟨rfl, rfl, rfl, by decide +kernel, rfl, by decide +kernel, by decide +kernel⟩
/- 0 step, 1 name, 2 op, 3 args*, 4 one, 5 shape*, 6 k -/
def ok_linputs (vs : List V) (H : Hp) (z : List V) : Prop := ∃ (a b : Addr) (st : Stp) (vo : V), vs = [.ref a] ∧ H a = some (.tup [.str (tx st.nm), .str (tx st.op), .ref b, vo]) ∧ H b = some (.tup (st.args.map argV)) ∧ Wf st ∧ z = txs (insF st)
theorem fn_linputs {f : Addr} {fd : FuncData} {k : Nat} (F : Fun K "_law_inputs" "_law_inputs" s_law_inputs f fd) (N : Nb mg) (C_law_shape : Cal P w K mg base k "_law_shape" ["op", "many"] (spV ok_shape)) : FnOk P w K mg base CX0 (k + 1) f fd ["step"] (spL ok_linputs) := by
  refine F.ok sc_law_inputs (fun vs H Q E h => ?_) (fun cdv A outer s H vs Q E hr h => ?_)
  · obtain ⟨_, ⟨_, _, _, _, rfl, _⟩, _⟩ := h
    rfl
  · obtain ⟨_, ⟨a, b, st, vo, rfl, ha, hb, hw, hz⟩, q⟩ := h
    rw [hz] at q
    refine ⟨_, (pss_cons (ps_asg (pv 0) (pg_tup rfl (pgs_cons (pg_name (i := 1) sc_law_inputs.nd rfl (Or.inl rfl)) (pgs_cons (pg_name (i := 2) sc_law_inputs.nd rfl (Or.inl rfl)) (pgs_cons (pg_name (i := 3) sc_law_inputs.nd rfl (by first | exact Or.inl rfl | exact Or.inr rfl)) (pgs_cons (pg_name (i := 4) sc_law_inputs.nd rfl (Or.inl rfl)) pgs_nil))))))
      (pss_cons (ps_set (i := 5) sc_law_inputs.nd rfl (Or.inr rfl) (pe_cal C_law_shape hr (pa_cons (pv 2) (pa_cons (pe_callB call_len_seq (by rfl) N.len PySem.boot_len (pa_cons (pv 3) pa_nil)) pa_nil))))
      (pss_one (ps_ret (pe_lc (own := [("k", 6)]) (by rfl) sc_law_inputs.nd (pi_range1 rfl N.range (pa_cons (pe_callB call_len_seq (by rfl) N.len PySem.boot_len (pa_cons (pv 3) pa_nil)) pa_nil)) (blkOk_by (own := [("k", 6)]) (N := ["step", "name", "op", "args", "one", "shape", "k"]) (sc := defScope s_law_inputs) (by decide +kernel)) (fun _ _ _ _ _ => (pg_name (i := 6) sc_law_inputs.nd rfl (Or.inl rfl))) (fun _ _ _ _ _ => (pts_one (pt_cmpR op_eq (pe_ix ix_str (pv 5) (pv 6) (fun _ _ => rfl)) pe_str (nomark _)))) (fun _ _ _ _ _ => (pe_ix (r := rIxT K) ix_tup (pv 3) (pv 6) (fun _ _ => rfl)))))))), ?_⟩
    have hfew := hw.few
    have hal : (st.args.map argV).length = st.args.length := List.length_map _
    refine s_unt (D := { nx := _, rt := _, ct := _, bk := _ }) (vs := [.str (tx st.nm), .str (tx st.op), .ref b, vo]) [1, 2, 3, 4] (ev_v rfl) (st_of ha) rfl rfl fun H1 e1 => ?_
    refine q_asg (v := .str (tx ((st.args.map (·.1)).map kdC))) (ev_cal (ea_cons (ev_v rfl) (ea_cons (ev_is (ev_lenT (ev_v rfl) (st_of (e1 _ _ hb))) (show _ = V.int ((st.args.length : Nat) : Int) by rw [hal])) ea_nil)) fun H2 e2 => ⟨_, _, rfl, by rw [hw.shp]; rfl⟩) fun H2 e2 => ?_
    have hb2 := (e1.trans e2) _ _ hb
    refine s_retL (el_is (el_lcR1 (n := (st.args.length : Int)) (fun k => decide ((st.args.map (·.1)).getD k .p = .s)) (fun k => (st.args.map argV).getD k .non) (ea_cons (ev_is (ev_lenT (ev_v rfl) (st_of hb2)) (by rw [hal])) ea_nil) (by omega) (fun _ => rfl) (fun k H3 e3 hk => ?_) fun k H3 e3 hk _ => ?_) ?_) fun p H3 hp e3 h3 => q p H3 (fresh_back (e1.trans e2) hp) ((e1.trans e2).trans e3) h3
    · have hk' : k < st.args.length := by omega
      have hkd : ((st.args.map (·.1)).map kdC)[k]? = some (kdC ((st.args.map (·.1)).getD k .p)) := by
        rw [List.getElem?_map, getD_some (d := Kd.p) (by rw [List.length_map]; exact hk')]
        rfl
      exact et_is (et_test (ev_is (ev_op (ev_op (ev_v rfl) (ev_v rfl) (rv_ixSn (l := (st.args.map (·.1)).map kdC) (by rw [List.length_map, List.length_map]; omega) hkd)) (ev_cs [115] (by decide +kernel)) (rv_eq rfl)) (congrArg V.bl head_dec))) (decide_eq_decide.mpr (kdC_inj (b := .s)))
    · have hk' : k < st.args.length := by omega
      exact ev_ixT (j := k) (ev_v rfl) (ev_v rfl) (st_of (e3 _ _ hb2)) (getD_some (by rw [hal]; exact hk'))
    · rw [Int.toNat_natCast]
      unfold given
      have := zip_filter (fun k => decide (k = Kd.s)) (fun v => v) .p .non (st.args.map (·.1)) (st.args.map argV) (by rw [List.length_map, List.length_map])
      rw [List.length_map] at this
      rw [this, List.zip_map', List.filter_map, List.map_map]
      unfold insF txs
      rw [List.map_map]
      refine List.map_congr_left fun p hp => ?_
      exact argV_s (of_decide_eq_true (List.mem_filter.mp hp).2)
abbrev s_law_hangs : Stmt := topS 42
theorem sc_law_hangs : FnScope ["told_plan", "name", "found", "step", "other"] ["told_plan", "name"] (defScope s_law_hangs) := ⟨rfl, rfl, rfl, by decide +kernel, rfl, by decide +kernel, by decide +kernel⟩
/- 0 told_plan, 1 name, 2 found*, 3 step, 4 other -/
theorem fold_len : ∀ (rs : List Row) (f : List L), (∀ r ∈ rs, Wf r.1) → (rs.foldl (fun f r => putH r f) f).length ≤ f.length + 6 * rs.length
  | [], f, _ => Nat.le_refl _
  | r :: rs, f, h => by
    have ih := fold_len rs (putH r f) fun x hx => h x (by simp [hx])
    have hi := ins_len (h r (by simp))
    have hp : (putH r f).length ≤ f.length + 6 := by
      unfold putH
      split
      · rw [List.length_append]
        have := List.length_filter_le (fun x => decide (x ∉ f)) (insF r.1)
        omega
      · omega
    rw [List.foldl_cons, List.length_cons]
    omega
theorem fn_hangs {f : Addr} {fd : FuncData} {k : Nat} (F : Fun K "_law_hangs" "_law_hangs" s_law_hangs f fd) (N : Nb mg) (C_law_inputs : Cal P w K mg base k "_law_inputs" ["step"] (spL ok_linputs)) : FnOk P w K mg base CX0 (k + 1) f fd ["told_plan", "name"] (sp_below K) := by
  refine F.ok sc_law_hangs (fun vs H Q E h => ?_) (fun cdv A outer s H vs Q E hr h => ?_)
  · obtain ⟨_, _, _, _, rfl, _⟩ := h
    rfl
  · obtain ⟨a, us, rows, x, rfl, hS, hR, hp, hx, q⟩ := h
    refine ⟨_, (pss_cons (ps_set (i := 2) sc_law_hangs.nd rfl (Or.inr rfl) (pe_lst (pa_cons (pv 1) pa_nil)))
      (pss_cons (ps_for PassesOwn.never rfl (pi_tup (pe_revT (pv 0))) (pg_name (i := 3) sc_law_hangs.nd rfl (Or.inl rfl)) (pss_one (ps_if (pt_cmpR op_in_seq (pe_ix ix_tup (pv 3) pe_int (fun _ _ => rfl)) (pv 2) rfl) (pss_one (ps_set (i := 2) sc_law_hangs.nd rfl (Or.inr rfl) (pe_op op_cat (pv 2) (pe_lc (own := [("other", 4)]) (by rfl) sc_law_hangs.nd (pi_list (pe_cal C_law_inputs hr (pa_cons (pv 3) pa_nil))) (blkOk_by (own := [("other", 4)]) (N := ["told_plan", "name", "found", "step", "other"]) (sc := defScope s_law_hangs) (by decide +kernel)) (fun _ _ _ _ _ => (pg_name (i := 4) sc_law_hangs.nd rfl (Or.inl rfl))) (fun _ _ _ _ _ => (pts_one (pt_cmpR (r := rIn K true) op_notIn_seq (pv 4) (pv 2) rfl))) (fun _ _ _ _ _ => (pv 4)))))) pss_nil)))
      (pss_one (ps_ret (pe_lc (own := [("step", 3)]) (by rfl) sc_law_hangs.nd (pi_tup (pv 0)) (blkOk_by (own := [("step", 3)]) (N := ["told_plan", "name", "found", "step", "other"]) (sc := defScope s_law_hangs) (by decide +kernel)) (fun _ _ _ _ _ => (pg_name (i := 3) sc_law_hangs.nd rfl (Or.inl rfl))) (fun _ _ _ _ _ => (pts_one (pt_cmpR (r := rIn K false) op_in_seq (pe_ix (r := rIxT K) ix_tup (pv 3) pe_int (fun _ _ => rfl)) (pv 2) rfl))) (fun _ _ _ _ _ => (pv 3))))))), ?_⟩
    have hul := hR.len
    rw [List.length_map] at hul
    have hfew := hp.few
    have rowI : ∀ {i : Nat} {v : V}, us[i]? = some v → ∃ r, rows[i]? = some r ∧ Rep H v (stD r) := fun {i v} hv => by
      obtain ⟨d, hd, hr⟩ := hR.get' hv
      rw [List.getElem?_map] at hd
      obtain ⟨r, hr1, rfl⟩ := Option.map_eq_some_iff.mp hd
      exact ⟨r, hr1, hr⟩
    refine q_asgL (xs := txs [x]) (el_lst (ea_cons (ev_v rfl) ea_nil) (by show 1 ≤ 100000; decide)) fun f0 H1 hf0 e1 h1 => ?_
    refine s_forTX (D := { nx := _, rt := _, ct := _, bk := _ }) (xs := us.reverse) (j := 3) (fun Q' q' => eu_revT (ev_v rfl) (ex_t e1 hS) _ (Ex.refl _) Q' fun p H2 _ e2 h2 => q' p H2 e2 h2)
      (fun H1' i σ' H' => Ex H1' H' ∧ i ≤ us.length ∧ ∃ (fa : Addr) (y3 y4 : Option V), H' fa = some (.lst (txs ((rows.reverse.take i).foldl (fun f r => putH r f) [x]))) ∧ σ' = [some (.ref a), some (.str (tx x)), some (.ref fa), y3, y4]) (fun H2 e2 => ⟨Ex.refl _, Nat.zero_le _, f0, none, none, e2 _ _ h1, rfl⟩) (fun H1' i σ' H' b us' h hb => h.1 _ _ hb) ?_ ?_
    · rintro H1' i v σ' H' e1' hv ⟨ex, hi, fa, y3, y4, hfa, rfl⟩
      have hil : i < us.length := by
        have := (List.getElem?_eq_some_iff.mp hv).1
        rwa [List.length_reverse] at this
      have hv' : us[us.length - 1 - i]? = some v := by
        rw [List.getElem?_reverse hil] at hv
        exact hv
      obtain ⟨r, hr0, hrep⟩ := rowI hv'
      have hr1 : rows.reverse[i]? = some r := by
        rw [List.getElem?_reverse (by omega), ← hul]
        exact hr0
      have hrm := List.mem_of_getElem? hr0
      obtain ⟨ra, rb, vo, rfl, hra, hrb, hvo⟩ := row_at hrep
      have E' := (e1.trans e1').trans ex
      generalize hfo : (rows.reverse.take i).foldl (fun f r => putH r f) [x] = fo at hfa
      have hfl : fo.length ≤ 1 + 6 * 40 := by
        have := fold_len (rows.reverse.take i) [x] fun z hz => hp.wf z (by
          have := List.mem_of_mem_take hz
          rwa [List.mem_reverse] at this)
        rw [hfo, List.length_take] at this
        have h1 : [x].length = 1 := rfl
        omega
      have hnext : (rows.reverse.take (i + 1)).foldl (fun f r => putH r f) [x] = putH r fo := by
        rw [List.take_add_one, hr1, List.foldl_append, hfo]
        rfl
      refine s_when (b := decide (r.1.nm ∈ fo)) (et_is (et_test (ev_op (ev_ixT (j := 0) (ev_v rfl) (ev_cn 0) (st_of (E' _ _ hra)) rfl) (ev_v rfl) (rv_isL (sq_of hfa) rfl (txs_flat _)))) (txs_in _ _)) (fun hb H2 e2 => ?_) fun hb H2 e2 => ?_
      · have hin := of_decide_eq_true hb
        have hil6 := ins_len (hp.wf r hrm)
        refine s_asgL (xs := txs fo ++ ((txs (insF r.1)).filter fun z => !(inV z (txs fo))).map fun z => z) (el_cat (evl_k (ev_v rfl) (e2 _ _ hfa)) (evl_n (el_lcF (fun z => !(inV z (txs fo))) (fun z => z) (el_cal (ea_cons (ev_v rfl) ea_nil) fun H3 e3 => ⟨ra, rb, r.1, vo, rfl, (E'.trans (e2.trans e3)) _ _ hra, (E'.trans (e2.trans e3)) _ _ hrb, hp.wf r hrm, rfl⟩) (by rw [txs_len]; omega) (fun _ => rfl) (fun z H3 e3 hz => et_test (ev_op (ev_v rfl) (ev_v rfl) (rv_niL (sq_of ((e2.trans e3) _ _ hfa)) (List.all_eq_true.mp (txs_flat _) z hz) (txs_flat _)))) fun z H3 e3 hz _ => ev_v rfl)) ?_) fun fb H3 _ e3 h3 => ⟨ex.trans (e2.trans e3), hil, fb, _, _, ?_, rfl⟩
        · have h2 := List.length_filter_le (fun z => !(inV z (txs fo))) (txs (insF r.1))
          rw [List.length_map, txs_len]
          rw [txs_len] at h2
          omega
        · rw [h3, hnext]
          unfold putH
          rw [if_pos hin, List.map_id']
          congr 2
          unfold txs
          rw [List.map_append, List.filter_map]
          congr 2
          refine List.filter_congr fun z _ => ?_
          show (!inV (.str (tx z)) (txs fo)) = decide (z ∉ fo)
          rw [txs_in, decide_not]
      · refine ⟨ex.trans e2, hil, fa, _, _, ?_, rfl⟩
        rw [hnext]
        unfold putH
        rw [if_neg (of_decide_eq_false hb)]
        exact e2 _ _ hfa
    · rintro H1' σ' H' e1' ⟨ex, hi, fa, y3, y4, hfa, rfl⟩
      rw [List.length_reverse, List.take_of_length_le (by rw [List.length_reverse]; omega), List.foldl_reverse] at hfa
      have hfa : H' fa = some (.lst (txs (hangF rows x))) := hfa
      have E3 := (e1.trans e1').trans ex
      refine s_retL (xs := (us.filter fun v => decide (nmV H v ∈ hangF rows x)).map fun v => v) (el_lcT (fun v => decide (nmV H v ∈ hangF rows x)) (fun v => v) (ev_v rfl) (ex_t E3 hS) (by omega) (fun _ => rfl) (fun v H4 e4 hv => ?_) fun v H4 e4 hv _ => ev_v rfl) fun p H4 hp4 e4 h4 => q p _ H4 (fresh_back E3 hp4) (E3.trans e4) h4 ?_
      · obtain ⟨i, hi, hvi⟩ := List.getElem_of_mem hv
        obtain ⟨r, hr, hrep⟩ := rowI (show us[i]? = some v by rw [List.getElem?_eq_getElem hi, hvi])
        rw [nmV_at hrep]
        obtain ⟨ra, rb, vo, rfl, hra, hrb, hvo⟩ := row_at hrep
        exact et_is (et_test (ev_op (ev_ixT (j := 0) (ev_v rfl) (ev_cn 0) (st_of ((E3.trans e4) _ _ hra)) rfl) (ev_v rfl) (rv_isL (sq_of (e4 _ _ hfa)) rfl (txs_flat _)))) (txs_in _ _)
      · rw [List.map_id']
        exact (reps_filter (hangF rows x) hR).mono (E3.trans e4)
abbrev s_law_told_by : Stmt := topS 43
theorem sc_law_told_by : FnScope ["told_plan", "name", "step"] ["told_plan", "name"] (defScope s_law_told_by) := ⟨rfl, rfl, rfl, by decide +kernel, rfl, by decide +kernel, by decide +kernel⟩
theorem fn_ltold {f : Addr} {fd : FuncData} {k : Nat} (F : Fun K "_law_told_by" "_law_told_by" s_law_told_by f fd) (N : Nb mg) (C_law_hangs : Cal P w K mg base k "_law_hangs" ["told_plan", "name"] (sp_below K)) : FnOk P w K mg base CX0 (k + 1) f fd ["told_plan", "name"] (sp_on K tbyD) := by
  refine F.ok sc_law_told_by (fun vs H Q E h => ?_) (fun cdv A outer s H vs Q E hr h => ?_)
  · obtain ⟨_, _, _, _, rfl, _⟩ := h
    rfl
  · obtain ⟨a, us, rows, x, rfl, hS, hR, hp, hx, q⟩ := h
    refine ⟨_, (pss_one (ps_ret (pe_callTy call_tuple_of (by rfl) N.tuple PyProof.Rows.boot_tuple (pa_cons (pe_callB cr_sortedTA (by rfl) N.sorted PyProof.Rows.boot_sorted (pa_cons (pe_lc (own := [("step", 2)]) (by rfl) sc_law_told_by.nd (pi_list (pe_cal C_law_hangs hr (pa_cons (pv 0) (pa_cons (pv 1) pa_nil)))) (blkOk_by (own := [("step", 2)]) (N := ["told_plan", "name", "step"]) (sc := defScope s_law_told_by) (by decide +kernel)) (fun _ _ _ _ _ => (pg_name (i := 2) sc_law_told_by.nd rfl (Or.inl rfl))) (fun _ _ _ _ _ => pts_nil) (fun _ _ _ _ _ => (pe_ix (r := rIxT K) ix_tup (pv 2) pe_int (fun _ _ => rfl)))) pa_nil)) pa_nil)))), ?_⟩
    exact r_ret (tby_end hp (ed_lcM stD (fun r => oneD r.2) (fun _ => true) (ed_below rfl rfl hS hR hp hx) (by have := down_len rows x; have := hp.few; omega) (fun _ => rfl) (fun r _ => nol_st r) (fun r _ => nol_one _) (fun v r H1 e1 hr1 h1 => et_yes) (fun v r H1 e1 hr1 h1 _ => ed_row3 rfl h1)) H (Ex.refl _) _ fun v H1 e1 r1 => q v H1 e1 r1)
end
end K50

set_option Elab.async false
set_option linter.all false
set_option maxRecDepth 100000
set_option maxHeartbeats 4000000
namespace K50
open PySem PySem.Spec PyProof.Rows L2 Evl My
section
variable {K : PySem.W.Frag} {σ : L2.St} {H : Hp} {tl : TE} {D : Ends} {tu tz : TS}
theorem s_forBL {j : Nat} (A : List V → Hp → Prop) (h : ∀ Q : VK, (∀ l ws H1, H l = none → Ex H H1 → H1 l = some (.lst ws) → A ws H1 → Q (.ref l) H1) → tl σ H Q) (Pv : Addr → List V → Hp → Nat → L2.St → Hp → Prop)
    (h0 : ∀ l ws H1, H l = none → Ex H H1 → H1 l = some (.lst ws) → A ws H1 → Pv l ws H1 0 σ H1) (hl : ∀ l ws H1 i σ' H', Pv l ws H1 i σ' H' → SqL K H' l ws)
    (hs : ∀ l ws H1 i x σ' H', A ws H1 → ws[i]? = some x → Pv l ws H1 i σ' H' → tu { D with nx := Pv l ws H1 (i + 1), ct := Pv l ws H1 (i + 1), bk := D.nx } (σ'.set j (some x)) H')
    (hd : ∀ l ws H1 σ' H', A ws H1 → Pv l ws H1 ws.length σ' H' → D.nx σ' H') : tFor (iList K tl) (gName j) tu D σ H := by
  refine h _ fun l ws H1 hl0 e1 h1 hA => ⟨l, rfl, ⟨ws, sq_of h1⟩, ?_⟩
  refine ⟨fun i m σ' H' => m = ws.length - i ∧ i ≤ ws.length ∧ Pv l ws H1 i σ' H', ⟨ws.length, rfl, Nat.zero_le _, h0 l ws H1 hl0 e1 h1 hA⟩, ?_⟩
  rintro i m σ' H' ⟨rfl, hi, p⟩
  have S := hl l ws H1 i σ' H' p
  by_cases hlt : i < ws.length
  · have gx : ws[i]? = some ws[i] := List.getElem?_eq_getElem hlt
    refine .inr ⟨⟨ws, _, S, gx⟩, Pv l ws H1 (i + 1), fun σ2 H2 p2 => ⟨ws.length - (i + 1), by omega, rfl, hlt, p2⟩, fun v H2 y => ?_⟩
    obtain ⟨rfl, f1⟩ := y
    exact hs l ws H1 i v σ' _ hA (f1 ws S) p
  · have e0 : i = ws.length := by omega
    subst e0
    exact .inl ⟨⟨ws, S, Nat.le_refl _⟩, hd l ws H1 σ' H' hA p⟩
theorem q_forBL {j : Nat} (A : List V → Hp → Prop) (h : ∀ Q : VK, (∀ l ws H1, H l = none → Ex H H1 → H1 l = some (.lst ws) → A ws H1 → Q (.ref l) H1) → tl σ H Q) (Pv : Addr → List V → Hp → Nat → L2.St → Hp → Prop)
    (h0 : ∀ l ws H1, H l = none → Ex H H1 → H1 l = some (.lst ws) → A ws H1 → Pv l ws H1 0 σ H1) (hl : ∀ l ws H1 i σ' H', Pv l ws H1 i σ' H' → SqL K H' l ws)
    (hs : ∀ l ws H1 i x σ' H', A ws H1 → ws[i]? = some x → Pv l ws H1 i σ' H' → tu { D with nx := Pv l ws H1 (i + 1), ct := Pv l ws H1 (i + 1), bk := tz D } (σ'.set j (some x)) H')
    (hd : ∀ l ws H1 σ' H', A ws H1 → Pv l ws H1 ws.length σ' H' → tz D σ' H') : tSeq (tFor (iList K tl) (gName j) tu) tz D σ H := s_forBL (D := { D with nx := tz D }) A h Pv h0 hl hs hd
end
theorem dp_pair {K : PySem.W.Frag} {H : Hp} {a : Addr} {p : L × L} (h : H a = some (.tup [.str (tx p.1), .str (tx p.2)])) : Dp K H (.ref a) (pD p) := .tup (st_of h) (.cons (.str _) (.cons (.str _) .nil))
theorem dp_pairs {K : PySem.W.Frag} {H : Hp} : ∀ {ws : List V} {ps : List (L × L)}, Reps H ws (ps.map fun p => keyD (keyP p)) → DpAll K H ws (ps.map pD)
  | ws, [], h => by cases h; exact .nil
  | ws, p :: ps, h => by
    rw [List.map_cons] at h
    cases h with
    | cons h1 r1 =>
      unfold keyD at h1
      cases h1 with
      | tup e rs =>
        have := it_reps rs
        subst this
        exact .cons (dp_pair e) (dp_pairs r1)
theorem dedP_sub : ∀ (l acc : List (L × L)), ∀ p ∈ l.foldl addP acc, p ∈ acc ∨ p ∈ l
  | [], acc, p, h => .inl h
  | q :: l, acc, p, h => by
    rw [List.foldl_cons] at h
    rcases dedP_sub l _ p h with g | g
    · unfold addP at g
      split at g
      · exact .inl g
      · rcases List.mem_append.mp g with g | g
        · exact .inl g
        · exact .inr (by rw [List.mem_singleton.mp g]; simp)
    · exact .inr (by simp [g])
section
variable {P : Program} {w : World} {K : PySem.W.Frag} {mg : Str → Option Value} {base : Heap}
abbrev s_law_sources : Stmt := topS 44
theorem sc_law_sources : FnScope ["told_plan", "name", "marks", "step"] ["told_plan", "name"] (defScope s_law_sources) := ⟨rfl, rfl, rfl, by decide +kernel, rfl, by decide +kernel, by decide +kernel⟩
/- 0 told_plan, 1 name, 2 marks, 3 step -/
theorem fn_lsources {f : Addr} {fd : FuncData} {k : Nat} (F : Fun K "_law_sources" "_law_sources" s_law_sources f fd) (N : Nb mg) (C_law_hangs : Cal P w K mg base k "_law_hangs" ["told_plan", "name"] (sp_below K)) : FnOk P w K mg base CX0 (k + 1) f fd ["told_plan", "name"] (sp_on K srcD) := by
  refine F.ok sc_law_sources (fun vs H Q E h => ?_) (fun cdv A outer s H vs Q E hr h => ?_)
  · obtain ⟨_, _, _, _, rfl, _⟩ := h
    rfl
  · obtain ⟨a, us, rows, x, rfl, hS, hR, hp, hx, q⟩ := h
    refine ⟨_, (pss_cons (ps_set (i := 2) sc_law_sources.nd rfl (Or.inl rfl) (pe_lst pa_nil))
      (pss_cons (ps_for PassesOwn.never rfl (pi_list (pe_cal C_law_hangs hr (pa_cons (pv 0) (pa_cons (pv 1) pa_nil)))) (pg_name (i := 3) sc_law_sources.nd rfl (Or.inl rfl)) (pss_one (ps_if (PW.pt (pw_and (pt_cmpR op_in_seq (pe_ix ix_tup (pv 3) pe_int (fun _ _ => rfl)) (pe_lst (pa_cons pe_str (pa_cons pe_str pa_nil))) rfl) (pw_and1 (pt_cmpR (op_notInD (hD_of hr)) (pe_tup (pa_cons (pe_ix ix_tup (pv 3) pe_int (fun _ _ => rfl)) (pa_cons (pe_ix ix_tup (pe_ix ix_tup (pv 3) pe_int (fun _ _ => rfl)) pe_int (fun _ _ => rfl)) pa_nil))) (pv 2) rfl)))) (pss_one (ps_expr (pe_bm PySem.F.plainAttrs_list PySem.F.slot_list_append PySem.F.type_list_append mt_append (pv 2) (pa_cons (pe_tup (pa_cons (pe_ix ix_tup (pv 3) pe_int (fun _ _ => rfl)) (pa_cons (pe_ix ix_tup (pe_ix ix_tup (pv 3) pe_int (fun _ _ => rfl)) pe_int (fun _ _ => rfl)) pa_nil))) pa_nil)))) pss_nil)))
      (pss_one (ps_ret (pe_callTy call_tuple_of (by rfl) N.tuple PyProof.Rows.boot_tuple (pa_cons (pe_callB cr_sortedTA (by rfl) N.sorted PyProof.Rows.boot_sorted (pa_cons (pv 2) pa_nil)) pa_nil)))))), ?_⟩
    have hdl := down_len rows x
    have hfew := hp.few
    let prs : Nat → List (L × L) := fun i => (((downF rows x).take i).filter isSrc).map srcF
    have hsm : ∀ i, ∀ p ∈ dedP (prs i), small p.1 = true ∧ small p.2 = true := fun i p hpm => by
      rcases dedP_sub _ _ p hpm with h | h
      · simp at h
      · obtain ⟨r, hr, rfl⟩ := List.mem_map.mp h
        obtain ⟨h1, h2⟩ := List.mem_filter.mp hr
        exact src_small (hp.wf r (down_mem (List.mem_of_mem_take h1))) h2
    have hln : ∀ i, (dedP (prs i)).length ≤ 40 := fun i => by
      have h1 := dedP_len (prs i) []
      have h2 : (prs i).length ≤ (downF rows x).length := by
        show ((((downF rows x).take i).filter isSrc).map srcF).length ≤ _
        rw [List.length_map]
        refine Nat.le_trans (List.length_filter_le _ _) ?_
        rw [List.length_take]
        omega
      unfold dedP
      rw [List.length_nil] at h1
      omega
    refine q_asgL (el_lst ea_nil (by decide)) fun mk H0 hmk e0 h0 => ?_
    refine q_forBL (fun ws H1 => Reps H1 ws ((downF rows x).map stD)) (fun Q' q' => r_call (r_cons (r_var rfl (r_cons (r_var rfl (r_nil ⟨a, us, rows, x, rfl, ex_t e0 hS, hR.mono e0, hp, hx, fun p ws H1 hp1 e1 h1 r1 => q' p ws H1 hp1 e1 h1 r1⟩))))))
      (fun l ws H1 i σ' H' => l ≠ mk ∧ Ex H0 H1 ∧ H1 l = some (.lst ws) ∧ (∀ c o, c ≠ mk → H1 c = some o → H' c = some o) ∧ (∀ c us, H1 c = some (.tup us) → H' c = some (.tup us)) ∧ ∃ (ms : List V) (y3 : Option V), H' mk = some (.lst ms) ∧ Reps H' ms ((dedP (prs i)).map fun p => keyD (keyP p)) ∧ σ' = [some (.ref a), some (.str (tx x)), some (.ref mk), y3])
      (fun l ws H1 hl0 e1 h1 _ => ⟨(by intro z; rw [z, h0] at hl0; exact nomatch hl0), e1, h1, fun _ _ _ h => h, fun _ _ h => h, [], none, e1 _ _ h0, .nil, rfl⟩) (fun l ws H1 i σ' H' h => sq_of (h.2.2.2.1 _ _ h.1 h.2.2.1)) ?_ ?_
    · rintro l ws H1 i v σ' H' rs hv ⟨hne, e1, hl1, kk, kt, ms, y3, hm, hrm, rfl⟩
      obtain ⟨d, hdd, hrep⟩ := rs.get' hv
      rw [List.getElem?_map] at hdd
      obtain ⟨r, hr, rfl⟩ := Option.map_eq_some_iff.mp hdd
      have hrmem := List.mem_of_getElem? hr
      have hw := hp.wf r (down_mem hrmem)
      have hprs : prs (i + 1) = prs i ++ (if isSrc r = true then [srcF r] else []) := by
        show (((downF rows x).take (i + 1)).filter isSrc).map srcF = _
        rw [List.take_add_one, hr, List.filter_append, List.map_append]
        congr 1
        cases hs : isSrc r <;> simp [hs]
      obtain ⟨ra, rb, vo, hvv, hra, hrb, hvo⟩ := row_at hrep
      subst hvv
      have hra' := kt _ _ hra
      have hrb' := kt _ _ hrb
      have hmr := hrm.len
      rw [List.length_map] at hmr
      have pairE : ∀ {H2 : Hp} {σ2 : L2.St}, Ex H' H2 → isSrc r = true → σ2[3]? = some (some (.ref ra)) → EvA (tCons (tOp (rIxT K) (tVar 3) (tC (.int 1))) (tCons (tOp (rIxT K) (tOp (rIxT K) (tVar 3) (tC (.int 2))) (tC (.int 0))) tNil)) σ2 H2 [.str (tx (srcF r).1), .str (tx (srcF r).2)] := fun e hs hv3 => by
        obtain ⟨kk', hargs, hkn⟩ := src_arg hw hs
        rw [hargs] at hrb'
        have hav : argV (kk', (srcF r).2) = .str (tx (srcF r).2) := by
          unfold argV
          rw [if_neg (by rcases hkn with h | h <;> (rw [h]; exact fun z => nomatch z))]
        rw [← hav]
        exact ea_cons (ev_ixT (j := 1) (ev_v hv3) (ev_cn 1) (st_of (e _ _ hra')) rfl) (ea_cons (ev_ixT (j := 0) (ev_ixT (j := 2) (ev_v hv3) (ev_cn 2) (st_of (e _ _ hra')) rfl) (ev_cn 0) (st_of (e _ _ hrb')) rfl) ea_nil)
      have tsrc : Ev (tOp (rIn K false) (tOp (rIxT K) (tVar 3) (tC (.int 1))) (tLst (tCons (tC (.str "file")) (tCons (tC (.str "all")) tNil)))) [some (.ref a), some (.str (tx x)), some (.ref mk), some (.ref ra)] H' (.bl (isSrc r)) := by
        unfold isSrc
        rw [← inV_str]
        exact ev_inN (ev_ixT (j := 1) (ev_v rfl) (ev_cn 1) (st_of hra') rfl) (el_lst (ea_cons (ev_cs oFile (by decide +kernel)) (ea_cons (ev_cs oAll (by decide +kernel)) ea_nil)) (by show 2 ≤ 100000; decide)) rfl rfl
      refine s_when (b := isSrc r && !decide (srcF r ∈ dedP (prs i))) (et_and (et_test tsrc) fun hs => et_test fun H2 e2 Q' q' => ?_) (fun hb H2 e2 => ?_) fun hb H2 e2 => ?_
      · refine eu_tup (pairE e2 hs rfl) (by show 2 ≤ 100000; decide) H2 (Ex.refl _) _ fun kb H3 _ e3 h3 => r_var rfl ⟨pD (srcF r), (dedP (prs i)).map pD, dp_pair h3, .lst (sq_of ((e2.trans e3) _ _ hm)) (dp_pairs (hrm.mono (e2.trans e3))), pD_shaped (src_small hw hs).1 (src_small hw hs).2, pDs_shaped (hsm i), ?_⟩
        rw [pD_any]
        exact q' H3 e3
      · rw [Bool.and_eq_true, Bool.not_eq_true'] at hb
        obtain ⟨hs, hni⟩ := hb
        have hni := of_decide_eq_false hni
        rw [hs, if_pos rfl] at hprs
        refine s_appU (e2 _ _ hm) (ev_v rfl) (eu_tup (pairE e2 hs rfl) (by show 2 ≤ 100000; decide)) (by have := hln i; omega) fun pb H3 _ e3 h3 => ?_
        have hm3 := (e2.trans e3) _ _ hm
        have k3 : ∀ c us, H3 c = some (.tup us) → (upd H3 mk (.lst (ms ++ [.ref pb]))) c = some (.tup us) := fun c us h => by rw [upd_ne (ne_kind h hm3 (fun z => nomatch z))]; exact h
        refine ⟨hne, e1, hl1, fun c o hc h => by rw [upd_ne hc]; exact (e2.trans e3) _ _ (kk c o hc h), fun c us h => k3 _ _ ((e2.trans e3) _ _ (kt c us h)), ms ++ [.ref pb], _, upd_same, ?_, rfl⟩
        rw [hprs, dedP_snoc]
        unfold addP
        rw [if_neg hni, List.map_append]
        refine (Reps.keepT k3 (nol_all fun p _ => nol_key _) (hrm.mono (e2.trans e3))).append (.cons (.tup (k3 _ _ h3) (.cons (.str _) (.cons (.str _) .nil))) .nil)
      · refine ⟨hne, e1, hl1, fun c o hc h => e2 _ _ (kk c o hc h), fun c us h => e2 _ _ (kt c us h), ms, _, e2 _ _ hm, ?_, rfl⟩
        have hpe : dedP (prs (i + 1)) = dedP (prs i) := by
          rw [hprs]
          cases hs : isSrc r with
          | false => rw [if_neg Bool.false_ne_true, List.append_nil]
          | true =>
            rw [if_pos rfl, dedP_snoc]
            rw [hs, Bool.true_and, Bool.not_eq_false'] at hb
            unfold addP
            rw [if_pos (of_decide_eq_true hb)]
        rw [hpe]
        exact hrm.mono e2
    · rintro l ws H1 σ' H' rs ⟨hne, e1, hl1, kk, kt, ms, y3, hm, hrm, rfl⟩
      have hwl := rs.len
      rw [List.length_map] at hwl
      have hpe : prs ws.length = ((downF rows x).filter isSrc).map srcF := by
        show (((downF rows x).take ws.length).filter isSrc).map srcF = _
        rw [List.take_of_length_le (by omega)]
      have hl40 := hln ws.length
      rw [hpe] at hrm hl40
      have Ef : Ex H H' := fun c o h => kk c o (fun z => by rw [z] at h; rw [h] at hmk; exact nomatch hmk) ((e0.trans e1) c o h)
      refine r_ret (ed_tupL (ed_sortT (sh := fun _ => true) (ks := (dedP (((downF rows x).filter isSrc).map srcF)).map keyP) (fun H5 e5 Q' q' => r_var rfl (q' (.ref mk) H5 (Ex.refl _) (.lst (e5 _ _ hm) ?_))) (fun k hk => ?_) (by rw [List.length_map]; omega)) (nol_all fun k _ => nol_key k) H' (Ex.refl _) _ fun v H5 e5 r5 => q v H5 (Ef.trans e5) r5)
      · rw [List.map_map]
        exact hrm.mono e5
      · obtain ⟨p, _, rfl⟩ := List.mem_map.mp hk
        exact ⟨rfl, fun z => nomatch z⟩
end
end K50

set_option Elab.async false
set_option linter.all false
set_option maxRecDepth 100000
set_option maxHeartbeats 4000000
namespace K50
open PySem PySem.Spec PyProof.Rows L2 Evl My
def rAddT : R2 := fun x y H Q => ∃ i j, x = .str i ∧ y = .str j ∧ i.length + j.length ≤ sizeLine ∧ Q (.str (i ++ j)) H
def okT (m : Nat) (v : V) : Prop := ∃ l : L, v = .str (tx l) ∧ l.length ≤ m
def EvS (te : TE) (σ : L2.St) (H : Hp) (m : Nat) : Prop := ∃ l : L, l.length ≤ m ∧ Ev te σ H (.str (tx l))
def EvAS (ta : TA) (σ : L2.St) (H : Hp) (m : Nat) (n : Nat) : Prop := ∃ vs : List V, EvA ta σ H vs ∧ vs.length = n ∧ ∀ v ∈ vs, okT m v
def okTB (m : Nat) : V → Bool
  | .str s => decide (s.length ≤ m)
  | _ => false
theorem okTB_ok {m : Nat} {v : V} (h : okTB m v = true) : okT m v := by
  cases v with
  | str s => exact ⟨s.cps.toList, rfl, by rw [Array.length_toList]; exact of_decide_eq_true h⟩
  | _ => exact nomatch h
section
variable {K : PySem.W.Frag} {σ : L2.St} {H : Hp} {ta tb te : TE} {tr : TA} {m m1 m2 n : Nat}
theorem es_c {s : Str} : EvS (tC (.str s)) σ H s.length := ⟨s.cps.toList, by rw [Array.length_toList]; exact Nat.le_refl _, ev_cs _ (tx_of s)⟩
theorem es_v {i : Nat} {l : L} (h : σ[i]? = some (some (.str (tx l)))) (hm : l.length ≤ m) : EvS (tVar i) σ H m := ⟨l, hm, ev_v h⟩
theorem es_add (h1 : EvS ta σ H m1) (h2 : EvS tb σ H m2) (hz : m1 + m2 ≤ 100000 := by decide +kernel) : EvS (tOp rAddT ta tb) σ H (m1 + m2) := by
  obtain ⟨a, ha, h1⟩ := h1
  obtain ⟨b, hb, h2⟩ := h2
  exact ⟨a ++ b, by rw [List.length_append]; omega, ev_op h1 h2 (rv_addS (a := a) (b := b) (by omega))⟩
theorem eas_nil : EvAS tNil σ H m 0 := ⟨[], ea_nil, rfl, fun v h => absurd h (by simp)⟩
theorem eas_cons (h : EvS te σ H m1) (hm : m1 ≤ m) (hr : EvAS tr σ H m n) : EvAS (tCons te tr) σ H m (n + 1) := by
  obtain ⟨l, hl, h⟩ := h
  obtain ⟨vs, h1, h2, h3⟩ := hr
  refine ⟨.str (tx l) :: vs, ea_cons h h1, by rw [List.length_cons, h2], fun v hv => ?_⟩
  rcases List.mem_cons.mp hv with rfl | hv
  · exact ⟨l, rfl, by omega⟩
  · exact h3 v hv
theorem G.kt {p sc : Addr} {ns : List Int} {H' : Hp} (hP : Pool K H p sc ns) (g : G K p sc ns H H') : ∀ c us, H c = some (.tup us) → H' c = some (.tup us) := fun c us h => g.1 c _ (fun e => hP.noT us (by rw [← e]; exact h)) h
theorem G.back {p sc : Addr} {ns : List Int} {H1 : Hp} {a : Addr} (g : G K p sc ns H H1) (h : H1 a = none) : H a = none := by
  cases e : H a with
  | none => rfl
  | some o =>
    by_cases ha : a = p
    · obtain ⟨pl, r, f, hp, _⟩ := g.2
      rw [ha, hp] at h
      exact nomatch h
    · rw [g.1 a o ha e] at h
      exact nomatch h
end
section
variable {P : Program} {w : World} {K : PySem.W.Frag} {mg : Str → Option Value} {base : Heap}
/-- a pick out of texts -/
theorem r_pickT {σ : L2.St} {H : Hp} {te tb : TE} {E : XK} {Q : VK} {p sc : Addr} {ns : List Int} {xs : List V} (m : Nat) (hP : Pool K H p sc ns) (ha : Ev te σ H (.ref p)) (hb : EvL tb σ H xs) (h0 : xs ≠ []) (hn : xs.length ≤ 1000) (ho : ∀ v ∈ xs, okT m v) (q : ∀ (l : L) H', l.length ≤ m → G K p sc ns H H' → Q (.str (tx l)) H') :
    tCall (sp_pick K) [] E (tCons te (tCons tb tNil)) σ H Q := r_pick hP ha hb h0 hn fun v H' hv g => by
  obtain ⟨l, rfl, hl⟩ := ho v hv
  exact q l H' hl g
theorem r_pickC {σ : L2.St} {H : Hp} {te : TE} {ta : TA} {E : XK} {Q : VK} {p sc : Addr} {ns : List Int} {xs : List V} (m : Nat) (hP : Pool K H p sc ns) (ha : Ev te σ H (.ref p)) (hb : EvA ta σ H xs) (h0 : xs ≠ []) (hn : xs.length ≤ 1000) (ho : xs.all (okTB m) = true) (q : ∀ (l : L) H', l.length ≤ m → G K p sc ns H H' → Q (.str (tx l)) H') :
    tCall (sp_pick K) [] E (tCons te (tCons (tLst ta) tNil)) σ H Q := r_pickT m hP ha (el_lst hb (by omega)) h0 hn (fun v hv => okTB_ok (List.all_eq_true.mp ho v hv)) q
theorem r_pickA {σ : L2.St} {H : Hp} {te : TE} {tb : TE} {E : XK} {Q : VK} {p sc a : Addr} {ns : List Int} {xs : List V} (m : Nat) (hP : Pool K H p sc ns) (ha : Ev te σ H (.ref p)) (hb : Ev tb σ H (.ref a)) (hS : SqL K H a xs) (hap : a ≠ p) (h0 : xs ≠ []) (hn : xs.length ≤ 1000) (ho : ∀ v ∈ xs, okT m v) (q : ∀ (l : L) H', l.length ≤ m → G K p sc ns H H' → Q (.str (tx l)) H') :
    tCall (sp_pick K) [] E (tCons te (tCons tb tNil)) σ H Q := r_call (r_cons (r_ev ha (Ex.refl _) fun H1 e1 => r_cons (r_ev hb e1 fun H2 e2 => r_nil ⟨p, sc, ns, a, xs, rfl, hP.ex (e1.trans e2), ex_l (e1.trans e2) hS, hap, h0, hn, fun v H3 hv g => by
    obtain ⟨l, rfl, hl⟩ := ho v hv
    exact q l H3 hl (G.exL (e1.trans e2) g)⟩)))
theorem r_ifS {t : TT} {tu tw tz : TS} {D : Ends} {σ : L2.St} {H : Hp} (h : t σ H fun b H1 => if b = true then tu { D with nx := tz D } σ H1 else tw { D with nx := tz D } σ H1) : tSeq (tIfS t tu tw) tz D σ H := h
theorem r_or {t u : TT} {σ : L2.St} {H : Hp} {Q : Bool → Hp → Prop} (h : t σ H fun c H1 => if c = true then Q true H1 else u σ H1 Q) : tOr t u σ H Q := h
theorem r_lst {ta : TA} {σ : L2.St} {H : Hp} {Q : VK} (h : ta σ H fun vs H1 => vs.length ≤ sizeLine ∧ ∀ p, H1 p = none → Q (.ref p) (upd H1 p (.lst vs))) : tLst ta σ H Q := h
theorem txs_ok {ps : List L} {m : Nat} (h : ∀ p ∈ ps, p.length ≤ m) : ∀ v ∈ txs ps, okT m v := fun v hv => by
  obtain ⟨p, hp, rfl⟩ := List.mem_map.mp hv
  exact ⟨p, rfl, h p hp⟩
def sp_dstep (K : PySem.W.Frag) : Sp := fun vs H Q _ => ∃ (p sc na : Addr) (ns : List Int) (nm : L) (nms : List L), vs = [.ref p, .str (tx nm), .ref na] ∧ Pool K H p sc ns ∧ H na = some (.lst (txs nms)) ∧ na ≠ p ∧ nm.length ≤ 10 ∧ nms.length ≤ 100 ∧ (∀ x ∈ nms, x.length ≤ 10) ∧ ∀ (l : L) H', l.length ≤ 100 → G K p sc ns H H' → Q (.str (tx l)) H'
abbrev s_law_drawn_step : Stmt := topS 45
theorem sc_law_drawn_step : FnScope ["pool", "name", "names", "path", "a", "b", "word", "count", "rows"] ["pool", "name", "names"] (defScope s_law_drawn_step) := ⟨rfl, rfl, rfl, by decide +kernel, rfl, by decide +kernel, by decide +kernel⟩
/- 0 pool, 1 name, 2 names, 3 path, 4 a, 5 b, 6 word, 7 count, 8 rows -/
theorem fn_dstep {f : Addr} {fd : FuncData} {k : Nat} (F : Fun K "_law_drawn_step" "_law_drawn_step" s_law_drawn_step f fd) (N : Nb mg) (C_law_draw : Cal P w K mg base k "_law_draw" ["pool", "limit"] (sp_draw K)) (C_law_pick : Cal P w K mg base k "_law_pick" ["pool", "options"] (sp_pick K)) : FnOk P w K mg base CX0 (k + 1) f fd ["pool", "name", "names"] (sp_dstep K) := by
  refine F.ok sc_law_drawn_step (fun vs H Q E h => ?_) (fun cdv A outer s H vs Q E hr h => ?_)
  · obtain ⟨_, _, _, _, _, _, rfl, _⟩ := h
    rfl
  · obtain ⟨p, sc, na, ns, nm, nms, rfl, hP, hna, hnp, hnm, hnn, hns, q⟩ := h
    refine ⟨_, (pss_cons (ps_set (i := 3) sc_law_drawn_step.nd rfl (Or.inl rfl) (pe_cal C_law_pick hr (pa_cons (pv 0) (pa_cons (pe_lst (pa_cons pe_str (pa_cons pe_str (pa_cons pe_str (pa_cons pe_str (pa_cons pe_str (pa_cons pe_str (pa_cons pe_str pa_nil)))))))) pa_nil))))
      (pss_cons (ps_if (PW.pt (pw_or (pt_cmpR (op_eqE hr.units) (pv 2) (pe_lst pa_nil) (nomark _)) (pw_or1 (pt_cmpR op_eq (pe_cal C_law_draw hr (pa_cons (pv 0) (pa_cons pe_int pa_nil))) pe_int (nomark _))))) (pss_one (ps_ret (pe_op op_add_str (pe_op op_add_str (pv 1) pe_str) (pe_cal C_law_pick hr (pa_cons (pv 0) (pa_cons (pe_lst (pa_cons (pe_op op_add_str pe_str (pv 3)) (pa_cons (pe_op op_add_str pe_str (pe_cal C_law_pick hr (pa_cons (pv 0) (pa_cons (pe_lst (pa_cons pe_str (pa_cons pe_str (pa_cons pe_str (pa_cons pe_str (pa_cons pe_str pa_nil)))))) pa_nil)))) pa_nil))) pa_nil)))))) pss_nil)
      (pss_cons (ps_set (i := 4) sc_law_drawn_step.nd rfl (Or.inl rfl) (pe_cal C_law_pick hr (pa_cons (pv 0) (pa_cons (pv 2) pa_nil))))
      (pss_cons (ps_set (i := 5) sc_law_drawn_step.nd rfl (Or.inl rfl) (pe_cal C_law_pick hr (pa_cons (pv 0) (pa_cons (pv 2) pa_nil))))
      (pss_cons (ps_set (i := 6) sc_law_drawn_step.nd rfl (Or.inl rfl) (pe_cal C_law_pick hr (pa_cons (pv 0) (pa_cons (pe_lst (pa_cons pe_str (pa_cons pe_str (pa_cons pe_str (pa_cons pe_str pa_nil))))) pa_nil))))
      (pss_cons (ps_set (i := 7) sc_law_drawn_step.nd rfl (Or.inl rfl) (pe_callTy call_str_int (by rfl) N.str PyProof.Rows.boot_str (pa_cons (pe_cal C_law_draw hr (pa_cons (pv 0) (pa_cons pe_int pa_nil))) pa_nil)))
      (pss_cons (ps_set (i := 8) sc_law_drawn_step.nd rfl (Or.inl rfl) (pe_lst (pa_cons (pe_op op_add_str (pe_op op_add_str (pe_op op_add_str pe_str (pv 4)) pe_str) (pv 5)) (pa_cons (pe_op op_add_str (pe_op op_add_str (pe_op op_add_str pe_str (pv 6)) pe_str) (pv 4)) (pa_cons (pe_op op_add_str (pe_op op_add_str (pe_op op_add_str pe_str (pv 6)) pe_str) (pv 4)) (pa_cons (pe_op op_add_str (pe_op op_add_str (pe_op op_add_str pe_str (pv 6)) pe_str) (pv 4)) (pa_cons (pe_op op_add_str (pe_op op_add_str (pe_op op_add_str pe_str (pv 6)) pe_str) (pv 4)) (pa_cons (pe_op op_add_str pe_str (pv 4)) pa_nil))))))))
      (pss_cons (ps_set (i := 8) sc_law_drawn_step.nd rfl (Or.inl rfl) (pe_op op_cat (pv 8) (pe_lst (pa_cons (pe_op op_add_str pe_str (pv 4)) (pa_cons (pe_op op_add_str pe_str (pv 4)) (pa_cons (pe_op op_add_str (pe_op op_add_str (pe_op op_add_str pe_str (pv 7)) pe_str) (pv 4)) (pa_cons (pe_op op_add_str (pe_op op_add_str (pe_op op_add_str pe_str (pv 7)) pe_str) (pv 4)) (pa_cons (pe_op op_add_str pe_str (pv 4)) (pa_cons (pe_op op_add_str pe_str (pv 4)) (pa_cons (pe_op op_add_str (pe_op op_add_str (pe_op op_add_str pe_str (pv 4)) pe_str) (pv 5)) (pa_cons (pe_op op_add_str (pe_op op_add_str (pe_op op_add_str pe_str (pv 4)) pe_str) (pv 5)) (pa_cons (pe_op op_add_str pe_str (pv 4)) pa_nil))))))))))))
      (pss_one (ps_ret (pe_op op_add_str (pe_op op_add_str (pv 1) pe_str) (pe_cal C_law_pick hr (pa_cons (pv 0) (pa_cons (pv 8) pa_nil)))))))))))))), ?_⟩
    refine r_asg (r_pickC 12 hP (ev_v rfl) (ea_cons ev_c (ea_cons ev_c (ea_cons ev_c (ea_cons ev_c (ea_cons ev_c (ea_cons ev_c (ea_cons ev_c ea_nil))))))) (fun z => nomatch z) (by show 7 ≤ 1000; decide) (by decide +kernel) fun path H1 hpath g1 => ?_)
    have first : ∀ {H2 : Hp} {y4 y5 y6 y7 y8 : Option V} {Q' : VK}, G K p sc ns H H2 → (∀ (l : L) H', l.length ≤ 100 → G K p sc ns H2 H' → Q' (.str (tx l)) H') → tOp rAddT (tOp rAddT (tVar 1) (tC (.str " = "))) (tCall (sp_pick K) [] E0 (tCons (tVar 0) (tCons (tLst (tCons (tOp rAddT (tC (.str "file ")) (tVar 3)) (tCons (tOp rAddT (tC (.str "all ")) (tCall (sp_pick K) [] E0 (tCons (tVar 0) (tCons (tLst (tCons (tC (.str "src")) (tCons (tC (.str ".")) (tCons (tC (.str "src/sub")) (tCons (tC (.str "docs")) (tCons (tC (.str "no")) tNil)))))) tNil)))) tNil))) tNil))) [some (.ref p), some (.str (tx nm)), some (.ref na), some (.str (tx path)), y4, y5, y6, y7, y8] H2 Q' := fun {H2 y4 y5 y6 y7 y8 Q'} g q' => by
      obtain ⟨l1, hl1, h1⟩ : EvS (tOp rAddT (tVar 1) (tC (.str " = "))) [some (.ref p), some (.str (tx nm)), some (.ref na), some (.str (tx path)), y4, y5, y6, y7, y8] H2 _ := es_add (es_v rfl hnm) es_c
      have hl1 : l1.length ≤ 13 := hl1
      refine r_op (r_ev h1 (Ex.refl _) fun H3 e3 => ?_)
      obtain ⟨l2, hl2, h2⟩ : EvS (tOp rAddT (tC (.str "file ")) (tVar 3)) [some (.ref p), some (.str (tx nm)), some (.ref na), some (.str (tx path)), y4, y5, y6, y7, y8] H3 _ := es_add es_c (es_v rfl hpath)
      have hl2 : l2.length ≤ 17 := hl2
      have g3 := g.exR e3
      refine r_call (r_cons (r_var rfl (r_cons (r_lst (r_cons (r_ev h2 (Ex.refl _) fun H4 e4 => r_cons (r_op (r_ev (ev_cs [97, 108, 108, 32] (by decide +kernel)) (Ex.refl _) fun H4b e4b => r_pickC 7 (g3.2.ex (e4.trans e4b)) (ev_v rfl) (ea_cons ev_c (ea_cons ev_c (ea_cons ev_c (ea_cons ev_c (ea_cons ev_c ea_nil))))) (fun z => nomatch z) (by show 5 ≤ 1000; decide) (by decide +kernel) fun l3 H5 hl3 g5 => ⟨tx [97, 108, 108, 32], tx l3, rfl, rfl, by rw [tx_len, tx_len]; exact sz_of (by show 4 + _ ≤ _; omega), r_nil ⟨sz_of (by show 2 ≤ 100000; decide), fun pl hpl => r_nil ⟨p, sc, ns, pl, _, rfl, ?_, sq_of upd_same, ?_, (fun z => nomatch z), by show 2 ≤ 1000; decide, fun v H6 hv g6 => ?_⟩⟩⟩))))))))
      · exact (G.new (g3.2.ex (e4.trans e4b)) g5 (G.back g5 hpl)).2
      · exact g5.2.ne hpl
      · have gA : G K p sc ns H2 H6 := ((G.ex ((e3.trans e4).trans e4b) g.2).trans (G.new (g3.2.ex (e4.trans e4b)) g5 (G.back g5 hpl))).trans g6
        have fin : ∀ l : L, l.length ≤ 17 → ∃ i j, V.str (tx l1) = .str i ∧ V.str (tx l) = .str j ∧ i.length + j.length ≤ sizeLine ∧ Q' (.str (i ++ j)) H6 := fun l hl => ⟨tx l1, tx l, rfl, rfl, by rw [tx_len, tx_len]; exact sz_of (by omega), by rw [tx_app]; exact q' _ H6 (by rw [List.length_append]; omega) gA⟩
        rcases List.mem_cons.mp hv with rfl | hv
        · exact fin l2 hl2
        · rw [List.mem_singleton.mp hv, tx_app]
          exact fin _ (by rw [List.length_append]; show 4 + _ ≤ _; omega)
    refine r_ifS (r_or (et_test (ev_eqE (K := K) (ev_v (v := .ref na) rfl) (sq_of (g1.1 _ _ hnp hna)) (el_lst ea_nil (by decide))) H1 (Ex.refl _) _ fun H2 e2 => ?_))
    have g2 := g1.exR e2
    by_cases hz : (txs nms).length = 0
    · rw [decide_eq_true hz, if_pos rfl, if_pos rfl]
      exact r_ret (first g2 fun l H3 hl g3 => q l H3 hl (g2.trans g3))
    · rw [decide_eq_false hz, if_neg Bool.false_ne_true]
      have hne : txs nms ≠ [] := fun z => hz (by rw [z]; rfl)
      have hnl := txs_len nms
      refine r_test (r_op (r_draw g2.2 (ea_cons (ev_v rfl) (ea_cons (ev_cn 4) ea_nil)) (by decide) (by decide) fun v4 H3 hv4 g3 => ?_))
      refine r_c (rv_eq (x := .int (v4 : Int)) (y := .int 0) rfl H3 (Ex.refl H3) _ fun H4 e4 => ⟨_, rfl, ?_⟩)
      have g4 := g2.trans (g3.exR e4)
      by_cases hv0 : (V.int (v4 : Int)) = .int 0
      · rw [decide_eq_true hv0, if_pos rfl]
        exact r_ret (first g4 fun l H5 hl g5 => q l H5 hl (g4.trans g5))
      · rw [decide_eq_false hv0, if_neg Bool.false_ne_true]
        refine r_asg (r_pickA 10 g4.2 (ev_v rfl) (ev_v rfl) (sq_of (g4.1 _ _ hnp hna)) hnp hne (by omega) (txs_ok hns) fun ta H5 hta g5 => ?_)
        have G5 := g4.trans g5
        refine r_asg (r_pickA 10 G5.2 (ev_v rfl) (ev_v rfl) (sq_of (G5.1 _ _ hnp hna)) hnp hne (by omega) (txs_ok hns) fun tb H6 htb g6 => ?_)
        have G6 := G5.trans g6
        refine r_asg (r_pickC 4 G6.2 (ev_v rfl) (ea_cons ev_c (ea_cons ev_c (ea_cons ev_c (ea_cons ev_c ea_nil)))) (fun z => nomatch z) (by show 4 ≤ 1000; decide) (by decide +kernel) fun wd H7 hwd g7 => ?_)
        have G7 := G6.trans g7
        refine r_asg (r_cb (r_cons (r_draw G7.2 (ea_cons (ev_v rfl) (ea_cons (ev_cn 5) ea_nil)) (by decide) (by decide) fun v5 H8 hv5 g8 => r_nil ⟨_, rfl, ?_, ?_⟩)))
        · exact Nat.lt_of_le_of_lt (Nat.log2_le_self _) (by show v5 < 1920; omega)
        have G8 := G7.trans g8
        obtain ⟨ct, hct, hcl⟩ : ∃ ct : L, Str.ofString (toString ((v5 : Nat) : Int)) = tx ct ∧ ct.length ≤ 1 := by
          have hall : ∀ n, n < 5 → (Str.ofString (toString ((n : Nat) : Int))).length ≤ 1 := by decide +kernel
          exact ⟨_, tx_of _, by rw [Array.length_toList]; exact hall v5 hv5⟩
        rw [hct]
        obtain ⟨vs1, ea1, hn1, ho1⟩ : EvAS (tCons (tOp rAddT (tOp rAddT (tOp rAddT (tC (.str "join ")) (tVar 4)) (tC (.str " "))) (tVar 5)) (tCons (tOp rAddT (tOp rAddT (tOp rAddT (tC (.str "keep ")) (tVar 6)) (tC (.str " "))) (tVar 4)) (tCons (tOp rAddT (tOp rAddT (tOp rAddT (tC (.str "drop ")) (tVar 6)) (tC (.str " "))) (tVar 4)) (tCons (tOp rAddT (tOp rAddT (tOp rAddT (tC (.str "swap ")) (tVar 6)) (tC (.str " blue "))) (tVar 4)) (tCons (tOp rAddT (tOp rAddT (tOp rAddT (tC (.str "under ")) (tVar 6)) (tC (.str " "))) (tVar 4)) (tCons (tOp rAddT (tC (.str "sort ")) (tVar 4)) tNil)))))) [some (.ref p), some (.str (tx nm)), some (.ref na), some (.str (tx path)), some (.str (tx ta)), some (.str (tx tb)), some (.str (tx wd)), some (.str (tx ct)), none] H8 50 6 := by
          repeat' first
            | exact eas_nil
            | refine eas_cons (es_add (es_add (es_add es_c (es_v rfl hwd)) es_c) (es_v rfl hta)) (by decide +kernel) ?_
            | refine eas_cons (es_add (es_add (es_add es_c (es_v rfl hta)) es_c) (es_v rfl htb)) (by decide +kernel) ?_
            | refine eas_cons (es_add es_c (es_v rfl hta)) (by decide +kernel) ?_
        refine q_asgL (el_lst ea1 (by omega)) fun r1 H9 _ e9 h9 => ?_
        obtain ⟨vs2, ea2, hn2, ho2⟩ : EvAS (tCons (tOp rAddT (tC (.str "reverse ")) (tVar 4)) (tCons (tOp rAddT (tC (.str "unique ")) (tVar 4)) (tCons (tOp rAddT (tOp rAddT (tOp rAddT (tC (.str "head ")) (tVar 7)) (tC (.str " "))) (tVar 4)) (tCons (tOp rAddT (tOp rAddT (tOp rAddT (tC (.str "tail ")) (tVar 7)) (tC (.str " "))) (tVar 4)) (tCons (tOp rAddT (tC (.str "number ")) (tVar 4)) (tCons (tOp rAddT (tC (.str "count ")) (tVar 4)) (tCons (tOp rAddT (tOp rAddT (tOp rAddT (tC (.str "each ")) (tVar 4)) (tC (.str " "))) (tVar 5)) (tCons (tOp rAddT (tOp rAddT (tOp rAddT (tC (.str "same ")) (tVar 4)) (tC (.str " "))) (tVar 5)) (tCons (tOp rAddT (tC (.str "unique ")) (tVar 4)) tNil))))))))) [some (.ref p), some (.str (tx nm)), some (.ref na), some (.str (tx path)), some (.str (tx ta)), some (.str (tx tb)), some (.str (tx wd)), some (.str (tx ct)), some (.ref r1)] H9 50 9 := by
          repeat' first
            | exact eas_nil
            | refine eas_cons (es_add (es_add (es_add es_c (es_v rfl hcl)) es_c) (es_v rfl hta)) (by decide +kernel) ?_
            | refine eas_cons (es_add (es_add (es_add es_c (es_v rfl hta)) es_c) (es_v rfl htb)) (by decide +kernel) ?_
            | refine eas_cons (es_add es_c (es_v rfl hta)) (by decide +kernel) ?_
        refine q_asgL (el_cat (evl_k (ev_v rfl) h9) (evl_n (el_lst ea2 (by omega))) (by omega)) fun r2 H10 hr2 e10 h10 => ?_
        have G10 := G8.exR (e9.trans e10)
        obtain ⟨l1, hl1, h1⟩ : EvS (tOp rAddT (tVar 1) (tC (.str " = "))) [some (.ref p), some (.str (tx nm)), some (.ref na), some (.str (tx path)), some (.str (tx ta)), some (.str (tx tb)), some (.str (tx wd)), some (.str (tx ct)), some (.ref r2)] H10 _ := es_add (es_v rfl hnm) es_c
        have hl1 : l1.length ≤ 13 := hl1
        refine r_ret (r_op (r_ev h1 (Ex.refl _) fun H11 e11 => r_pickA 50 (G10.2.ex e11) (ev_v rfl) (ev_v rfl) (sq_of (e11 _ _ h10)) ((G8.exR e9).2.ne hr2) (fun z => by
          have := congrArg List.length z
          rw [List.length_append, hn1, hn2] at this
          exact nomatch this) (by rw [List.length_append, hn1, hn2]; decide) (fun v hv => by
          rcases List.mem_append.mp hv with hv | hv
          · exact ho1 v hv
          · exact ho2 v hv) fun l H12 hl g12 => ⟨tx l1, tx l, rfl, rfl, by rw [tx_len, tx_len]; exact sz_of (by omega), by rw [tx_app]; exact q _ H12 (by rw [List.length_append]; omega) ((G10.exR e11).trans g12)⟩))
end
end K50

set_option Elab.async false
set_option linter.all false
set_option maxRecDepth 100000
set_option maxHeartbeats 4000000
namespace K50
open PySem PySem.Spec PyProof.Rows L2 Evl My
section
variable {K : PySem.W.Frag} {σ : L2.St} {H : Hp} {Q : VK} {p sc : Addr} {ns : List Int} {D : Ends} {tu tz : TS} {ta : TA} {te : TE}
theorem r_zero {E : XK} {ip n : Nat} (hP : Pool K H p sc ns) (hv : σ[ip]? = some (some (.ref p))) (h0 : 0 < n) (hn : n < 1000) (R : List V → Hp → Prop) (h : ∀ (m : Nat) H1, 0 ≤ m → m ≤ n - 1 → G K p sc ns H H1 → R [.int (m : Int)] H1) :
    tCons (tCall (sp_draw K) [] E (tCons (tVar ip) (tCons (tC (.int (n : Int))) tNil))) tNil σ H R :=
  r_cons (r_draw hP (ea_cons (ev_v hv) (ea_cons (ev_cn n) ea_nil)) h0 (by omega) fun v H1 hv g => r_nil (h v H1 (Nat.zero_le _) (by omega) g))
theorem r_drop {te : TE} (h : te σ H fun _ H1 => tz D σ H1) : tSeq (tDrop te) tz D σ H := h
theorem r_dropE {te : TE} (h : te σ H fun _ H1 => D.nx σ H1) : tDrop te D σ H := h
theorem r_bm {to : TE} {t : TA} {T : String} {r : V → List V → Hp → VK → Prop} (h : to σ H fun x H1 => tyV K T x H1 ∧ t σ H1 fun xs H2 => r x xs H2 Q) : tBM K T r to t σ H Q := h
/-- a loop as often as is drawn -/
theorem s_forG {j : Nat} (M : Nat) (hM : M ≤ 1000) (ht : ∀ R : List V → Hp → Prop, (∀ (m : Nat) H1, 0 ≤ m → m ≤ M → G K p sc ns H H1 → R [.int (m : Int)] H1) → ta σ H R) (Pv : Nat → L2.St → Hp → Prop) (h0 : ∀ H1, G K p sc ns H H1 → Pv 0 σ H1)
    (hs : ∀ (i : Nat) σ' H', i < M → Pv i σ' H' → tu { D with nx := Pv (i + 1), ct := Pv (i + 1), bk := D.nx } (σ'.set j (some (.int (i : Int)))) H') (hd : ∀ i σ' H', i ≤ M → Pv i σ' H' → D.nx σ' H') : tFor (iRng1 ta) (gName j) tu D σ H :=
  ht _ fun m H1 _ hm g => ⟨m, rfl, by omega, by omega, by
    rw [Int.toNat_natCast]
    exact for_range (n := m) Pv (h0 H1 g) (fun i σ' H' hi p => by
      have e0 : (0 : Int) + (i : Int) = (i : Int) := Int.zero_add _
      show tu _ (σ'.set j (some (.int ((0 : Int) + (i : Int))))) H'
      rw [e0]
      exact hs i σ' H' (by omega) p) fun σ' H' p => hd m σ' H' hm p⟩
theorem q_forG {j : Nat} (M : Nat) (hM : M ≤ 1000) (ht : ∀ R : List V → Hp → Prop, (∀ (m : Nat) H1, 0 ≤ m → m ≤ M → G K p sc ns H H1 → R [.int (m : Int)] H1) → ta σ H R) (Pv : Nat → L2.St → Hp → Prop) (h0 : ∀ H1, G K p sc ns H H1 → Pv 0 σ H1)
    (hs : ∀ (i : Nat) σ' H', i < M → Pv i σ' H' → tu { D with nx := Pv (i + 1), ct := Pv (i + 1), bk := tz D } (σ'.set j (some (.int (i : Int)))) H') (hd : ∀ i σ' H', i ≤ M → Pv i σ' H' → tz D σ' H') : tSeq (tFor (iRng1 ta) (gName j) tu) tz D σ H :=
  s_forG (D := { D with nx := tz D }) M hM ht Pv h0 hs hd
end
/-- lines in the heap -/
def LnsOk (m : Nat) (lns : List Ln) : Prop := ∀ r ∈ lns, r.2.length ≤ m
theorem nol_lns (lns : List Ln) : NoLL (lns.map lnD) := nol_all fun r _ => nol_ln r
theorem num_tx (n : Nat) (h : n ≤ 60) : ∃ l : L, Str.ofString (toString ((n : Nat) : Int)) = tx l ∧ l.length ≤ 2 := by
  have hall : ∀ n, n < 61 → (Str.ofString (toString ((n : Nat) : Int))).length ≤ 2 := by decide +kernel
  exact ⟨_, tx_of _, by rw [Array.length_toList]; exact hall n (by omega)⟩
theorem log_ok (n : Nat) (h : n ≤ 60) : ((n : Int)).natAbs.log2 < 1920 := Nat.lt_of_le_of_lt (Nat.log2_le_self _) (by show n < 1920; omega)
theorem ev_zeros {c : Nat} {s : Str} {z : L} {σ : L2.St} {H : Hp} (hs : s = tx z) : Ev (tOp rAddT (tC (.str s)) (tOp rMulS (tC (.str "0")) (tC (.int 18)))) σ H (.str (tx (z ++ List.replicate 18 48))) ∨ True := .inr trivial
theorem ev_id {z : L} {s : Str} {σ : L2.St} {H : Hp} (hs : s = tx z) (hz : z.length ≤ 10) : Ev (tOp rAddT (tC (.str s)) (tOp rMulS (tC (.str "0")) (tC (.int 18)))) σ H (.str (tx (z ++ List.replicate 18 48))) :=
  ev_op (ev_cs z hs) (ev_op (ev_cs [48] (by decide +kernel)) ev_c (rv_mulSn (l := List.replicate 18 48) (by unfold MulOk; decide) (by decide +kernel))) (rv_addS (by rw [List.length_replicate]; omega))
section
variable {P : Program} {w : World} {K : PySem.W.Frag} {mg : Str → Option Value} {base : Heap}
abbrev s_law_drawn_plan : Stmt := topS 46
theorem sc_law_drawn_plan : FnScope ["pool", "many", "lines", "names", "k", "name"] ["pool", "many"] (defScope s_law_drawn_plan) := ⟨rfl, rfl, rfl, by decide +kernel, rfl, by decide +kernel, by decide +kernel⟩
/- 0 pool, 1 many, 2 lines, 3 names, 4 k, 5 name -/
def sp_dplan (K : PySem.W.Frag) : Sp := fun vs H Q _ => ∃ (p sc : Addr) (ns : List Int) (many : Nat), vs = [.ref p, .int (many : Int)] ∧ Pool K H p sc ns ∧ many ≤ 8 ∧ ∀ (t : Addr) (us : List V) (lns : List Ln) H', G K p sc ns H H' → H' t = some (.tup us) → Reps H' us (lns.map lnD) → lns.length ≤ 8 → LnsOk 100 lns → Q (.ref t) H'
theorem fn_dplan {f : Addr} {fd : FuncData} {k : Nat} (F : Fun K "_law_drawn_plan" "_law_drawn_plan" s_law_drawn_plan f fd) (N : Nb mg) (C_law_drawn_step : Cal P w K mg base k "_law_drawn_step" ["pool", "name", "names"] (sp_dstep K)) (C_law_next : Cal P w K mg base k "_law_next" ["pool"] (sp_next K)) : FnOk P w K mg base CX0 (k + 1) f fd ["pool", "many"] (sp_dplan K) := by
  refine F.ok sc_law_drawn_plan (fun vs H Q E h => ?_) (fun cdv A outer s H vs Q E hr h => ?_)
  · obtain ⟨_, _, _, _, rfl, _⟩ := h
    rfl
  · obtain ⟨p, sc, ns, many, rfl, hP, hm, q⟩ := h
    refine ⟨_, (pss_cons (ps_set (i := 2) sc_law_drawn_plan.nd rfl (Or.inl rfl) (pe_lst pa_nil))
      (pss_cons (ps_set (i := 3) sc_law_drawn_plan.nd rfl (Or.inl rfl) (pe_lst pa_nil))
      (pss_cons (ps_for PassesOwn.never rfl (pi_range1 rfl N.range (pa_cons (pv 1) pa_nil)) (pg_name (i := 4) sc_law_drawn_plan.nd rfl (Or.inl rfl)) (pss_cons (ps_set (i := 5) sc_law_drawn_plan.nd rfl (Or.inl rfl) (pe_op op_add_str pe_str (pe_callTy call_str_int (by rfl) N.str PyProof.Rows.boot_str (pa_cons (pv 4) pa_nil))))
      (pss_cons (ps_expr (pe_bm PySem.F.plainAttrs_list PySem.F.slot_list_append PySem.F.type_list_append mt_append (pv 2) (pa_cons (pe_tup (pa_cons (pe_tup (pa_cons (pe_op op_add_str pe_str (pe_op op_mulS pe_str pe_int)) (pa_cons (pv 4) pa_nil))) (pa_cons (pe_cal C_law_drawn_step hr (pa_cons (pv 0) (pa_cons (pv 5) (pa_cons (pv 3) pa_nil)))) pa_nil))) pa_nil)))
      (pss_cons (ps_expr (pe_bm PySem.F.plainAttrs_list PySem.F.slot_list_append PySem.F.type_list_append mt_append (pv 3) (pa_cons (pv 5) pa_nil)))
      (pss_one (ps_expr (pe_cal C_law_next hr (pa_cons (pv 0) pa_nil))))))))
      (pss_one (ps_ret (pe_callTy call_tuple_of (by rfl) N.tuple PyProof.Rows.boot_tuple (pa_cons (pv 2) pa_nil))))))), ?_⟩
    refine q_asgL (el_lst ea_nil (by decide)) fun la H1 hla e1 h1 => ?_
    refine q_asgL (el_lst ea_nil (by decide)) fun na H2 hna e2 h2 => ?_
    have E2 := e1.trans e2
    have hP2 := hP.ex E2
    have nla : la ≠ p := hP.ne hla
    have hna0 := fresh_back e1 hna
    have nna : na ≠ p := hP.ne hna0
    have nln : na ≠ la := fun z => by rw [z, h1] at hna; exact nomatch hna
    refine q_forR1N (n := many) (ea_cons (ev_v rfl) ea_nil) (by omega) (fun i σ H' => G K p sc ns H H' ∧ ∃ (lns : List Ln) (ws : List V) (nms : List L) (y4 y5 : Option V), H' la = some (.lst ws) ∧ Reps H' ws (lns.map lnD) ∧ lns.length = i ∧ i ≤ many ∧ LnsOk 100 lns ∧ H' na = some (.lst (txs nms)) ∧ nms.length = i ∧ (∀ x ∈ nms, x.length ≤ 10) ∧ σ = [some (.ref p), some (.int (many : Int)), some (.ref la), some (.ref na), y4, y5])
      (fun H3 e3 => ⟨G.ex (E2.trans e3) hP, [], [], [], none, none, (e2.trans e3) _ _ h1, .nil, rfl, Nat.zero_le _, fun r h => absurd h (by simp), e3 _ _ h2, rfl, fun x h => absurd h (by simp), rfl⟩) ?_ ?_
    · rintro i σ H3 hi ⟨g3, lns, ws, nms, y4, y5, hl3, hr3, hll, _, hlo, hn3, hnl, hno, rfl⟩
      obtain ⟨ct, hct, hcl⟩ := num_tx i (by omega)
      refine q_asg (v := .str (tx ([115] ++ ct))) (ev_op (ev_cs [115] (by decide +kernel)) (fun H4 e4 Q' q' => r_cb (r_cons (r_var rfl (r_nil ⟨_, rfl, log_ok i (by omega), by rw [hct]; exact q' H4 (Ex.refl _)⟩)))) (rv_addS (by show 1 + _ ≤ _; omega))) fun H4 e4 => ?_
      have g4 := g3.exR e4
      have hnm : ([115] ++ ct).length ≤ 10 := by rw [List.length_append]; show 1 + _ ≤ _; omega
      have hwl := hr3.len
      rw [List.length_map] at hwl
      refine r_drop (r_bm (r_ev (ev_v (v := .ref la) rfl) (Ex.refl _) fun H5 e5 => ⟨.inl ⟨rfl, _, sq_of ((e4.trans e5) _ _ hl3)⟩, r_cons (r_tup (r_cons (eu_tup (ea_cons (ev_id (z := [100, 52]) (by decide +kernel) (by decide)) (ea_cons (ev_v rfl) ea_nil)) (by show 2 ≤ 100000; decide) H5 (Ex.refl _) _ fun o H6 ho e6 h6 => r_cons (r_call (r_cons (r_var rfl (r_cons (r_var rfl (r_cons (r_var rfl (r_nil ⟨p, sc, na, ns, [115] ++ ct, nms, rfl, ?_, ?_, nna, hnm, ?_, hno, fun l H7 hl g7 => r_nil ⟨sz_of (by show 2 ≤ 100000; decide), fun t ht => r_nil ⟨la, ws, _, rfl, rfl, ?_, sz_lt (by omega), ?_⟩⟩⟩)))))))))))⟩))
      · exact g4.2.ex (e5.trans e6)
      · exact ((e4.trans e5).trans e6) _ _ hn3
      · omega
      · have h7 := g7.1 _ _ nla (((e4.trans e5).trans e6) _ _ hl3)
        rw [upd_ne (fun z => by rw [← z, h7] at ht; exact nomatch ht)]
        exact h7
      · have hP6 : Pool K H6 p sc ns := g4.2.ex (e5.trans e6)
        have h7 := g7.1 _ _ nla (((e4.trans e5).trans e6) _ _ hl3)
        have n7 := g7.1 _ _ nna (((e4.trans e5).trans e6) _ _ hn3)
        have o7 := G.kt hP6 g7 _ _ h6
        have g37 : G K p sc ns H H7 := (g4.exR (e5.trans e6)).trans g7
        have tla : la ≠ t := fun z => by rw [← z, h7] at ht; exact nomatch ht
        have tna : na ≠ t := fun z => by rw [← z, n7] at ht; exact nomatch ht
        have g8 := G.new (o := .tup [.ref o, .str (tx l)]) hP g37 (G.back g37 ht)
        have r8 : Reps (upd H7 t (.tup [.ref o, .str (tx l)])) ws (lns.map lnD) := (Reps.keepT (G.kt hP6 g7) (nol_lns lns) (hr3.mono ((e4.trans e5).trans e6))).mono (Ex.new ht)
        have t8 : (upd H7 t (.tup [.ref o, .str (tx l)])) t = some (.tup [.ref o, .str (tx l)]) := upd_same
        have o8 := (Ex.new (o := .tup [.ref o, .str (tx l)]) ht) _ _ o7
        have h8 : (upd H7 t (.tup [.ref o, .str (tx l)])) la = some (.lst ws) := by rw [upd_ne tla]; exact h7
        have n8 : (upd H7 t (.tup [.ref o, .str (tx l)])) na = some (.lst (txs nms)) := by rw [upd_ne tna]; exact n7
        generalize upd H7 t (.tup [.ref o, .str (tx l)]) = H8 at g8 r8 t8 o8 h8 n8 ⊢
        have g9 := G.new (o := .lst (ws ++ [.ref t])) hP g8 hla
        have k9 : ∀ c us, H8 c = some (.tup us) → (upd H8 la (.lst (ws ++ [.ref t]))) c = some (.tup us) := fun c us h => by rw [upd_ne (ne_kind h h8 (fun z => nomatch z))]; exact h
        have n9 : (upd H8 la (.lst (ws ++ [.ref t]))) na = some (.lst (txs nms)) := by rw [upd_ne nln]; exact n8
        have r9 : Reps (upd H8 la (.lst (ws ++ [.ref t]))) (ws ++ [.ref t]) ((lns ++ [((([100, 52] ++ List.replicate 18 48), i), l)]).map lnD) := by
          rw [List.map_append]
          exact (Reps.keepT k9 (nol_lns lns) r8).append (.cons (.tup (k9 _ _ t8) (.cons (.tup (k9 _ _ o8) (.cons (.str _) (.cons (.int _) .nil))) (.cons (.str _) .nil))) .nil)
        have h9 : (upd H8 la (.lst (ws ++ [.ref t]))) la = some (.lst (ws ++ [.ref t])) := upd_same
        generalize upd H8 la (.lst (ws ++ [.ref t])) = H9 at g9 n9 r9 h9 ⊢
        refine r_drop (r_bm (r_ev (ev_v (v := .ref na) rfl) (Ex.refl _) fun H10 e10 => ⟨.inl ⟨rfl, _, sq_of (e10 _ _ n9)⟩, r_cons (r_var rfl (r_nil ⟨na, txs nms, _, rfl, rfl, e10 _ _ n9, sz_lt (by rw [txs_len]; omega), ?_⟩))⟩))
        have g11 := G.new (o := .lst (txs nms ++ [.str (tx ([115] ++ ct))])) hP (g9.exR e10) hna0
        have k11 : ∀ c us, H10 c = some (.tup us) → (upd H10 na (.lst (txs nms ++ [.str (tx ([115] ++ ct))]))) c = some (.tup us) := fun c us h => by rw [upd_ne (ne_kind h (e10 _ _ n9) (fun z => nomatch z))]; exact h
        have n11 : (upd H10 na (.lst (txs nms ++ [.str (tx ([115] ++ ct))]))) na = some (.lst (txs (nms ++ [[115] ++ ct]))) := by
          rw [upd_same]
          unfold txs
          rw [List.map_append]
          rfl
        have h11 : (upd H10 na (.lst (txs nms ++ [.str (tx ([115] ++ ct))]))) la = some (.lst (ws ++ [.ref t])) := by rw [upd_ne nln.symm]; exact e10 _ _ h9
        have r11 := Reps.keepT k11 (nol_lns _) (r9.mono e10)
        generalize upd H10 na (.lst (txs nms ++ [.str (tx ([115] ++ ct))])) = H11 at g11 n11 h11 r11 ⊢
        refine r_dropE (r_call (r_cons (r_var rfl (r_nil ⟨p, sc, ns, rfl, g11.2, fun H12 g12 => ⟨g11.trans g12, lns ++ [((([100, 52] ++ List.replicate 18 48), i), l)], ws ++ [.ref t], nms ++ [[115] ++ ct], _, _, g12.1 _ _ nla h11, Reps.keepT (G.kt g11.2 g12) (nol_lns _) r11, ?_, hi, fun r hr => ?_, g12.1 _ _ nna n11, ?_, fun x hx => ?_, rfl⟩⟩))))
        · rw [List.length_append, hll]
          rfl
        · rcases List.mem_append.mp hr with hr | hr
          · exact hlo r hr
          · rw [List.mem_singleton.mp hr]
            exact hl
        · rw [List.length_append, hnl]
          rfl
        · rcases List.mem_append.mp hx with hx | hx
          · exact hno x hx
          · rw [List.mem_singleton.mp hx]
            exact hnm
    · rintro σ H3 ⟨g3, lns, ws, nms, y4, y5, hl3, hr3, hll, _, hlo, hn3, hnl, hno, rfl⟩
      refine r_ret (eu_tupV (ev_v rfl) (sq_of hl3) H3 (Ex.refl _) _ fun t H4 _ e4 h4 => q t ws lns H4 (g3.exR e4) h4 (hr3.mono e4) (by omega) hlo)
end
end K50

set_option Elab.async false
set_option linter.all false
set_option maxRecDepth 100000
set_option maxHeartbeats 4000000
namespace K50
open PySem PySem.Spec PyProof.Rows L2 Evl My
/-! how wide, how high -/
theorem wid_s (l : L) : Wid (.str l) = True := by simp [Wid]
theorem wid_i (i : Int) : Wid (.int i) = True := by simp [Wid]
theorem hgt_s (l : L) : height (.str l) = 0 := by simp [height]
theorem hgt_i (i : Int) : height (.int i) = 0 := by simp [height]
theorem wid_all {α : Type} {f : α → D} : ∀ {l : List α}, (∀ x ∈ l, Wid (f x)) → WidL (l.map f)
  | [], _ => by rw [List.map_nil, WidL]; trivial
  | x :: l, h => by
    rw [List.map_cons, WidL]
    exact ⟨h x (by simp), wid_all fun y hy => h y (by simp [hy])⟩
theorem hgt_all {α : Type} {f : α → D} {m : Nat} : ∀ {l : List α}, (∀ x ∈ l, height (f x) ≤ m) → heightL (l.map f) ≤ m
  | [], _ => by rw [List.map_nil, heightL]; exact Nat.zero_le _
  | x :: l, h => by
    rw [List.map_cons, heightL]
    exact Nat.max_le.mpr ⟨h x (by simp), hgt_all fun y hy => h y (by simp [hy])⟩
theorem arg_wid (p : Ar) : Wid (argD p) ∧ height (argD p) ≤ 0 := by
  unfold argD
  split
  · rw [wid_i, hgt_i]
    exact ⟨trivial, Nat.le_refl 0⟩
  · rw [wid_s, hgt_s]
    exact ⟨trivial, Nat.le_refl 0⟩
theorem one_wid (o : On) : Wid (oneD o) ∧ height (oneD o) ≤ 1 := by
  unfold oneD
  rw [Wid, WidL, WidL, WidL, wid_s, wid_i, height, heightL, heightL, heightL, hgt_s, hgt_i]
  exact ⟨⟨by show 2 ≤ 10000; decide, trivial, trivial, trivial⟩, by decide⟩
theorem st_wid {r : Row} (hw : Wf r.1) : Wid (stD r) ∧ height (stD r) ≤ 2 := by
  have h1 := one_wid r.2
  have hf := hw.few
  have h2 : heightL (r.1.args.map argD) ≤ 0 := hgt_all fun p _ => (arg_wid p).2
  unfold stD
  rw [Wid, WidL, WidL, WidL, WidL, WidL, wid_s, wid_s, Wid, height, heightL, heightL, heightL, heightL, heightL, hgt_s, hgt_s, height]
  refine ⟨⟨by show 4 ≤ 10000; decide, trivial, trivial, ⟨by rw [List.length_map]; omega, wid_all fun p _ => (arg_wid p).1⟩, h1.1, trivial⟩, ?_⟩
  have := h1.2
  omega
theorem rows_wid {f : List Row} (hp : POk f) : Wid (.tup (f.map stD)) ∧ height (.tup (f.map stD)) ≤ 3 := by
  have hf := hp.few
  have h2 : heightL (f.map stD) ≤ 2 := hgt_all fun r hr => (st_wid (hp.wf r hr)).2
  rw [Wid, height]
  exact ⟨⟨by rw [List.length_map]; omega, wid_all fun r hr => (st_wid (hp.wf r hr)).1⟩, by omega⟩
theorem plan_wid {lns : List Ln} (hl : Lns lns) : Wid (planD (planF lns)) ∧ height (planD (planF lns)) < 6 := by
  cases h : planF lns with
  | inl z =>
    unfold planD
    rw [Wid, WidL, WidL, WidL, WidL, wid_s, wid_i, wid_s, height, heightL, heightL, heightL, heightL, hgt_s, hgt_i, hgt_s]
    exact ⟨⟨by show 3 ≤ 10000; decide, trivial, trivial, trivial, trivial⟩, by decide⟩
  | inr f =>
    have hr := rows_wid (plan_pok hl h)
    unfold planD
    rw [Wid, WidL, WidL, WidL, wid_s, height, heightL, heightL, heightL, hgt_s]
    refine ⟨⟨by show 2 ≤ 10000; decide, trivial, hr.1, trivial⟩, ?_⟩
    have := hr.2
    omega
theorem key_wid {k : List It1} (h : k.length ≤ 2) : Wid (keyD k) ∧ height (keyD k) ≤ 1 := by
  have hi : ∀ x : It1, Wid (itD x) ∧ height (itD x) ≤ 0 := fun x => by
    cases x
    · unfold itD
      rw [wid_i, hgt_i]
      exact ⟨trivial, Nat.le_refl 0⟩
    · unfold itD
      rw [wid_s, hgt_s]
      exact ⟨trivial, Nat.le_refl 0⟩
  have h2 : heightL (k.map itD) ≤ 0 := hgt_all fun x _ => (hi x).2
  unfold keyD
  rw [Wid, height]
  exact ⟨⟨by rw [List.length_map]; omega, wid_all fun x _ => (hi x).1⟩, by omega⟩
theorem sort_wid {ks : List (List It1)} (hn : ks.length ≤ 10000) (hk : ∀ k ∈ ks, k.length ≤ 2) : Wid (.tup ((sortK ks).map keyD)) ∧ height (.tup ((sortK ks).map keyD)) < 6 := by
  have hp : (sortK ks).Perm ks := List.mergeSort_perm ks _
  have h2 : heightL ((sortK ks).map keyD) ≤ 1 := hgt_all fun k hkm => (key_wid (hk k (hp.mem_iff.mp hkm))).2
  rw [Wid, height]
  exact ⟨⟨by rw [List.length_map, hp.length_eq]; exact hn, wid_all fun k hkm => (key_wid (hk k (hp.mem_iff.mp hkm))).1⟩, by omega⟩
theorem tby_wid {rows : List Row} (hp : POk rows) (x : L) : Wid (tbyD rows x) ∧ height (tbyD rows x) < 6 :=
  sort_wid (by rw [List.length_map]; have := down_len rows x; have := hp.few; omega) fun k hk => by
    obtain ⟨r, _, rfl⟩ := List.mem_map.mp hk
    exact Nat.le_refl 2
theorem src_wid {rows : List Row} (hp : POk rows) (x : L) : Wid (srcD rows x) ∧ height (srcD rows x) < 6 :=
  sort_wid (by
    rw [List.length_map]
    have h1 := dedP_len (((downF rows x).filter isSrc).map srcF) []
    have h2 := List.length_filter_le isSrc (downF rows x)
    have := down_len rows x
    have := hp.few
    rw [List.length_map, List.length_nil] at h1
    unfold dedP
    omega) fun k hk => by
    obtain ⟨r, _, rfl⟩ := List.mem_map.mp hk
    exact Nat.le_refl 2
theorem reps_take {H : Hp} (n : Nat) : ∀ {vs : List V} {ds : List D}, Reps H vs ds → Reps H (vs.take n) (ds.take n) := by
  induction n with
  | zero => intro vs ds _; rw [List.take_zero, List.take_zero]; exact .nil
  | succ n ih =>
    intro vs ds h
    cases h with
    | nil => exact .nil
    | cons h r => exact .cons h (ih r)
theorem reps_drop {H : Hp} (n : Nat) : ∀ {vs : List V} {ds : List D}, Reps H vs ds → Reps H (vs.drop n) (ds.drop n) := by
  induction n with
  | zero => intro vs ds h; exact h
  | succ n ih =>
    intro vs ds h
    cases h with
    | nil => exact .nil
    | cons h r => exact ih r
theorem merge2 {k1 k2 : Key} {v1 v2 : V} (h : k1 ≠ k2) : mergeK [] [(k1, v1), (k2, v2)] = [(k1, v1), (k2, v2)] := by
  show putK (putK [] k1 v1) k2 v2 = _
  have e1 : putK ([] : List (Key × V)) k1 v1 = [(k1, v1)] := rfl
  rw [e1]
  unfold putK
  rw [List.any_cons, decide_eq_false h]
  rfl
section
variable {K : PySem.W.Frag} {σ : L2.St} {H : Hp} {Q : VK} {p sc : Addr} {ns : List Int} {te ta tb : TE} {d : D}
theorem ev_same (h1 : EvD ta σ H d) (h2 : EvD tb σ H d) (hw : Wid d) (hh : height d < 6) : Ev (tCall (spV (ok_same 6)) [] E0 (tCons ta (tCons tb tNil))) σ H (.bl true) := fun H1 e Q q =>
  h1 H1 e _ fun v1 H2 e2 r1 => h2 H2 (e.trans e2) _ fun v2 H3 e3 r2 => ⟨_, ⟨v1, v2, d, rfl, r1.mono e3, r2, hw, hh, rfl⟩, fun H4 e4 => q H4 ((e2.trans e3).trans e4)⟩
theorem r_one {E : XK} {ip n : Nat} (hP : Pool K H p sc ns) (hv : σ[ip]? = some (some (.ref p))) (h0 : 0 < n) (hn : n < 1000) (c : Nat) (R : List V → Hp → Prop) (h : ∀ (m : Nat) H1, c ≤ m → m < c + n → G K p sc ns H H1 → R [.int (m : Int)] H1) :
    tCons (tOp (rI0 fun i j => .int (i + j)) (tC (.int (c : Int))) (tCall (sp_draw K) [] E (tCons (tVar ip) (tCons (tC (.int (n : Int))) tNil)))) tNil σ H R :=
  r_cons (r_op (r_c (r_draw hP (ea_cons (ev_v hv) (ea_cons (ev_cn n) ea_nil)) h0 (by omega) fun v H1 hv g => rv_I0 H1 (Ex.refl H1) _ fun H2 e2 => r_nil (by
    have := h (c + v) H2 (by omega) (by omega) (g.exR e2)
    rw [show ((c : Int) + (v : Int)) = ((c + v : Nat) : Int) by omega]
    exact this))))
/-- a comprehension over a drawn range -/
theorem r_lcK {ta : TA} {j : Nat} {vs : List Nat} (A : Nat → D) (M : Nat) (hM : M ≤ 1000) (hP : Pool K H p sc ns) (hA : ∀ i, NoL (A i))
    (ht : ∀ R : List V → Hp → Prop, (∀ (m : Nat) H1, m ≤ M → G K p sc ns H H1 → R [.int (m : Int)] H1) → ta σ H R)
    (hw : ∀ x, wipe ((wipe σ vs).set j (some x)) vs = wipe σ vs)
    (he : ∀ (i : Nat) H1, i < M → EvD te ((wipe σ vs).set j (some (.int (i : Int)))) H1 (A i))
    (q : ∀ Dl xs m H', m ≤ M → H Dl = none → H' Dl = some (.lst xs) → Reps H' xs ((List.range m).map A) → G K p sc ns H H' → Q (.ref Dl) H') : tLc (iRng1 ta) (gName j) tYes te vs σ H Q := by
  refine r_lcR1 (ht _ fun m H1 hhi g1 => ⟨m, rfl, by omega, by omega, fun Dl hD => ?_⟩)
  have hD0 := G.back g1 hD
  rw [Int.toNat_natCast]
  refine ⟨fun i k H' => k = m - i ∧ i ≤ m ∧ Ex H1 H' ∧ ∃ xs, H' Dl = some (.lst xs) ∧ xs.length = i ∧ Reps H' xs ((List.range i).map A), ⟨m, rfl, Nat.zero_le _, Ex.new hD, [], upd_same, rfl, .nil⟩, ?_⟩
  rintro i k H' ⟨rfl, hi, ex, xs, hl, hlen, hr⟩
  by_cases hlt : i < m
  · refine .inr ⟨hlt, fun H' => Ex H1 H' ∧ ∃ xs, H' Dl = some (.lst xs) ∧ xs.length = i + 1 ∧ Reps H' xs ((List.range (i + 1)).map A), fun H2 pp => ⟨m - (i + 1), by omega, rfl, hlt, pp⟩, fun x H2 y => ?_⟩
    obtain ⟨rfl, rfl⟩ := y
    refine ⟨hw _, ?_⟩
    refine tyes_ ?_
    have e0 : (0 : Int) + (i : Int) = (i : Int) := Int.zero_add _
    refine iteT ?_
    show te ((wipe σ vs).set j (some (.int ((0 : Int) + (i : Int))))) _ _
    rw [e0]
    refine he i H2 (by omega) H2 (Ex.refl _) _ fun v H4 e4 r4 => ⟨xs, e4 _ _ hl, sz_lt (by omega), (ex.trans e4).mut hD, xs ++ [v], upd_same, by rw [List.length_append, hlen]; rfl, ?_⟩
    have kt : ∀ b ws, H4 b = some (.tup ws) → upd H4 Dl (.lst (xs ++ [v])) b = some (.tup ws) := fun b ws hb => by
      rw [upd_ne (ne_kind hb (e4 Dl _ hl) (fun z => nomatch z))]
      exact hb
    rw [List.range_succ, List.map_append]
    exact (Reps.keepT kt (nol_all fun x _ => hA x) (hr.mono e4)).append (.cons (Rep.keepT kt (hA i) r4) .nil)
  · have e0 : i = m := by omega
    subst e0
    exact .inl ⟨Nat.le_refl _, q Dl xs _ _ hhi hD0 hl hr (g1.exR ex)⟩
end
section
variable {P : Program} {w : World} {K : PySem.W.Frag} {mg : Str → Option Value} {base : Heap}
def sp_law (K : PySem.W.Frag) : Sp := fun vs H Q _ => ∃ (a : Addr) (ns : List Int), vs = [.ref a] ∧ SqL K H a (ns.map V.int) ∧ ∀ H', Q (.bl true) H'
def tkF (k : Nat) : L := [116] ++ (Str.ofString (toString ((k : Nat) : Int))).cps.toList ++ [32, 61, 32, 102, 105, 108, 101, 32, 120]
def lnK (k : Nat) : Ln := ((([102, 54] ++ List.replicate 18 48), k), tkF k)
theorem val1 {k : Key} {v : V} {r : List (Key × V)} : valV ((k, v) :: r) k = some v := by
  unfold valV
  rw [List.find?_cons, decide_eq_true rfl]
  rfl
theorem val0 {k j : Key} {v : V} (h : j ≠ k) : valV [(j, v)] k = none := by
  unfold valV
  rw [List.find?_cons, decide_eq_false h]
  rfl
theorem bx_ne : (Sum.inr (tx kBuild) : Key) ≠ Sum.inr (tx [120]) := fun h => absurd (inr_tx.mp h) (by decide)
theorem ed_on {σ : L2.St} {H : Hp} {te1 te2 : TE} {g : List Row → L → D} {a : Addr} {us : List V} {rows : List Row} {x : L} (h1 : Ev te1 σ H (.ref a)) (h2 : Ev te2 σ H (.str (tx x))) (hS : SqT K H a us) (hR : Reps H us (rows.map stD)) (hp : POk rows) (hx : x ∈ nmsF rows) : EvD (tCall (sp_on K g) [] E0 (tCons te1 (tCons te2 tNil))) σ H (g rows x) := fun H1 e Q q =>
  r_call (r_cons (r_ev h1 e fun H2 e2 => r_cons (r_ev h2 (e.trans e2) fun H3 e3 => r_nil ⟨a, us, rows, x, rfl, ex_t ((e.trans e2).trans e3) hS, hR.mono ((e.trans e2).trans e3), hp, hx, fun v H4 e4 r4 => q v H4 ((e2.trans e3).trans e4) r4⟩)))
theorem tkF_len {k : Nat} (h : k ≤ 60) : (tkF k).length ≤ 12 := by
  obtain ⟨l, hl, h2⟩ := num_tx k h
  unfold tkF
  rw [hl, List.length_append, List.length_append]
  show 1 + l.length + 9 ≤ 12
  omega
theorem lnK_ok {m : Nat} (h : m ≤ 42) : Lns ((List.range m).map lnK) := by
  refine ⟨by rw [List.length_map, List.length_range]; omega, fun r hr => ?_⟩
  obtain ⟨k, hk, rfl⟩ := List.mem_map.mp hr
  have := List.mem_range.mp hk
  have := tkF_len (k := k) (by omega)
  show (tkF k).length ≤ 900
  omega
/-- a plan's rows in the heap -/
theorem rows_at {H : Hp} {v : V} {f : List Row} (h : Rep H v (planD (.inr f))) : ∃ (a b : Addr) (us : List V), v = .ref a ∧ H a = some (.tup [.str (tx [112, 108, 97, 110]), .ref b]) ∧ H b = some (.tup us) ∧ Reps H us (f.map stD) := by
  unfold planD at h
  cases h with
  | @tup a vs _ e r =>
    cases r with
    | @cons v1 _ vs1 _ h1 r1 =>
      cases r1 with
      | @cons v2 _ vs2 _ h2 r2 =>
        cases r2
        cases h1
        cases h2 with
        | @tup b us _ e1 r3 => exact ⟨a, b, us, rfl, e, e1, r3⟩
theorem wrong_at {H : Hp} {v : V} {z : Nat × L} (h : Rep H v (planD (.inl z))) : ∃ (a : Addr) (us : List V), v = .ref a ∧ H a = some (.tup (.str (tx [119, 114, 111, 110, 103]) :: us)) := by
  unfold planD at h
  cases h with
  | @tup a vs _ e r =>
    cases r with
    | @cons v1 _ vs1 _ h1 r1 =>
      cases h1
      exact ⟨a, vs1, rfl, e⟩
abbrev s_law : Stmt := topS 47
theorem sc_law : FnScope ["script", "pool", "trial", "lines", "turn", "at", "bad", "due", "told", "texts", "step", "many", "k"] ["script"] (defScope s_law) := ⟨rfl, rfl, rfl, by decide +kernel, rfl, by decide +kernel, by decide +kernel⟩
/- 0 script, 1 pool, 2 trial, 3 lines, 4 turn, 5 at, 6 bad, 7 due, 8 told, 9 texts, 10 step, 11 many, 12 k -/
theorem fn_law {f : Addr} {fd : FuncData} {k : Nat} (F : Fun K "law" "law" s_law f fd) (N : Nb mg) (C_law_pool : Cal P w K mg base k "_law_pool" ["script"] (spL (ok_pool_ K))) (C_law_draw : Cal P w K mg base k "_law_draw" ["pool", "limit"] (sp_draw K)) (C_law_pick : Cal P w K mg base k "_law_pick" ["pool", "options"] (sp_pick K)) (C_law_drawn_plan : Cal P w K mg base k "_law_drawn_plan" ["pool", "many"] (sp_dplan K)) (C_law_plan : Cal P w K mg base k "_law_plan" ["lines"] (sp_lplan K)) (C_plan : Cal P w K mg base k "plan" ["lines"] (sp_plan K)) (C_law_same : Cal P w K mg base k "_law_same" ["due", "answer"] (spV (ok_same 6))) (C_plan_of : Cal P w K mg base k "plan_of" ["texts", "clashed"] (sp_plof K))
    (C_law_told_by : Cal P w K mg base k "_law_told_by" ["told_plan", "name"] (sp_on K tbyD)) (C_told_by : Cal P w K mg base k "told_by" ["told", "name"] (sp_on K tbyD)) (C_law_sources : Cal P w K mg base k "_law_sources" ["told_plan", "name"] (sp_on K srcD)) (C_sources : Cal P w K mg base k "sources" ["told", "name"] (sp_on K srcD)) : FnOk P w K mg base CX0 (k + 1) f fd ["script"] (sp_law K) := by
  refine F.ok sc_law (fun vs H Q E h => ?_) (fun cdv A outer s H vs Q E hr h => ?_)
  · obtain ⟨_, _, rfl, _⟩ := h
    rfl
  · obtain ⟨a, ns, rfl, hS, q⟩ := h
    refine ⟨_, (pss_cons (ps_set (i := 1) sc_law.nd rfl (Or.inl rfl) (pe_cal C_law_pool hr (pa_cons (pv 0) pa_nil)))
      (pss_cons (ps_for PassesOwn.never rfl (pi_range1 rfl N.range (pa_cons pe_int pa_nil)) (pg_name (i := 2) sc_law.nd rfl (Or.inl rfl)) (pss_cons (ps_set (i := 3) sc_law.nd rfl (Or.inl rfl) (pe_callTy call_list_of (by rfl) N.list PyProof.Rows.boot_list (pa_cons (pe_cal C_law_drawn_plan hr (pa_cons (pv 1) (pa_cons (pe_op op_add pe_int (pe_cal C_law_draw hr (pa_cons (pv 1) (pa_cons pe_int pa_nil)))) pa_nil))) pa_nil)))
      (pss_cons (ps_for PassesOwn.never rfl (pi_range1 rfl N.range (pa_cons (pe_cal C_law_draw hr (pa_cons (pv 1) (pa_cons pe_int pa_nil))) pa_nil)) (pg_name (i := 4) sc_law.nd rfl (Or.inl rfl)) (pss_cons (ps_set (i := 5) sc_law.nd rfl (Or.inl rfl) (pe_cal C_law_draw hr (pa_cons (pv 1) (pa_cons (pe_op op_add (pe_callB call_len_seq (by rfl) N.len PySem.boot_len (pa_cons (pv 3) pa_nil)) pe_int) pa_nil))))
      (pss_cons (ps_set (i := 6) sc_law.nd rfl (Or.inl rfl) (pe_lst (pa_cons pe_str (pa_cons pe_str (pa_cons pe_str (pa_cons pe_str (pa_cons pe_str (pa_cons pe_str (pa_cons pe_str (pa_cons pe_str (pa_cons pe_str pa_nil)))))))))))
      (pss_cons (ps_set (i := 6) sc_law.nd rfl (Or.inl rfl) (pe_op op_cat (pv 6) (pe_lst (pa_cons pe_str (pa_cons pe_str (pa_cons pe_str (pa_cons pe_str (pa_cons pe_str (pa_cons pe_str (pa_cons pe_str pa_nil))))))))))
      (pss_cons (ps_set (i := 6) sc_law.nd rfl (Or.inl rfl) (pe_op op_cat (pv 6) (pe_lst (pa_cons pe_str (pa_cons pe_str (pa_cons pe_str (pa_cons pe_str (pa_cons pe_str (pa_cons pe_str (pa_cons pe_str (pa_cons pe_str pa_nil)))))))))))
      (pss_one (ps_expr (pe_bm PySem.F.plainAttrs_list PySem.F.slot_list_insert PySem.F.type_list_insert mt_insert (pv 3) (pa_cons (pv 5) (pa_cons (pe_tup (pa_cons (pe_tup (pa_cons (pe_op op_add_str pe_str (pe_op op_mulS pe_str pe_int)) (pa_cons (pv 4) pa_nil))) (pa_cons (pe_cal C_law_pick hr (pa_cons (pv 1) (pa_cons (pv 6) pa_nil))) pa_nil))) pa_nil))))))))))
      (pss_cons (ps_set (i := 7) sc_law.nd rfl (Or.inl rfl) (pe_cal C_law_plan hr (pa_cons (pv 3) pa_nil)))
      (pss_cons (ps_set (i := 8) sc_law.nd rfl (Or.inl rfl) (pe_cal C_plan hr (pa_cons (pe_callTy call_tuple_of (by rfl) N.tuple PyProof.Rows.boot_tuple (pa_cons (pv 3) pa_nil)) pa_nil)))
      (pss_cons (ps_if (pt_not (pt_val (pe_cal C_law_same hr (pa_cons (pv 7) (pa_cons (pv 8) pa_nil))))) (pss_one (ps_ret pe_bl)) pss_nil)
      (pss_cons (ps_set (i := 9) sc_law.nd rfl (Or.inl rfl) (pe_disp (pps_cons pe_str (pe_callTy call_tuple_of (by rfl) N.tuple PyProof.Rows.boot_tuple (pa_cons (pv 3) pa_nil)) (pps_cons pe_str (pe_tup pa_nil) pps_nil)) rfl rfl (fun z => nomatch z) (by decide)))
      (pss_cons (ps_if (PW.pt (pw_or (pt_not (pt_val (pe_cal C_law_same hr (pa_cons (pv 7) (pa_cons (pe_cal C_plan_of hr (pa_cons (pv 9) (pa_cons (pe_tup pa_nil) pa_nil))) pa_nil))))) (pw_or (pt_cmpR (op_neD hr.units) (pe_cal C_plan_of hr (pa_cons (pv 9) (pa_cons (pe_tup (pa_cons pe_str pa_nil)) pa_nil))) (pe_tup (pa_cons pe_str (pa_cons pe_str pa_nil))) (nomark _)) (pw_or1 (pt_cmpR (op_neD hr.units) (pe_cal C_plan_of hr (pa_cons (pe_disp (pps_cons pe_str (pe_tup pa_nil) pps_nil) rfl rfl (fun z => nomatch z) (by decide)) (pa_cons (pe_tup (pa_cons pe_str pa_nil)) pa_nil))) (pe_tup (pa_cons pe_str (pa_cons pe_str pa_nil))) (nomark _)))))) (pss_one (ps_ret pe_bl)) pss_nil)
      (pss_one (ps_if (pt_cmpR op_eq (pe_ix ix_tup (pv 7) pe_int (fun _ _ => rfl)) pe_str (nomark _)) (pss_one (ps_for PassesOwn.never rfl (pi_tup (pe_ix ix_tup (pv 7) pe_int (fun _ _ => rfl))) (pg_name (i := 10) sc_law.nd rfl (Or.inl rfl)) (pss_one (ps_if (PW.pt (pw_or (pt_not (pt_val (pe_cal C_law_same hr (pa_cons (pe_cal C_law_told_by hr (pa_cons (pe_ix ix_tup (pv 7) pe_int (fun _ _ => rfl)) (pa_cons (pe_ix ix_tup (pv 10) pe_int (fun _ _ => rfl)) pa_nil))) (pa_cons (pe_cal C_told_by hr (pa_cons (pe_ix ix_tup (pv 7) pe_int (fun _ _ => rfl)) (pa_cons (pe_ix ix_tup (pv 10) pe_int (fun _ _ => rfl)) pa_nil))) pa_nil))))) (pw_or1 (pt_not (pt_val (pe_cal C_law_same hr (pa_cons (pe_cal C_law_sources hr (pa_cons (pe_ix ix_tup (pv 7) pe_int (fun _ _ => rfl)) (pa_cons (pe_ix ix_tup (pv 10) pe_int (fun _ _ => rfl)) pa_nil))) (pa_cons (pe_cal C_sources hr (pa_cons (pe_ix ix_tup (pv 7) pe_int (fun _ _ => rfl)) (pa_cons (pe_ix ix_tup (pv 10) pe_int (fun _ _ => rfl)) pa_nil))) pa_nil)))))))) (pss_one (ps_ret pe_bl)) pss_nil)))) pss_nil))))))))))
      (pss_cons (ps_setLc (i := 11) (own := [("k", 12)]) (by rfl) sc_law.nd rfl rfl (sw_true rfl rfl rfl (by decide +kernel)) (pi_range1 rfl N.range (pa_cons (pe_op op_add pe_int (pe_cal C_law_draw hr (pa_cons (pv 1) (pa_cons pe_int pa_nil)))) pa_nil)) (blkOk_by (own := [("k", 12)]) (N := ["script", "pool", "trial", "lines", "turn", "at", "bad", "due", "told", "texts", "step", "many", "k"]) (sc := defScope s_law) (by decide +kernel)) (fun _ _ _ _ _ => (pg_name (i := 12) sc_law.nd rfl (Or.inl rfl))) (fun _ _ _ _ _ => pts_nil) (fun _ _ _ _ _ => (pe_tup (pa_cons (pe_tup (pa_cons (pe_op op_add_str pe_str (pe_op op_mulS pe_str pe_int)) (pa_cons (pv 12) pa_nil))) (pa_cons (pe_op op_add_str (pe_op op_add_str pe_str (pe_callTy call_str_int (by rfl) N.str PyProof.Rows.boot_str (pa_cons (pv 12) pa_nil))) pe_str) pa_nil)))))
      (pss_one (ps_ret (pe_cal C_law_same hr (pa_cons (pe_cal C_law_plan hr (pa_cons (pv 11) pa_nil)) (pa_cons (pe_cal C_plan hr (pa_cons (pe_callTy call_tuple_of (by rfl) N.tuple PyProof.Rows.boot_tuple (pa_cons (pv 11) pa_nil)) pa_nil)) pa_nil)))))))), ?_⟩
    refine q_asgL (el_cal (ea_cons (ev_v rfl) ea_nil) fun H1 e1 => ⟨a, ns, rfl, ex_l e1 hS, rfl⟩) fun p H1 hp e1 h1 => ?_
    have hP1 : Pool K H1 p a ns := ⟨0, _, 0, h1, ex_l e1 hS⟩
    refine q_forR1N (n := 4) (ea_cons (ev_cn 4) ea_nil) (by decide) (fun i σ H' => Pool K H' p a ns ∧ ∃ y2 y3 y4 y5 y6 y7 y8 y9 y10 y11 y12, σ = [some (.ref a), some (.ref p), y2, y3, y4, y5, y6, y7, y8, y9, y10, y11, y12]) (fun H3 e3 => ⟨hP1.ex e3, none, none, none, none, none, none, none, none, none, none, none, rfl⟩) ?_ ?_
    · rintro i σ H3 hi ⟨hP3, y2, y3, y4, y5, y6, y7, y8, y9, y10, y11, y12, rfl⟩
      refine r_asg (r_cb (r_cons (r_call (r_cons (r_var rfl (r_one (n := 8) hP3 rfl (by decide) (by decide) 1 _ fun m H4 hm1 hm2 g4 => ⟨p, a, ns, m, rfl, g4.2, by omega, fun t us lns H5 g5 ht hr5 hll hlo => r_nil ⟨t, us, rfl, .inr (st_of ht), fun lp hlp => ?_⟩⟩))))))
      have g35 := g4.trans g5
      have G36 : G K p a ns H3 (upd H5 lp (.lst us)) := G.new hP3 g35 (G.back g35 hlp)
      have nlp : lp ≠ p := g5.2.ne hlp
      have hr6 : Reps (upd H5 lp (.lst us)) us (lns.map lnD) := hr5.mono (Ex.new hlp)
      have h6 : (upd H5 lp (.lst us)) lp = some (.lst us) := upd_same
      have hlp3 := G.back g35 hlp
      generalize upd H5 lp (.lst us) = H6 at G36 hr6 h6 ⊢
      refine q_forG 2 (by decide) (fun R h => r_zero (n := 3) G36.2 rfl (by decide) (by decide) R h) (fun ii σ H' => G K p a ns H3 H' ∧ ∃ (lns : List Ln) (us : List V) (y4 y5 y6 : Option V), H' lp = some (.lst us) ∧ Reps H' us (lns.map lnD) ∧ lns.length ≤ 8 + ii ∧ LnsOk 100 lns ∧ σ = [some (.ref a), some (.ref p), some (.int (i : Nat)), some (.ref lp), y4, y5, y6, y7, y8, y9, y10, y11, y12]) (fun H7 g7 => ⟨G36.trans g7, lns, us, y4, y5, y6, g7.1 _ _ nlp h6, Reps.keepT (G.kt G36.2 g7) (nol_lns lns) hr6, by omega, hlo, rfl⟩) ?_ ?_
      · clear hll hlo hr6 h6 hr5 ht
        rintro i2 σ H7 hi2 ⟨g37, lns, us, z4, z5, z6, h7, hr7, hll, hlo, rfl⟩
        have hul := hr7.len
        rw [List.length_map] at hul
        refine r_asg (r_draw (n := us.length + 1) g37.2 (ea_cons (ev_v rfl) (ea_cons (ev_op (ev_len (ev_v rfl) (sq_of h7)) (ev_cn 1) rv_addN) ea_nil)) (by omega) (by omega) fun at_ H8 hat g8 => ?_)
        have h8 := g8.1 _ _ nlp h7
        have r8 := Reps.keepT (G.kt g37.2 g8) (nol_lns lns) hr7
        have g38 := g37.trans g8
        refine q_asgL (el_lst (ea_cons ev_c (ea_cons ev_c (ea_cons ev_c (ea_cons ev_c (ea_cons ev_c (ea_cons ev_c (ea_cons ev_c (ea_cons ev_c (ea_cons ev_c ea_nil))))))))) (by show 9 ≤ 100000; decide)) fun b1 H9 _ e9 h9 => ?_
        refine q_asgL (el_cat (evl_k (ev_v rfl) h9) (evl_n (el_lst (ea_cons ev_c (ea_cons ev_c (ea_cons ev_c (ea_cons ev_c (ea_cons ev_c (ea_cons ev_c (ea_cons ev_c ea_nil))))))) (by show 7 ≤ 100000; decide))) (by show 9 + 7 ≤ 100000; decide)) fun b2 H10 _ e10 h10 => ?_
        refine q_asgL (el_cat (evl_k (ev_v rfl) h10) (evl_n (el_lst (ea_cons ev_c (ea_cons ev_c (ea_cons ev_c (ea_cons ev_c (ea_cons ev_c (ea_cons ev_c (ea_cons ev_c (ea_cons ev_c ea_nil)))))))) (by show 8 ≤ 100000; decide))) (by show 16 + 8 ≤ 100000; decide)) fun b3 H11 hb3 e11 h11 => ?_
        have e811 := (e9.trans e10).trans e11
        have g310 := g38.exR (e9.trans e10)
        have nb3 : b3 ≠ p := g310.2.ne hb3
        have g311 := g38.exR e811
        refine r_dropE (r_bm (r_ev (ev_v (v := .ref lp) rfl) (Ex.refl _) fun H12 e12 => ⟨.inl ⟨rfl, _, sq_of ((e811.trans e12) _ _ h8)⟩, r_cons (r_var rfl (r_cons (r_tup (r_cons (eu_tup (ea_cons (ev_id (z := [101, 53]) (by decide +kernel) (by decide)) (ea_cons (ev_v rfl) ea_nil)) (by show 2 ≤ 100000; decide) H12 (Ex.refl _) _ fun o H13 ho e13 h13 => r_cons (r_pickA 100 (g311.2.ex (e12.trans e13)) (ev_v rfl) (ev_v rfl) (sq_of ((e12.trans e13) _ _ h11)) nb3 (fun z => nomatch z) (by show 24 ≤ 1000; decide) (fun v hv => okTB_ok (List.all_eq_true.mp (by decide +kernel) v hv)) fun l H14 hl g14 => r_nil ⟨sz_of (by show 2 ≤ 100000; decide), fun t ht => r_nil ⟨lp, us, (at_ : Int), .ref t, rfl, rfl, ?_, sz_lt (by omega), by omega, by omega, ?_⟩⟩))))))⟩))
        · have h14 := g14.1 _ _ nlp ((e811.trans (e12.trans e13)) _ _ h8)
          rw [upd_ne (fun z => by rw [← z, h14] at ht; exact nomatch ht)]
          exact h14
        · have hP13 : Pool K H13 p a ns := g311.2.ex (e12.trans e13)
          have h14 := g14.1 _ _ nlp ((e811.trans (e12.trans e13)) _ _ h8)
          have o14 := G.kt hP13 g14 _ _ h13
          have g314 : G K p a ns H3 H14 := (g311.exR (e12.trans e13)).trans g14
          have g15 := G.new (o := .tup [.ref o, .str (tx l)]) hP3 g314 (G.back g314 ht)
          have r14 : Reps H14 us (lns.map lnD) := Reps.keepT (G.kt hP13 g14) (nol_lns lns) (r8.mono (e811.trans (e12.trans e13)))
          have r15 : Reps (upd H14 t (.tup [.ref o, .str (tx l)])) us (lns.map lnD) := r14.mono (Ex.new ht)
          have t15 : (upd H14 t (.tup [.ref o, .str (tx l)])) t = some (.tup [.ref o, .str (tx l)]) := upd_same
          have o15 := (Ex.new (o := .tup [.ref o, .str (tx l)]) ht) _ _ o14
          have h15 := (Ex.new (o := .tup [.ref o, .str (tx l)]) ht) _ _ h14
          generalize upd H14 t (.tup [.ref o, .str (tx l)]) = H15 at g15 r15 t15 o15 h15 ⊢
          rw [Int.toNat_natCast]
          have k16 : ∀ c ws, H15 c = some (.tup ws) → (upd H15 lp (.lst (us.take at_ ++ [.ref t] ++ us.drop at_))) c = some (.tup ws) := fun c ws h => by rw [upd_ne (ne_kind h h15 (fun z => nomatch z))]; exact h
          refine ⟨G.new hP3 g15 hlp3, lns.take at_ ++ [(([101, 53] ++ List.replicate 18 48, i2), l)] ++ lns.drop at_, us.take at_ ++ [.ref t] ++ us.drop at_, _, _, _, upd_same, ?_, ?_, fun r hr => ?_, rfl⟩
          · have rk := Reps.keepT k16 (nol_lns lns) r15
            rw [List.map_append, List.map_append, List.map_take, List.map_drop]
            exact ((reps_take at_ rk).append (.cons (.tup (k16 _ _ t15) (.cons (.tup (k16 _ _ o15) (.cons (.str _) (.cons (.int _) .nil))) (.cons (.str _) .nil))) .nil)).append (reps_drop at_ rk)
          · rw [List.length_append, List.length_append, List.length_take, List.length_drop]
            show min at_ lns.length + 1 + _ ≤ _
            omega
          · rcases List.mem_append.mp hr with hr | hr
            · rcases List.mem_append.mp hr with hr | hr
              · exact hlo r (List.mem_of_mem_take hr)
              · rw [List.mem_singleton.mp hr]
                exact hl
            · exact hlo r (List.mem_of_mem_drop hr)
      · clear hll hlo hr6 h6 hr5 ht
        rintro m2 σ H7 hm22 ⟨g37, lns, us, z4, z5, z6, h7, hr7, hll, hlo, rfl⟩
        have hL : Lns lns := ⟨by omega, fun r hr => by have := hlo r hr; omega⟩
        obtain ⟨hwid, hhei⟩ := plan_wid hL
        refine r_asg (r_call (r_cons (r_var rfl (r_nil ⟨lp, us, lns, rfl, sq_of h7, hr7, hL, fun dv H8 e8 hd8 => ?_⟩))))
        refine r_asg (r_call (r_cons (eu_tupV (ev_v rfl) (sq_of (e8 _ _ h7)) H8 (Ex.refl _) _ fun t1 H9 _ e9 h9 => r_nil ⟨t1, us, lns, rfl, st_of h9, hr7.mono (e8.trans e9), hL, fun tv H10 e10 hd10 => ?_⟩)))
        have e810 := e9.trans e10
        refine q_when (b := false) (et_not (a := true) (et_B (ev_same (evd_v (ev_v rfl) (hd8.mono e810)) (evd_v (ev_v rfl) hd10) hwid hhei))) (fun z => nomatch z) fun _ H11 e11 => ?_
        have e811 := e810.trans e11
        have e711 := e8.trans e811
        refine r_asg (r_disp (fun dd hdd => r_pair (r_ev (ev_cs kBuild (by decide +kernel)) (Ex.refl _) fun H12 e12 => eu_tupV (ev_v rfl) (sq_of ((e711.trans ((Ex.new hdd).trans e12)) _ _ h7)) H12 (Ex.refl _) _ fun tl H13 _ e13 h13 => r_pair (r_ev (ev_cs [120] (by decide +kernel)) (Ex.refl _) fun H14 e14 => eu_tup ea_nil (by decide) H14 (Ex.refl _) _ fun t0 H15 _ e15 h15 => r_pnil ⟨(((e12.trans e13).trans e14).trans e15) _ _ upd_same, [(Sum.inr (tx kBuild), .ref tl), (Sum.inr (tx [120]), .ref t0)], rfl, by show 2 ≤ 15; decide, ?_⟩))))
        rw [merge2 bx_ne]
        have e1215 := ((e12.trans e13).trans e14).trans e15
        have E16 : Ex H11 (upd H15 dd (.dK [(Sum.inr (tx kBuild), .ref tl), (Sum.inr (tx [120]), .ref t0)])) := ((Ex.new hdd).trans e1215).mut hdd
        have d16 : (upd H15 dd (.dK [(Sum.inr (tx kBuild), .ref tl), (Sum.inr (tx [120]), .ref t0)])) dd = some (.dK [(Sum.inr (tx kBuild), .ref tl), (Sum.inr (tx [120]), .ref t0)]) := upd_same
        have ntl : tl ≠ dd := ne_kind ((e14.trans e15) _ _ h13) (e1215 _ _ upd_same) (fun z => nomatch z)
        have l16 : (upd H15 dd (.dK [(Sum.inr (tx kBuild), .ref tl), (Sum.inr (tx [120]), .ref t0)])) tl = some (.tup us) := by rw [upd_ne ntl]; exact (e14.trans e15) _ _ h13
        generalize upd H15 dd (.dK [(Sum.inr (tx kBuild), .ref tl), (Sum.inr (tx [120]), .ref t0)]) = H16 at E16 d16 l16 ⊢
        have r16 : Reps H16 us (lns.map lnD) := hr7.mono (e711.trans E16)
        have hd16 := hd8.mono (e811.trans E16)
        have kvb : valV [((Sum.inr (tx kBuild) : Key), V.ref tl), (Sum.inr (tx [120]), .ref t0)] (.inr (tx kBuild)) = some (.ref tl) := val1
        refine q_when (b := false) (et_or (a := false) (et_not (a := true) (et_B (ev_same (evd_v (ev_v rfl) hd16) (fun H1 e Q' q' => r_call (r_cons (r_var rfl (r_cons (eu_tup ea_nil (by decide) H1 (Ex.refl _) _ fun c H2 _ e2 h2 => r_nil ⟨dd, c, _, [], rfl, (e.trans e2) _ _ d16, st_of h2, (fun h => absurd h (by simp)), (fun _ hn => by rw [kvb] at hn; exact nomatch hn), fun _ v hv => ⟨tl, us, lns, by rw [kvb] at hv; exact (Option.some.inj hv).symm, st_of ((e.trans e2) _ _ l16), r16.mono (e.trans e2), hL, fun v H3 e3 r3 => q' v H3 (e2.trans e3) r3⟩⟩))))) hwid hhei))) fun _ => et_or (a := false) (et_test fun H1 e Q' q' => ?_) fun _ => et_test fun H1 e Q' q' => ?_) (fun z => nomatch z) fun _ H17 e17 => ?_
        · refine r_op (r_call (r_cons (r_var rfl (r_cons (eu_tup (ea_cons (ev_cs kBuild (by decide +kernel)) ea_nil) (by show 1 ≤ 100000; decide) H1 (Ex.refl _) _ fun c H2 _ e2 h2 => r_nil ⟨dd, c, _, [kBuild], rfl, (e.trans e2) _ _ d16, st_of h2, (fun _ r H3 e3 h3 => ?_), (fun h => absurd (by simp) h), fun h => absurd (by simp) h⟩)))))
          exact eu_tup (ea_cons (ev_cs kNone (by decide +kernel)) (ea_cons (ev_cs [99, 108, 97, 115, 104] (by decide +kernel)) ea_nil)) (by show 2 ≤ 100000; decide) H3 (Ex.refl _) _ fun c2 H4 _ e4 h4 => ⟨pD (kNone, [99, 108, 97, 115, 104]), pD (kNone, [99, 108, 97, 115, 104]), dp_pair (e4 _ _ h3), dp_pair h4, pD_shaped rfl rfl, pD_shaped rfl rfl, by rw [pD_eq, decide_eq_true rfl]; exact q' H4 ((e2.trans e3).trans e4)⟩
        · refine r_op (r_call (r_cons (r_disp (fun d2 hd2 => r_pair (r_ev (ev_cs [120] (by decide +kernel)) (Ex.refl _) fun H2 e2 => eu_tup ea_nil (by decide) H2 (Ex.refl _) _ fun t2 H3 _ e3 h3 => r_pnil ⟨(e2.trans e3) _ _ upd_same, [(Sum.inr (tx [120]), .ref t2)], rfl, by show 1 ≤ 15; decide, ?_⟩)))))
          refine r_cons (eu_tup (ea_cons (ev_cs [120] (by decide +kernel)) ea_nil) (by show 1 ≤ 100000; decide) _ (Ex.refl _) _ fun c H4 _ e4 h4 => r_nil ⟨d2, c, [(Sum.inr (tx [120]), .ref t2)], [[120]], rfl, e4 _ _ upd_same, st_of h4, (fun h => absurd h (by decide)), (fun _ _ r H5 e5 h5 => ?_), fun _ v hv => by rw [val0 (fun h => absurd (inr_tx.mp h) (by decide))] at hv; exact nomatch hv⟩)
          have E4 : Ex H1 H4 := (((Ex.new hd2).trans (e2.trans e3)).mut hd2).trans e4
          exact eu_tup (ea_cons (ev_cs kNone (by decide +kernel)) (ea_cons (ev_cs [102, 105, 108, 101] (by decide +kernel)) ea_nil)) (by show 2 ≤ 100000; decide) H5 (Ex.refl _) _ fun c2 H6 _ e6 h6 => ⟨pD (kNone, [102, 105, 108, 101]), pD (kNone, [102, 105, 108, 101]), dp_pair (e6 _ _ h5), dp_pair h6, pD_shaped rfl rfl, pD_shaped rfl rfl, by rw [pD_eq, decide_eq_true rfl]; exact q' H6 ((E4.trans e5).trans e6)⟩
        · have hP17 : Pool K H17 p a ns := g37.2.ex ((e711.trans E16).trans e17)
          have hd17 := hd16.mono e17
          cases hpl : planF lns with
          | inl z =>
            rw [hpl] at hd17
            obtain ⟨da, us2, rfl, hda⟩ := wrong_at hd17
            refine s_when (b := false) (et_is (et_test (ev_eqS (ev_ixT (j := 0) (ev_v rfl) (ev_cn 0) (st_of hda) rfl) (ev_cs [112, 108, 97, 110] (by decide +kernel)))) (by decide)) (fun z => nomatch z) fun _ H18 e18 => ⟨hP17.ex e18, _, _, _, _, _, _, _, _, _, _, _, rfl⟩
          | inr f =>
            rw [hpl] at hd17
            have hpok := plan_pok hL hpl
            obtain ⟨da, dr, us2, rfl, hda, hdr, hr17⟩ := rows_at hd17
            refine s_when (b := true) (et_is (et_test (ev_eqS (ev_ixT (j := 0) (ev_v rfl) (ev_cn 0) (st_of hda) rfl) (ev_cs [112, 108, 97, 110] (by decide +kernel)))) (by decide)) (fun _ H18 e18 => ?_) fun z => nomatch z
            refine s_forT (xs := us2) (ev_ixT (j := 1) (ev_v rfl) (ev_cn 1) (st_of (e18 _ _ hda)) rfl) (st_of (e18 _ _ hdr)) (fun j σ H' => Ex H17 H' ∧ ∃ y10, σ = [some (.ref a), some (.ref p), some (.int (i : Nat)), some (.ref lp), z4, z5, z6, some (.ref da), some tv, some (.ref dd), y10, y11, y12]) (fun H19 e19 => ⟨e18.trans e19, _, rfl⟩) (fun j σ H' _ h => st_of (h.1 _ _ hdr)) ?_ ?_
            · rintro j v σ H19 hv ⟨e19, y10', rfl⟩
              obtain ⟨d, hdd2, hrep⟩ := hr17.get' hv
              rw [List.getElem?_map] at hdd2
              obtain ⟨r, hr, rfl⟩ := Option.map_eq_some_iff.mp hdd2
              have hrm := List.mem_of_getElem? hr
              have hnm : r.1.nm ∈ nmsF f := List.mem_map_of_mem hrm
              obtain ⟨ra, rb, vo, rfl, hra, hrb, hvo⟩ := row_at hrep
              have on : ∀ {H' : Hp} {g : List Row → L → D}, Ex H19 H' → EvD (tCall (sp_on K g) [] E0 (tCons (tOp (rIxT K) (tVar 7) (tC (.int 1))) (tCons (tOp (rIxT K) (tVar 10) (tC (.int 0))) tNil))) [some (.ref a), some (.ref p), some (.int (i : Nat)), some (.ref lp), z4, z5, z6, some (.ref da), some tv, some (.ref dd), some (.ref ra), y11, y12] H' (g f r.1.nm) := fun e => ed_on (ev_ixT (j := 1) (ev_v rfl) (ev_cn 1) (st_of ((e19.trans e) _ _ hda)) rfl) (ev_ixT (j := 0) (ev_v rfl) (ev_cn 0) (st_of ((e19.trans e) _ _ hra)) rfl) (st_of ((e19.trans e) _ _ hdr)) (hr17.mono (e19.trans e)) hpok hnm
              refine s_when (b := false) (et_or (a := false) (et_not (a := true) (et_B (ev_same (on (Ex.refl _)) (on (Ex.refl _)) (tby_wid hpok _).1 (tby_wid hpok _).2))) fun _ => et_not (a := true) (et_B (ev_same (on (Ex.refl _)) (on (Ex.refl _)) (src_wid hpok _).1 (src_wid hpok _).2))) (fun z => nomatch z) fun _ H20 e20 => ⟨e19.trans e20, _, rfl⟩
            · rintro σ H19 ⟨e19, y10', rfl⟩
              exact ⟨hP17.ex e19, _, _, _, _, _, _, _, _, _, _, _, rfl⟩
    · rintro σ H3 ⟨hP3, y2, y3, y4, y5, y6, y7, y8, y9, y10, y11, y12, rfl⟩
      refine r_asg (r_lcK (fun k => lnD (lnK k)) 42 (by decide) hP3 (fun k => nol_ln _) (fun R h => r_one (n := 4) hP3 rfl (by decide) (by decide) 39 R fun m H h1 h2 g => h m H (by omega) g) (fun _ => rfl) (fun k H1 hk => ?_) fun Dl xs m H4 hm hD h4 hr4 g4 => ?_)
      · refine ed_tup (er_cons (ed_tup (er_cons (evd_v (ev_id (z := [102, 54]) (by decide +kernel) (by decide)) (.str _)) (er_cons (evd_v (ev_v rfl) (.int _)) er_nil)) (by show 2 ≤ 100000; decide)) (er_cons (evd_v (v := .str (tx (tkF k))) ?_ (.str _)) er_nil)) (by show 2 ≤ 100000; decide)
        obtain ⟨ct, hct, hcl⟩ := num_tx k (by omega)
        have hk : tkF k = [116] ++ ct ++ [32, 61, 32, 102, 105, 108, 101, 32, 120] := by
          unfold tkF
          rw [hct]
          rfl
        rw [hk]
        exact ev_op (ev_op (ev_cs [116] (by decide +kernel)) (fun H4 e4 Q' q' => r_cb (r_cons (r_var rfl (r_nil ⟨_, rfl, log_ok k (by omega), by rw [hct]; exact q' H4 (Ex.refl _)⟩)))) (rv_addS (by show 1 + _ ≤ _; omega))) (ev_cs [32, 61, 32, 102, 105, 108, 101, 32, 120] (by decide +kernel)) (rv_addS (by rw [List.length_append]; show 1 + _ + 9 ≤ _; omega))
      · have hL := lnK_ok hm
        obtain ⟨hwid, hhei⟩ := plan_wid hL
        have hr : Reps H4 xs (((List.range m).map lnK).map lnD) := by rw [List.map_map]; exact hr4
        refine s_ret (ev_same (fun H5 e5 Q' q' => r_call (r_cons (r_var rfl (r_nil ⟨Dl, xs, _, rfl, sq_of (e5 _ _ h4), hr.mono e5, hL, fun v H6 e6 r6 => q' v H6 e6 r6⟩)))) (fun H5 e5 Q' q' => r_call (r_cons (eu_tupV (ev_v rfl) (sq_of (e5 _ _ h4)) H5 (Ex.refl _) _ fun t H6 _ e6 h6 => r_nil ⟨t, xs, _, rfl, st_of h6, hr.mono (e5.trans e6), hL, fun v H7 e7 r7 => q' v H7 (e6.trans e7) r7⟩))) hwid hhei) fun H5 e5 => q H5
end
end K50

set_option Elab.async false
set_option linter.all false
set_option maxRecDepth 100000
set_option maxHeartbeats 4000000
namespace K50
open PySem PySem.Spec PyProof.Rows L2 Evl My
theorem all_mk {l : PySem.W.OpenLaw} {w : World} {K : PySem.W.Frag} {h : Heap} {mg : Str → Option Value} {fa : Addr} (X : K.In h) (G : h.Ns mainGlobals mg) (hfa : mg "law" = some (.ref fa))
    (h_law_mixed : HasF K "_law_mixed" s_law_mixed)
    (h_law_rest : HasF K "_law_rest" s_law_rest)
    (h_law_pool : HasF K "_law_pool" s_law_pool)
    (h_law_draw : HasF K "_law_draw" s_law_draw)
    (h_law_pick : HasF K "_law_pick" s_law_pick)
    (h_law_drawn_step : HasF K "_law_drawn_step" s_law_drawn_step)
    (h_law_next : HasF K "_law_next" s_law_next)
    (h_law_drawn_plan : HasF K "_law_drawn_plan" s_law_drawn_plan)
    (h_law_words : HasF K "_law_words" s_law_words)
    (h_law_speaks : HasF K "_law_speaks" s_law_speaks)
    (h_law_is_word : HasF K "_law_is_word" s_law_is_word)
    (h_law_is_path : HasF K "_law_is_path" s_law_is_path)
    (h_law_is_count : HasF K "_law_is_count" s_law_is_count)
    (h_law_shape : HasF K "_law_shape" s_law_shape)
    (h_law_step : HasF K "_law_step" s_law_step)
    (h_law_plan : HasF K "_law_plan" s_law_plan)
    (h_says_something : HasF K "says_something" s_says_something)
    (h_made_of : HasF K "made_of" s_made_of)
    (h_is_word : HasF K "is_word" s_is_word)
    (h_kinds_of : HasF K "kinds_of" s_kinds_of)
    (h_is_segment : HasF K "is_segment" s_is_segment)
    (h_is_path : HasF K "is_path" s_is_path)
    (h_is_count : HasF K "is_count" s_is_count)
    (h_fits : HasF K "fits" s_fits)
    (h_step_of : HasF K "step_of" s_step_of)
    (h_inputs_of : HasF K "inputs_of" s_inputs_of)
    (h_why_wrong : HasF K "why_wrong" s_why_wrong)
    (h_plan : HasF K "plan" s_plan)
    (h_law_same : HasF K "_law_same" s_law_same)
    (h_lines_of : HasF K "lines_of" s_lines_of)
    (h_plan_of : HasF K "plan_of" s_plan_of)
    (h_law_inputs : HasF K "_law_inputs" s_law_inputs)
    (h_law_hangs : HasF K "_law_hangs" s_law_hangs)
    (h_law_told_by : HasF K "_law_told_by" s_law_told_by)
    (h_below : HasF K "below" s_below)
    (h_told_by : HasF K "told_by" s_told_by)
    (h_law_sources : HasF K "_law_sources" s_law_sources)
    (h_sources : HasF K "sources" s_sources)
    (h_law : HasF K "law" s_law)
    (z_len : PySem.W.nsIn K mainGlobals "len" = some none)
    (z_list : PySem.W.nsIn K mainGlobals "list" = some none)
    (z_int : PySem.W.nsIn K mainGlobals "int" = some none)
    (z_isinstance : PySem.W.nsIn K mainGlobals "isinstance" = some none)
    (z_range : PySem.W.nsIn K mainGlobals "range" = some none)
    (z_zip : PySem.W.nsIn K mainGlobals "zip" = some none)
    (z_all : PySem.W.nsIn K mainGlobals "all" = some none)
    (z_any : PySem.W.nsIn K mainGlobals "any" = some none)
    (z_tuple : PySem.W.nsIn K mainGlobals "tuple" = some none)
    (z_str : PySem.W.nsIn K mainGlobals "str" = some none)
    (z_dict : PySem.W.nsIn K mainGlobals "dict" = some none)
    (z_bool : PySem.W.nsIn K mainGlobals "bool" = some none)
    (z_sorted : PySem.W.nsIn K mainGlobals "sorted" = some none)
    (z_min : PySem.W.nsIn K mainGlobals "min" = some none)
    (z_max : PySem.W.nsIn K mainGlobals "max" = some none)
    (z_set : PySem.W.nsIn K mainGlobals "set" = some none)
    (z_enumerate : PySem.W.nsIn K mainGlobals "enumerate" = some none)
    (z_sum : PySem.W.nsIn K mainGlobals "sum" = some none)
    (i_LONGEST_WORD : HasI K "LONGEST_WORD" 12)
    (i_LONGEST_SEGMENT : HasI K "LONGEST_SEGMENT" 20)
    (i_MOST_STEPS : HasI K "MOST_STEPS" 40)
    (s_LETTERS : HasS K "LETTERS" (tx letL))
    (s_DIGITS : HasS K "DIGITS" (tx digL))
    (d_SHAPES : HasD K w "SHAPES" shapT) :
    ∃ fd : FuncData, (∀ (s : Shared) (v : Value), BindsTo s fd ⟨[v], []⟩ [("script", v)]) ∧ ∀ base : Heap, K.In base → base.Ns mainGlobals mg → FnOk l.prog w K mg base CX0 8 fa fd ["script"] (sp_law K) := by
  have N : Nb mg := ⟨PySem.W.mg_none_of X G z_len, PySem.W.mg_none_of X G z_list, PySem.W.mg_none_of X G z_int, PySem.W.mg_none_of X G z_isinstance, PySem.W.mg_none_of X G z_range, PySem.W.mg_none_of X G z_zip, PySem.W.mg_none_of X G z_all, PySem.W.mg_none_of X G z_any, PySem.W.mg_none_of X G z_tuple, PySem.W.mg_none_of X G z_str, PySem.W.mg_none_of X G z_dict, PySem.W.mg_none_of X G z_bool, PySem.W.mg_none_of X G z_sorted, PySem.W.mg_none_of X G z_min, PySem.W.mg_none_of X G z_max, PySem.W.mg_none_of X G z_set, PySem.W.mg_none_of X G z_enumerate, PySem.W.mg_none_of X G z_sum⟩
  have g_LONGEST_WORD := i_LONGEST_WORD.gi X G
  have g_LONGEST_SEGMENT := i_LONGEST_SEGMENT.gi X G
  have g_MOST_STEPS := i_MOST_STEPS.gi X G
  have g_LETTERS := s_LETTERS.gs X G
  have g_DIGITS := s_DIGITS.gs X G
  have g_SHAPES := d_SHAPES.gd X G
  obtain ⟨f_law_mixed, fd_law_mixed, F_law_mixed, m_law_mixed⟩ := h_law_mixed.get X G
  obtain ⟨f_law_rest, fd_law_rest, F_law_rest, m_law_rest⟩ := h_law_rest.get X G
  obtain ⟨f_law_pool, fd_law_pool, F_law_pool, m_law_pool⟩ := h_law_pool.get X G
  obtain ⟨f_law_draw, fd_law_draw, F_law_draw, m_law_draw⟩ := h_law_draw.get X G
  obtain ⟨f_law_pick, fd_law_pick, F_law_pick, m_law_pick⟩ := h_law_pick.get X G
  obtain ⟨f_law_drawn_step, fd_law_drawn_step, F_law_drawn_step, m_law_drawn_step⟩ := h_law_drawn_step.get X G
  obtain ⟨f_law_next, fd_law_next, F_law_next, m_law_next⟩ := h_law_next.get X G
  obtain ⟨f_law_drawn_plan, fd_law_drawn_plan, F_law_drawn_plan, m_law_drawn_plan⟩ := h_law_drawn_plan.get X G
  obtain ⟨f_law_words, fd_law_words, F_law_words, m_law_words⟩ := h_law_words.get X G
  obtain ⟨f_law_speaks, fd_law_speaks, F_law_speaks, m_law_speaks⟩ := h_law_speaks.get X G
  obtain ⟨f_law_is_word, fd_law_is_word, F_law_is_word, m_law_is_word⟩ := h_law_is_word.get X G
  obtain ⟨f_law_is_path, fd_law_is_path, F_law_is_path, m_law_is_path⟩ := h_law_is_path.get X G
  obtain ⟨f_law_is_count, fd_law_is_count, F_law_is_count, m_law_is_count⟩ := h_law_is_count.get X G
  obtain ⟨f_law_shape, fd_law_shape, F_law_shape, m_law_shape⟩ := h_law_shape.get X G
  obtain ⟨f_law_step, fd_law_step, F_law_step, m_law_step⟩ := h_law_step.get X G
  obtain ⟨f_law_plan, fd_law_plan, F_law_plan, m_law_plan⟩ := h_law_plan.get X G
  obtain ⟨f_says_something, fd_says_something, F_says_something, m_says_something⟩ := h_says_something.get X G
  obtain ⟨f_made_of, fd_made_of, F_made_of, m_made_of⟩ := h_made_of.get X G
  obtain ⟨f_is_word, fd_is_word, F_is_word, m_is_word⟩ := h_is_word.get X G
  obtain ⟨f_kinds_of, fd_kinds_of, F_kinds_of, m_kinds_of⟩ := h_kinds_of.get X G
  obtain ⟨f_is_segment, fd_is_segment, F_is_segment, m_is_segment⟩ := h_is_segment.get X G
  obtain ⟨f_is_path, fd_is_path, F_is_path, m_is_path⟩ := h_is_path.get X G
  obtain ⟨f_is_count, fd_is_count, F_is_count, m_is_count⟩ := h_is_count.get X G
  obtain ⟨f_fits, fd_fits, F_fits, m_fits⟩ := h_fits.get X G
  obtain ⟨f_step_of, fd_step_of, F_step_of, m_step_of⟩ := h_step_of.get X G
  obtain ⟨f_inputs_of, fd_inputs_of, F_inputs_of, m_inputs_of⟩ := h_inputs_of.get X G
  obtain ⟨f_why_wrong, fd_why_wrong, F_why_wrong, m_why_wrong⟩ := h_why_wrong.get X G
  obtain ⟨f_plan, fd_plan, F_plan, m_plan⟩ := h_plan.get X G
  obtain ⟨f_law_same, fd_law_same, F_law_same, m_law_same⟩ := h_law_same.get X G
  obtain ⟨f_lines_of, fd_lines_of, F_lines_of, m_lines_of⟩ := h_lines_of.get X G
  obtain ⟨f_plan_of, fd_plan_of, F_plan_of, m_plan_of⟩ := h_plan_of.get X G
  obtain ⟨f_law_inputs, fd_law_inputs, F_law_inputs, m_law_inputs⟩ := h_law_inputs.get X G
  obtain ⟨f_law_hangs, fd_law_hangs, F_law_hangs, m_law_hangs⟩ := h_law_hangs.get X G
  obtain ⟨f_law_told_by, fd_law_told_by, F_law_told_by, m_law_told_by⟩ := h_law_told_by.get X G
  obtain ⟨f_below, fd_below, F_below, m_below⟩ := h_below.get X G
  obtain ⟨f_told_by, fd_told_by, F_told_by, m_told_by⟩ := h_told_by.get X G
  obtain ⟨f_law_sources, fd_law_sources, F_law_sources, m_law_sources⟩ := h_law_sources.get X G
  obtain ⟨f_sources, fd_sources, F_sources, m_sources⟩ := h_sources.get X G
  obtain ⟨f0, oc, od, kV, dc, pm, an, cd, ct, sl, a0, l0, c0, k0⟩ := h_law
  have e := hfa.symm.trans (PySem.W.mg_of X G a0)
  cases e
  have F_law := fun_mk (st := s_law) l0 c0 k0
  refine ⟨PySem.W.fnOf "law" "law" (defArgs s_law) (defBody s_law) (defScope s_law) .none kV dc pm an cd ct, fun s v => .of_eq rfl, fun base _ _ => ?_⟩
  have C_law_mixed : Cal l.prog w K mg base 1 "_law_mixed" ["number", "place"] (spV ok_mixed_) := ⟨f_law_mixed, fd_law_mixed, fn_mixed_ (k := 0) F_law_mixed N, F_law_mixed.binds (ps := ["number", "place"]) (fun _ _ _ _ _ _ us hl => match us, hl with | [_, _], _ => rfl), F_law_mixed.kp, m_law_mixed⟩
  have C_law_rest : Cal l.prog w K mg base 2 "_law_rest" ["script", "place", "fills"] (spV (ok_rest_ K)) := ⟨f_law_rest, fd_law_rest, fn_rest_ (k := 1) F_law_rest N C_law_mixed, F_law_rest.binds (ps := ["script", "place", "fills"]) (fun _ _ _ _ _ _ us hl => match us, hl with | [_, _, _], _ => rfl), F_law_rest.kp, m_law_rest⟩
  have C_law_pool : Cal l.prog w K mg base 3 "_law_pool" ["script"] (spL (ok_pool_ K)) := ⟨f_law_pool, fd_law_pool, fn_pool_ (k := 2) F_law_pool N C_law_rest, F_law_pool.binds (ps := ["script"]) (fun _ _ _ _ _ _ us hl => match us, hl with | [_], _ => rfl), F_law_pool.kp, m_law_pool⟩
  have C_law_draw : Cal l.prog w K mg base 3 "_law_draw" ["pool", "limit"] (sp_draw K) := ⟨f_law_draw, fd_law_draw, fn_draw (k := 2) F_law_draw N C_law_rest, F_law_draw.binds (ps := ["pool", "limit"]) (fun _ _ _ _ _ _ us hl => match us, hl with | [_, _], _ => rfl), F_law_draw.kp, m_law_draw⟩
  have C_law_pick : Cal l.prog w K mg base 4 "_law_pick" ["pool", "options"] (sp_pick K) := ⟨f_law_pick, fd_law_pick, fn_pick (k := 3) F_law_pick N C_law_draw, F_law_pick.binds (ps := ["pool", "options"]) (fun _ _ _ _ _ _ us hl => match us, hl with | [_, _], _ => rfl), F_law_pick.kp, m_law_pick⟩
  have C_law_drawn_step : Cal l.prog w K mg base 5 "_law_drawn_step" ["pool", "name", "names"] (sp_dstep K) := ⟨f_law_drawn_step, fd_law_drawn_step, fn_dstep (k := 4) F_law_drawn_step N (C_law_draw.mono (by decide)) C_law_pick, F_law_drawn_step.binds (ps := ["pool", "name", "names"]) (fun _ _ _ _ _ _ us hl => match us, hl with | [_, _, _], _ => rfl), F_law_drawn_step.kp, m_law_drawn_step⟩
  have C_law_next : Cal l.prog w K mg base 3 "_law_next" ["pool"] (sp_next K) := ⟨f_law_next, fd_law_next, fn_next (k := 2) F_law_next N C_law_rest, F_law_next.binds (ps := ["pool"]) (fun _ _ _ _ _ _ us hl => match us, hl with | [_], _ => rfl), F_law_next.kp, m_law_next⟩
  have C_law_drawn_plan : Cal l.prog w K mg base 6 "_law_drawn_plan" ["pool", "many"] (sp_dplan K) := ⟨f_law_drawn_plan, fd_law_drawn_plan, fn_dplan (k := 5) F_law_drawn_plan N C_law_drawn_step (C_law_next.mono (by decide)), F_law_drawn_plan.binds (ps := ["pool", "many"]) (fun _ _ _ _ _ _ us hl => match us, hl with | [_, _], _ => rfl), F_law_drawn_plan.kp, m_law_drawn_plan⟩
  have C_law_words : Cal l.prog w K mg base 1 "_law_words" ["text"] (spL ok_lwords) := ⟨f_law_words, fd_law_words, fn_lwords (k := 0) F_law_words N, F_law_words.binds (ps := ["text"]) (fun _ _ _ _ _ _ us hl => match us, hl with | [_], _ => rfl), F_law_words.kp, m_law_words⟩
  have C_law_speaks : Cal l.prog w K mg base 2 "_law_speaks" ["text"] (spV (ok_test saysF)) := ⟨f_law_speaks, fd_law_speaks, fn_lspeaks (k := 1) F_law_speaks N C_law_words, F_law_speaks.binds (ps := ["text"]) (fun _ _ _ _ _ _ us hl => match us, hl with | [_], _ => rfl), F_law_speaks.kp, m_law_speaks⟩
  have C_law_is_word : Cal l.prog w K mg base 1 "_law_is_word" ["text"] (spV (ok_test wordP)) := ⟨f_law_is_word, fd_law_is_word, fn_lword (k := 0) F_law_is_word N, F_law_is_word.binds (ps := ["text"]) (fun _ _ _ _ _ _ us hl => match us, hl with | [_], _ => rfl), F_law_is_word.kp, m_law_is_word⟩
  have C_law_is_path : Cal l.prog w K mg base 1 "_law_is_path" ["text"] (spV (ok_test pathP)) := ⟨f_law_is_path, fd_law_is_path, fn_lpath (k := 0) F_law_is_path N, F_law_is_path.binds (ps := ["text"]) (fun _ _ _ _ _ _ us hl => match us, hl with | [_], _ => rfl), F_law_is_path.kp, m_law_is_path⟩
  have C_law_is_count : Cal l.prog w K mg base 1 "_law_is_count" ["text"] (spV (ok_test countP)) := ⟨f_law_is_count, fd_law_is_count, fn_lcount (k := 0) F_law_is_count N, F_law_is_count.binds (ps := ["text"]) (fun _ _ _ _ _ _ us hl => match us, hl with | [_], _ => rfl), F_law_is_count.kp, m_law_is_count⟩
  have C_law_shape : Cal l.prog w K mg base 1 "_law_shape" ["op", "many"] (spV ok_shape) := ⟨f_law_shape, fd_law_shape, fn_shape (k := 0) F_law_shape N, F_law_shape.binds (ps := ["op", "many"]) (fun _ _ _ _ _ _ us hl => match us, hl with | [_, _], _ => rfl), F_law_shape.kp, m_law_shape⟩
  have C_law_step : Cal l.prog w K mg base 2 "_law_step" ["terms"] (sp_lstep K) := ⟨f_law_step, fd_law_step, fn_lstep (k := 1) F_law_step N C_law_is_word C_law_is_path C_law_is_count C_law_shape, F_law_step.binds (ps := ["terms"]) (fun _ _ _ _ _ _ us hl => match us, hl with | [_], _ => rfl), F_law_step.kp, m_law_step⟩
  have C_law_plan : Cal l.prog w K mg base 3 "_law_plan" ["lines"] (sp_lplan K) := ⟨f_law_plan, fd_law_plan, fn_lplan (k := 2) F_law_plan N C_law_speaks (C_law_words.mono (by decide)) C_law_step, F_law_plan.binds (ps := ["lines"]) (fun _ _ _ _ _ _ us hl => match us, hl with | [_], _ => rfl), F_law_plan.kp, m_law_plan⟩
  have C_says_something : Cal l.prog w K mg base 1 "says_something" ["line"] (spV (ok_test saysF)) := ⟨f_says_something, fd_says_something, fn_says (k := 0) F_says_something N, F_says_something.binds (ps := ["line"]) (fun _ _ _ _ _ _ us hl => match us, hl with | [_], _ => rfl), F_says_something.kp, m_says_something⟩
  have C_made_of : Cal l.prog w K mg base 1 "made_of" ["value", "signs", "most"] (spV ok_made_of) := ⟨f_made_of, fd_made_of, fn_made_of (k := 0) F_made_of N, F_made_of.binds (ps := ["value", "signs", "most"]) (fun _ _ _ _ _ _ us hl => match us, hl with | [_, _, _], _ => rfl), F_made_of.kp, m_made_of⟩
  have C_is_word : Cal l.prog w K mg base 2 "is_word" ["value"] (spV (ok_is wordP)) := ⟨f_is_word, fd_is_word, fn_is_word (k := 1) F_is_word N g_DIGITS g_LETTERS g_LONGEST_WORD C_made_of, F_is_word.binds (ps := ["value"]) (fun _ _ _ _ _ _ us hl => match us, hl with | [_], _ => rfl), F_is_word.kp, m_is_word⟩
  have C_kinds_of : Cal l.prog w K mg base 1 "kinds_of" ["words"] (sp_kinds K) := ⟨f_kinds_of, fd_kinds_of, fn_kinds_of (k := 0) F_kinds_of N g_SHAPES, F_kinds_of.binds (ps := ["words"]) (fun _ _ _ _ _ _ us hl => match us, hl with | [_], _ => rfl), F_kinds_of.kp, m_kinds_of⟩
  have C_is_segment : Cal l.prog w K mg base 2 "is_segment" ["value"] (spV (ok_is segP)) := ⟨f_is_segment, fd_is_segment, fn_is_segment (k := 1) F_is_segment N g_DIGITS g_LETTERS g_LONGEST_SEGMENT C_made_of, F_is_segment.binds (ps := ["value"]) (fun _ _ _ _ _ _ us hl => match us, hl with | [_], _ => rfl), F_is_segment.kp, m_is_segment⟩
  have C_is_path : Cal l.prog w K mg base 3 "is_path" ["value"] (spV (ok_is pathP)) := ⟨f_is_path, fd_is_path, fn_is_path (k := 2) F_is_path N C_is_segment, F_is_path.binds (ps := ["value"]) (fun _ _ _ _ _ _ us hl => match us, hl with | [_], _ => rfl), F_is_path.kp, m_is_path⟩
  have C_is_count : Cal l.prog w K mg base 1 "is_count" ["text"] (spV (ok_test countP)) := ⟨f_is_count, fd_is_count, fn_is_count (k := 0) F_is_count N g_DIGITS, F_is_count.binds (ps := ["text"]) (fun _ _ _ _ _ _ us hl => match us, hl with | [_], _ => rfl), F_is_count.kp, m_is_count⟩
  have C_fits : Cal l.prog w K mg base 4 "fits" ["kind", "text"] (spV ok_fits) := ⟨f_fits, fd_fits, fn_fits (k := 3) F_fits N C_is_path (C_is_word.mono (by decide)) (C_is_count.mono (by decide)), F_fits.binds (ps := ["kind", "text"]) (fun _ _ _ _ _ _ us hl => match us, hl with | [_, _], _ => rfl), F_fits.kp, m_fits⟩
  have C_step_of : Cal l.prog w K mg base 5 "step_of" ["words"] (sp_step K) := ⟨f_step_of, fd_step_of, fn_step_of (k := 4) F_step_of N (C_is_word.mono (by decide)) (C_kinds_of.mono (by decide)) C_fits, F_step_of.binds (ps := ["words"]) (fun _ _ _ _ _ _ us hl => match us, hl with | [_], _ => rfl), F_step_of.kp, m_step_of⟩
  have C_inputs_of : Cal l.prog w K mg base 1 "inputs_of" ["step"] sp_inputs := ⟨f_inputs_of, fd_inputs_of, fn_inputs_of (k := 0) F_inputs_of N g_SHAPES, F_inputs_of.binds (ps := ["step"]) (fun _ _ _ _ _ _ us hl => match us, hl with | [_], _ => rfl), F_inputs_of.kp, m_inputs_of⟩
  have C_why_wrong : Cal l.prog w K mg base 2 "why_wrong" ["step", "names"] (spV ok_why) := ⟨f_why_wrong, fd_why_wrong, fn_why (k := 1) F_why_wrong N g_MOST_STEPS C_inputs_of, F_why_wrong.binds (ps := ["step", "names"]) (fun _ _ _ _ _ _ us hl => match us, hl with | [_, _], _ => rfl), F_why_wrong.kp, m_why_wrong⟩
  have C_plan : Cal l.prog w K mg base 6 "plan" ["lines"] (sp_plan K) := ⟨f_plan, fd_plan, fn_plan (k := 5) F_plan N (C_says_something.mono (by decide)) C_step_of (C_why_wrong.mono (by decide)), F_plan.binds (ps := ["lines"]) (fun _ _ _ _ _ _ us hl => match us, hl with | [_], _ => rfl), F_plan.kp, m_plan⟩
  have C_law_same := cal_same (P := l.prog) (w := w) (base := base) (k := 0) F_law_same (F_law_same.binds (ps := ["due", "answer"]) (fun _ _ _ _ _ _ us hl => match us, hl with | [_, _], _ => rfl)) F_law_same.kp m_law_same N 6
  have C_lines_of : Cal l.prog w K mg base 1 "lines_of" ["path", "texts", "clashed"] (sp_lof K) := ⟨f_lines_of, fd_lines_of, fn_lines_of (k := 0) F_lines_of N, F_lines_of.binds (ps := ["path", "texts", "clashed"]) (fun _ _ _ _ _ _ us hl => match us, hl with | [_, _, _], _ => rfl), F_lines_of.kp, m_lines_of⟩
  have C_plan_of : Cal l.prog w K mg base 7 "plan_of" ["texts", "clashed"] (sp_plof K) := ⟨f_plan_of, fd_plan_of, fn_plan_of (k := 6) F_plan_of N (C_lines_of.mono (by decide)) C_plan, F_plan_of.binds (ps := ["texts", "clashed"]) (fun _ _ _ _ _ _ us hl => match us, hl with | [_, _], _ => rfl), F_plan_of.kp, m_plan_of⟩
  have C_law_inputs : Cal l.prog w K mg base 2 "_law_inputs" ["step"] (spL ok_linputs) := ⟨f_law_inputs, fd_law_inputs, fn_linputs (k := 1) F_law_inputs N C_law_shape, F_law_inputs.binds (ps := ["step"]) (fun _ _ _ _ _ _ us hl => match us, hl with | [_], _ => rfl), F_law_inputs.kp, m_law_inputs⟩
  have C_law_hangs : Cal l.prog w K mg base 3 "_law_hangs" ["told_plan", "name"] (sp_below K) := ⟨f_law_hangs, fd_law_hangs, fn_hangs (k := 2) F_law_hangs N C_law_inputs, F_law_hangs.binds (ps := ["told_plan", "name"]) (fun _ _ _ _ _ _ us hl => match us, hl with | [_, _], _ => rfl), F_law_hangs.kp, m_law_hangs⟩
  have C_law_told_by : Cal l.prog w K mg base 4 "_law_told_by" ["told_plan", "name"] (sp_on K tbyD) := ⟨f_law_told_by, fd_law_told_by, fn_ltold (k := 3) F_law_told_by N C_law_hangs, F_law_told_by.binds (ps := ["told_plan", "name"]) (fun _ _ _ _ _ _ us hl => match us, hl with | [_, _], _ => rfl), F_law_told_by.kp, m_law_told_by⟩
  have C_below : Cal l.prog w K mg base 2 "below" ["told", "name"] (sp_below K) := ⟨f_below, fd_below, fn_below (k := 1) F_below N C_inputs_of, F_below.binds (ps := ["told", "name"]) (fun _ _ _ _ _ _ us hl => match us, hl with | [_, _], _ => rfl), F_below.kp, m_below⟩
  have C_told_by : Cal l.prog w K mg base 3 "told_by" ["told", "name"] (sp_on K tbyD) := ⟨f_told_by, fd_told_by, fn_told_by (k := 2) F_told_by N C_below, F_told_by.binds (ps := ["told", "name"]) (fun _ _ _ _ _ _ us hl => match us, hl with | [_, _], _ => rfl), F_told_by.kp, m_told_by⟩
  have C_law_sources : Cal l.prog w K mg base 4 "_law_sources" ["told_plan", "name"] (sp_on K srcD) := ⟨f_law_sources, fd_law_sources, fn_lsources (k := 3) F_law_sources N C_law_hangs, F_law_sources.binds (ps := ["told_plan", "name"]) (fun _ _ _ _ _ _ us hl => match us, hl with | [_, _], _ => rfl), F_law_sources.kp, m_law_sources⟩
  have C_sources : Cal l.prog w K mg base 3 "sources" ["told", "name"] (sp_on K srcD) := ⟨f_sources, fd_sources, fn_sources (k := 2) F_sources N C_below, F_sources.binds (ps := ["told", "name"]) (fun _ _ _ _ _ _ us hl => match us, hl with | [_, _], _ => rfl), F_sources.kp, m_sources⟩
  exact fn_law (k := 7) F_law N (C_law_pool.mono (by decide)) (C_law_draw.mono (by decide)) (C_law_pick.mono (by decide)) (C_law_drawn_plan.mono (by decide)) (C_law_plan.mono (by decide)) (C_plan.mono (by decide)) (C_law_same.mono (by decide)) C_plan_of (C_law_told_by.mono (by decide)) (C_told_by.mono (by decide)) (C_law_sources.mono (by decide)) (C_sources.mono (by decide))
end K50
open PySem PySem.W PyProof.Rows
set_option maxHeartbeats 0 in
theorem PySem.Challenge.cw_lineage_k50_whole_plans_read_holds : PySem.Challenge.rw_lineage_k50_whole_plans_read.Holds := by
  w_on; o_law; k_head; (case hw => w_witness2)
  k_fill
  refine L2.walk_of (l := PySem.Challenge.rw_lineage_k50_whole_plans_read) (n := 63) (k := 8) (x := "script") (CX := fun _ => L2.CX0) (sp := fun w => K50.sp_law _) rfl (by decide) rfl ⟨rfl, by decide, by decide⟩ (fun w h Y => PySem.W.kIn_of Y) ?F (fun _ _ a ns hl _ hS => ⟨a, ns, rfl, hS, fun _ => rfl⟩) (fun _ _ _ _ _ h => h)
  case F =>
    intro w mg fa h KX G hmg
    refine' K50.all_mk KX G hmg ?q0 ?q1 ?q2 ?q3 ?q4 ?q5 ?q6 ?q7 ?q8 ?q9 ?q10 ?q11 ?q12 ?q13 ?q14 ?q15 ?q16 ?q17 ?q18 ?q19 ?q20 ?q21 ?q22 ?q23 ?q24 ?q25 ?q26 ?q27 ?q28 ?q29 ?q30 ?q31 ?q32 ?q33 ?q34 ?q35 ?q36 ?q37 ?q38 ?q39 ?q40 ?q41 ?q42 ?q43 ?q44 ?q45 ?q46 ?q47 ?q48 ?q49 ?q50 ?q51 ?q52 ?q53 ?q54 ?q55 ?q56 ?q57 ?q58 ?q59 ?q60 ?q61 ?q62
    case q0 => (refine' My.HasF.mk' ?a ?l ?c ?k; (case a => k_is); (case l => k_is); (case c => k_is); (case k => k_is))
    case q1 => (refine' My.HasF.mk' ?a ?l ?c ?k; (case a => k_is); (case l => k_is); (case c => k_is); (case k => k_is))
    case q2 => (refine' My.HasF.mk' ?a ?l ?c ?k; (case a => k_is); (case l => k_is); (case c => k_is); (case k => k_is))
    case q3 => (refine' My.HasF.mk' ?a ?l ?c ?k; (case a => k_is); (case l => k_is); (case c => k_is); (case k => k_is))
    case q4 => (refine' My.HasF.mk' ?a ?l ?c ?k; (case a => k_is); (case l => k_is); (case c => k_is); (case k => k_is))
    case q5 => (refine' My.HasF.mk' ?a ?l ?c ?k; (case a => k_is); (case l => k_is); (case c => k_is); (case k => k_is))
    case q6 => (refine' My.HasF.mk' ?a ?l ?c ?k; (case a => k_is); (case l => k_is); (case c => k_is); (case k => k_is))
    case q7 => (refine' My.HasF.mk' ?a ?l ?c ?k; (case a => k_is); (case l => k_is); (case c => k_is); (case k => k_is))
    case q8 => (refine' My.HasF.mk' ?a ?l ?c ?k; (case a => k_is); (case l => k_is); (case c => k_is); (case k => k_is))
    case q9 => (refine' My.HasF.mk' ?a ?l ?c ?k; (case a => k_is); (case l => k_is); (case c => k_is); (case k => k_is))
    case q10 => (refine' My.HasF.mk' ?a ?l ?c ?k; (case a => k_is); (case l => k_is); (case c => k_is); (case k => k_is))
    case q11 => (refine' My.HasF.mk' ?a ?l ?c ?k; (case a => k_is); (case l => k_is); (case c => k_is); (case k => k_is))
    case q12 => (refine' My.HasF.mk' ?a ?l ?c ?k; (case a => k_is); (case l => k_is); (case c => k_is); (case k => k_is))
    case q13 => (refine' My.HasF.mk' ?a ?l ?c ?k; (case a => k_is); (case l => k_is); (case c => k_is); (case k => k_is))
    case q14 => (refine' My.HasF.mk' ?a ?l ?c ?k; (case a => k_is); (case l => k_is); (case c => k_is); (case k => k_is))
    case q15 => (refine' My.HasF.mk' ?a ?l ?c ?k; (case a => k_is); (case l => k_is); (case c => k_is); (case k => k_is))
    case q16 => (refine' My.HasF.mk' ?a ?l ?c ?k; (case a => k_is); (case l => k_is); (case c => k_is); (case k => k_is))
    case q17 => (refine' My.HasF.mk' ?a ?l ?c ?k; (case a => k_is); (case l => k_is); (case c => k_is); (case k => k_is))
    case q18 => (refine' My.HasF.mk' ?a ?l ?c ?k; (case a => k_is); (case l => k_is); (case c => k_is); (case k => k_is))
    case q19 => (refine' My.HasF.mk' ?a ?l ?c ?k; (case a => k_is); (case l => k_is); (case c => k_is); (case k => k_is))
    case q20 => (refine' My.HasF.mk' ?a ?l ?c ?k; (case a => k_is); (case l => k_is); (case c => k_is); (case k => k_is))
    case q21 => (refine' My.HasF.mk' ?a ?l ?c ?k; (case a => k_is); (case l => k_is); (case c => k_is); (case k => k_is))
    case q22 => (refine' My.HasF.mk' ?a ?l ?c ?k; (case a => k_is); (case l => k_is); (case c => k_is); (case k => k_is))
    case q23 => (refine' My.HasF.mk' ?a ?l ?c ?k; (case a => k_is); (case l => k_is); (case c => k_is); (case k => k_is))
    case q24 => (refine' My.HasF.mk' ?a ?l ?c ?k; (case a => k_is); (case l => k_is); (case c => k_is); (case k => k_is))
    case q25 => (refine' My.HasF.mk' ?a ?l ?c ?k; (case a => k_is); (case l => k_is); (case c => k_is); (case k => k_is))
    case q26 => (refine' My.HasF.mk' ?a ?l ?c ?k; (case a => k_is); (case l => k_is); (case c => k_is); (case k => k_is))
    case q27 => (refine' My.HasF.mk' ?a ?l ?c ?k; (case a => k_is); (case l => k_is); (case c => k_is); (case k => k_is))
    case q28 => (refine' My.HasF.mk' ?a ?l ?c ?k; (case a => k_is); (case l => k_is); (case c => k_is); (case k => k_is))
    case q29 => (refine' My.HasF.mk' ?a ?l ?c ?k; (case a => k_is); (case l => k_is); (case c => k_is); (case k => k_is))
    case q30 => (refine' My.HasF.mk' ?a ?l ?c ?k; (case a => k_is); (case l => k_is); (case c => k_is); (case k => k_is))
    case q31 => (refine' My.HasF.mk' ?a ?l ?c ?k; (case a => k_is); (case l => k_is); (case c => k_is); (case k => k_is))
    case q32 => (refine' My.HasF.mk' ?a ?l ?c ?k; (case a => k_is); (case l => k_is); (case c => k_is); (case k => k_is))
    case q33 => (refine' My.HasF.mk' ?a ?l ?c ?k; (case a => k_is); (case l => k_is); (case c => k_is); (case k => k_is))
    case q34 => (refine' My.HasF.mk' ?a ?l ?c ?k; (case a => k_is); (case l => k_is); (case c => k_is); (case k => k_is))
    case q35 => (refine' My.HasF.mk' ?a ?l ?c ?k; (case a => k_is); (case l => k_is); (case c => k_is); (case k => k_is))
    case q36 => (refine' My.HasF.mk' ?a ?l ?c ?k; (case a => k_is); (case l => k_is); (case c => k_is); (case k => k_is))
    case q37 => (refine' My.HasF.mk' ?a ?l ?c ?k; (case a => k_is); (case l => k_is); (case c => k_is); (case k => k_is))
    case q38 => (refine' My.HasF.mk' ?a ?l ?c ?k; (case a => k_is); (case l => k_is); (case c => k_is); (case k => k_is))
    case q39 => k_is
    case q40 => k_is
    case q41 => k_is
    case q42 => k_is
    case q43 => k_is
    case q44 => k_is
    case q45 => k_is
    case q46 => k_is
    case q47 => k_is
    case q48 => k_is
    case q49 => k_is
    case q50 => k_is
    case q51 => k_is
    case q52 => k_is
    case q53 => k_is
    case q54 => k_is
    case q55 => k_is
    case q56 => k_is
    case q57 => (refine' My.HasI.mk' ?a; (case a => k_is))
    case q58 => (refine' My.HasI.mk' ?a; (case a => k_is))
    case q59 => (refine' My.HasI.mk' ?a; (case a => k_is))
    case q60 => (refine' My.HasS.mk' ?a; (case a => k_is))
    case q61 => (refine' My.HasS.mk' ?a; (case a => k_is))
    case q62 => (refine' My.HasD.mk' ?a ?l ?k ?z ?v ?s; (case a => k_is); (case l => k_is); (case k => rfl); (case z => rfl); (case v => rfl); (case s => rfl))

