import PyProof.Rows.All
import Wide.All
import OpenK.AllK
import Wide.FinOn
import HandS.ForMost
import HandS.Evl
import HandS.Wide
import HandS.IsInst
import HandS.NoneIn
import HandS.Style
import HandS.Replace
import KE.GoesZip
import KE.GoesMore
import KE.GoesEnumKw
import HandS.More
import PyProof.Rows.SortShellAny
import HandS.Iter
import PyProof.Rows.StrMeet
import PyProof.NeData
import PyProof.P3Eq
import HandS.SortOrd
import HandS.Conv
import KE.KSortTupAny
import HandS.DictComp
import HandS.HeadHook3
import KE.KDictOf
import HandS.TupAny
import HandS.Zip
import KE.KDictDisplayH
import HandS.SetKeys
import HandS.TryOnly
import KE.KDictLaws
import PyProof.P3In
import HandS.Deep
import HandS.Sort
import HandS.SetFor
import HandS.Strs
import PyProof.WalkInts
import HandS.WordsDict
import HandS.Flow
import PySem.Challenge.RW_lineage_k96_whole_nets_informed
set_option Elab.async false
set_option linter.all false
set_option maxRecDepth 100000
/-! My own layer over HandS: callable defs bundled, globals bundled, readings at Nat. -/
namespace My
open PySem PySem.Spec PyProof.Rows L2 Evl

/-- a def that the module's name x holds, with its promise, at level k -/
structure Cal (P : Program) (w : World) (K : PySem.W.Frag) (mg : Str → Option Value) (base : Heap) (k : Nat) (x : Str) (ps : List Str) (sp : Sp) : Prop where
  ex : ∃ f fd, FnOk P w K mg base CX0 k f fd ps sp ∧ Binds K fd ps [] ∧ PySem.W.keepIn K (.ref f) = true ∧ mg x = some (.ref f)
theorem Cal.mono {P : Program} {w : World} {K : PySem.W.Frag} {mg : Str → Option Value} {base : Heap} {j k : Nat} {x : Str} {ps : List Str} {sp : Sp} (C : Cal P w K mg base j x ps sp) (h : j ≤ k) : Cal P w K mg base k x ps sp := by
  obtain ⟨f, fd, F, b, kp, m⟩ := C.ex
  exact ⟨f, fd, F.mono h, b, kp, m⟩
theorem Cal.imp {P : Program} {w : World} {K : PySem.W.Frag} {mg : Str → Option Value} {base : Heap} {k : Nat} {x : Str} {ps : List Str} {sp sp' : Sp} (C : Cal P w K mg base k x ps sp)
    (h : ∀ vs H Q E, sp' vs H Q E → sp vs H Q E) : Cal P w K mg base k x ps sp' := by
  obtain ⟨f, fd, F, b, kp, m⟩ := C.ex
  exact ⟨f, fd, F.imp h, b, kp, m⟩
theorem pe_cal {X : Cx} {k j : Nat} {x : Str} {ps : List Str} {sp : Sp} {e : Expr} {es : List Expr} {t : TA} {p pos : Pos} (C : Cal X.prog X.w X.K X.mg X.base k x ps sp) (hr : Room j X.A) (ha : PA X (e :: es) t) (hle : k ≤ j := by first | exact Nat.le_refl _ | decide | omega) (hg : Gl X x := by rfl)
    (hdb : (x == ("__debug__" : Str)) = false := by decide) (hs : starEach (e :: es) X.env = (false, eval e X.env) :: starEach es X.env := by rfl) (hplain : (backTo pos (starEach es X.env)).any (·.1) = false := by rfl) :
    PE X (.Call (.Name x p) (e :: es) [] pos) (tCall sp [] E0 t) := by
  obtain ⟨f, fd, F, b, kp, m⟩ := C.ex
  exact pe_call F (hr.mono hle) hg m kp b .nil pass0 ha hdb hs hplain
theorem pe_cal0 {X : Cx} {k j : Nat} {x : Str} {ps : List Str} {sp : Sp} {p pos : Pos} (C : Cal X.prog X.w X.K X.mg X.base k x ps sp) (hr : Room j X.A) (hle : k ≤ j := by first | exact Nat.le_refl _ | decide | omega) (hg : Gl X x := by rfl) (hdb : (x == ("__debug__" : Str)) = false := by decide) :
    PE X (.Call (.Name x p) [] [] pos) (tCall sp [] E0 tNil) := by
  obtain ⟨f, fd, F, b, kp, m⟩ := C.ex
  exact pe_call0 F (hr.mono hle) hg m kp b .nil pass0 hdb

/-- globals -/
def GI (mg : Str → Option Value) (x : Str) (n : Int) : Prop := ∃ t, mg x = some (.int n t)
def GS (mg : Str → Option Value) (x : Str) (z : Str) : Prop := ∃ t, mg x = some (.str z t)
/-- a tuple of the module's top -/
def GT (K : PySem.W.Frag) (mg : Str → Option Value) (x : Str) (xs : List V) : Prop := ∃ a, mg x = some (.ref a) ∧ ∀ H, SqT K H a xs
theorem pe_gi {X : Cx} {x : Str} {n : Int} {pos : Pos} (g : GI X.mg x n) (hg : Gl X x := by rfl) (hd : (x == ("__debug__" : Str)) = false := by decide) : PE X (.Name x pos) (tC (.int n)) := by
  obtain ⟨t, m⟩ := g
  exact pe_glob hg m ⟨t, rfl⟩ hd
theorem pe_gs {X : Cx} {x : Str} {z : Str} {pos : Pos} (g : GS X.mg x z) (hg : Gl X x := by rfl) (hd : (x == ("__debug__" : Str)) = false := by decide) : PE X (.Name x pos) (tC (.str z)) := by
  obtain ⟨t, m⟩ := g
  exact pe_glob hg m ⟨t, rfl⟩ hd
def tGT (K : PySem.W.Frag) (xs : List V) : TE := fun _ H Q => ∀ a, (∀ H', SqT K H' a xs) → Q (.ref a) H
theorem pe_gt {X : Cx} {x : Str} {xs : List V} {pos : Pos} (g : GT X.K X.mg x xs) (hg : Gl X x := by rfl) (hd : (x == ("__debug__" : Str)) = false := by decide) : PE X (.Name x pos) (tGT X.K xs) := by
  obtain ⟨a, m, h⟩ := g
  exact ⟨fun pins s σ H Q I q => (pe_glob (v := .ref a) hg m rfl hd).run pins s σ H Q I (q a h)⟩

/-- the built-in names that the program leaves as they are -/
structure Nb (mg : Str → Option Value) : Prop where
  len : mg "len" = none
  list : mg "list" = none
  int : mg "int" = none
  isinstance : mg "isinstance" = none
  range : mg "range" = none
  zip : mg "zip" = none
  all : mg "all" = none
  any : mg "any" = none
  tuple : mg "tuple" = none
  str : mg "str" = none
  dict : mg "dict" = none
  bool : mg "bool" = none
  sorted : mg "sorted" = none
  min : mg "min" = none
  max : mg "max" = none
  set : mg "set" = none
  enumerate : mg "enumerate" = none
  sum : mg "sum" = none

/-! ### promises in two shapes -/
/-- hands back z, all that stood stands -/
def spV (ok : List V → Hp → V → Prop) : Sp := fun vs H Q _ => ∃ z, ok vs H z ∧ ∀ H', Ex H H' → Q z H'
/-- hands back a new list -/
def spL (ok : List V → Hp → List V → Prop) : Sp := fun vs H Q _ => ∃ xs, ok vs H xs ∧ RetL xs H Q
section
variable {σ : L2.St} {H : Hp} {ta : TA} {te : TE} {vs xs : List V} {z v : V}
theorem ev_cal {ok : List V → Hp → V → Prop} (h : EvA ta σ H vs) (hk : ∀ H1, Ex H H1 → ok vs H1 z) : Ev (tCall (spV ok) [] E0 ta) σ H z :=
  ev_call h fun H1 e Q q E => ⟨z, by rw [List.append_nil]; exact hk H1 e, fun H2 e2 => q H2 e2⟩
theorem el_cal {ok : List V → Hp → List V → Prop} (h : EvA ta σ H vs) (hk : ∀ H1, Ex H H1 → ok vs H1 xs) : EvL (tCall (spL ok) [] E0 ta) σ H xs :=
  el_call h fun H1 e Q q E => ⟨xs, by rw [List.append_nil]; exact hk H1 e, fun p H2 hp e2 h2 => q p H2 hp e2 h2⟩
/-- a global tuple -/
theorem ev_gt {K : PySem.W.Frag} {ys : List V} {Q : VK} {H : Hp} (q : ∀ a, (∀ H', SqT K H' a ys) → Q (.ref a) H) : tGT K ys σ H Q := q
/-- natural numbers -/
theorem ev_cn (n : Nat) : Ev (tC (.int (n : Int))) σ H (.int (n : Int)) := ev_c
theorem ev_v {i : Nat} (h : σ[i]? = some (some v)) : Ev (tVar i) σ H v := ev_var h
theorem rv_is {r : R2} {x y z z' : V} {H : Hp} (h : RV r x y H z) (e : z = z') : RV r x y H z' := by
  rw [← e]
  exact h
theorem rv_addN {a b : Nat} : RV (rI0 fun i j => .int (i + j)) (.int (a : Int)) (.int (b : Int)) H (.int ((a + b : Nat) : Int)) := rv_is rv_I0 (congrArg V.int (Int.natCast_add a b).symm)
theorem rv_subN {a b : Nat} (h : b ≤ a) : RV (rI0 fun i j => .int (i - j)) (.int (a : Int)) (.int (b : Int)) H (.int ((a - b : Nat) : Int)) := rv_is rv_I0 (congrArg V.int (Int.ofNat_sub h).symm)
theorem toNatOr (a b : Nat) : Builtin.bitOr (a : Int) (b : Int) = ((a ||| b : Nat) : Int) := Bits.bitOr_pp (Int.natCast_nonneg _) (Int.natCast_nonneg _)
theorem bitAndN (a b : Nat) : Builtin.bitAnd (a : Int) (b : Int) = ((a &&& b : Nat) : Int) := by
  rw [bitAnd_pp (Int.natCast_nonneg _) (Int.natCast_nonneg _), Int.toNat_natCast, Int.toNat_natCast]
theorem bitOrN (a b : Nat) : Builtin.bitOr (a : Int) (b : Int) = ((a ||| b : Nat) : Int) := toNatOr a b
theorem bitXorN (a b : Nat) : Builtin.bitXor (a : Int) (b : Int) = ((a ^^^ b : Nat) : Int) := Bits.bitXor_pp (Int.natCast_nonneg _) (Int.natCast_nonneg _)
theorem rv_andN {a b : Nat} : RV (rI0 fun i j => .int (Builtin.bitAnd i j)) (.int (a : Int)) (.int (b : Int)) H (.int ((a &&& b : Nat) : Int)) := rv_is rv_I0 (congrArg V.int (bitAndN a b))
theorem rv_orN {a b : Nat} : RV (rI0 fun i j => .int (Builtin.bitOr i j)) (.int (a : Int)) (.int (b : Int)) H (.int ((a ||| b : Nat) : Int)) := rv_is rv_I0 (congrArg V.int (bitOrN a b))
theorem rv_xorN {a b : Nat} : RV (rI0 fun i j => .int (Builtin.bitXor i j)) (.int (a : Int)) (.int (b : Int)) H (.int ((a ^^^ b : Nat) : Int)) := rv_is rv_I0 (congrArg V.int (bitXorN a b))
theorem shlN (a b : Nat) : (a : Int) * 2 ^ (b : Int).toNat = ((a <<< b : Nat) : Int) := by
  rw [Int.toNat_natCast, Nat.shiftLeft_eq, Int.natCast_mul, Int.natCast_pow]; rfl
theorem shrN (a b : Nat) : (a : Int) / 2 ^ (b : Int).toNat = ((a >>> b : Nat) : Int) := by
  rw [Int.toNat_natCast, Nat.shiftRight_eq_div_pow, Int.natCast_ediv, Int.natCast_pow]; rfl
theorem rv_shlN {a b : Nat} (ha : a < 2 ^ 64) (hb : b ≤ 1000000) : RV (rI CPow fun i j => .int (i * 2 ^ j.toNat)) (.int (a : Int)) (.int (b : Int)) H (.int ((a <<< b : Nat) : Int)) :=
  rv_is (rv_I ⟨Int.natCast_nonneg _, by omega, by rw [Int.natAbs_natCast]; exact ha⟩) (congrArg V.int (shlN a b))
theorem rv_shrN {a b : Nat} : RV (rI (fun _ j => 0 ≤ j) fun i j => .int (i / 2 ^ j.toNat)) (.int (a : Int)) (.int (b : Int)) H (.int ((a >>> b : Nat) : Int)) :=
  rv_is (rv_I (Int.natCast_nonneg _)) (congrArg V.int (shrN a b))
theorem cmulN {a b : Nat} (h : a < 2 ^ 64 ∨ b < 2 ^ 64) : CMul (a : Int) (b : Int) := by
  unfold CMul
  have t : ((2 : Int) ^ 64) = ((2 ^ 64 : Nat) : Int) := by rfl
  rcases h with h | h
  · left; rw [t]; constructor <;> omega
  · right; rw [t]; constructor <;> omega
theorem rv_mulN {a b : Nat} (h : a < 2 ^ 64 ∨ b < 2 ^ 64) : RV (rI CMul fun i j => .int (i * j)) (.int (a : Int)) (.int (b : Int)) H (.int ((a * b : Nat) : Int)) := rv_is (rv_I (cmulN h)) (congrArg V.int (Int.natCast_mul a b).symm)
theorem rv_modN {a b : Nat} (h : 0 < b) : RV (rI (fun _ j => 0 < j) fun i j => .int (i % j)) (.int (a : Int)) (.int (b : Int)) H (.int ((a % b : Nat) : Int)) := rv_is (rv_I (show (0:Int) < (b:Int) by omega)) (congrArg V.int (Int.natCast_emod a b).symm)
theorem rv_divN {a b : Nat} (h : 0 < b) (hb : b < 1073741824) : RV (rI CDiv fun i j => .int (i / j)) (.int (a : Int)) (.int (b : Int)) H (.int ((a / b : Nat) : Int)) := rv_is (rv_I ⟨by omega, by omega⟩) (congrArg V.int (Int.natCast_ediv a b).symm)
theorem rv_divWN {a b n : Nat} (h : 0 < b) (hb : b < 2 ^ n) (h0 : 0 < n) (h9 : n ≤ 9000) : RV (rI CDivW fun i j => .int (i / j)) (.int (a : Int)) (.int (b : Int)) H (.int ((a / b : Nat) : Int)) :=
  rv_is (rv_I (wide_div (by omega) (by rw [Int.natAbs_natCast]; exact hb) h0 h9)) (congrArg V.int (Int.natCast_ediv a b).symm)
theorem rv_mulWN {a b n m : Nat} (ha : a < 2 ^ n) (hb : b < 2 ^ m) (h0 : 0 < n) (h1 : 0 < m) (h : n + m ≤ 1000000) : RV (rI CMulW fun i j => .int (i * j)) (.int (a : Int)) (.int (b : Int)) H (.int ((a * b : Nat) : Int)) :=
  rv_is (rv_I (wide_mul (by rw [Int.natAbs_natCast]; exact ha) (by rw [Int.natAbs_natCast]; exact hb) h0 h1 h)) (congrArg V.int (Int.natCast_mul a b).symm)
/-- an item of a list that is known -/
theorem rv_ixLn {K : PySem.W.Frag} {p : Addr} {xs : List V} {i : Nat} (h : SqL K H p xs) (ha : xs[i]? = some v) : RV (rIxL K) (.ref p) (.int (i : Int)) H v := rv_ixL h (atI_nat ha)
theorem rv_ixTn {K : PySem.W.Frag} {p : Addr} {xs : List V} {i : Nat} (h : SqT K H p xs) (ha : xs[i]? = some v) : RV (rIxT K) (.ref p) (.int (i : Int)) H v := rv_ixT h (atI_nat ha)
end
/-- int(x) of an int -/
theorem ev_int {σ : L2.St} {H : Hp} {te : TE} {i : Int} (h : Ev te σ H (.int i)) : Ev (tCB (fun xs H Q => (∃ i, xs = [.int i] ∧ Q (.int i) H) ∨ ∃ k, xs = [.bl k] ∧ Q (.int (if k then 1 else 0)) H) (tCons te tNil)) σ H (.int i) := fun H1 e Q q =>
  h H1 e _ fun H2 e2 => .inl ⟨i, rfl, q H2 e2⟩

/-! ### evaluating to something of which P is known (P stays as the heap grows) -/
def EvP (te : TE) (σ : L2.St) (H : Hp) (P : V → Hp → Prop) : Prop := ∀ H1, Ex H H1 → ∀ Q : VK, (∀ v H2, Ex H1 H2 → P v H2 → Q v H2) → te σ H1 Q
def EvAP (ta : TA) (σ : L2.St) (H : Hp) (P : List V → Hp → Prop) : Prop := ∀ H1, Ex H H1 → ∀ Q : List V → Hp → Prop, (∀ vs H2, Ex H1 H2 → P vs H2 → Q vs H2) → ta σ H1 Q
section
variable {σ : L2.St} {H H' : Hp} {ta tr : TA} {te : TE} {xs : List V} {x z v : V} {P : List V → Hp → Prop}
theorem EvP.mono {P : V → Hp → Prop} (e : Ex H H') (h : EvP te σ H P) : EvP te σ H' P := fun H1 a Q q => h H1 (e.trans a) Q q
theorem EvAP.mono (e : Ex H H') (h : EvAP ta σ H P) : EvAP ta σ H' P := fun H1 a Q q => h H1 (e.trans a) Q q
theorem evp_v (h : Ev te σ H v) : EvP te σ H (fun u _ => u = v) := fun H1 e Q q => h H1 e Q fun H2 e2 => q v H2 e2 rfl
theorem evp_l (h : EvL te σ H xs) : EvP te σ H (fun u H' => ∃ p, u = .ref p ∧ H' p = some (.lst xs)) := fun H1 e Q q => h H1 e Q fun p H2 _ e2 hp => q _ H2 e2 ⟨p, rfl, hp⟩
theorem evp_u (h : EvU te σ H xs) : EvP te σ H (fun u H' => ∃ p, u = .ref p ∧ H' p = some (.tup xs)) := fun H1 e Q q => h H1 e Q fun p H2 _ e2 hp => q _ H2 e2 ⟨p, rfl, hp⟩
theorem evp_gt {K : PySem.W.Frag} : EvP (tGT K xs) σ H (fun u _ => ∃ a, u = .ref a ∧ ∀ H', SqT K H' a xs) := fun H1 e Q q => fun a h => q _ H1 (Ex.refl H1) ⟨a, rfl, h⟩
theorem eap_nil : EvAP tNil σ H (fun vs _ => vs = []) := fun H1 _ Q q => q [] H1 (Ex.refl H1) rfl
theorem eap_v (h : Ev te σ H x) (hr : EvAP tr σ H P) : EvAP (tCons te tr) σ H (fun vs H' => ∃ r, vs = x :: r ∧ P r H') := fun H1 e Q q =>
  h H1 e _ fun H2 e2 => hr H2 (e.trans e2) _ fun r H3 e3 p => q _ H3 (e2.trans e3) ⟨r, rfl, p⟩
theorem eap_l (h : EvL te σ H xs) (hr : EvAP tr σ H P) : EvAP (tCons te tr) σ H (fun vs H' => ∃ a r, vs = .ref a :: r ∧ H' a = some (.lst xs) ∧ P r H') := fun H1 e Q q =>
  h H1 e _ fun a H2 _ e2 ha => hr H2 (e.trans e2) _ fun r H3 e3 p => q _ H3 (e2.trans e3) ⟨a, r, rfl, e3 a _ ha, p⟩
theorem eap_u (h : EvU te σ H xs) (hr : EvAP tr σ H P) : EvAP (tCons te tr) σ H (fun vs H' => ∃ a r, vs = .ref a :: r ∧ H' a = some (.tup xs) ∧ P r H') := fun H1 e Q q =>
  h H1 e _ fun a H2 _ e2 ha => hr H2 (e.trans e2) _ fun r H3 e3 p => q _ H3 (e2.trans e3) ⟨a, r, rfl, e3 a _ ha, p⟩
theorem ev_calP {ok : List V → Hp → V → Prop} (h : EvAP ta σ H P) (hk : ∀ vs H1, Ex H H1 → P vs H1 → ok vs H1 z) : Ev (tCall (spV ok) [] E0 ta) σ H z := fun H1 e Q q =>
  h H1 e _ fun vs H2 e2 p => ⟨z, by rw [List.append_nil]; exact hk vs H2 (e.trans e2) p, fun H3 e3 => q H3 (e2.trans e3)⟩
theorem el_calP {ok : List V → Hp → List V → Prop} (h : EvAP ta σ H P) (hk : ∀ vs H1, Ex H H1 → P vs H1 → ok vs H1 xs) : EvL (tCall (spL ok) [] E0 ta) σ H xs := fun H1 e Q q =>
  h H1 e _ fun vs H2 e2 p => ⟨xs, by rw [List.append_nil]; exact hk vs H2 (e.trans e2) p, fun a H3 ha e3 h3 => q a H3 (fresh_back e2 ha) (e2.trans e3) h3⟩
end

/-! ### lists of natural numbers; ranges in natural numbers; lists joined -/
def nats (xs : List Nat) : List V := xs.map fun n : Nat => V.int (n : Int)
theorem nats_len (xs : List Nat) : (nats xs).length = xs.length := List.length_map _
theorem nats_get {xs : List Nat} {i : Nat} (h : i < xs.length) : (nats xs)[i]? = some (.int ((xs.getD i 0 : Nat) : Int)) := by
  unfold nats
  rw [List.getElem?_map, List.getElem?_eq_getElem h, List.getD_eq_getElem?_getD, List.getElem?_eq_getElem h]
  rfl
theorem nats_app (xs ys : List Nat) : nats (xs ++ ys) = nats xs ++ nats ys := List.map_append
section
variable {K : PySem.W.Frag} {σ : L2.St} {H H' : Hp} {ta tb te : TE} {xs ys : List V} {x z v : V} {p : Addr} {D : Ends} {tu tz : TS}
theorem ev_ixL {j : Nat} (ha : Ev ta σ H (.ref p)) (hb : Ev tb σ H (.int (j : Int))) (hS : SqL K H p xs) (hx : xs[j]? = some v) : Ev (tOp (rIxL K) ta tb) σ H v := ev_op ha hb (rv_ixLn hS hx)
theorem ev_ixT {j : Nat} (ha : Ev ta σ H (.ref p)) (hb : Ev tb σ H (.int (j : Int))) (hS : SqT K H p xs) (hx : xs[j]? = some v) : Ev (tOp (rIxT K) ta tb) σ H v := ev_op ha hb (rv_ixTn hS hx)
theorem s_forR1N {ta : TA} {j n : Nat} (h : EvA ta σ H [.int (n : Int)]) (hn : n ≤ 100000) (Pv : Nat → L2.St → Hp → Prop) (h0 : ∀ H1, Ex H H1 → Pv 0 σ H1)
    (hs : ∀ (i : Nat) σ' H', i < n → Pv i σ' H' → tu { D with nx := Pv (i + 1), ct := Pv (i + 1), bk := D.nx } (σ'.set j (some (.int (i : Int)))) H') (hd : ∀ σ' H', Pv n σ' H' → D.nx σ' H') : tFor (iRng1 ta) (gName j) tu D σ H :=
  s_forR1 h (by omega) Pv h0 (fun i σ' H' hi => hs i σ' H' (by omega)) (by rw [Int.toNat_natCast]; exact hd)
theorem q_forR1N {ta : TA} {j n : Nat} (h : EvA ta σ H [.int (n : Int)]) (hn : n ≤ 100000) (Pv : Nat → L2.St → Hp → Prop) (h0 : ∀ H1, Ex H H1 → Pv 0 σ H1)
    (hs : ∀ (i : Nat) σ' H', i < n → Pv i σ' H' → tu { D with nx := Pv (i + 1), ct := Pv (i + 1), bk := tz D } (σ'.set j (some (.int (i : Int)))) H') (hd : ∀ σ' H', Pv n σ' H' → tz D σ' H') : tSeq (tFor (iRng1 ta) (gName j) tu) tz D σ H :=
  s_forR1N (D := { D with nx := tz D }) h hn Pv h0 hs hd
theorem s_forR2N {ta : TA} {j lo n : Nat} (h : EvA ta σ H [.int (lo : Int), .int (n : Int)]) (hn : lo ≤ 100000 ∧ n ≤ 100000) (Pv : Nat → L2.St → Hp → Prop) (h0 : ∀ H1, Ex H H1 → Pv 0 σ H1)
    (hs : ∀ (i : Nat) σ' H', lo + i < n → Pv i σ' H' → tu { D with nx := Pv (i + 1), ct := Pv (i + 1), bk := D.nx } (σ'.set j (some (.int ((lo + i : Nat) : Int)))) H') (hd : ∀ σ' H', Pv (n - lo) σ' H' → D.nx σ' H') : tFor (iRng2 ta) (gName j) tu D σ H :=
  s_forR2 h (by omega) Pv h0 (fun i σ' H' hi p => by
    have e := hs i σ' H' (by omega) p
    rw [Int.natCast_add] at e
    exact e) (by rw [show ((n : Int) - (lo : Int)).toNat = n - lo by omega]; exact hd)
theorem q_forR2N {ta : TA} {j lo n : Nat} (h : EvA ta σ H [.int (lo : Int), .int (n : Int)]) (hn : lo ≤ 100000 ∧ n ≤ 100000) (Pv : Nat → L2.St → Hp → Prop) (h0 : ∀ H1, Ex H H1 → Pv 0 σ H1)
    (hs : ∀ (i : Nat) σ' H', lo + i < n → Pv i σ' H' → tu { D with nx := Pv (i + 1), ct := Pv (i + 1), bk := tz D } (σ'.set j (some (.int ((lo + i : Nat) : Int)))) H') (hd : ∀ σ' H', Pv (n - lo) σ' H' → tz D σ' H') : tSeq (tFor (iRng2 ta) (gName j) tu) tz D σ H :=
  s_forR2N (D := { D with nx := tz D }) h hn Pv h0 hs hd
/-- a list that stands, or a new one -/
def IsL (xs : List V) : V → Hp → Prop := fun u H' => ∃ p, u = .ref p ∧ H' p = some (.lst xs)
theorem evl_n (h : EvL te σ H xs) : EvP te σ H (IsL xs) := evp_l h
theorem evl_k (h : Ev te σ H (.ref p)) (hp : H p = some (.lst xs)) : EvP te σ H (IsL xs) := fun H1 e Q q => h H1 e Q fun H2 e2 => q _ H2 e2 ⟨p, rfl, e2 p _ (e p _ hp)⟩
theorem el_cat (ha : EvP ta σ H (IsL xs)) (hb : EvP tb σ H (IsL ys)) (hz : xs.length + ys.length ≤ 100000) : EvL (tOp rCat ta tb) σ H (xs ++ ys) := fun H1 e Q q =>
  ha H1 e _ fun u H2 e2 ⟨p, hu, hp⟩ => hb H2 (e.trans e2) _ fun u2 H3 e3 ⟨p2, hu2, hp2⟩ => ⟨p, p2, xs, ys, hu, hu2, e3 p _ hp, hp2, sz_of hz, fun l hl =>
    q l _ (fresh_back (e2.trans e3) hl) ((e2.trans e3).trans (Ex.new hl)) upd_same⟩
theorem el_rep {k : Nat} (ha : EvP ta σ H (IsL xs)) (hb : Ev tb σ H (.int (k : Int))) (hk : k ≤ 100000) (hz : xs.length * k ≤ 100000) : EvL (tOp rRep ta tb) σ H (List.replicate k xs).flatten := fun H1 e Q q =>
  ha H1 e _ fun u H2 e2 ⟨p, hu, hp⟩ => hb H2 (e.trans e2) _ fun H3 e3 => ⟨p, k, xs, hu, rfl, e3 p _ hp, by omega, by omega, by rw [Int.toNat_natCast]; exact sz_of hz, fun l hl => by
    rw [Int.toNat_natCast]
    exact q l _ (fresh_back (e2.trans e3) hl) ((e2.trans e3).trans (Ex.new hl)) upd_same⟩
theorem el_listP (ha : EvP ta σ H (IsL xs)) : EvL (tCB (rListS K) (tCons ta tNil)) σ H xs := fun H1 e Q q =>
  ha H1 e _ fun u H2 e2 ⟨p, hu, hp⟩ => ⟨p, xs, by rw [hu], Or.inl (sq_of hp), fun l hl => q l _ (fresh_back e2 hl) (e2.trans (Ex.new hl)) upd_same⟩
end

/-! ### slices -/
theorem cutV_take (xs : List V) (n : Nat) : cutV xs none (some (n : Int)) = xs.take n := by
  unfold cutV
  rw [HT.sIx_nat, HT.sIx_none, List.drop_zero, Nat.sub_zero]
  by_cases h : n ≤ xs.length
  · rw [Nat.min_eq_left h]
  · rw [Nat.min_eq_right (by omega), List.take_of_length_le (Nat.le_refl _), List.take_of_length_le (by omega)]
theorem cutV_drop (xs : List V) (n : Nat) : cutV xs (some (n : Int)) none = xs.drop n := by
  unfold cutV
  rw [HT.sIx_nat, HT.sIx_none]
  by_cases h : n ≤ xs.length
  · rw [Nat.min_eq_left h, List.take_of_length_le (by rw [List.length_drop]; omega)]
  · rw [Nat.min_eq_right (by omega), List.drop_of_length_le (Nat.le_refl _), List.drop_of_length_le (show xs.length ≤ n by omega), List.take_nil]
theorem cutV_mid (xs : List V) (n m : Nat) (h : n ≤ xs.length) : cutV xs (some (n : Int)) (some (m : Int)) = (xs.drop n).take (m - n) := by
  unfold cutV
  rw [HT.sIx_nat, HT.sIx_nat, Nat.min_eq_left h]
  by_cases h2 : m ≤ xs.length
  · rw [Nat.min_eq_left h2]
  · rw [Nat.min_eq_right (by omega), List.take_of_length_le (by rw [List.length_drop]; omega), List.take_of_length_le (by rw [List.length_drop]; omega)]
theorem nats_take (xs : List Nat) (n : Nat) : nats (xs.take n) = (nats xs).take n := by unfold nats; rw [List.map_take]
theorem nats_drop (xs : List Nat) (n : Nat) : nats (xs.drop n) = (nats xs).drop n := by unfold nats; rw [List.map_drop]

/-! ### texts by their codes -/
def tx (l : List Nat) : Str := ⟨l.toArray⟩
theorem tx_app (a b : List Nat) : tx a ++ tx b = tx (a ++ b) := by
  show (⟨a.toArray ++ b.toArray⟩ : Str) = _
  unfold tx
  rw [List.append_toArray]
theorem tx_len (a : List Nat) : (tx a).length = a.length := List.size_toArray
theorem tx_list (a : List Nat) : (tx a).cps.toList = a := rfl
theorem tx_of (z : Str) : z = tx z.cps.toList := rfl
theorem tx_inj {a b : List Nat} (h : tx a = tx b) : a = b := by
  have := congrArg (fun z : Str => z.cps.toList) h
  exact this
section
variable {σ : L2.St} {H H' : Hp} {ta tb te : TE} {xs ys : List V} {x z v : V} {p : Addr} {D : Ends} {tu tz : TS}
theorem ev_cs {s : Str} (l : List Nat) (h : s = tx l) : Ev (tC (.str s)) σ H (.str (tx l)) := ev_is ev_c (by rw [h])
theorem rv_addS {a b : List Nat} (h : a.length + b.length ≤ 100000) : RV (fun x y H Q => ∃ i j, x = .str i ∧ y = .str j ∧ i.length + j.length ≤ sizeLine ∧ Q (.str (i ++ j)) H) (.str (tx a)) (.str (tx b)) H (.str (tx (a ++ b))) := fun H1 _ _ q =>
  ⟨tx a, tx b, rfl, rfl, by rw [tx_len, tx_len]; exact sz_of h, by rw [tx_app]; exact q H1 (Ex.refl H1)⟩
theorem rv_ixSn {l : List Nat} {i c : Nat} (h : l.length ≤ 100000) (hi : l[i]? = some c) : RV rIxS (.str (tx l)) (.int (i : Int)) H (.str (tx [c])) := rv_ixS (by rw [tx_len]; exact h) (atI_nat (by rw [tx_list]; exact hi))
theorem range_map {α β : Type} (xs : List α) (d : α) (g : α → β) : (List.range xs.length).map (fun i => g (xs.getD i d)) = xs.map g := by
  refine List.ext_getElem? fun i => ?_
  rw [List.getElem?_map, List.getElem?_map]
  by_cases h : i < xs.length
  · rw [List.getElem?_range h, List.getElem?_eq_getElem h]
    simp [List.getD_eq_getElem?_getD, List.getElem?_eq_getElem h]
  · rw [List.getElem?_eq_none (by rw [List.length_range]; omega), List.getElem?_eq_none (by omega)]
    rfl
theorem given_all (n : Nat) (v : Nat → V) : given n (fun _ => true) v = (List.range n).map v := by
  unfold given
  rw [List.filter_eq_self.mpr fun _ _ => rfl]
theorem given_nats (xs : List Nat) (g : Nat → Nat) : given xs.length (fun _ => true) (fun i => .int (g (xs.getD i 0) : Nat)) = nats (xs.map g) := by
  rw [given_all]
  unfold nats
  rw [List.map_map]
  exact range_map xs 0 fun n => V.int (g n : Nat)
theorem et_yes : EvT tYes σ H true := fun H1 _ Q q => q H1 (Ex.refl H1)
theorem rep_one (k n : Nat) : (List.replicate k (nats [n])).flatten = nats (List.replicate k n) := by
  induction k with
  | zero => rfl
  | succ k ih =>
    rw [List.replicate_succ, List.flatten_cons, ih, List.replicate_succ]
    rfl
theorem getD_of {xs : List Nat} {i : Nat} {x : V} (h : (nats xs)[i]? = some x) : x = .int ((xs.getD i 0 : Nat) : Int) ∧ i < xs.length := by
  have hi : i < xs.length := by
    have := (List.getElem?_eq_some_iff.mp h).1
    rw [nats_len] at this
    exact this
  rw [nats_get hi] at h
  exact ⟨(Option.some.inj h).symm, hi⟩
theorem getD_mem {xs : List Nat} {i : Nat} (h : i < xs.length) : xs.getD i 0 ∈ xs := by
  rw [List.getD_eq_getElem?_getD, List.getElem?_eq_getElem h]
  exact List.getElem_mem h
/-- an argument that is a list that stands or a new one -/
theorem eap_p {te : TE} {tr : TA} {P1 : V → Hp → Prop} {P : List V → Hp → Prop} (h : EvP te σ H P1) (hm : ∀ v H1 H2, Ex H1 H2 → P1 v H1 → P1 v H2) (hr : EvAP tr σ H P) : EvAP (tCons te tr) σ H (fun vs H' => ∃ v r, vs = v :: r ∧ P1 v H' ∧ P r H') := fun H1 e Q q =>
  h H1 e _ fun v H2 e2 p1 => hr H2 (e.trans e2) _ fun r H3 e3 p => q _ H3 (e2.trans e3) ⟨v, r, rfl, hm _ _ _ e3 p1, p⟩
theorem IsL.mono {v : V} {H1 H2 : Hp} (e : Ex H1 H2) (h : IsL xs v H1) : IsL xs v H2 := by
  obtain ⟨p, rfl, hp⟩ := h
  exact ⟨p, rfl, e p _ hp⟩
end
end My

set_option Elab.async false
set_option linter.all false
set_option maxRecDepth 100000
set_option maxHeartbeats 1000000
/-! zip(v1, v2, strict=True) over two of one length: made, drawn, ended. -/
namespace My
open PySem PySem.Spec PyProof.Rows L2 Evl Builtin.SmallTypes
section
variable {prog : Program} {w : World} {A : Around} {E : Value → Shared → Prop} {s : Shared} {it : Addr} {fp : List Addr} {n i : Nat} {P : Nat → Value → Prop} {St : Nat → Heap → Prop}
theorem orEnd_item {Q : Option Value → Shared → Prop} (D : Draws prog w A it fp n P St) (hi : i < n) (st : St i s.heap)
    (h : ∀ x h' tk, P i x → St (i + 1) h' → Heap.SameBut it s.heap h' → Q (some x) { s with heap := h', toks := tk }) : wpAny (model prog w) A (nextOrEnd (.ref it)) Q E s := by
  unfold nextOrEnd
  exact wpAny_bind (wpAny_attempt (D.item i s _ _ hi st fun x h' tk p q b => wpAny_pure (h x h' tk p q b)))
theorem orEnd_done {Q : Option Value → Shared → Prop} (D : Draws prog w A it fp n P St) (st : St n s.heap)
    (h : ∀ h', Heap.ExtBut it s.heap h' → Q none { s with heap := h' }) : wpAny (model prog w) A (nextOrEnd (.ref it)) Q E s := by
  unfold nextOrEnd
  refine wpAny_bind (wpAny_attempt (D.done s _ _ st fun h' e x y => ?_))
  obtain ⟨o, ho, hc⟩ := y
  exact wpAny_bind (wpAny_isInstance (T := "StopIteration") (b := true) ⟨o, ho, hc⟩ isSubtype_stop (wpAny_pure (h h' x)))
end
/-- a strict zip object -/
abbrev IsZipS (h : Heap) (z TI TO : Addr) (f0 : Value) : Prop :=
  h.get? z = some { cls := .type "zip", dict := none, data := .fields #[f0, .bool false, .bool true, .ref TI, .ref TO], slots := #[] }

section
variable {prog : Program} {w : World} {A : Around} {E : Value → Shared → Prop} {s : Shared} {z TI TO i1 i2 : Addr} {fp1 fp2 : List Addr} {n i : Nat} {P1 P2 : Nat → Value → Prop} {St1 St2 : Nat → Heap → Prop} {a1 a2 : Value}
/-- one draw from both -/
theorem zs_item {Q : Value → Shared → Prop} (S : ZipSep2 z TI TO i1 i2 fp1 fp2) (D1 : Draws prog w A i1 fp1 n P1 St1) (D2 : Draws prog w A i2 fp2 n P2 St2)
    (hz : IsZipS s.heap z TI TO .none) (hTI : IsTupOf2 s.heap TI (.ref i1) (.ref i2)) (hTO : IsTupOf2 s.heap TO a1 a2) (st1 : St1 i s.heap) (st2 : St2 i s.heap) (hlt : i < n)
    (hQ : ∀ x1 x2 h' tk, P1 i x1 → P2 i x2 → IsZipS h' z TI TO (rawInt s.heap.objs.size) → IsTupOf2 h' TO x1 x2 → St1 (i + 1) h' → St2 (i + 1) h' → IsTupOf2 h' s.heap.objs.size x1 x2 → h'.objs.size = s.heap.objs.size + 1 →
      (∀ c o, c ≠ z → c ≠ TO → c ≠ i1 → c ≠ i2 → s.heap.get? c = some o → h'.get? c = some o) → Q (.ref s.heap.objs.size) { s with heap := h', toks := tk }) :
    wpAny (model prog w) A (Builtin.«zip.__next__» ⟨[.ref z], []⟩) (fun fin s' => ∃ v, fin = .done (.ret v) ∧ Q v s') E s := by
  obtain ⟨hp, gs, dr, tk0, os⟩ := s
  show wpAny _ _ (field (.ref z) 2 >>= _) _ _ _
  refine wpAny_bind (wpAny_field hz rfl (x := .bool true) rfl ?_)
  show wpAny _ _ (field (.ref z) 3 >>= _) _ _ _
  refine wpAny_bind (wpAny_field hz rfl (x := .ref TI) rfl (wpAny_bind (wpAny_seqItems hTI rfl ?_)))
  show wpAny _ _ (ownedTupleIsFree (.ref z) >>= _) _ _ _
  refine wpAny_bind ?_
  unfold ownedTupleIsFree
  refine wpAny_bind (wpAny_field hz rfl (x := .none) rfl (wpAny_pure ?_))
  simp only [if_true]
  refine wpAny_bind (wpAny_rule (wpAny_bind (wpAny_field hz rfl (x := .ref TO) rfl (wpAny_bind (wpAny_setField_rec hz (by simp) fun g0 hz0 hs0 => ?_)))))
  replace hz0 : IsZipS g0 z TI TO .ellipsis := hz0
  replace hs0 : Heap.SameBut z hp g0 := hs0
  refine wpAny_bind ?_
  simp only [List.zipIdx_cons, List.zipIdx_nil, List.forIn_cons, List.forIn_nil]
  refine wpAny_bind (wpAny_bind (wpAny_onRaise ?_))
  show wpAny _ _ (nextOrEnd (.ref i1)) _ _ ⟨g0, gs, dr, tk0, os⟩
  refine orEnd_item D1 hlt (D1.over st1 hs0 S.zf1) fun x1 p1 tk1 hx1 sn1 hp1 => ?_
  replace hp1 : Heap.SameBut i1 g0 p1 := hp1
  have u1 : IsTupOf2 p1 TO a1 a2 := hp1.extBut _ _ S.Ti1 (hs0.extBut _ _ S.TOz hTO)
  refine wpAny_bind (wpAny_seqItems (s := ⟨p1, gs, dr, tk1, os⟩) u1 rfl (wpAny_bind (updateSeq_IsTupOf2 (s := ⟨p1, gs, dr, tk1, os⟩) u1 fun g1 t1 hs1 => ?_)))
  replace t1 : IsTupOf2 g1 TO x1 a2 := t1
  replace hs1 : Heap.SameBut TO p1 g1 := hs1
  refine wpAny_bind (wpAny_letGo (wpAny_pure (wpAny_bind (wpAny_bind (wpAny_onRaise ?_)))))
  show wpAny _ _ (nextOrEnd (.ref i2)) _ _ ⟨g1, gs, dr, tk1, os⟩
  refine orEnd_item D2 hlt (D2.over (D2.over (D2.over st2 hs0 S.zf2) hp1 S.sep1_2) hs1 S.Tf2) fun x2 p2 tk2 hx2 sn2 hp2 => ?_
  replace hp2 : Heap.SameBut i2 g1 p2 := hp2
  have u2 : IsTupOf2 p2 TO x1 a2 := hp2.extBut _ _ S.Ti2 t1
  refine wpAny_bind (wpAny_seqItems (s := ⟨p2, gs, dr, tk2, os⟩) u2 rfl (wpAny_bind (updateSeq_IsTupOf2 (s := ⟨p2, gs, dr, tk2, os⟩) u2 fun g2 t2 hs2 => ?_)))
  replace t2 : IsTupOf2 g2 TO x1 x2 := t2
  replace hs2 : Heap.SameBut TO p2 g2 := hs2
  refine wpAny_bind (wpAny_letGo (wpAny_pure (wpAny_pure (wpAny_bind (wpAny_seqItems (s := ⟨g2, gs, dr, tk2, os⟩) t2 rfl (wpAny_bind (wpAny_newTuple ?_)))))))
  have sz : g2.objs.size = hp.objs.size := by rw [hs2.1, hp2.1, hs1.1, hp1.1, hs0.1]
  have hzz : IsZipS g2 z TI TO .ellipsis := hs2.extBut _ _ S.TOz.symm (hp2.extBut _ _ S.zi2 (hs1.extBut _ _ S.TOz.symm (hp1.extBut _ _ S.zi1 hz0)))
  have kk : ∀ c o, c ≠ z → c ≠ TO → c ≠ i1 → c ≠ i2 → hp.get? c = some o → g2.get? c = some o := fun c o cz cT c1 c2 e => hs2.extBut _ _ cT (hp2.extBut _ _ c2 (hs1.extBut _ _ cT (hp1.extBut _ _ c1 (hs0.extBut _ _ cz e))))
  have j1 : St1 (i + 1) g2 := D1.over (D1.over (D1.over sn1 hs1 S.Tf1) hp2 S.sep2_1) hs2 S.Tf1
  have j2 : St2 (i + 1) g2 := D2.over sn2 hs2 S.Tf2
  have zlt : z < g2.objs.size := Heap.lt_size hzz
  show wpAny _ _ (ownedTupleHandOut (.ref z) (.ref g2.objs.size) >>= _) _ _ ⟨g2.push { cls := .type "tuple", data := .seq #[x1, x2] }, gs, dr, tk2, os⟩
  generalize ht : ({ cls := .type "tuple", data := .seq #[x1, x2] } : Obj) = ob
  refine wpAny_bind ?_
  unfold ownedTupleHandOut
  refine wpAny_bind (wpAny_setField_rec (Heap.get?_push_of_some ob hzz) (by simp) fun h7 hz7 hs7 => ?_)
  replace hz7 : IsZipS h7 z TI TO (rawInt g2.objs.size) := hz7
  replace hs7 : Heap.SameBut z (g2.push ob) h7 := hs7
  refine wpAny_setField_rec hz7 (by simp) fun h8 hz8 hs8 => ?_
  replace hz8 : IsZipS h8 z TI TO (rawInt g2.objs.size) := hz8
  replace hs8 : Heap.SameBut z h7 h8 := hs8
  have up : ∀ c o, c ≠ z → g2.get? c = some o → h8.get? c = some o := fun c o c1 e => hs8.extBut _ _ c1 (hs7.extBut _ _ c1 (Heap.get?_push_of_some _ e))
  have t8 : h8.get? g2.objs.size = some ob := hs8.extBut _ _ (Nat.ne_of_gt zlt) (hs7.extBut _ _ (Nat.ne_of_gt zlt) (Heap.get?_push_size _ (by rw [← ht]; rfl)))
  have s8 : h8.objs.size = g2.objs.size + 1 := by rw [hs8.1, hs7.1, Heap.size_push]
  rw [sz] at hz8 t8 s8
  rw [← ht] at t8
  refine wpAny_pure ⟨_, rfl, ?_⟩
  show Q (.ref g2.objs.size) ⟨h8, gs, dr, tk2, os⟩
  rw [sz]
  exact hQ x1 x2 h8 tk2 hx1 hx2 hz8 (up _ _ S.TOz t2) (D1.frame _ _ _ j1 fun b hb o e => up b o (fun q => S.zf1 (q ▸ hb)) e) (D2.frame _ _ _ j2 fun b hb o e => up b o (fun q => S.zf2 (q ▸ hb)) e) t8 s8 fun c o cz cT c1 c2 e => up c o cz (kk c o cz cT c1 c2 e)
/-- both are at their ends -/
theorem zs_end {Q : Fin → Shared → Prop} (hh : A.handled = none) (S : ZipSep2 z TI TO i1 i2 fp1 fp2) (D1 : Draws prog w A i1 fp1 n P1 St1) (D2 : Draws prog w A i2 fp2 n P2 St2)
    (hz : IsZipS s.heap z TI TO .none) (hTI : IsTupOf2 s.heap TI (.ref i1) (.ref i2)) (hTO : IsTupOf2 s.heap TO a1 a2) (st1 : St1 n s.heap) (st2 : St2 n s.heap)
    (hE : ∀ h' e, (∀ c o, c ≠ z → c ≠ TO → c ≠ i1 → c ≠ i2 → s.heap.get? c = some o → h'.get? c = some o) → (∃ o, h'.get? e = some o ∧ o.cls = .type "StopIteration") → E (.ref e) { s with heap := h' }) :
    wpAny (model prog w) A (Builtin.«zip.__next__» ⟨[.ref z], []⟩) Q E s := by
  obtain ⟨hp, gs, dr, tk0, os⟩ := s
  show wpAny _ _ (field (.ref z) 2 >>= _) _ _ _
  refine wpAny_bind (wpAny_field hz rfl (x := .bool true) rfl ?_)
  show wpAny _ _ (field (.ref z) 3 >>= _) _ _ _
  refine wpAny_bind (wpAny_field hz rfl (x := .ref TI) rfl (wpAny_bind (wpAny_seqItems hTI rfl ?_)))
  show wpAny _ _ (ownedTupleIsFree (.ref z) >>= _) _ _ _
  refine wpAny_bind ?_
  unfold ownedTupleIsFree
  refine wpAny_bind (wpAny_field hz rfl (x := .none) rfl (wpAny_pure ?_))
  simp only [if_true]
  refine wpAny_bind (wpAny_rule (wpAny_bind (wpAny_field hz rfl (x := .ref TO) rfl (wpAny_bind (wpAny_setField_rec hz (by simp) fun g0 hz0 hs0 => ?_)))))
  replace hz0 : IsZipS g0 z TI TO .ellipsis := hz0
  replace hs0 : Heap.SameBut z hp g0 := hs0
  refine wpAny_bind ?_
  simp only [List.zipIdx_cons, List.zipIdx_nil, List.forIn_cons, List.forIn_nil]
  refine wpAny_bind (wpAny_bind (wpAny_onRaise ?_))
  show wpAny _ _ (nextOrEnd (.ref i1)) _ _ ⟨g0, gs, dr, tk0, os⟩
  refine orEnd_done D1 (D1.over st1 hs0 S.zf1) fun p1 hp1 => ?_
  replace hp1 : Heap.ExtBut i1 g0 p1 := hp1
  have hz1 : IsZipS p1 z TI TO .ellipsis := hp1 _ _ S.zi1 hz0
  refine wpAny_bind (wpAny_setField_rec hz1 (by simp) fun g1 hz2 hs1 => ?_)
  replace hs1 : Heap.SameBut z p1 g1 := hs1
  refine wpAny_bind (wpAny_bind (wpAny_bind ?_))
  show wpAny _ _ (nextOrEnd (.ref i2) >>= _) _ _ ⟨g1, gs, dr, tk0, os⟩
  refine wpAny_bind (orEnd_done D2 (D2.over (D2.frame _ _ _ (D2.over st2 hs0 S.zf2) fun b hb o e => hp1 b o (fun q => S.sep1_2 (q ▸ hb)) e) hs1 S.zf2) fun p2 hp2 => ?_)
  replace hp2 : Heap.ExtBut i2 g1 p2 := hp2
  simp only [Option.isSome_none, Bool.false_eq_true, if_false]
  refine wpAny_pure (wpAny_pure (wpAny_bind (wpAny_rule ?_)))
  show wpAny _ _ (newExc (.type "StopIteration") [] >>= _) _ _ _
  refine wpAny_bind ?_
  simp only [newExc, newTuple]
  refine wpAny_bind (wpAny_newObj_type ?_ (by size_fits))
  refine wpAny_bind (m := firstArgMember _ _) (wpAny_of_eq (a := Value.none) (by first | rfl | (simp only [firstArgMember]; rfl)) ?_)
  refine wpAny_newObj_type ?_ (by size_fits)
  simp only [raiseNew]
  refine wpAny_bind (wpAny_handled ?_)
  rw [hh]
  refine wpAny_bind (wpAny_pure (wpAny_throw ?_))
  exact hE _ _ (fun c o cz cT c1 c2 e => Heap.get?_push_of_some _ (Heap.get?_push_of_some _ (hp2 _ _ c2 (hs1.extBut _ _ cz (hp1 _ _ c1 (hs0.extBut _ _ cz e)))))) ⟨_, Heap.get?_push_size _ rfl, rfl⟩
end

/-! ### sources: a list or a tuple -/
def SqB (K : PySem.W.Frag) (t : Bool) (H : Hp) (a : Addr) (xs : List V) : Prop := match t with | true => SqT K H a xs | false => SqL K H a xs
def ItB (t : Bool) (h : Heap) (it a : Addr) (i : Nat) : Prop := match t with | true => h.IsTupleIter it a i | false => h.IsListIter it a i
def SeB (t : Bool) (h : Heap) (a : Addr) (its : Array Value) : Prop := match t with | true => h.IsTuple a its | false => h.IsList a its
def oB (t : Bool) (a : Addr) : Obj := match t with | true => { cls := .type "tuple_iterator", data := .fields #[.ref a, .int 0 0] } | false => { cls := .type "list_iterator", data := .fields #[.ref a, .int 0 0] }
theorem beginsB (t : Bool) (a : Addr) (its : Array Value) : Begins (.ref a) (oB t a) fun h => SeB t h a its := by
  cases t
  · exact begins_list a its
  · exact begins_tuple a its
theorem oB_it (t : Bool) {h : Heap} {it a : Addr} (e : h.get? it = some (oB t a)) : ItB t h it a 0 := by
  cases t
  · exact ⟨_, e, rfl, rfl⟩
  · exact ⟨_, e, rfl, rfl⟩
theorem ItB.at {t : Bool} {h h' : Heap} {it a : Addr} {i : Nat} (x : ItB t h it a i) (k : ∀ o, h.get? it = some o → h'.get? it = some o) : ItB t h' it a i := by
  cases t
  · exact Heap.IsListIter.at x k
  · exact Heap.IsTupleIter.at x k
theorem ItB.obj {t : Bool} {h : Heap} {it a : Addr} {i : Nat} (x : ItB t h it a i) : ∃ o, h.get? it = some o ∧ ∀ v, o.data ≠ .cell v := by
  cases t
  · obtain ⟨o, e, _, d⟩ := x
    exact ⟨o, e, fun v q => by rw [d] at q; cases q⟩
  · obtain ⟨o, e, _, d⟩ := x
    exact ⟨o, e, fun v q => by rw [d] at q; cases q⟩
section
variable {prog : Program} {w : World} {A : Around}
theorem drawsB (hh : A.handled = none) (t : Bool) (it a : Addr) (ne : a ≠ it) (its : Array Value) : Draws prog w A it [it, a] its.size (fun i v => its[i]? = some v) (fun i h => ItB t h it a i ∧ SeB t h a its) := by
  cases t
  · exact Draws.list hh it a ne its
  · exact Draws.tuple hh it a ne its
end
section
variable {X : Cx} {pins : List (Addr × Obj)} {σ : L2.St} {H : Hp} {s : Shared} {a : Addr} {xs ys : List V} {t : Bool}
theorem sqB_inv (I : Inv X pins σ H s) (h : SqB X.K t H a xs) : ∃ its : List Value, Vals xs its ∧ SeB t s.heap a its.toArray ∧ a < s.heap.objs.size := by
  cases t
  · obtain ⟨its, r, p, _⟩ := I.list h
    exact ⟨its, r, p.isList, p.lt⟩
  · obtain ⟨its, r, p, _⟩ := I.tuple h
    exact ⟨its, r, p, p.lt⟩
theorem sqB_inj (I : Inv X pins σ H s) (h : SqB X.K t H a xs) (h' : SqB X.K t H a ys) : xs = ys := by
  cases t
  · exact I.list_inj h h'
  · exact I.tuple_inj h h'
end
/-- both sources as they stand at each turn, of one length -/
def Itzs (K : PySem.W.Frag) (t1 t2 : Bool) (a b : Addr) : It :=
  ⟨fun i H => ∃ (xs ys : List V) (x y : V), SqB K t1 H a xs ∧ SqB K t2 H b ys ∧ xs.length = ys.length ∧ xs[i]? = some x ∧ ys[i]? = some y,
    fun i H v H' => ∃ T x y, v = .ref T ∧ H T = none ∧ H' = upd H T (.tup [x, y]) ∧ (∀ xs, SqB K t1 H a xs → xs[i]? = some x) ∧ ∀ ys, SqB K t2 H b ys → ys[i]? = some y,
    fun i H => ∃ xs ys : List V, SqB K t1 H a xs ∧ SqB K t2 H b ys ∧ xs.length = i ∧ ys.length = i⟩
section
variable {prog : Program} {w : World} {A : Around} {E : Value → Shared → Prop} {s : Shared}
theorem zs_iter {z TI TO : Addr} {f0 : Value} {Q : Value → Shared → Prop} (hz : IsZipS s.heap z TI TO f0) (h : Q (.ref z) s) : wpAny (model prog w) A (pyIter (.ref z)) Q E s := by
  have hT : s.TypeIs (.ref z) "zip" := ⟨_, hz, rfl⟩
  refine wpAny_pyIter_slot hT F.slot_zip_iter (wpAny_call_entry F.slot_zip_iter hT F.entry_zip_iter ?_ (F.args_zip_iter_1 _))
  show wpAny _ _ (ret (.ref z)) _ _ s
  exact wpAny_pure ⟨_, rfl, "zip", _, hT, F.slot_zip_next.lookup, h⟩
theorem zs_go {elts : List Expr} {x1} {pos : Pos} {z TI TO T : Addr} {Q : Unit → Shared → Prop} (hz : IsZipS s.heap z TI TO (rawInt T)) (hQ : ∀ h', IsZipS h' z TI TO .none → Heap.SameBut z s.heap h' → Q () { s with heap := h' }) :
    wpAny (model prog w) A (letOwnedTupleGo (.Tuple elts x1 pos) (.ref z) (.ref T)) Q E s := by
  unfold letOwnedTupleGo
  refine wpAny_bind (wpAny_load hz ?_)
  show wpAny _ _ (if (["enumerate", "zip", "dict_itemiterator", "dict_reverseitemiterator", "odict_iterator", "itertools.zip_longest", "itertools.pairwise"].contains "zip" &&
      (#[rawInt T, .bool false, .bool true, .ref TI, .ref TO] : Array Value)[0]? == some (rawInt T)) = true then _ else _) Q E s
  rw [if_pos (by simp)]
  refine wpAny_bind (wpAny_rule ?_)
  show wpAny _ _ (setField (.ref z) 0 .none) Q E s
  exact wpAny_setField_rec hz (by simp) fun h' hz' hs' => hQ h' hz' hs'
end
theorem turn_zs {P : Program} {w : World} {K : PySem.W.Frag} {elts : List Expr} {kk : Nat} {tpos : Pos} {a b z TI TO i1 i2 : Addr} (t1 t2 : Bool) (S : ZipSep2 z TI TO i1 i2 [i1, a] [i2, b]) (ne1 : a ≠ i1) (ne2 : b ≠ i2) :
    Turn P w K (.Tuple elts kk tpos) (Itzs K t1 t2 a b) [z, TI, TO, i1, i2] z (fun i h => IsZipS h z TI TO .none ∧ IsTupOf2 h TI (.ref i1) (.ref i2) ∧ (∃ x y, IsTupOf2 h TO x y) ∧ ItB t1 h i1 a i ∧ ItB t2 h i2 b i) := by
  have five : ∀ {c}, c ∈ [z, TI, TO, i1, i2] → c = z ∨ c = TI ∨ c = TO ∨ c = i1 ∨ c = i2 := fun h => by simpa using h
  have nofive : ∀ {c}, c ∉ [z, TI, TO, i1, i2] → c ≠ z ∧ c ≠ TI ∧ c ≠ TO ∧ c ≠ i1 ∧ c ≠ i2 := fun h => by simpa using h
  refine
  { mem := by simp
    obj := fun i h st c hc => ?_
    keep := fun i h h' st k => ?_
    item := ?_
    done := ?_
    self := fun A i s Q E st h => zs_iter st.1 h }
  · obtain ⟨hz, hTI, ⟨x, y, hTO⟩, h1, h2⟩ := st
    rcases five hc with rfl | rfl | rfl | rfl | rfl
    · exact ⟨_, hz, fun v q => by cases q⟩
    · exact ⟨_, hTI, fun v q => by cases q⟩
    · exact ⟨_, hTO, fun v q => by cases q⟩
    · exact h1.obj
    · exact h2.obj
  · obtain ⟨hz, hTI, ⟨x, y, hTO⟩, h1, h2⟩ := st
    exact ⟨k z (by simp) _ hz, k TI (by simp) _ hTI, ⟨x, y, k TO (by simp) _ hTO⟩, h1.at fun o q => k i1 (by simp) o q, h2.at fun o q => k i2 (by simp) o q⟩
  · intro X hP hw hK hc i pins s σ H E I hf st hg
    subst hP hw hK
    obtain ⟨hz, hTI, ⟨x0, y0, hTO⟩, h1, h2⟩ := st
    obtain ⟨xs, ys, x, y, hqx, hqy, hl, hx, hy⟩ := hg
    obtain ⟨its, rv, p1, _⟩ := sqB_inv I hqx
    obtain ⟨its2, rv2, p2, _⟩ := sqB_inv I hqy
    obtain ⟨u, hu, ru⟩ := rv.get hx
    obtain ⟨u2, hu2, ru2⟩ := rv2.get hy
    have hh := I.ok.hd hc
    have hzl : z < s.heap.objs.size := Heap.lt_size hz
    have il : i < its.toArray.size := by
      have := (List.getElem?_eq_some_iff.mp hu).1
      simpa using this
    have D1 := drawsB (prog := X.prog) (w := X.w) (A := X.A.in1) hh t1 i1 a ne1 its.toArray
    have D2 := drawsB (prog := X.prog) (w := X.w) (A := X.A.in1) hh t2 i2 b ne2 its2.toArray
    have le : its2.toArray.size = its.toArray.size := by
      have l1 := rv.length
      have l2 := rv2.length
      simp only [List.size_toArray]
      omega
    rw [le] at D2
    have hT : s.TypeIs (.ref z) "zip" := ⟨_, hz, rfl⟩
    unfold pyNext
    refine wpAny_bind (wpAny_attempt (wpAny_callSpecial?_slot (name := Str.ofString "__next__") hT F.slot_zip_next (wpAny_call_entry F.slot_zip_next hT F.entry_zip_next
      (zs_item S D1 D2 hz hTI hTO ⟨h1, p1⟩ ⟨h2, p2⟩ il fun v1 v2 h' tk hv1 hv2 z' TO' n1 n2 hT' hsz hk => ?_) (F.args_zip_next_1 _))))
    have e1 : v1 = u := by
      have hv1 : its[i]? = some v1 := by simpa using hv1
      rw [hu] at hv1
      exact (Option.some.inj hv1).symm
    have e2 : v2 = u2 := by
      have hv2 : its2[i]? = some v2 := by simpa using hv2
      rw [hu2] at hv2
      exact (Option.some.inj hv2).symm
    subst e1 e2
    refine wpAny_pure ⟨_, rfl, zs_go (s := { s with heap := h', toks := tk }) z' fun h'' z'' sb => ?_⟩
    replace sb : Heap.SameBut z h' h'' := sb
    have hT2 : h''.get? s.heap.objs.size = some { cls := .type "tuple", data := .seq #[v1, v2] } := (sb.2 _ (Nat.ne_of_gt hzl)).trans hT'
    have new : ObjOk X.prog X.w (upd H s.heap.objs.size (.tup [x, y])) h'' s.heap.objs.size (.tup [x, y]) := ⟨by show 2 ≤ sizeLine; decide, [v1, v2], .cons ru (.cons ru2 .nil), ⟨_, hT2, rfl, _, rfl⟩⟩
    have I1 : Inv X pins σ (upd H s.heap.objs.size (.tup [x, y])) { s with heap := h'', toks := tk } :=
      I.turnedNew (t' := tk) (ch := [z, TI, TO, i1, i2]) (fun c o hb q => by
        obtain ⟨c1, c2, c3, c4, c5⟩ := nofive hb
        exact (sb.2 c c1).trans (hk c o c1 c3 c4 c5 q)) hf (Nat.le_refl _) new
    refine ⟨.ref s.heap.objs.size, _, I1, rfl, ⟨_, x, y, rfl, I.hok.fresh (Nat.le_refl _), rfl, fun l hl => by rw [sqB_inj I hl hqx]; exact hx, fun l hl => by rw [sqB_inj I hl hqy]; exact hy⟩, ⟨z'', ?_, ⟨v1, v2, ?_⟩, ?_, ?_⟩, fun c hcm => ?_⟩
    · exact (sb.2 _ S.TIz).trans (hk _ _ S.TIz S.TITO S.TIi1 S.TIi2 hTI)
    · exact (sb.2 _ S.TOz).trans TO'
    · exact n1.1.at fun o q => (sb.2 _ S.zi1.symm).trans q
    · exact n2.1.at fun o q => (sb.2 _ S.zi2.symm).trans q
    · have hlt : c < s.heap.objs.size := by
        rcases five hcm with q | q | q | q | q
        · rw [q]; exact hzl
        · rw [q]; exact Heap.lt_size hTI
        · rw [q]; exact Heap.lt_size hTO
        · rw [q]; obtain ⟨_, e1, _⟩ := h1.obj; exact Heap.lt_size e1
        · rw [q]; obtain ⟨_, e2, _⟩ := h2.obj; exact Heap.lt_size e2
      rw [upd_ne (Nat.ne_of_lt hlt)]
      exact (hf c hcm).1
  · intro X hP hw hK hc i pins s σ H E I hf st hg
    subst hP hw hK
    obtain ⟨hz, hTI, ⟨x0, y0, hTO⟩, h1, h2⟩ := st
    obtain ⟨xs, ys, hqx, hqy, l1, l2⟩ := hg
    obtain ⟨its, rv, p1, _⟩ := sqB_inv I hqx
    obtain ⟨its2, rv2, p2, _⟩ := sqB_inv I hqy
    have hh := I.ok.hd hc
    have z1 : its.toArray.size = i := by rw [List.size_toArray, ← rv.length, l1]
    have z2 : its2.toArray.size = i := by rw [List.size_toArray, ← rv2.length, l2]
    have D1 := drawsB (prog := X.prog) (w := X.w) (A := X.A.in1) hh t1 i1 a ne1 its.toArray
    have D2 := drawsB (prog := X.prog) (w := X.w) (A := X.A.in1) hh t2 i2 b ne2 its2.toArray
    rw [z1] at D1
    rw [z2] at D2
    have hT : s.TypeIs (.ref z) "zip" := ⟨_, hz, rfl⟩
    unfold pyNext
    refine wpAny_bind (wpAny_attempt (wpAny_callSpecial?_slot (name := Str.ofString "__next__") hT F.slot_zip_next (wpAny_call_entry F.slot_zip_next hT F.entry_zip_next
      (zs_end (by exact hh) S D1 D2 hz hTI hTO ⟨h1, p1⟩ ⟨h2, p2⟩ fun h' e hk he => ?_) (F.args_zip_next_1 _))))
    obtain ⟨o, ho, hc'⟩ := he
    refine wpAny_bind (wpAny_isInstance (T := "StopIteration") (b := true) ⟨o, ho, hc'⟩ isSubtype_stop (wpAny_pure ⟨rfl, ?_⟩))
    exact I.turnedL (t' := s.toks) (ch := [z, TI, TO, i1, i2]) (fun c o hb q => by
      obtain ⟨c1, c2, c3, c4, c5⟩ := nofive hb
      exact hk c o c1 c3 c4 c5 q) hf
/-! ### the call -/
theorem typeCall_zs (a b : Value) : checkTypeCall "zip" ⟨[a, b], [(Str.ofString "strict", .bool true)]⟩ = pure () := by kernel_rfl
theorem newCall_zs (a b : Value) : checkBuiltinCall "zip.__new__" ⟨[.type "zip", a, b], [(Str.ofString "strict", .bool true)]⟩ = pure () := by kernel_rfl
theorem init_zs (obj a b : Value) : argsOk "object.__init__" ⟨[obj, a, b], [(Str.ofString "strict", .bool true)]⟩ := by unfold argsOk; kernel_rfl
abbrev zsZ (h : Heap) (o1 o2 : Obj) : Heap := (gzO2 h o1 o2).push { cls := .type "zip", data := .fields #[.none, .bool false, .bool true, .ref ((h.push o1).push o2).objs.size, .ref (gzT2 h o1 o2).objs.size] }
theorem meets_zs {v1 v2 : Value} {o1 o2 : Obj} {H1 H2 : Heap → Prop} (B1 : Begins v1 o1 H1) (B2 : Begins v2 o2 H2) :
    Meets (Builtin.«zip.__new__» ⟨[.type "zip", v1, v2], [(Str.ofString "strict", .bool true)]⟩) (fun _ R s => (H1 s.heap ∧ H2 s.heap) ∧ R (.ok (.ret (.ref (gzO2 s.heap o1 o2).objs.size))) { s with heap := zsZ s.heap o1 o2 }) :=
  .of_wp fun prog w A R s h => by
    obtain ⟨hp, g, d, tk, os⟩ := s; obtain ⟨⟨h1, h2⟩, h⟩ := h
    have hsub := sub_zip
    have q1 : ∀ {A' : Around} {E : Value → Shared → Prop} {Q : Value → Shared → Prop}, Q (.ref hp.objs.size) ⟨(hp.push o1), g, d, tk, os⟩ → wpAny (model prog w) A' (pyIter v1) Q E ⟨hp, g, d, tk, os⟩ :=
      fun q => B1.iter prog w _ _ ⟨hp, g, d, tk, os⟩ _ (B1.keeps _ _ h1 fun b o' e => e) q
    have q2 : ∀ {A' : Around} {E : Value → Shared → Prop} {Q : Value → Shared → Prop}, Q (.ref (hp.push o1).objs.size) ⟨((hp.push o1).push o2), g, d, tk, os⟩ → wpAny (model prog w) A' (pyIter v2) Q E ⟨(hp.push o1), g, d, tk, os⟩ :=
      fun q => B2.iter prog w _ _ ⟨(hp.push o1), g, d, tk, os⟩ _ (B2.keeps _ _ h2 fun b o' e => (Heap.get?_push_of_some _ e)) q
    have e1 : (Str.ofString "strict" != ("strict" : Str)) = false := by decide +kernel
    wp_walk using q1, q2
    exact ⟨_, rfl, h⟩
end My

set_option Elab.async false
set_option linter.all false
set_option maxRecDepth 100000
set_option maxHeartbeats 1000000
namespace My
open PySem PySem.Spec PyProof.Rows L2 Evl Builtin.SmallTypes
/-- a built-in class called with keywords -/
theorem callTy_kw {M : Model} {A : Around} {E : Value → Shared → Prop} {s : Shared} {env : Env} {pos : Pos} {T : String} {e : Expr} {rest : List Expr} {kws : List Keyword} {Q : Value → Shared → Prop}
    (h : wpAny M A (spliced (backTo pos (starEach (e :: rest) env))) (fun vs s1 => wpAny M A (evalAll ((backToKw pos (keywordEach kws env)).map (·.2)))
      (fun ks s2 => wpAny M A (call (.type T) vs (((backToKw pos (keywordEach kws env)).filterMap (·.1)).zip ks)) Q E s2) E s1) E s)
    (he : backTo pos (starEach (e :: rest) env) = (false, eval e env) :: backTo pos (starEach rest env)) (h1 : (backTo pos (starEach (e :: rest) env)).any (·.1) = false)
    (h2 : (backToKw pos (keywordEach kws env)).all (·.1.isSome) = true) (h3 : (backToKw pos (keywordEach kws env)).any (·.1.isNone) = false) :
    wpAny M A (callWith pos (.type T) [] (backTo pos (starEach (e :: rest) env)) (backToKw pos (keywordEach kws env))) Q E s := by
  have a : wpAny M A (evalArgs (.type T) true (backTo pos (starEach (e :: rest) env)) (backToKw pos (keywordEach kws env))) (fun a s1 => wpAny M A (call (.type T) ([] ++ a.pos) a.kw) Q E s1) E s := by
    rw [he] at h ⊢
    exact PyProof.Rows.evalArgs_kwB h2 h
  unfold callWith
  refine wpAny_bind (wpAny_holding (wpAny_mono a (fun a s1 q => wpAny_bind (wpAny_standAt ?_)) fun _ _ x => x))
  simp only [h1, h3, Bool.or_false]
  refine wpAny_bind (wpAny_pure (wpAny_bind (wpAny_mono q (fun r s2 hr => ?_) fun _ _ x => x)))
  exact wpAny_bind (wpAny_holding (wpAny_point (wpAny_pure hr)))
theorem sep_zs {n a b : Nat} (ha : a < n) (hb : b < n) : ZipSep2 (n + 4) (n + 2) (n + 3) n (n + 1) [n, a] [n + 1, b] := by
  refine ⟨?_, ?_, ?_, ?_, ?_, ?_, ?_, ?_, ?_, ?_, ?_, ?_, ?_⟩ <;> (try simp only [List.mem_cons, List.not_mem_nil, or_false, not_or, ne_eq]) <;> (try unfold Addr at *) <;> (first | omega | exact .inl rfl | exact .inl trivial)
def iZs (K : PySem.W.Frag) (t1 t2 : Bool) (ta : TA) : TI := fun σ H R => ta σ H fun vs H1 => ∃ a b xs ys, vs = [.ref a, .ref b] ∧ SqB K t1 H1 a xs ∧ SqB K t2 H1 b ys ∧ R (Itzs K t1 t2 a b) H1
theorem pi_zs {X : Cx} {e : Expr} {es : List Expr} {ta : TA} {p pos tpos : Pos} {kws : List Keyword} {elts : List Expr} {kk : Nat} (t1 t2 : Bool) (hg : Gl X "zip") (hm : X.mg "zip" = none) (ha : PA X (e :: es) ta) (hk : PK X kws (tCons (tC (.bl true)) tNil))
    (he : backTo pos (starEach (e :: es) X.env) = (false, eval e X.env) :: backTo pos (starEach es X.env) := by rfl) (hpl : (backTo pos (starEach (e :: es) X.env)).any (·.1) = false := by rfl)
    (hks : (backToKw pos (keywordEach kws X.env)).filterMap (·.1) = [Str.ofString "strict"] := by rfl)
    (hall : (backToKw pos (keywordEach kws X.env)).all (·.1.isSome) = true := by rfl) (hnone : (backToKw pos (keywordEach kws X.env)).any (·.1.isNone) = false := by rfl) :
    PI X (.Tuple elts kk tpos) (.Call (.Name "zip" p) (e :: es) kws pos) (iZs X.K t1 t2 ta) := by
  refine ⟨fun pins s σ H R I h => ?_⟩
  refine wpAny_Call_Name_kw (ld_blt I hg hm PyProof.Rows.boot_zip ?_)
  refine callTy_kw (thn (ha.run pos pins s σ H _ I h) fun us s1 h1 => ?_) he hpl hall hnone
  obtain ⟨vs, H1, I1, r1, q1⟩ := h1
  refine thn (hk.run pos pins s1 σ H1 (fun zs H2 => zs = [.bl true] ∧ H2 = H1) I1 ⟨rfl, rfl⟩) fun ws s2 h2 => ?_
  obtain ⟨zs, H2, I2, r2, ez, eh⟩ := h2
  subst ez
  subst eh
  obtain ⟨a, b, xs, ys, rfl, hqx, hqy, q⟩ := q1
  have ew : ws = [.bool true] := by
    cases r2 with
    | cons r rr =>
      cases rr
      rw [show _ = Value.bool true from r]
  obtain ⟨u1, u2, rfl, ra, rb⟩ := vals2 r1
  cases (show u1 = Value.ref a from ra)
  cases (show u2 = Value.ref b from rb)
  rw [hks, ew]
  obtain ⟨its, rv, p1, la⟩ := sqB_inv I2 hqx
  obtain ⟨its2, rv2, p2, lb⟩ := sqB_inv I2 hqy
  refine callType_newKw F.called_zip (by decide) (typeCall_zs _ _) (newCall_zs _ _) (fun obj => init_zs obj _ _) F.entry_zip_new (meets_zs (beginsB t1 a its.toArray) (beginsB t2 b its2.toArray)) ⟨⟨p1, p2⟩, ?_⟩
  have z1 : (s2.heap.push (oB t1 a)).objs.size = s2.heap.objs.size + 1 := by rw [Heap.size_push]
  have z2 : ((s2.heap.push (oB t1 a)).push (oB t2 b)).objs.size = s2.heap.objs.size + 2 := by rw [Heap.size_push, z1]
  have zT : (gzT2 s2.heap (oB t1 a) (oB t2 b)).objs.size = s2.heap.objs.size + 3 := by rw [Heap.size_push, z2]
  have zO : (gzO2 s2.heap (oB t1 a) (oB t2 b)).objs.size = s2.heap.objs.size + 4 := by rw [Heap.size_push, zT]
  have f1 := (beginsB t1 a its.toArray).free
  have f2 := (beginsB t2 b its2.toArray).free
  have gZ : (zsZ s2.heap (oB t1 a) (oB t2 b)).get? (gzO2 s2.heap (oB t1 a) (oB t2 b)).objs.size = some _ := Heap.get?_push_size _ rfl
  have gO : (zsZ s2.heap (oB t1 a) (oB t2 b)).get? (gzT2 s2.heap (oB t1 a) (oB t2 b)).objs.size = some _ := Heap.get?_push_of_some _ (Heap.get?_push_size _ rfl)
  have gT : (zsZ s2.heap (oB t1 a) (oB t2 b)).get? ((s2.heap.push (oB t1 a)).push (oB t2 b)).objs.size = some _ := Heap.get?_push_of_some _ (Heap.get?_push_of_some _ (Heap.get?_push_size _ rfl))
  have g1 : (zsZ s2.heap (oB t1 a) (oB t2 b)).get? s2.heap.objs.size = some (oB t1 a) := Heap.get?_push_of_some _ (Heap.get?_push_of_some _ (Heap.get?_push_of_some _ (Heap.get?_push_of_some _ (Heap.get?_push_size _ f1))))
  have g2 : (zsZ s2.heap (oB t1 a) (oB t2 b)).get? (s2.heap.push (oB t1 a)).objs.size = some (oB t2 b) := Heap.get?_push_of_some _ (Heap.get?_push_of_some _ (Heap.get?_push_of_some _ (Heap.get?_push_size _ f2)))
  have keep : ∀ c o, s2.heap.get? c = some o → (zsZ s2.heap (oB t1 a) (oB t2 b)).get? c = some o := fun c o e => Heap.get?_push_of_some _ (Heap.get?_push_of_some _ (Heap.get?_push_of_some _ (Heap.get?_push_of_some _ (Heap.get?_push_of_some _ e))))
  rw [zO, zT, z2] at gZ
  rw [zT] at gO
  rw [z2, z1] at gT
  rw [z1] at g2
  generalize zsZ s2.heap (oB t1 a) (oB t2 b) = h' at gZ gO gT g1 g2 keep
  show _ ∧ _
  rw [zO]
  refine ⟨⟨_, gZ, rfl⟩, zs_iter gZ ?_⟩
  have I3 : Inv X pins σ H2 { s2 with heap := h' } := I2.kept (t' := s2.toks) keep
  refine ⟨s2.heap.objs.size + 4, [s2.heap.objs.size + 4, s2.heap.objs.size + 2, s2.heap.objs.size + 3, s2.heap.objs.size, s2.heap.objs.size + 1], _, _, H2, rfl, I3, turn_zs t1 t2 (sep_zs la lb) (Nat.ne_of_lt la) (Nat.ne_of_lt (Nat.lt_succ_of_lt lb)), ⟨gZ, gT, ⟨_, _, gO⟩, oB_it t1 g1, oB_it t2 g2⟩, fun c hcm => ?_, q⟩
  have e' : c = s2.heap.objs.size + 4 ∨ c = s2.heap.objs.size + 2 ∨ c = s2.heap.objs.size + 3 ∨ c = s2.heap.objs.size ∨ c = s2.heap.objs.size + 1 := by simpa using hcm
  have hle : s2.heap.objs.size ≤ c := by
    rcases e' with z | z | z | z | z
    · rw [z]; exact Nat.le_add_right _ _
    · rw [z]; exact Nat.le_add_right _ _
    · rw [z]; exact Nat.le_add_right _ _
    · rw [z]; exact Nat.le_refl _
    · rw [z]; exact Nat.le_add_right _ _
  exact I2.fpOk hle (I2.hok.fresh hle)
end My

set_option Elab.async false
set_option linter.all false
set_option maxRecDepth 100000
set_option maxHeartbeats 1000000
/-! loops and comprehensions over ranges with a step; two clauses. -/
namespace My
open PySem PySem.Spec PyProof.Rows L2 Evl
theorem rgC_up {n c : Nat} (hn : n < 2 ^ 60) (hc : 0 < c) (hc2 : c < 1073741824) : RgC 0 (n : Int) (c : Int) ((n + c - 1) / c) := by
  have e : Builtin.Range.rangeSize 0 (n : Int) (c : Int) = (((n + c - 1) / c : Nat) : Int) := by
    unfold Builtin.Range.rangeSize
    rw [if_pos (by omega)]
    by_cases h : 0 < n
    · rw [if_pos (by omega), show (n : Int) - 0 - 1 = ((n - 1 : Nat) : Int) by omega, ← Int.natCast_ediv, show n + c - 1 = (n - 1) + c by omega, Nat.add_div_right _ hc]
      rfl
    · rw [if_neg (by omega), show n = 0 by omega, Nat.zero_add, Nat.div_eq_of_lt (by omega)]
      rfl
  refine ⟨by omega, by omega, ?_, e⟩
  unfold Builtin.Range.small
  rw [e]
  have b : (n + c - 1) / c ≤ n := by
    by_cases h : 0 < n
    · rw [show n + c - 1 = (n - 1) + c by omega, Nat.add_div_right _ hc]
      have := Nat.div_le_self (n - 1) c
      omega
    · rw [show n = 0 by omega, Nat.zero_add, Nat.div_eq_of_lt (by omega)]
      exact Nat.le_refl _
  have m : (n + c - 1) / c * c ≤ n + c - 1 := Nat.div_mul_le_self _ _
  generalize (n + c - 1) / c = d at b m
  have m2 : (d : Int) * (c : Int) ≤ (n : Int) + (c : Int) - 1 := by
    rw [← Int.natCast_mul]
    omega
  simp only [Builtin.Range.rangeFitsLong, Bool.and_eq_true, Bool.or_eq_true, decide_eq_true_eq, beq_iff_eq]
  refine ⟨⟨⟨⟨⟨by omega, by omega⟩, by omega, by omega⟩, by omega, by omega⟩, by omega, by omega⟩, .inr ?_⟩
  rw [if_pos (by omega), Bool.and_eq_true, decide_eq_true_eq, decide_eq_true_eq]
  exact ⟨by omega, by omega⟩
section
variable {K : PySem.W.Frag} {σ : L2.St} {H H' : Hp} {ta : TA} {tb te tl : TE} {xs ys : List V} {x z v : V} {p : Addr} {D : Ends} {tu tz : TS} {g : TG}
theorem s_forR3 {j n : Nat} {lo hi c : Int} (h : EvA ta σ H [.int lo, .int hi, .int c]) (hn : RgC lo hi c n) (Pv : Nat → L2.St → Hp → Prop) (h0 : ∀ H1, Ex H H1 → Pv 0 σ H1)
    (hs : ∀ (i : Nat) σ' H', i < n → Pv i σ' H' → tu { D with nx := Pv (i + 1), ct := Pv (i + 1), bk := D.nx } (σ'.set j (some (.int (lo + (i : Nat) * c)))) H') (hd : ∀ σ' H', Pv n σ' H' → D.nx σ' H') : tFor (iRng3 ta) (gName j) tu D σ H :=
  h H (Ex.refl H) _ fun H1 e => ⟨lo, hi, c, n, rfl, hn, for_rangeC Pv (h0 H1 e) (fun i σ' H' hi p => hs i σ' H' hi p) hd⟩
theorem q_forR3 {j n : Nat} {lo hi c : Int} (h : EvA ta σ H [.int lo, .int hi, .int c]) (hn : RgC lo hi c n) (Pv : Nat → L2.St → Hp → Prop) (h0 : ∀ H1, Ex H H1 → Pv 0 σ H1)
    (hs : ∀ (i : Nat) σ' H', i < n → Pv i σ' H' → tu { D with nx := Pv (i + 1), ct := Pv (i + 1), bk := tz D } (σ'.set j (some (.int (lo + (i : Nat) * c)))) H') (hd : ∀ σ' H', Pv n σ' H' → tz D σ' H') : tSeq (tFor (iRng3 ta) (gName j) tu) tz D σ H :=
  s_forR3 (D := { D with nx := tz D }) h hn Pv h0 hs hd
theorem tyes_ {F : Bool → Hp → Prop} (h : F true H) : tYes σ H F := h
/-- a comprehension over a range with a step, no test -/
theorem el_lcR3 {j n : Nat} {vs : List Nat} {lo hi c : Int} (v : Nat → V) (h : EvA ta σ H [.int lo, .int hi, .int c]) (hn : RgC lo hi c n) (hz : n ≤ 40000) (hw : ∀ x, wipe ((wipe σ vs).set j (some x)) vs = wipe σ vs)
    (he : ∀ (i : Nat) H1, Ex H H1 → i < n → Ev te ((wipe σ vs).set j (some (.int (lo + (i : Nat) * c)))) H1 (v i)) : EvL (tLc (iRng3 ta) (gName j) tYes te vs) σ H ((List.range n).map v) := by
  intro H0 e Q q
  refine h H0 e _ fun H1 e1 => ⟨lo, hi, c, n, rfl, hn, fun Dl hD => ?_⟩
  refine ⟨fun i m H' => m = n - i ∧ i ≤ n ∧ Ex H1 H' ∧ H' Dl = some (.lst ((List.range i).map v)), ⟨n, rfl, Nat.zero_le _, Ex.new hD, upd_same⟩, ?_⟩
  rintro i m H' ⟨rfl, hi, ex, hl⟩
  by_cases hlt : i < n
  · refine .inr ⟨hlt, fun H' => Ex H1 H' ∧ H' Dl = some (.lst ((List.range (i + 1)).map v)), fun H2 p => ⟨n - (i + 1), by omega, rfl, hlt, p⟩, fun x H2 y => ?_⟩
    obtain ⟨rfl, rfl⟩ := y
    refine ⟨hw _, ?_⟩
    refine tyes_ ?_
    refine iteT (he i H1 (e.trans e1) hlt H2 ex _ fun H3 e3 => ⟨_, e3 Dl _ hl, sz_lt (by rw [List.length_map, List.length_range]; omega), (ex.trans e3).mut hD, ?_⟩)
    rw [upd_same, List.range_succ, List.map_append]
    rfl
  · have e0 : i = n := by omega
    subst e0
    exact .inl ⟨Nat.le_refl _, q Dl H' (fresh_back e1 hD) (e1.trans ex) hl⟩
/-- the items of two clauses: a list that stands, then a range with a step -/
def flat2 (n : Nat) (v : Nat → Nat → V) : Nat → List V
  | 0 => []
  | i + 1 => flat2 n v i ++ (List.range n).map (v i)
theorem flat2_len (n : Nat) (v : Nat → Nat → V) : ∀ i, (flat2 n v i).length = i * n
  | 0 => by simp [flat2]
  | i + 1 => by rw [flat2, List.length_append, flat2_len n v i, List.length_map, List.length_range, Nat.succ_mul]
theorem el_lc2 {a : Addr} {j1 j2 n : Nat} {vs vs1 : List Nat} {lo hi c : Int} (v : Nat → Nat → V) (h : Ev tl σ H (.ref a)) (hx : SqL K H a xs) (hn : RgC lo hi c n) (hz : xs.length * n ≤ 40000)
    (hw : ∀ x, wipe ((wipe σ vs).set j1 (some x)) vs = wipe σ vs) (hw1 : ∀ x y, wipe ((wipe ((wipe σ vs).set j1 (some x)) vs1).set j2 (some y)) vs1 = wipe ((wipe σ vs).set j1 (some x)) vs1)
    (ha : ∀ (i : Nat) (x : V) H1, Ex H H1 → xs[i]? = some x → EvA ta ((wipe σ vs).set j1 (some x)) H1 [.int lo, .int hi, .int c])
    (he : ∀ (i k : Nat) (x : V) H1, Ex H H1 → xs[i]? = some x → k < n → Ev te ((wipe ((wipe σ vs).set j1 (some x)) vs1).set j2 (some (.int (lo + (k : Nat) * c)))) H1 (v i k)) :
    EvL (tLc2 (iList K tl) (gName j1) tYes (iRng3 ta) (gName j2) tYes te vs vs1) σ H (flat2 n v xs.length) := by
  intro H0 e Q q
  refine h H0 e _ fun H1 e1 => ⟨a, rfl, ⟨xs, ex_l (e.trans e1) hx⟩, fun Dl hD => ?_⟩
  have E1 := e.trans e1
  refine ⟨fun i m H' => m = xs.length - i ∧ i ≤ xs.length ∧ Ex H1 H' ∧ H' Dl = some (.lst (flat2 n v i)), ⟨xs.length, rfl, Nat.zero_le _, Ex.new hD, upd_same⟩, ?_⟩
  rintro i m H' ⟨rfl, hi, ex, hl⟩
  by_cases hlt : i < xs.length
  · have gx : xs[i]? = some xs[i] := List.getElem?_eq_getElem hlt
    refine .inr ⟨⟨xs, xs[i], ex_l (E1.trans ex) hx, gx⟩, fun H' => Ex H1 H' ∧ H' Dl = some (.lst (flat2 n v (i + 1))), fun H2 p => ⟨xs.length - (i + 1), by omega, rfl, hlt, p⟩, fun x H2 y => ?_⟩
    obtain ⟨rfl, y⟩ := y
    have ex' : x = xs[i] := Option.some.inj ((y xs (ex_l (E1.trans ex) hx)).symm.trans gx)
    subst ex'
    refine ⟨hw _, ?_⟩
    refine tyes_ ?_
    refine iteT (ha i _ H1 E1 gx H2 ex _ fun H3 e3 => ⟨lo, _, c, n, rfl, hn, ?_⟩)
    refine ⟨fun k m H' => m = n - k ∧ k ≤ n ∧ Ex H1 H' ∧ H' Dl = some (.lst (flat2 n v i ++ (List.range k).map (v i))), ⟨n, rfl, Nat.zero_le _, ex.trans e3, by rw [List.range_zero, List.map_nil, List.append_nil]; exact e3 Dl _ hl⟩, ?_⟩
    rintro k m H4 ⟨rfl, hk, ex4, hl4⟩
    by_cases hkn : k < n
    · refine .inr ⟨hkn, fun H' => Ex H1 H' ∧ H' Dl = some (.lst (flat2 n v i ++ (List.range (k + 1)).map (v i))), fun H5 p => ⟨n - (k + 1), by omega, rfl, hkn, p⟩, fun x H5 y => ?_⟩
      obtain ⟨rfl, rfl⟩ := y
      refine ⟨hw1 _ _, ?_⟩
      refine tyes_ ?_
      refine iteT (he i k _ H1 E1 gx hkn H5 ex4 _ fun H6 e6 => ⟨_, e6 Dl _ hl4, sz_lt ?_, (ex4.trans e6).mut hD, ?_⟩)
      · rw [List.length_append, flat2_len, List.length_map, List.length_range]
        have : (i + 1) * n ≤ xs.length * n := Nat.mul_le_mul_right _ hlt
        rw [Nat.succ_mul] at this
        omega
      · rw [upd_same, List.range_succ, List.map_append, List.append_assoc]
        rfl
    · have e0 : k = n := by omega
      subst e0
      exact .inl ⟨Nat.le_refl _, ex4, hl4⟩
  · have e0 : i = xs.length := by omega
    subst e0
    exact .inl ⟨⟨xs, ex_l (E1.trans ex) hx, Nat.le_refl _⟩, q Dl H' (fresh_back e1 hD) (e1.trans ex) hl⟩
/-- ''.join of one-sign texts -/
theorem join_ones (l : List Nat) : Txt.join (tx []) (l.map fun c => tx [c]) = tx l := by
  show Builtin.Str.glued _ _ = _
  rw [StrLaws.glued_eq_join]
  have h : ∀ l : List Nat, Str.join (tx []) (l.map fun c => tx [c]) = tx l := by
    intro l
    induction l with
    | nil => rfl
    | cons c r ih =>
      cases r with
      | nil => rfl
      | cons d r =>
        show tx [c] ++ tx [] ++ Str.join (tx []) ((d :: r).map fun c => tx [c]) = _
        rw [ih, tx_app, tx_app]
        rfl
  exact h l
end

/-! ### zip of two, strict -/
def EvZ (K : PySem.W.Frag) (ta : TA) (σ : L2.St) (H : Hp) (t1 t2 : Bool) (xs ys : List V) : Prop := ∀ H1, Ex H H1 → ∀ Q : List V → Hp → Prop, (∀ a b H2, Ex H1 H2 → SqB K t1 H2 a xs → SqB K t2 H2 b ys → Q [.ref a, .ref b] H2) → ta σ H1 Q
section
variable {K : PySem.W.Frag} {σ : L2.St} {H H' : Hp} {ta : TA} {ta1 tb1 te tl : TE} {xs ys : List V} {x z v : V} {p : Addr} {D : Ends} {tu tz : TS} {g : TG} {t1 t2 : Bool}
theorem ex_b {a : Addr} (e : Ex H H') (h : SqB K t1 H a xs) : SqB K t1 H' a xs := by
  cases t1
  · exact ex_l e h
  · exact ex_t e h
theorem ez_gt (h2 : Ev tb1 σ H (.ref p)) (hp : SqL K H p ys) : EvZ K (tCons (tGT K xs) (tCons tb1 tNil)) σ H true false xs ys := fun H1 e Q q =>
  fun a ha => h2 H1 e _ fun H2 e2 => q a p H2 e2 (ha H2) (ex_l (e.trans e2) hp)
theorem ez_vn (h1 : Ev ta1 σ H (.ref p)) (hp : SqL K H p xs) (h2 : EvL tb1 σ H ys) : EvZ K (tCons ta1 (tCons tb1 tNil)) σ H false false xs ys := fun H1 e Q q =>
  h1 H1 e _ fun H2 e2 => h2 H2 (e.trans e2) _ fun b H3 _ e3 hb => q p b H3 (e2.trans e3) (ex_l ((e.trans e2).trans e3) hp) (sq_of hb)
theorem s_forZ {j1 j2 : Nat} (h : EvZ K ta σ H t1 t2 xs ys) (hl : xs.length = ys.length) (Pv : Hp → Nat → L2.St → Hp → Prop) (h0 : ∀ H1, Ex H H1 → Pv H1 0 σ H1) (hk : ∀ H1 i σ' H', Pv H1 i σ' H' → Ex H1 H')
    (hs : ∀ H1 i x y σ' H', Ex H H1 → xs[i]? = some x → ys[i]? = some y → Pv H1 i σ' H' → ∀ H2, Ex H' H2 → tu { D with nx := Pv H1 (i + 1), ct := Pv H1 (i + 1), bk := D.nx } ((σ'.set j1 (some x)).set j2 (some y)) H2)
    (hd : ∀ H1 σ' H', Ex H H1 → Pv H1 xs.length σ' H' → D.nx σ' H') : tFor (iZs K t1 t2 ta) (gTup K 2 (gCons (gName j1) (gCons (gName j2) gNil))) tu D σ H := by
  refine h H (Ex.refl H) _ fun a b H1 e ha hb => ⟨a, b, xs, ys, rfl, ha, hb, ?_⟩
  refine ⟨fun i m σ' H' => m = xs.length - i ∧ i ≤ xs.length ∧ Pv H1 i σ' H', ⟨xs.length, rfl, Nat.zero_le _, h0 H1 e⟩, ?_⟩
  rintro i m σ' H' ⟨rfl, hi, p⟩
  have ex := hk H1 i σ' H' p
  by_cases hlt : i < xs.length
  · have gx : xs[i]? = some xs[i] := List.getElem?_eq_getElem hlt
    have hlt2 : i < ys.length := by omega
    have gy : ys[i]? = some ys[i] := List.getElem?_eq_getElem hlt2
    refine .inr ⟨⟨xs, ys, _, _, ex_b ex ha, ex_b ex hb, hl, gx, gy⟩, Pv H1 (i + 1), fun σ2 H2 p2 => ⟨xs.length - (i + 1), by omega, rfl, hlt, p2⟩, fun v H2 y => ?_⟩
    obtain ⟨T, x', y', rfl, hT, rfl, f1, f2⟩ := y
    exact ⟨T, [x', y'], rfl, st_of upd_same, rfl, x', [y'], rfl, y', [], rfl, rfl, hs H1 i x' y' σ' H' e (f1 xs (ex_b ex ha)) (f2 ys (ex_b ex hb)) p _ (Ex.new hT)⟩
  · have e0 : i = xs.length := by omega
    subst e0
    exact .inl ⟨⟨xs, ys, ex_b ex ha, ex_b ex hb, rfl, hl.symm⟩, hd H1 σ' H' e p⟩
theorem q_forZ {j1 j2 : Nat} (h : EvZ K ta σ H t1 t2 xs ys) (hl : xs.length = ys.length) (Pv : Hp → Nat → L2.St → Hp → Prop) (h0 : ∀ H1, Ex H H1 → Pv H1 0 σ H1) (hk : ∀ H1 i σ' H', Pv H1 i σ' H' → Ex H1 H')
    (hs : ∀ H1 i x y σ' H', Ex H H1 → xs[i]? = some x → ys[i]? = some y → Pv H1 i σ' H' → ∀ H2, Ex H' H2 → tu { D with nx := Pv H1 (i + 1), ct := Pv H1 (i + 1), bk := tz D } ((σ'.set j1 (some x)).set j2 (some y)) H2)
    (hd : ∀ H1 σ' H', Ex H H1 → Pv H1 xs.length σ' H' → tz D σ' H') : tSeq (tFor (iZs K t1 t2 ta) (gTup K 2 (gCons (gName j1) (gCons (gName j2) gNil))) tu) tz D σ H :=
  s_forZ (D := { D with nx := tz D }) h hl Pv h0 hk hs hd
theorem el_lcZ {j1 j2 : Nat} {vs : List Nat} (v : Nat → V) (h : EvZ K ta σ H t1 t2 xs ys) (hl : xs.length = ys.length) (hz : xs.length ≤ 40000) (hw : ∀ x y, wipe (((wipe σ vs).set j1 (some x)).set j2 (some y)) vs = wipe σ vs)
    (he : ∀ (i : Nat) (x y : V) H1, Ex H H1 → xs[i]? = some x → ys[i]? = some y → Ev te (((wipe σ vs).set j1 (some x)).set j2 (some y)) H1 (v i)) :
    EvL (tLc (iZs K t1 t2 ta) (gTup K 2 (gCons (gName j1) (gCons (gName j2) gNil))) tYes te vs) σ H ((List.range xs.length).map v) := by
  intro H0 e Q q
  refine h H0 e _ fun a b H1 e1 ha hb => ⟨a, b, xs, ys, rfl, ha, hb, fun Dl hD => ?_⟩
  refine ⟨fun i m H' => m = xs.length - i ∧ i ≤ xs.length ∧ Ex H1 H' ∧ H' Dl = some (.lst ((List.range i).map v)), ⟨xs.length, rfl, Nat.zero_le _, Ex.new hD, upd_same⟩, ?_⟩
  rintro i m H' ⟨rfl, hi, ex, hll⟩
  by_cases hlt : i < xs.length
  · have gx : xs[i]? = some xs[i] := List.getElem?_eq_getElem hlt
    have hlt2 : i < ys.length := by omega
    have gy : ys[i]? = some ys[i] := List.getElem?_eq_getElem hlt2
    refine .inr ⟨⟨xs, ys, _, _, ex_b ex ha, ex_b ex hb, hl, gx, gy⟩, fun H' => Ex H1 H' ∧ H' Dl = some (.lst ((List.range (i + 1)).map v)), fun H2 p2 => ⟨xs.length - (i + 1), by omega, rfl, hlt, p2⟩, fun v' H2 y => ?_⟩
    obtain ⟨T, x', y', rfl, hT, rfl, f1, f2⟩ := y
    refine ⟨T, [x', y'], rfl, st_of upd_same, rfl, x', [y'], rfl, y', [], rfl, rfl, hw _ _, ?_⟩
    refine tyes_ ?_
    have eT : Ex H1 (upd H' T (.tup [x', y'])) := ex.trans (Ex.new hT)
    refine iteT (he i x' y' H1 (e.trans e1) (f1 xs (ex_b ex ha)) (f2 ys (ex_b ex hb)) _ eT _ fun H3 e3 => ⟨_, e3 Dl _ ((Ex.new hT) Dl _ hll), sz_lt (by rw [List.length_map, List.length_range]; omega), (eT.trans e3).mut hD, ?_⟩)
    rw [upd_same, List.range_succ, List.map_append]
    rfl
  · have e0 : i = xs.length := by omega
    subst e0
    exact .inl ⟨⟨xs, ys, ex_b ex ha, ex_b ex hb, rfl, hl.symm⟩, q Dl H' (fresh_back e1 hD) (e1.trans ex) hll⟩
end
section
variable {K : PySem.W.Frag} {σ : L2.St} {H H' : Hp} {ta : TA} {te : TE} {x y : V} {D : Ends} {tz : TS}
theorem s_par {i j : Nat} (h : EvA ta σ H [x, y]) (k : ∀ H1, Ex H H1 → D.nx ((σ.set i (some x)).set j (some y)) H1) : tPar i j ta D σ H := h H (Ex.refl H) _ fun H1 e => ⟨x, y, rfl, k H1 e⟩
theorem q_par {i j : Nat} (h : EvA ta σ H [x, y]) (k : ∀ H1, Ex H H1 → tz D ((σ.set i (some x)).set j (some y)) H1) : tSeq (tPar i j ta) tz D σ H := s_par (D := { D with nx := tz D }) h k
end
/-! ### several names at once -/
def gNs : List Nat → TGs
  | [] => gNil
  | i :: r => gCons (gName i) (gNs r)
def setN : L2.St → List Nat → List V → L2.St
  | σ, i :: is, v :: vs => setN (σ.set i (some v)) is vs
  | σ, _, _ => σ
theorem gNs_run : ∀ {is : List Nat} {vs : List V} {σ : L2.St} {H : Hp} {Q : L2.St → Hp → Prop}, vs.length = is.length → Q (setN σ is vs) H → gNs is vs σ H Q
  | [], [], _, _, _, _, q => ⟨rfl, q⟩
  | i :: is, v :: vs, σ, H, Q, h, q => ⟨v, vs, rfl, gNs_run (Nat.succ.inj h) q⟩
  | [], _ :: _, _, _, _, h, _ => nomatch h
  | _ :: _, [], _, _, _, h, _ => nomatch h
section
variable {K : PySem.W.Frag} {σ : L2.St} {H H' : Hp} {ta : TA} {te : TE} {vs : List V} {p : Addr} {D : Ends} {tz : TS} {n : Nat}
theorem s_unl (is : List Nat) (h : Ev te σ H (.ref p)) (hS : SqL K H p vs) (hn : vs.length = n) (hl : vs.length = is.length) (k : ∀ H1, Ex H H1 → D.nx (setN σ is vs) H1) : tAsg te (gUnl K n (gNs is)) D σ H :=
  h H (Ex.refl H) _ fun H1 e => ⟨p, vs, rfl, ex_l e hS, hn, gNs_run hl (k H1 e)⟩
theorem q_unl (is : List Nat) (h : Ev te σ H (.ref p)) (hS : SqL K H p vs) (hn : vs.length = n) (hl : vs.length = is.length) (k : ∀ H1, Ex H H1 → tz D (setN σ is vs) H1) : tSeq (tAsg te (gUnl K n (gNs is))) tz D σ H := s_unl (D := { D with nx := tz D }) is h hS hn hl k
theorem s_unt (is : List Nat) (h : Ev te σ H (.ref p)) (hS : SqT K H p vs) (hn : vs.length = n) (hl : vs.length = is.length) (k : ∀ H1, Ex H H1 → D.nx (setN σ is vs) H1) : tAsg te (gTup K n (gNs is)) D σ H :=
  h H (Ex.refl H) _ fun H1 e => ⟨p, vs, rfl, ex_t e hS, hn, gNs_run hl (k H1 e)⟩
theorem s_tupN (is : List Nat) (h : EvU te σ H vs) (hn : vs.length = n) (hl : vs.length = is.length) (k : ∀ H1, Ex H H1 → D.nx (setN σ is vs) H1) : tAsg te (gTup K n (gNs is)) D σ H :=
  h H (Ex.refl H) _ fun p H1 hp e h1 => ⟨p, vs, rfl, st_of h1, hn, gNs_run hl (k H1 e)⟩
theorem q_tupN (is : List Nat) (h : EvU te σ H vs) (hn : vs.length = n) (hl : vs.length = is.length) (k : ∀ H1, Ex H H1 → tz D (setN σ is vs) H1) : tSeq (tAsg te (gTup K n (gNs is))) tz D σ H := s_tupN (D := { D with nx := tz D }) is h hn hl k
theorem ru_inv {i : Int} : RU (rU fun i => .int (Builtin.bitNot i)) (.int i) H (.int (Builtin.bitNot i)) := fun H1 _ _ q => ⟨i, rfl, q H1 (Ex.refl H1)⟩
end
end My

set_option Elab.async false
set_option linter.all false
set_option maxRecDepth 100000
set_option maxHeartbeats 1000000
/-! data, and what a value stands for in a heap. -/
namespace My
open PySem PySem.Spec PyProof.Rows L2 Evl
inductive D where
  | non | bl (b : Bool) | int (i : Int) | str (l : List Nat) | tup (ds : List D) | lst (ds : List D)
mutual
inductive Rep (H : Hp) : V → D → Prop
  | non : Rep H .non .non
  | bl (b : Bool) : Rep H (.bl b) (.bl b)
  | int (i : Int) : Rep H (.int i) (.int i)
  | str (l : List Nat) : Rep H (.str (tx l)) (.str l)
  | tup {a : Addr} {vs : List V} {ds : List D} (e : H a = some (.tup vs)) (r : Reps H vs ds) : Rep H (.ref a) (.tup ds)
  | lst {a : Addr} {vs : List V} {ds : List D} (e : H a = some (.lst vs)) (r : Reps H vs ds) : Rep H (.ref a) (.lst ds)
inductive Reps (H : Hp) : List V → List D → Prop
  | nil : Reps H [] []
  | cons {v : V} {d : D} {vs : List V} {ds : List D} (h : Rep H v d) (r : Reps H vs ds) : Reps H (v :: vs) (d :: ds)
end
mutual
theorem Rep.mono {H H' : Hp} (e : Ex H H') : ∀ {v : V} {d : D}, Rep H v d → Rep H' v d
  | _, _, .non => .non
  | _, _, .bl b => .bl b
  | _, _, .int i => .int i
  | _, _, .str l => .str l
  | _, _, .tup q r => .tup (e _ _ q) (Reps.mono e r)
  | _, _, .lst q r => .lst (e _ _ q) (Reps.mono e r)
theorem Reps.mono {H H' : Hp} (e : Ex H H') : ∀ {vs : List V} {ds : List D}, Reps H vs ds → Reps H' vs ds
  | _, _, .nil => .nil
  | _, _, .cons h r => .cons (Rep.mono e h) (Reps.mono e r)
end
theorem Reps.len {H : Hp} : ∀ {vs : List V} {ds : List D}, Reps H vs ds → vs.length = ds.length
  | _, _, .nil => rfl
  | _, _, .cons _ r => congrArg Nat.succ (Reps.len r)
theorem Reps.get {H : Hp} : ∀ {vs : List V} {ds : List D} {i : Nat} {d : D}, Reps H vs ds → ds[i]? = some d → ∃ v, vs[i]? = some v ∧ Rep H v d
  | _, _, _, _, .nil, h => nomatch h
  | v :: _, _, 0, _, .cons h r, e => ⟨v, rfl, by cases e; exact h⟩
  | _ :: _, _, i + 1, _, .cons h r, e => Reps.get (i := i) r e
theorem Reps.get' {H : Hp} : ∀ {vs : List V} {ds : List D} {i : Nat} {v : V}, Reps H vs ds → vs[i]? = some v → ∃ d, ds[i]? = some d ∧ Rep H v d
  | _, _, _, _, .nil, h => nomatch h
  | v :: _, _, 0, _, .cons (d := d) h r, e => ⟨d, rfl, by cases e; exact h⟩
  | _ :: _, _, i + 1, _, .cons h r, e => Reps.get' (i := i) r e
theorem Reps.append {H : Hp} : ∀ {vs ws : List V} {ds es : List D}, Reps H vs ds → Reps H ws es → Reps H (vs ++ ws) (ds ++ es)
  | _, _, _, _, .nil, r => r
  | _, _, _, _, .cons h t, r => .cons h (Reps.append t r)
def tyD : D → String
  | .non => "NoneType" | .bl _ => "bool" | .int _ => "int" | .str _ => "str" | .tup _ => "tuple" | .lst _ => "list"
theorem Rep.ty {K : PySem.W.Frag} {H : Hp} {v : V} {d : D} (h : Rep H v d) : TyX K H v (.type (tyD d)) := by
  cases h with
  | non => exact .base .non
  | bl b => exact .base (.bl b)
  | int i => exact .base (.int i)
  | str l => exact .base (.str _)
  | tup e _ => exact .base (.tup e)
  | lst e _ => exact .base (.lst e)
def EvD (te : TE) (σ : L2.St) (H : Hp) (d : D) : Prop := EvP te σ H fun v H' => Rep H' v d
section
variable {K : PySem.W.Frag} {σ : L2.St} {H H' : Hp} {ta : TA} {te : TE} {xs ys : List V} {x z v : V} {p : Addr} {E : Ends} {tu tz : TS} {d : D}
theorem evd_v (h : Ev te σ H v) (r : Rep H v d) : EvD te σ H d := fun H1 e Q q => h H1 e Q fun H2 e2 => q v H2 e2 (r.mono (e.trans e2))
theorem ev_isi {T : String} {b : Bool} (h : Ev te σ H v) (r : Rep H v d) (hk : kitB (tyD d) T = some b) : Ev (tCB (rIsi K) (tCons te (tCons (tC (.ty T)) tNil))) σ H (.bl b) := fun H1 e Q q =>
  h H1 e _ fun H2 e2 => ⟨v, .ty T, .type (tyD d), .type T, b, rfl, .ty T, (r.mono (e.trans e2)).ty, kit_ty hk, q H2 e2⟩
theorem et_isN {te : TE} (h : Ev te σ H v) : EvT (tTest (tOp (fun x y H Q => y = .non ∧ Q (.bl (decide (x = .non))) H) te (tC .non))) σ H (decide (v = .non)) := fun H1 e Q q =>
  h H1 e _ fun H2 e2 => ⟨rfl, _, rfl, q H2 e2⟩
/-- xs.extend(a new list) -/
theorem s_extL {l : Addr} (hl : H l = some (.lst xs)) (ha : ∀ H1, Ex H H1 → Ev te σ H1 (.ref l)) {tb : TE} (h : EvL tb σ H ys) (hz : xs.length + ys.length ≤ 100000) (k : ∀ H1, Ex H H1 → E.nx σ (upd H1 l (.lst (xs ++ ys)))) :
    tDrop (tBM K "list" rExtend te (tCons tb tNil)) E σ H := ha H (Ex.refl H) H (Ex.refl H) _ fun H1 e1 =>
  ⟨Or.inl ⟨rfl, xs, sq_of (e1 l _ hl)⟩, h H1 e1 _ fun p H2 hp e2 h2 => ⟨l, p, xs, ys, rfl, rfl, e2 l _ (e1 l _ hl), h2, sz_of hz, k H2 (e1.trans e2)⟩⟩
/-- a loop over a text's signs -/
theorem for_str {x : Str} {g : TG} {tb : TS} {D : Ends} {σ : L2.St} {H : Hp} (Pv : Nat → L2.St → Hp → Prop) (h0 : Pv 0 σ H)
    (hs : ∀ i c σ H, x.cps[i]? = some c → Pv i σ H → g (.str (tx [c])) σ H fun σ2 H2 => tb { D with nx := Pv (i + 1), ct := Pv (i + 1), bk := D.nx } σ2 H2) (hd : ∀ σ H, Pv x.cps.size σ H → D.nx σ H) :
    ∃ W : Nat → Nat → L2.St → Hp → Prop, (∃ m, W 0 m σ H) ∧ ∀ i m σ H, W i m σ H →
      ((Its x).stop i H ∧ D.nx σ H) ∨ ((Its x).go i H ∧ ∃ N : L2.St → Hp → Prop, (∀ σ' H', N σ' H' → ∃ m', m' < m ∧ W (i + 1) m' σ' H') ∧ ∀ v H', (Its x).yld i H v H' → g v σ H' fun σ2 H2 => tb { D with nx := N, ct := N, bk := D.nx } σ2 H2) := by
  refine ⟨fun i m σ H => m = x.cps.size - i ∧ i ≤ x.cps.size ∧ Pv i σ H, ⟨x.cps.size, rfl, Nat.zero_le _, h0⟩, ?_⟩
  rintro i m σ H ⟨rfl, hi, p⟩
  by_cases hlt : i < x.cps.size
  · refine .inr ⟨hlt, Pv (i + 1), fun σ' H' p' => ⟨x.cps.size - (i + 1), by omega, rfl, hlt, p'⟩, fun v H' y => ?_⟩
    obtain ⟨rfl, c, hc, rfl⟩ := y
    exact hs i c σ _ hc p
  · have e : i = x.cps.size := by omega
    subst e
    exact .inl ⟨Nat.le_refl _, hd σ H p⟩
theorem s_forS {l : List Nat} {j : Nat} (h : Ev te σ H (.str (tx l))) (Pv : Nat → L2.St → Hp → Prop) (h0 : ∀ H1, Ex H H1 → Pv 0 σ H1)
    (hs : ∀ i c σ' H', l[i]? = some c → Pv i σ' H' → tu { E with nx := Pv (i + 1), ct := Pv (i + 1), bk := E.nx } (σ'.set j (some (.str (tx [c])))) H') (hd : ∀ σ' H', Pv l.length σ' H' → E.nx σ' H') : tFor (iStr te) (gName j) tu E σ H :=
  h H (Ex.refl H) _ fun H1 e => ⟨tx l, rfl, for_str Pv (h0 H1 e) (fun i c σ' H' hc p => hs i c σ' H' (by simpa [tx] using hc) p) (fun σ' H' p => hd σ' H' (by simpa [tx] using p))⟩
theorem q_forS {l : List Nat} {j : Nat} (h : Ev te σ H (.str (tx l))) (Pv : Nat → L2.St → Hp → Prop) (h0 : ∀ H1, Ex H H1 → Pv 0 σ H1)
    (hs : ∀ i c σ' H', l[i]? = some c → Pv i σ' H' → tu { E with nx := Pv (i + 1), ct := Pv (i + 1), bk := tz E } (σ'.set j (some (.str (tx [c])))) H') (hd : ∀ σ' H', Pv l.length σ' H' → tz E σ' H') : tSeq (tFor (iStr te) (gName j) tu) tz E σ H :=
  s_forS (E := { E with nx := tz E }) h Pv h0 hs hd
end
/-! ### octets of data -/
def sev (n : Nat) : List Nat := if h : n < 128 then [n] else (128 + n % 128) :: sev (n / 128)
termination_by n
decreasing_by omega
theorem sev_lt {n : Nat} (h : n < 128) : sev n = [n] := by rw [sev, dif_pos h]
theorem sev_ge {n : Nat} (h : ¬ n < 128) : sev n = (128 + n % 128) :: sev (n / 128) := by rw [sev, dif_neg h]
theorem sev_len (k : Nat) : ∀ n, n < 128 ^ (k + 1) → (sev n).length ≤ k + 1 := by
  induction k with
  | zero => intro n h; rw [sev_lt (by simpa using h)]; exact Nat.le_refl _
  | succ k ih =>
    intro n h
    by_cases h1 : n < 128
    · rw [sev_lt h1]; simp
    · rw [sev_ge h1, List.length_cons]
      have := ih (n / 128) (by rw [Nat.div_lt_iff_lt_mul (by decide), ← Nat.pow_succ]; exact h)
      omega
theorem sev_oct : ∀ n, ∀ x ∈ sev n, x < 256 := by
  intro n
  induction n using Nat.strongRecOn with
  | _ n ih =>
    intro x hx
    by_cases h1 : n < 128
    · rw [sev_lt h1, List.mem_singleton] at hx
      omega
    · rw [sev_ge h1, List.mem_cons] at hx
      rcases hx with rfl | hx
      · omega
      · exact ih (n / 128) (by omega) x hx
/-- the place of a sign in the row of signs -/
def sgns : List Nat := (List.range 95).map (· + 32) |>.filter (fun c => c != 37) |>.append [10]
def sgn (c : Nat) : Nat := if c = 10 then 94 else if c < 37 then c - 32 else c - 33
mutual
def octs : D → List Nat
  | .non => [0]
  | .bl b => [if b then 2 else 1]
  | .int i => if 0 ≤ i then 3 :: sev i.toNat else 4 :: sev (-i - 1).toNat
  | .str l => 5 :: (sev l.length ++ l.map sgn)
  | .tup ds => 6 :: (sev ds.length ++ octsL ds)
  | .lst _ => []
def octsL : List D → List Nat
  | [] => []
  | d :: ds => octs d ++ octsL ds
end
mutual
def height : D → Nat
  | .tup ds => heightL ds + 1
  | .lst ds => heightL ds + 1
  | _ => 0
def heightL : List D → Nat
  | [] => 0
  | d :: ds => max (height d) (heightL ds)
end
mutual
/-- a plain value, of a size -/
def Pln : D → Prop
  | .non => True
  | .bl _ => True
  | .int i => i.natAbs < 2 ^ 64
  | .str l => l.length ≤ 1000 ∧ ∀ c ∈ l, c ∈ sgns
  | .tup ds => ds.length ≤ 1000 ∧ PlnL ds
  | .lst _ => False
def PlnL : List D → Prop
  | [] => True
  | d :: ds => Pln d ∧ PlnL ds
end
theorem octsL_app : ∀ a b : List D, octsL (a ++ b) = octsL a ++ octsL b
  | [], _ => by simp [octsL]
  | d :: a, b => by rw [List.cons_append, octsL, octsL, octsL_app a b, List.append_assoc]
theorem octsL_take {ds : List D} {i : Nat} {d : D} (h : ds[i]? = some d) : octsL (ds.take (i + 1)) = octsL (ds.take i) ++ octs d := by
  rw [List.take_add_one, h, octsL_app]
  simp [octsL]
theorem heightL_get : ∀ {ds : List D} {i : Nat} {d : D}, ds[i]? = some d → height d ≤ heightL ds
  | [], _, _, h => nomatch h
  | d :: ds, 0, _, h => by cases h; rw [heightL]; exact Nat.le_max_left _ _
  | d :: ds, i + 1, _, h => by rw [heightL]; exact Nat.le_trans (heightL_get (ds := ds) (i := i) h) (Nat.le_max_right _ _)
theorem PlnL_get : ∀ {ds : List D} {i : Nat} {d : D}, PlnL ds → ds[i]? = some d → Pln d
  | [], _, _, _, h => nomatch h
  | d :: ds, 0, _, p, h => by cases h; rw [PlnL] at p; exact p.1
  | d :: ds, i + 1, _, p, h => by rw [PlnL] at p; exact PlnL_get (ds := ds) (i := i) p.2 h
theorem octsL_part : ∀ {ds : List D} {i : Nat} {d : D}, ds[i]? = some d → (octsL (ds.take i)).length + (octs d).length ≤ (octsL ds).length
  | [], _, _, h => nomatch h
  | d :: ds, 0, _, h => by cases h; rw [List.take_zero, octsL, octsL, List.length_append, List.length_nil]; omega
  | d :: ds, i + 1, _, h => by
    rw [List.take_succ_cons, octsL, octsL, List.length_append, List.length_append]
    have := octsL_part (ds := ds) (i := i) h
    omega
theorem sgn_lt {c : Nat} (h : c ∈ sgns) : sgn c < 95 := by
  have : ∀ c ∈ sgns, sgn c < 95 := by decide +kernel
  exact this c h
mutual
theorem octs_oct : ∀ d, Pln d → ∀ x ∈ octs d, x < 256
  | .non, _, x, h => by rw [octs, List.mem_singleton] at h; omega
  | .bl b, _, x, h => by rw [octs, List.mem_singleton] at h; subst h; cases b <;> decide
  | .int i, _, x, h => by
    rw [octs] at h
    split at h <;> rw [List.mem_cons] at h <;> rcases h with rfl | h
    · decide
    · exact sev_oct _ x h
    · decide
    · exact sev_oct _ x h
  | .str l, p, x, h => by
    rw [octs, List.mem_cons, List.mem_append, List.mem_map] at h
    rw [Pln] at p
    rcases h with rfl | h | ⟨c, hc, rfl⟩
    · decide
    · exact sev_oct _ x h
    · have := sgn_lt (p.2 c hc); omega
  | .tup ds, p, x, h => by
    rw [octs, List.mem_cons, List.mem_append] at h
    rw [Pln] at p
    rcases h with rfl | h | h
    · decide
    · exact sev_oct _ x h
    · exact octsL_oct ds p.2 x h
  | .lst _, _, x, h => by rw [octs] at h; simp at h
theorem octsL_oct : ∀ ds, PlnL ds → ∀ x ∈ octsL ds, x < 256
  | [], _, x, h => by rw [octsL] at h; simp at h
  | d :: ds, p, x, h => by
    rw [octsL, List.mem_append] at h
    rw [PlnL] at p
    rcases h with h | h
    · exact octs_oct d p.1 x h
    · exact octsL_oct ds p.2 x h
end
end My

set_option Elab.async false
set_option linter.all false
set_option maxRecDepth 100000
set_option maxHeartbeats 1000000
/-! texts: signs, lengths, slices, comprehensions; chains; all. -/
namespace My
open PySem PySem.Spec PyProof.Rows L2 Evl
section
variable {K : PySem.W.Frag}
theorem ev_sidx {σ : L2.St} {H : Hp} {te tb : TE} {a b : Str} {i : Nat} {r : List Nat} (h : Ev te σ H (.str a)) (hb : Ev tb σ H (.str b)) (ho : Builtin.Str.occurrences a b 0 a.length 1 = i :: r) :
    Ev (tBM K "str" (fun x xs H Q => ∃ a b i rest, x = .str a ∧ xs = [.str b] ∧ Builtin.Str.occurrences a b 0 a.length 1 = i :: rest ∧ Q (.int (i : Nat)) H) te (tCons tb tNil)) σ H (.int (i : Int)) := fun H1 e Q q =>
  h H1 e _ fun H2 e2 => ⟨rfl, hb H2 (e.trans e2) _ fun H3 e3 => ⟨a, b, i, r, rfl, rfl, ho, q H3 (e2.trans e3)⟩⟩
theorem ev_lenT {σ : L2.St} {H : Hp} {ta : TE} {p : Addr} {xs : List V} (ha : Ev ta σ H (.ref p)) (h : SqT K H p xs) : Ev (tCB (rLenS K) (tCons ta tNil)) σ H (.int (xs.length : Int)) := fun H1 e Q q =>
  ha H1 e _ fun H2 e2 => ⟨p, xs, rfl, .inr (ex_t (e.trans e2) h), q H2 e2⟩
theorem ev_lenS {σ : L2.St} {H : Hp} {ta : TE} {l : List Nat} (ha : Ev ta σ H (.str (tx l))) (hz : l.length ≤ 100000) : Ev (tCB (fun xs H Q => ∃ z, xs = [.str z] ∧ z.length ≤ sizeLine ∧ Q (.int z.length) H) (tCons ta tNil)) σ H (.int (l.length : Int)) := fun H1 e Q q =>
  ha H1 e _ fun H2 e2 => ⟨tx l, rfl, by rw [tx_len]; exact sz_of hz, by rw [tx_len]; exact q H2 e2⟩
theorem el_if {σ : L2.St} {H : Hp} {t : TT} {ta tb : TE} {xs : List V} {b : Bool} (h : EvT t σ H b) (h1 : b = true → EvL ta σ H xs) (h2 : b = false → EvL tb σ H xs) : EvL (tIf t ta tb) σ H xs := fun H1 e Q q => h H1 e _ fun H2 e2 => by
  cases b with
  | true => exact h1 rfl H2 (e.trans e2) Q fun p H3 hp e3 h3 => q p H3 (fresh_back e2 hp) (e2.trans e3) h3
  | false => exact h2 rfl H2 (e.trans e2) Q fun p H3 hp e3 h3 => q p H3 (fresh_back e2 hp) (e2.trans e3) h3

variable {σ : L2.St} {H H' : Hp} {ta : TA} {te tb tc tl : TE} {xs ys : List V} {x y z v : V} {p : Addr} {D : Ends} {tu tz : TS}
theorem rv_inSn {c : Nat} {l : List Nat} : RV (fun x y H Q => ∃ (c : Nat) (z : Str), x = .str ⟨#[c]⟩ ∧ y = .str z ∧ Q (.bl (decide (c ∈ z.cps.toList))) H) (.str (tx [c])) (.str (tx l)) H (.bl (decide (c ∈ l))) := rv_val fun H1 _ Q q => ⟨c, tx l, rfl, rfl, q⟩
theorem rv_niSn {c : Nat} {l : List Nat} : RV (fun x y H Q => ∃ (c : Nat) (z : Str), x = .str ⟨#[c]⟩ ∧ y = .str z ∧ Q (.bl (!decide (c ∈ z.cps.toList))) H) (.str (tx [c])) (.str (tx l)) H (.bl (!decide (c ∈ l))) := rv_val fun H1 _ Q q => ⟨c, tx l, rfl, rfl, q⟩
theorem ev_chain {r r' : R2} {w' : V} {k m : Bool} (ha : Ev te σ H x) (hb : Ev tb σ H y) (hr : RV r x y H (.bl k)) (hc : k = true → Ev tc σ H w') (hr' : k = true → RV r' y w' H (.bl m)) : Ev (tChain r r' te tb tc) σ H (.bl (k && m)) := fun H1 e Q q =>
  ha H1 e _ fun H2 e2 => hb H2 (e.trans e2) _ fun H3 e3 => hr H3 ((e.trans e2).trans e3) _ fun H4 e4 => ⟨k, rfl, by
    have E := ((e.trans e2).trans e3).trans e4
    cases k with
    | false => exact q H4 ((e2.trans e3).trans e4)
    | true => exact hc rfl H4 E _ fun H5 e5 => hr' rfl H5 (E.trans e5) _ fun H6 e6 => q H6 ((((e2.trans e3).trans e4).trans e5).trans e6)⟩
theorem ev_all {bs : List Bool} (h : EvL te σ H (bs.map V.bl)) : Ev (tCB (rAll K) (tCons te tNil)) σ H (.bl (bs.all id)) := fun H1 e Q q =>
  h H1 e _ fun p H2 _ e2 hp => ⟨p, bs, rfl, sq_of hp, q H2 e2⟩
theorem el_split {a b : Str} (ha : Ev te σ H (.str a)) (hb : Ev tb σ H (.str b)) (h0 : (b.length == 0) = false) (hz : a.length + 2 ≤ 100000) :
    EvL (tM1 (fun x xs H Q => ∃ a b, x = .str a ∧ xs = [.str b] ∧ (b.length == 0) = false ∧ a.length + 2 ≤ sizeLine ∧ rNewStrs (Txt.split a b) H Q) te tb) σ H ((Txt.split a b).map V.str) := fun H1 e Q q =>
  ha H1 e _ fun H2 e2 => ⟨⟨a, rfl⟩, hb H2 (e.trans e2) _ fun H3 e3 => ⟨a, b, rfl, rfl, h0, sz_of hz, fun l hl => q l _ (fresh_back (e2.trans e3) hl) ((e2.trans e3).trans (Ex.new hl)) upd_same⟩⟩
theorem ev_slS {l : List Nat} {tlo thi : TO} {lo hi : Option Int} (h : Ev te σ H (.str (tx l))) (h1 : EvO tlo σ H lo) (h2 : EvO thi σ H hi) (hz : l.length ≤ 100000) : Ev (tSl rSlS te tlo thi) σ H (.str (cutS (tx l) lo hi)) := fun H1 e Q q =>
  h H1 e _ fun H2 e2 => h1 H2 (e.trans e2) _ fun H3 e3 => h2 H3 ((e.trans e2).trans e3) _ fun H4 e4 => ⟨tx l, rfl, by rw [tx_len]; exact sz_of hz, q H4 ((e2.trans e3).trans e4)⟩
theorem cutS_take (l : List Nat) (n : Nat) : cutS (tx l) none (some (n : Int)) = tx (l.take n) := by
  unfold cutS
  rw [HT.sIx_nat, HT.sIx_none, tx_list, List.drop_zero, Nat.sub_zero, tx_len]
  by_cases h : n ≤ l.length
  · rw [Nat.min_eq_left h]; rfl
  · rw [Nat.min_eq_right (by omega), List.take_of_length_le (Nat.le_refl _), List.take_of_length_le (show l.length ≤ n by omega)]; rfl
/-- a comprehension over a text, no test -/
theorem el_lcS {j : Nat} {vs : List Nat} {l : List Nat} (v : Nat → V) (h : Ev tl σ H (.str (tx l))) (hz : l.length ≤ 40000) (hw : ∀ x, wipe ((wipe σ vs).set j (some x)) vs = wipe σ vs)
    (he : ∀ c H1, Ex H H1 → c ∈ l → Ev te ((wipe σ vs).set j (some (.str (tx [c])))) H1 (v c)) : EvL (tLc (iStr tl) (gName j) tYes te vs) σ H (l.map v) := by
  intro H0 e Q q
  refine h H0 e _ fun H1 e1 => ⟨tx l, rfl, fun Dl hD => ?_⟩
  have hsz : (tx l).cps.size = l.length := List.size_toArray
  refine ⟨fun i m H' => m = l.length - i ∧ i ≤ l.length ∧ Ex H1 H' ∧ H' Dl = some (.lst ((l.take i).map v)), ⟨l.length, rfl, Nat.zero_le _, Ex.new hD, upd_same⟩, ?_⟩
  rintro i m H' ⟨rfl, hi, ex, hl⟩
  by_cases hlt : i < l.length
  · refine .inr ⟨show i < _ by rw [hsz]; exact hlt, fun H' => Ex H1 H' ∧ H' Dl = some (.lst ((l.take (i + 1)).map v)), fun H2 p => ⟨l.length - (i + 1), by omega, rfl, hlt, p⟩, fun x H2 y => ?_⟩
    obtain ⟨rfl, c, hc, rfl⟩ := y
    have hc' : l[i]? = some c := by simpa [tx] using hc
    refine ⟨hw _, ?_⟩
    refine tyes_ ?_
    refine iteT (he c H1 (e.trans e1) (List.mem_of_getElem? hc') H2 ex _ fun H3 e3 => ⟨_, e3 Dl _ hl, sz_lt (by rw [List.length_map, List.length_take]; omega), (ex.trans e3).mut hD, ?_⟩)
    rw [upd_same, List.take_add_one, hc', List.map_append]
    rfl
  · have e0 : i = l.length := by omega
    subst e0
    rw [List.take_of_length_le (Nat.le_refl _)] at hl
    exact .inl ⟨show _ ≤ _ by rw [hsz]; exact Nat.le_refl _, q Dl H' (fresh_back e1 hD) (e1.trans ex) hl⟩
/-- a comprehension over a new list, no test -/
theorem el_lcN {j : Nat} {vs : List Nat} (g : V → V) (h : EvL tl σ H xs) (hz : xs.length ≤ 40000) (hw : ∀ x, wipe ((wipe σ vs).set j (some x)) vs = wipe σ vs)
    (he : ∀ x H1, Ex H H1 → x ∈ xs → Ev te ((wipe σ vs).set j (some x)) H1 (g x)) : EvL (tLc (iList K tl) (gName j) tYes te vs) σ H (xs.map g) := by
  intro H0 e Q q
  refine h H0 e _ fun a H1 ha e1 h1 => ⟨a, rfl, ⟨xs, sq_of h1⟩, fun Dl hD => ?_⟩
  refine ⟨fun i m H' => m = xs.length - i ∧ i ≤ xs.length ∧ Ex H1 H' ∧ H' Dl = some (.lst ((xs.take i).map g)), ⟨xs.length, rfl, Nat.zero_le _, Ex.new hD, upd_same⟩, ?_⟩
  rintro i m H' ⟨rfl, hi, ex, hl⟩
  by_cases hlt : i < xs.length
  · have gx : xs[i]? = some xs[i] := List.getElem?_eq_getElem hlt
    refine .inr ⟨⟨xs, xs[i], sq_of (ex a _ h1), gx⟩, fun H' => Ex H1 H' ∧ H' Dl = some (.lst ((xs.take (i + 1)).map g)), fun H2 p => ⟨xs.length - (i + 1), by omega, rfl, hlt, p⟩, fun x H2 y => ?_⟩
    obtain ⟨rfl, y⟩ := y
    have ex' : x = xs[i] := Option.some.inj ((y xs (sq_of (ex a _ h1))).symm.trans gx)
    subst ex'
    refine ⟨hw _, ?_⟩
    refine tyes_ ?_
    refine iteT (he _ H1 (e.trans e1) (List.mem_of_getElem? gx) H2 ex _ fun H3 e3 => ⟨_, e3 Dl _ hl, sz_lt (by rw [List.length_map, List.length_take]; omega), (ex.trans e3).mut hD, ?_⟩)
    rw [upd_same, List.take_add_one, gx, List.map_append]
    rfl
  · have e0 : i = xs.length := by omega
    subst e0
    rw [List.take_of_length_le (Nat.le_refl _)] at hl
    exact .inl ⟨⟨xs, sq_of (ex a _ h1), Nat.le_refl _⟩, q Dl H' (fresh_back e1 hD) (e1.trans ex) hl⟩
end
end My

set_option Elab.async false
set_option linter.all false
set_option maxRecDepth 100000
set_option maxHeartbeats 1000000
/-! text * int; is True; the laws' pool of draws; sameness of data. -/
namespace My
open PySem PySem.Spec PyProof.Rows L2 Evl
section
variable {X : Cx}
def rMulS : R2 := fun x y H Q => ∃ a n, x = .str a ∧ y = .int n ∧ MulOk a n ∧ Q (.str (Txt.mul a n)) H
theorem op_mulS : OpR X (binaryOp .Mult) rMulS := by
  intro pins s σ H x y v u Q I rx ry h
  obtain ⟨i, j, rfl, rfl, hz, q⟩ := h
  obtain ⟨t, rfl⟩ := rx
  obtain ⟨t', rfl⟩ := ry
  exact SB.mul hz fun t' tk => ⟨.str _, H, I.tok _, ⟨_, rfl⟩, q⟩
def rIsBA : R2 := fun x y H Q => ∃ b, y = .bl b ∧ Q (.bl (decide (x = .bl b))) H
theorem op_isBA : OpR X (compareOp .Is) rIsBA := by
  intro pins s σ H x y v u Q I rx ry h
  obtain ⟨b, rfl, q⟩ := h
  cases (show u = Value.bool b from ry)
  cases x with
  | bl a =>
    cases (show v = Value.bool a from rx)
    by_cases e : a = b
    · subst e
      exact wpAny_is_self rfl ⟨.bl true, H, I, rfl, by simpa using q⟩
    · exact wpAny_is_other rfl (fun z => e (Value.bool.inj z)) ⟨.bl false, H, I, rfl, by simpa [e] using q⟩
  | _ => first
    | (cases rx; exact wpAny_is_other rfl (fun z => nomatch z) ⟨.bl false, H, I, rfl, q⟩)
    | (obtain ⟨t, rfl⟩ := rx; exact wpAny_is_other rfl (fun z => nomatch z) ⟨.bl false, H, I, rfl, q⟩)
end
/-! ### heaps in which the pool alone is written -/
def Keep (p : Addr) (H H' : Hp) : Prop := ∀ a o, a ≠ p → H a = some o → H' a = some o
def Pool (K : PySem.W.Frag) (H : Hp) (p sc : Addr) (ns : List Int) : Prop := ∃ pl r f : Nat, H p = some (.lst [.ref sc, .int (pl : Int), .int (r : Int), .int (f : Int)]) ∧ SqL K H sc (ns.map V.int)
def G (K : PySem.W.Frag) (p sc : Addr) (ns : List Int) (H H' : Hp) : Prop := Keep p H H' ∧ Pool K H' p sc ns
section
variable {K : PySem.W.Frag} {p q a sc : Addr} {ns : List Int} {H H1 H2 H3 : Hp} {xs : List V} {v : V} {d : D} {o : HO}
theorem Keep.of (e : Ex H H1) : Keep p H H1 := fun x o _ h => e x o h
theorem Keep.trans (a : Keep p H H1) (b : Keep p H1 H2) : Keep p H H2 := fun x o n h => b x o n (a x o n h)
theorem Keep.upd : Keep p H (upd H p o) := fun x u n h => by rw [upd_ne n]; exact h
theorem Keep.new (k : Keep p H1 H2) (h : H1 q = none) : Keep p H1 (L2.upd H2 q o) := fun x u n e => by
  have nq : x ≠ q := fun z => by rw [z, h] at e; exact nomatch e
  rw [upd_ne nq]
  exact k x u n e
theorem keep_l (k : Keep p H H1) (n : a ≠ p) (h : SqL K H a xs) : SqL K H1 a xs := by
  rcases h with (h | ⟨o, h⟩) | h
  · exact .inl (.inl (k _ _ n h))
  · exact .inl (.inr ⟨o, k _ _ n h⟩)
  · exact .inr h
theorem keep_t (k : Keep p H H1) (n : a ≠ p) (h : SqT K H a xs) : SqT K H1 a xs := by
  rcases h with (h | ⟨o, h⟩) | h
  · exact .inl (.inl (k _ _ n h))
  · exact .inl (.inr ⟨o, k _ _ n h⟩)
  · exact .inr h
theorem sc_keep (hp : H p = some (.lst (.ref q :: xs))) (k : Keep p H H1) (h : SqL K H sc (ns.map V.int)) : SqL K H1 sc (ns.map V.int) := by
  rcases h with (h | ⟨o, h⟩) | h
  · have n : sc ≠ p := fun e => by
      rw [e, hp] at h
      have := HO.lst.inj (Option.some.inj h)
      cases ns with
      | nil => exact nomatch this
      | cons x r => exact nomatch (List.cons.inj this).1
    exact .inl (.inl (k _ _ n h))
  · have n : sc ≠ p := fun e => by
      rw [e, hp] at h
      exact nomatch Option.some.inj h
    exact .inl (.inr ⟨o, k _ _ n h⟩)
  · exact .inr h
theorem Pool.mk' {pl r f : Nat} (h : Pool K H p sc ns) (k : Keep p H H1) (h1 : H1 p = some (.lst [.ref sc, .int (pl : Int), .int (r : Int), .int (f : Int)])) : Pool K H1 p sc ns := by
  obtain ⟨_, _, _, hp, hs⟩ := h
  exact ⟨pl, r, f, h1, sc_keep hp k hs⟩
theorem Pool.ex (e : Ex H H1) (h : Pool K H p sc ns) : Pool K H1 p sc ns := by
  obtain ⟨pl, r, f, h1, h2⟩ := h
  exact ⟨pl, r, f, e p _ h1, ex_l e h2⟩
theorem G.trans (a : G K p sc ns H H1) (b : G K p sc ns H1 H2) : G K p sc ns H H2 := ⟨a.1.trans b.1, b.2⟩
theorem G.ex (e : Ex H H1) (h : Pool K H p sc ns) : G K p sc ns H H1 := ⟨.of e, h.ex e⟩
theorem G.refl (h : Pool K H p sc ns) : G K p sc ns H H := G.ex (Ex.refl H) h
theorem G.exR (g : G K p sc ns H H1) (e : Ex H1 H2) : G K p sc ns H H2 := g.trans (G.ex e g.2)
theorem G.exL (e : Ex H H1) (g : G K p sc ns H1 H2) : G K p sc ns H H2 := ⟨(Keep.of e).trans g.1, g.2⟩
/-- a new object beside the pool -/
theorem Pool.ne (h : Pool K H p sc ns) (ha : H a = none) : a ≠ p := fun e => by
  obtain ⟨_, r, f, h1, _⟩ := h
  rw [e, h1] at ha
  exact nomatch ha
theorem G.new (h : Pool K H1 p sc ns) (g : G K p sc ns H1 H2) (hq : H1 q = none) : G K p sc ns H1 (upd H2 q o) := by
  refine ⟨g.1.new hq, ?_⟩
  obtain ⟨_, r, f, h1, _⟩ := g.2
  exact h.mk' (g.1.new hq) (by rw [upd_ne (h.ne hq).symm]; exact h1)
mutual
theorem Rep.off (k : Keep p H H1) (hp : ∀ us, H p ≠ some (.tup us)) : ∀ {v : V} {d : D}, Pln d → Rep H v d → Rep H1 v d
  | _, _, _, .non => .non
  | _, _, _, .bl b => .bl b
  | _, _, _, .int i => .int i
  | _, _, _, .str l => .str l
  | _, .tup ds, h, .tup q r => .tup (k _ _ (fun e => hp _ (e ▸ q)) q) (Reps.off k hp (by rw [Pln] at h; exact h.2) r)
  | _, .lst ds, h, .lst q r => (by rw [Pln] at h; exact h.elim)
theorem Reps.off (k : Keep p H H1) (hp : ∀ us, H p ≠ some (.tup us)) : ∀ {vs : List V} {ds : List D}, PlnL ds → Reps H vs ds → Reps H1 vs ds
  | _, _, _, .nil => .nil
  | _, _ :: _, h, .cons r rs => .cons (Rep.off k hp (by rw [PlnL] at h; exact h.1) r) (Reps.off k hp (by rw [PlnL] at h; exact h.2) rs)
end
theorem Pool.noT (h : Pool K H p sc ns) (us : List V) : H p ≠ some (.tup us) := fun e => by
  obtain ⟨_, r, f, h1, _⟩ := h
  rw [h1] at e
  exact nomatch Option.some.inj e
theorem Rep.g (g : G K p sc ns H H1) (hp : Pool K H p sc ns) (h : Pln d) (r : Rep H v d) : Rep H1 v d := Rep.off g.1 hp.noT h r
theorem Reps.g {vs : List V} {ds : List D} (g : G K p sc ns H H1) (hp : Pool K H p sc ns) (h : PlnL ds) (r : Reps H vs ds) : Reps H1 vs ds := Reps.off g.1 hp.noT h r
end
/-! ### promises of the draws -/
def sp_draw (K : PySem.W.Frag) : Sp := fun vs H Q _ => ∃ (p sc : Addr) (ns : List Int) (limit : Nat), vs = [.ref p, .int (limit : Int)] ∧ Pool K H p sc ns ∧ 0 < limit ∧ limit < 2 ^ 63 ∧ ∀ (v : Nat) H', v < limit → G K p sc ns H H' → Q (.int (v : Int)) H'
def sp_pick (K : PySem.W.Frag) : Sp := fun vs H Q _ => ∃ (p sc : Addr) (ns : List Int) (a : Addr) (xs : List V), vs = [.ref p, .ref a] ∧ Pool K H p sc ns ∧ SqL K H a xs ∧ a ≠ p ∧ xs ≠ [] ∧ xs.length ≤ 1000 ∧ ∀ v H', v ∈ xs → G K p sc ns H H' → Q v H'
/-! ### steps by hand -/
section
variable {σ : L2.St} {H : Hp} {Q : VK} {R : List V → Hp → Prop} {ta tr : TA} {te tb : TE} {r : R2} {D : Ends} {sp : Sp} {dvs : List V} {E : XK} {v : V} {i : Nat} {tz : TS}
theorem r_ret (h : te σ H D.rt) : tRet te D σ H := h
theorem r_op (h : te σ H fun x H1 => tb σ H1 fun y H2 => r x y H2 Q) : tOp r te tb σ H Q := h
theorem r_var (h : σ[i]? = some (some v)) (q : Q v H) : tVar i σ H Q := ⟨v, h, q⟩
theorem r_c (q : Q v H) : tC v σ H Q := q
theorem r_call (h : ta σ H fun vs H1 => sp (vs ++ dvs) H1 Q E) : tCall sp dvs E ta σ H Q := h
theorem r_cons (h : te σ H fun x H1 => tr σ H1 fun xs H2 => R (x :: xs) H2) : tCons te tr σ H R := h
theorem r_nil (h : R [] H) : tNil σ H R := h
theorem r_ev {H0 : Hp} (h : Ev te σ H0 v) (e : Ex H0 H) (q : ∀ H2, Ex H H2 → Q v H2) : te σ H Q := h H e Q q
theorem r_el {H0 : Hp} {xs : List V} (h : EvL te σ H0 xs) (e : Ex H0 H) (q : ∀ a H2, H a = none → Ex H H2 → H2 a = some (.lst xs) → Q (.ref a) H2) : te σ H Q := h H e Q q
theorem r_asg (h : te σ H fun v H1 => tz D (σ.set i (some v)) H1) : tSeq (tAsg te (gName i)) tz D σ H := h
theorem r_if {t : TT} (h : t σ H fun b H1 => if b = true then te σ H1 Q else tb σ H1 Q) : tIf t te tb σ H Q := h
theorem r_test {B : Bool → Hp → Prop} (h : te σ H fun x H' => ∃ k, x = .bl k ∧ B k H') : tTest te σ H B := h
theorem r_draw {K : PySem.W.Frag} {p sc : Addr} {ns : List Int} {n : Nat} (hP : Pool K H p sc ns) (ha : EvA ta σ H [.ref p, .int (n : Int)]) (h0 : 0 < n) (hn : n < 2 ^ 63) (q : ∀ (v : Nat) H', v < n → G K p sc ns H H' → Q (.int (v : Int)) H') : tCall (sp_draw K) [] E ta σ H Q :=
  ha H (Ex.refl H) _ fun H1 e1 => ⟨p, sc, ns, n, rfl, hP.ex e1, h0, hn, fun v H' hv g => q v H' hv (G.exL e1 g)⟩
theorem r_pick {K : PySem.W.Frag} {p sc : Addr} {ns : List Int} {xs : List V} (hP : Pool K H p sc ns) (ha : Ev te σ H (.ref p)) (hb : EvL tb σ H xs) (h0 : xs ≠ []) (hn : xs.length ≤ 1000) (q : ∀ v H', v ∈ xs → G K p sc ns H H' → Q v H') : tCall (sp_pick K) [] E (tCons te (tCons tb tNil)) σ H Q :=
  ha H (Ex.refl H) _ fun H1 e1 => hb H1 e1 _ fun a H2 hn2 e2 h2 => ⟨p, sc, ns, a, xs, rfl, hP.ex (e1.trans e2), sq_of h2, (hP.ex e1).ne hn2, h0, hn, fun v H' hv g => q v H' hv (G.exL (e1.trans e2) g)⟩
theorem r_lcR1 {g : TG} {tt : TT} {vs : List Nat} (h : ta σ H fun ws H1 => ∃ j : Int, ws = [.int j] ∧ -(2 ^ 62) ≤ j ∧ j < 2 ^ 62 ∧ ∀ D, H1 D = none → ∃ W : Nat → Nat → Hp → Prop, (∃ m, W 0 m (upd H1 D (.lst []))) ∧ ∀ i m H, W i m H →
    ((Itr 0 j.toNat).stop i H ∧ Q (.ref D) H) ∨ ((Itr 0 j.toNat).go i H ∧ ∃ Nx : Hp → Prop, (∀ H', Nx H' → ∃ m', m' < m ∧ W (i + 1) m' H') ∧ ∀ x H', (Itr 0 j.toNat).yld i H x H' → g x (wipe σ vs) H' fun σ2 H2 => wipe σ2 vs = wipe σ vs ∧ tt σ2 H2 fun b H3 =>
      if b = true then te σ2 H3 fun y H4 => ∃ acc, H4 D = some (.lst acc) ∧ acc.length < sizeLine ∧ Nx (upd H4 D (.lst (acc ++ [y]))) else Nx H3)) : tLc (iRng1 ta) g tt te vs σ H Q := h
theorem r_cb {g : List V → Hp → VK → Prop} (h : ta σ H fun xs H1 => g xs H1 Q) : tCB g ta σ H Q := h
end
/-! ### the numbers -/
def m89 : Nat := 618970019642690137449562111
def m107 : Nat := 162259276829213363391578010288127
def mixF (n p : Nat) : Nat :=
  let f := (n * 48271 + p * 69621 + 11) % m89
  let s := (f * f + 7 * f + p) % m107
  s * m89 + (s * s + f) % m89
def absF (i : Int) : Nat := if i < 0 then (1 - 2 * i).toNat else i.toNat
def restF (xs : List Int) (p f : Nat) : Nat :=
  let n := if 0 < xs.length then absF (xs.getD (p % xs.length) 0) else 0
  if f = 0 ∧ p < xs.length ∧ 10 ^ 18 ≤ n then n - 10 ^ 18 else mixF (n + f * 1000003) p
/-! ### sameness -/
mutual
def sameD : D → D → Bool
  | .non, .non => true
  | .bl a, .bl b => decide (a = b)
  | .int a, .int b => decide (a = b)
  | .str a, .str b => decide (a = b)
  | .tup a, .tup b => sameL a b
  | .lst a, .lst b => sameL a b
  | _, _ => false
def sameL : List D → List D → Bool
  | [], [] => true
  | a :: as, b :: bs => sameD a b && sameL as bs
  | _, _ => false
end
mutual
theorem sameD_refl : ∀ d, sameD d d = true
  | .non => by rw [sameD]
  | .bl _ => by rw [sameD]; exact decide_eq_true rfl
  | .int _ => by rw [sameD]; exact decide_eq_true rfl
  | .str _ => by rw [sameD]; exact decide_eq_true rfl
  | .tup ds => by rw [sameD]; exact sameL_refl ds
  | .lst ds => by rw [sameD]; exact sameL_refl ds
theorem sameL_refl : ∀ ds, sameL ds ds = true
  | [] => by rw [sameL]
  | d :: ds => by rw [sameL, sameD_refl d, sameL_refl ds]; rfl
end
end My

set_option Elab.async false
set_option linter.all false
set_option maxRecDepth 100000
set_option maxHeartbeats 1000000
/-! literals whose items are new tuples; loops over rows of two; a row picked. -/
namespace My
open PySem PySem.Spec PyProof.Rows L2 Evl
mutual
def plnB : D → Bool
  | .non => true
  | .bl _ => true
  | .int i => decide (i.natAbs < 2 ^ 64)
  | .str l => decide (l.length ≤ 1000) && l.all fun c => decide (c ∈ sgns)
  | .tup ds => decide (ds.length ≤ 1000) && plnBL ds
  | .lst _ => false
def plnBL : List D → Bool
  | [] => true
  | d :: ds => plnB d && plnBL ds
end
mutual
theorem plnB_ok : ∀ d, plnB d = true → Pln d
  | .non, _ => by rw [Pln]; trivial
  | .bl _, _ => by rw [Pln]; trivial
  | .int i, h => by rw [plnB] at h; rw [Pln]; exact of_decide_eq_true h
  | .str l, h => by
    rw [plnB, Bool.and_eq_true] at h
    rw [Pln]
    exact ⟨of_decide_eq_true h.1, fun c hc => of_decide_eq_true (List.all_eq_true.mp h.2 c hc)⟩
  | .tup ds, h => by
    rw [plnB, Bool.and_eq_true] at h
    rw [Pln]
    exact ⟨of_decide_eq_true h.1, plnBL_ok ds h.2⟩
  | .lst _, h => by rw [plnB] at h; exact nomatch h
theorem plnBL_ok : ∀ ds, plnBL ds = true → PlnL ds
  | [], _ => by rw [PlnL]; trivial
  | d :: ds, h => by
    rw [plnBL, Bool.and_eq_true] at h
    rw [PlnL]
    exact ⟨plnB_ok d h.1, plnBL_ok ds h.2⟩
end
def EvAR (ta : TA) (σ : L2.St) (H : Hp) (ds : List D) : Prop := EvAP ta σ H fun vs H' => Reps H' vs ds
section
variable {K : PySem.W.Frag} {σ : L2.St} {H : Hp} {ta tr : TA} {te tl tb : TE} {d : D} {ds : List D} {D0 : Ends} {tu tz : TS} {E : XK} {Q : VK}
theorem er_nil : EvAR tNil σ H [] := fun H1 _ Q q => q [] H1 (Ex.refl H1) .nil
theorem er_cons (h : EvD te σ H d) (hr : EvAR tr σ H ds) : EvAR (tCons te tr) σ H (d :: ds) := fun H1 e Q q =>
  h H1 e _ fun v H2 e2 r => hr H2 (e.trans e2) _ fun vs H3 e3 rs => q _ H3 (e2.trans e3) (.cons (r.mono e3) rs)
theorem ed_tup (h : EvAR ta σ H ds) (hn : ds.length ≤ 100000) : EvD (tTup ta) σ H (.tup ds) := fun H1 e Q q =>
  h H1 e _ fun vs H2 e2 rs => ⟨sz_of (by rw [rs.len]; exact hn), fun p hp => q (.ref p) _ (e2.trans (Ex.new hp)) (.tup upd_same (rs.mono (Ex.new hp)))⟩
theorem ed_lst (h : EvAR ta σ H ds) (hn : ds.length ≤ 100000) : EvD (tLst ta) σ H (.lst ds) := fun H1 e Q q =>
  h H1 e _ fun vs H2 e2 rs => ⟨sz_of (by rw [rs.len]; exact hn), fun p hp => q (.ref p) _ (e2.trans (Ex.new hp)) (.lst upd_same (rs.mono (Ex.new hp)))⟩
theorem rv_mulSn {c : Nat} {l : List Nat} {n : Int} (hm : MulOk (tx [c]) n) (he : Txt.mul (tx [c]) n = tx l) : RV rMulS (.str (tx [c])) (.int n) H (.str (tx l)) := fun H1 _ Q q =>
  ⟨tx [c], n, rfl, rfl, hm, by rw [he]; exact q H1 (Ex.refl H1)⟩
theorem q_forD2 {rows : List (D × D)} {j1 j2 : Nat} (h : EvD tl σ H (.lst (rows.map fun r => .tup [r.1, r.2]))) (Pv : Hp → Nat → L2.St → Hp → Prop) (h0 : ∀ H1, Ex H H1 → Pv H1 0 σ H1) (hk : ∀ H1 i σ' H', Pv H1 i σ' H' → Ex H1 H')
    (hs : ∀ H1 i r v1 v2 σ' H', Ex H H1 → rows[i]? = some r → Rep H' v1 r.1 → Rep H' v2 r.2 → Pv H1 i σ' H' → tu { D0 with nx := Pv H1 (i + 1), ct := Pv H1 (i + 1), bk := tz D0 } ((σ'.set j1 (some v1)).set j2 (some v2)) H')
    (hd : ∀ H1 σ' H', Ex H H1 → Pv H1 rows.length σ' H' → tz D0 σ' H') : tSeq (tFor (iList K tl) (gTup K 2 (gCons (gName j1) (gCons (gName j2) gNil))) tu) tz D0 σ H := by
  refine h H (Ex.refl H) _ fun v H1 e r => ?_
  cases r with
  | @lst a vs _ hl rs =>
    have hlen : vs.length = rows.length := by rw [rs.len, List.length_map]
    refine ⟨a, rfl, ⟨vs, sq_of hl⟩, for_list (Pv H1) (h0 H1 e) (fun i σ' H' _ p => sq_of (hk H1 i σ' H' p a _ hl)) (fun i x σ' H' hx p => ?_) (fun σ' H' p => hd H1 σ' H' e (by rw [← hlen]; exact p))⟩
    obtain ⟨d, hd', rd⟩ := rs.get' hx
    rw [List.getElem?_map] at hd'
    obtain ⟨r, hr, e2⟩ := Option.map_eq_some_iff.mp hd'
    rw [← e2] at rd
    have ex := hk H1 i σ' H' p
    cases rd with
    | tup ht rr =>
      cases rr with
      | cons r1 rr =>
        cases rr with
        | cons r2 rr =>
          cases rr
          exact ⟨_, _, rfl, st_of (ex _ _ ht), rfl, _, _, rfl, _, _, rfl, rfl, hs H1 i r _ _ σ' H' e hr (r1.mono ex) (r2.mono ex) p⟩
def tupB : D → Bool
  | .tup _ => true
  | _ => false
/-- a row picked -/
theorem r_pickD {p sc : Addr} {ns : List Int} (hP : Pool K H p sc ns) (ha : Ev te σ H (.ref p)) (hb : EvD tb σ H (.lst ds)) (h0 : ds ≠ []) (hn : ds.length ≤ 1000) (hp : plnBL ds = true) (ht : ds.all tupB = true) (q : ∀ v d H', d ∈ ds → Rep H' v d → G K p sc ns H H' → Q v H') : tCall (sp_pick K) [] E (tCons te (tCons tb tNil)) σ H Q :=
  ha H (Ex.refl H) _ fun H1 e1 => hb H1 e1 _ fun v H2 e2 r => by
    have E2 := e1.trans e2
    have P2 := hP.ex E2
    cases r with
    | @lst a vs _ hl rs =>
      have hne : a ≠ p := fun e => by
        subst e
        obtain ⟨_, r, f, h1, _⟩ := P2
        rw [h1] at hl
        have := HO.lst.inj (Option.some.inj hl)
        subst this
        cases rs with
        | cons r1 rs =>
          cases rs with
          | cons r2 rs =>
            cases r2
            rw [List.all_cons, List.all_cons, Bool.and_eq_true, Bool.and_eq_true] at ht
            exact nomatch ht.2.1
      refine ⟨p, sc, ns, a, vs, rfl, P2, sq_of hl, hne, ?_, by rw [rs.len]; exact hn, fun v H' hv g => ?_⟩
      · intro z
        subst z
        exact h0 (List.length_eq_zero_iff.mp rs.len.symm)
      · obtain ⟨i, hi, rfl⟩ := List.mem_iff_getElem.mp hv
        obtain ⟨d, hd, rd⟩ := rs.get' (List.getElem?_eq_getElem hi)
        exact q _ d H' (List.mem_of_getElem? hd) (Rep.g g P2 (PlnL_get (plnBL_ok _ hp) hd) rd) (G.exL E2 g)
end
end My

set_option Elab.async false
set_option linter.all false
set_option maxRecDepth 100000
set_option maxHeartbeats 1000000
/-! what the top has written: defs, numbers, texts, tuples. -/
namespace My
open PySem PySem.Spec PyProof.Rows L2 Evl
def HasF (K : PySem.W.Frag) (x : Str) (st : Stmt) : Prop := ∃ (f : Addr) (oc : Value) (od : Option Addr) (kV dc pm : Value) (an : Option Addr) (cd ct : Value) (sl : Array (Option Value)),
  PySem.W.nsIn K mainGlobals x = some (some (.ref f)) ∧ K.lookup f = some ⟨oc, od, .func (PySem.W.fnOf x x (defArgs st) (defBody st) (defScope st) .none kV dc pm an cd ct), sl⟩ ∧ PySem.W.codeIn K cd x = true ∧ PySem.W.keepIn K (.ref f) = true
def HasI (K : PySem.W.Frag) (x : Str) (n : Int) : Prop := ∃ t, PySem.W.nsIn K mainGlobals x = some (some (.int n t))
def HasS (K : PySem.W.Frag) (x z : Str) : Prop := ∃ t, PySem.W.nsIn K mainGlobals x = some (some (.str z t))
def HasT (K : PySem.W.Frag) (x : Str) (xs : List V) : Prop := ∃ (a : Addr) (o : Obj) (its : Array Value) (n : Nat), PySem.W.nsIn K mainGlobals x = some (some (.ref a)) ∧ K.lookup a = some o ∧ o.cls = .type "tuple" ∧ o.data = .seq its n ∧ its.size ≤ sizeLine ∧ Vals xs its.toList
section
variable {K : PySem.W.Frag} {h : Heap} {mg : Str → Option Value} {x z : Str} {st : Stmt} {n : Int} {xs : List V}
theorem HasF.mk' {f : Addr} {oc : Value} {od : Option Addr} {kV dc pm : Value} {an : Option Addr} {cd ct : Value} {sl : Array (Option Value)}
    (a : PySem.W.nsIn K mainGlobals x = some (some (.ref f))) (l : K.lookup f = some ⟨oc, od, .func (PySem.W.fnOf x x (defArgs st) (defBody st) (defScope st) .none kV dc pm an cd ct), sl⟩) (c : PySem.W.codeIn K cd x = true) (k : PySem.W.keepIn K (.ref f) = true) : HasF K x st :=
  ⟨f, oc, od, kV, dc, pm, an, cd, ct, sl, a, l, c, k⟩
theorem HasI.mk' {t : Tok} (a : PySem.W.nsIn K mainGlobals x = some (some (.int n t))) : HasI K x n := ⟨t, a⟩
theorem HasS.mk' {t : Tok} (a : PySem.W.nsIn K mainGlobals x = some (some (.str z t))) : HasS K x z := ⟨t, a⟩
theorem HasT.mk' {p : Addr} {od : Option Addr} {its : Array Value} {m : Nat} {sl : Array (Option Value)} (a : PySem.W.nsIn K mainGlobals x = some (some (.ref p))) (l : K.lookup p = some ⟨.type "tuple", od, .seq its m, sl⟩) (z : its.size ≤ sizeLine) (v : Vals xs its.toList) : HasT K x xs :=
  ⟨p, _, its, m, a, l, rfl, rfl, z, v⟩
theorem HasF.get (X : K.In h) (G : h.Ns mainGlobals mg) (H : HasF K x st) : ∃ f fd, Fun K x x st f fd ∧ mg x = some (.ref f) := by
  obtain ⟨f, oc, od, kV, dc, pm, an, cd, ct, sl, a, l, c, k⟩ := H
  exact ⟨f, _, fun_mk l c k, PySem.W.mg_of X G a⟩
theorem HasI.gi (X : K.In h) (G : h.Ns mainGlobals mg) (H : HasI K x n) : GI mg x n := by
  obtain ⟨t, a⟩ := H
  exact ⟨t, PySem.W.mg_of X G a⟩
theorem HasS.gs (X : K.In h) (G : h.Ns mainGlobals mg) (H : HasS K x z) : GS mg x z := by
  obtain ⟨t, a⟩ := H
  exact ⟨t, PySem.W.mg_of X G a⟩
theorem HasT.gt (X : K.In h) (G : h.Ns mainGlobals mg) (H : HasT K x xs) : GT K mg x xs := by
  obtain ⟨a, o, its, n, m, l, c, d, z, v⟩ := H
  exact ⟨a, PySem.W.mg_of X G m, fun _ => .inr ⟨o, its, n, l, c, d, z, v⟩⟩
end
end My

set_option Elab.async false
set_option linter.all false
set_option maxRecDepth 100000
set_option maxHeartbeats 1000000
/-! sorted of texts, any number of them: a list's, a dict's keys. -/
namespace My
open PySem PySem.Spec PyProof.Rows L2 Evl
def rSortSA (K : PySem.W.Frag) : List V → Hp → VK → Prop := fun vs H Q => ∃ (a : Addr) (ks : List Str), vs = [.ref a] ∧ SqL K H a (ks.map V.str) ∧ ks.length ≤ 100000 ∧
  ∀ ys p, ys.Perm ks → sortedS ys = true → H p = none → Q (.ref p) (upd H p (.lst (ys.map V.str)))
def rSortDA : List V → Hp → VK → Prop := fun vs H Q => ∃ (a : Addr) (kvs : List (Key × V)) (ks : List Str), vs = [.ref a] ∧ Rd H a (.dK kvs) ∧ kvs.map (·.1) = ks.map Sum.inr ∧ ks.length ≤ 100000 ∧
  ∀ ys p, ys.Perm ks → sortedS ys = true → H p = none → Q (.ref p) (upd H p (.lst (ys.map V.str)))
section
variable {X : Cx}
theorem cr_sortedSA : CallR X (.builtin "sorted") (rSortSA X.K) := by
  intro pins s σ H vs us Q I r h
  obtain ⟨a, ks, rfl, hs, hn, q⟩ := h
  rw [Vals.ref1 r]
  obtain ⟨its, rv, hl, _⟩ := I.list hs
  have hlen := rv.length
  rw [List.length_map] at hlen
  refine sorted_strsAny hl.isList rv.strs (by rw [← hlen]; exact sz_of hn) fun out ys h1 h2 h3 => ?_
  obtain ⟨ep, hat⟩ := sortedAll_at s.heap its out
  refine ⟨.ref _, upd H (s.heap.objs.size + 1) (.lst (ys.map V.str)), I.laid (t' := s.toks) (fun _ _ => sortedAll_old) (Nat.le_succ _) ⟨?_, out.toList, ep, vals_of_strs h1, hat⟩, rfl, q ys _ h2 h3 (I.hok.fresh (Nat.le_succ _))⟩
  rw [List.length_map, h2.length_eq]
  exact sz_of hn
theorem cr_sortedDA (hcalm : X.calm = true) : CallR X (.builtin "sorted") rSortDA := by
  intro pins s σ H vs us Q I r h
  obtain ⟨a, kvs, ks, rfl, hd, hks, hn, q⟩ := h
  rw [Vals.ref1 r]
  obtain ⟨z, lo, ws, rel, dd⟩ := dk_rd I.hok hd
  obtain ⟨ep, hat⟩ := dd.dictAt
  have hkeys : ws.map (·.1) = ks.map Sum.inr := rel.keys.symm.trans hks
  have hl : ws.length = ks.length := by simpa using congrArg List.length hkeys
  have hz : ks.length ≤ sizeLine := sz_of hn
  refine Calls.call_function_entry kind_sorted plain_sorted entry_sorted (args_sorted1 _) ?_
  unfold Builtin.«sorted»
  refine wpAny_bind (m := checkCount "sorted" 1 1 _) (wpAny_pure ?_)
  refine wpAny_bind (PySem.W.kdu_collect (A := X.A.in1) (PySem.W.kdl_dict (knd := mixKind X.prog X.w) (kvs := ws) (ep := ep) lo) (I.ok.hd hcalm) hat (by rw [hl]; exact hz) fun h' tk acc hk hacc => ?_)
  have hal : acc.toList.length = ks.length := by rw [Array.length_toList, hacc.1, hl]
  have hS : StrsAre acc.toList ks := strs_at hal fun j v e => by
    obtain ⟨k, x, e1, e2⟩ := hacc.2 j v (by rw [← Array.getElem?_toList]; exact e)
    have e3 : (ks.map Sum.inr)[j]? = some k := by rw [← hkeys, List.getElem?_map, e1]; rfl
    rw [List.getElem?_map] at e3
    obtain ⟨y, e4, e5⟩ := Option.map_eq_some_iff.mp e3
    subst e5
    obtain ⟨t, ev⟩ := Value.isStrOf_shape (x := y) (v := v) e2
    exact ⟨y, t, e4, ev⟩
  have I1 : Inv X pins σ H { s with heap := h', toks := tk } := I.kept hk
  refine wpAny_bind (wpAny_newList ?_ (by rw [hal]; exact hz))
  have hoL : (h'.push (seqObj "list" acc.toList.toArray 0)).get? h'.objs.size = some (seqObj "list" acc.toList.toArray 0) := Heap.get?_push_size _ rfl
  show wpAny _ _ _ _ _ { s with heap := h'.push (seqObj "list" acc.toList.toArray 0), toks := tk }
  refine wpAny_bind (wpAny_holding (wpAny_call_entry slot_list_sort ⟨_, hoL, rfl⟩ entry_list_sort
    (list_sort_treeKAny strKind_oneLt (s := { s with heap := h'.push (seqObj "list" acc.toList.toArray 0), toks := tk }) hoL hS.keysOf (fun v₁ v₂ rest e => keyKind_strs (by rw [← e]; exact hS)) (by rw [hal]; exact hz) fun st' hp hs => ⟨_, rfl, ?_⟩)
    (args_list_sort _)))
  obtain ⟨ys, g1, g2, g3⟩ := sorted_out_str hS hp hs
  obtain ⟨e', he'⟩ := sortedHeap_at (vs := acc.toList) (out := (arrOf st').map (·.2)) hoL
  refine wpAny_pure ⟨_, rfl, .ref h'.objs.size, upd H h'.objs.size (.lst (ys.map V.str)), I1.laid (t' := tk) (fun b u e => ?_) (Nat.le_refl _)
    (show ObjOk X.prog X.w _ _ _ (.lst (ys.map V.str)) from ⟨by rw [List.length_map, g2.length_eq]; exact hz, ((arrOf st').map (·.2)).toList, e', vals_of_strs g1, by rw [Array.toArray_toList]; exact he'⟩), rfl, q ys _ g2 g3 (I1.hok.fresh (Nat.le_refl _))⟩
  have hb : b < h'.objs.size := Heap.lt_size e
  rw [sortedHeap_old (Nat.ne_of_lt hb) (by rw [size_push']; exact Nat.lt_succ_of_lt hb)]
  exact Heap.get?_push_of_some _ e
end
end My

set_option Elab.async false
set_option linter.all false
set_option maxRecDepth 100000
set_option maxHeartbeats 1000000
/-! text.split of one sign, as a plain function. -/
namespace My
open PySem PySem.Spec PyProof.Rows L2 Evl PySem.StrLaws
def splitT (c : Nat) : List Nat → List (List Nat)
  | [] => [[]]
  | x :: r => if x = c then [] :: splitT c r else
    match splitT c r with
    | [] => [[x]]
    | p :: q => (x :: p) :: q
/-- where c stands, counted from a -/
def posn (c : Nat) : Nat → List Nat → List Nat
  | _, [] => []
  | a, x :: r => if x = c then a :: posn c (a + 1) r else posn c (a + 1) r
theorem sub_one {l : List Nat} {c i : Nat} : Builtin.Str.subAt (tx l) (tx [c]) i = decide (l[i]? = some c) := by
  rw [subAt_eq]
  show ((l.drop i).take 1 == [c]) = _
  cases h : l[i]? with
  | none =>
    rw [List.drop_of_length_le (List.getElem?_eq_none_iff.mp h)]
    rfl
  | some x =>
    obtain ⟨hi, hx⟩ := List.getElem?_eq_some_iff.mp h
    rw [List.drop_eq_getElem_cons hi, hx]
    show ([x] == [c]) = decide (some x = some c)
    by_cases e : x = c
    · subst e
      simp
    · rw [decide_eq_false fun z => e (Option.some.inj z)]
      exact beq_eq_false_iff_ne.mpr fun z => e (List.cons.inj z).1
theorem occ_run {l : List Nat} {c : Nat} : ∀ (m k : Nat) (st : Array Nat × Nat) (pre : List Nat), k + m = l.length + 1 → st.1.toList = pre → st.2 ≤ k → pre.length ≤ k →
    (forIn (List.range' k m) st (occBody (tx l) (tx [c]) l.length (l.length + 1))).run.fst.toList = pre ++ posn c k (l.drop k)
  | 0, k, st, pre, hk, hp, _, _ => by
    rw [List.drop_of_length_le (by omega)]
    show st.1.toList = pre ++ []
    rw [hp, List.append_nil]
  | m + 1, k, st, pre, hk, hp, h2, h3 => by
    rw [List.range'_succ, List.forIn_cons]
    unfold occBody
    have hsz : st.1.size ≤ k := by rw [← Array.length_toList, hp]; exact h3
    rw [sub_one]
    by_cases hx : l[k]? = some c
    · obtain ⟨hlt, hx'⟩ := List.getElem?_eq_some_iff.mp hx
      rw [if_pos ⟨⟨⟨by omega, h2⟩, by show k + 1 ≤ l.length; omega⟩, decide_eq_true hx⟩]
      have := occ_run (l := l) (c := c) m (k + 1) (st.1.push k, k + 1) (pre ++ [k]) (by omega) (by rw [Array.toList_push, hp]) (Nat.le_refl _) (by rw [List.length_append]; exact Nat.succ_le_succ h3)
      rw [List.drop_eq_getElem_cons hlt, posn, if_pos hx', List.append_cons]
      exact this
    · rw [if_neg fun z => hx (of_decide_eq_true z.2)]
      have := occ_run (l := l) (c := c) m (k + 1) (st.1, st.2) pre (by omega) hp (Nat.le_succ_of_le h2) (Nat.le_succ_of_le h3)
      by_cases hlt : k < l.length
      · rw [List.drop_eq_getElem_cons hlt, posn, if_neg fun z => hx (by rw [List.getElem?_eq_getElem hlt, z])]
        exact this
      · rw [List.drop_of_length_le (by omega)]
        rw [List.drop_of_length_le (by omega)] at this
        exact this
theorem occ_one {l : List Nat} {c : Nat} : Builtin.Str.occurrences (tx l) (tx [c]) 0 l.length (l.length + 1) = posn c 0 l := by
  rw [occ_eq]
  exact occ_run (l.length + 1) 0 (#[], 0) [] (by omega) rfl (Nat.le_refl _) (Nat.le_refl _)
theorem str_sub {l : List Nat} {i j : Nat} : Builtin.Str.strSub (tx l) i j = tx ((l.drop i).take (j - i)) := by
  refine Str.ext' (Array.toList_inj.mp ?_)
  rw [strSub_toList]
  rfl
theorem split_ne (c : Nat) : ∀ l, splitT c l ≠ []
  | [] => fun z => nomatch z
  | x :: r => by
    rw [splitT]
    split
    · exact fun z => nomatch z
    · split <;> exact fun z => nomatch z
def pre1 (p : List Nat) : List (List Nat) → List (List Nat)
  | [] => [p]
  | q :: r => (p ++ q) :: r
theorem parts_run {l : List Nat} {c : Nat} : ∀ (n a b : Nat), b + n = l.length → a ≤ b → partsFrom (tx l) 1 a (posn c b (l.drop b)) = (pre1 ((l.drop a).take (b - a)) (splitT c (l.drop b))).map tx
  | 0, a, b, hb, hab => by
    rw [List.drop_of_length_le (show l.length ≤ b by omega)]
    show [Builtin.Str.strSub (tx l) a (tx l).length] = [tx (_ ++ [])]
    rw [str_sub, tx_len, List.append_nil, show l.length = b by omega]
  | n + 1, a, b, hb, hab => by
    have hlt : b < l.length := by omega
    rw [List.drop_eq_getElem_cons hlt, posn, splitT]
    by_cases hx : l[b] = c
    · rw [if_pos hx, if_pos hx]
      show Builtin.Str.strSub (tx l) a b :: partsFrom (tx l) 1 (b + 1) _ = tx (_ ++ []) :: (splitT c (l.drop (b + 1))).map tx
      rw [str_sub, List.append_nil, parts_run n (b + 1) (b + 1) (by omega) (Nat.le_refl _), Nat.sub_self, List.take_zero]
      cases h : splitT c (l.drop (b + 1)) with
      | nil => exact absurd h (split_ne _ _)
      | cons p q => rfl
    · rw [if_neg hx, if_neg hx, parts_run n a (b + 1) (by omega) (by omega)]
      have e : (l.drop a).take (b + 1 - a) = (l.drop a).take (b - a) ++ [l[b]] := by
        rw [show b + 1 - a = (b - a) + 1 by omega, List.take_add_one, List.getElem?_drop, show a + (b - a) = b by omega, List.getElem?_eq_getElem hlt]
        rfl
      rw [e]
      cases h : splitT c (l.drop (b + 1)) with
      | nil => exact absurd h (split_ne _ _)
      | cons p q =>
        show (((_ ++ [l[b]]) ++ p) :: q).map tx = ((_ ++ (l[b] :: p)) :: q).map tx
        rw [List.append_assoc]
        rfl
theorem split_tx {l : List Nat} {c : Nat} (hc : c < 128) : Txt.split (tx l) (tx [c]) = (splitT c l).map tx := by
  have hk : ∀ x : Str, 1 ≤ Builtin.Str.strKind x := fun x => by
    unfold Builtin.Str.strKind
    split
    · decide
    · split <;> decide
  have h1 : Builtin.Str.strKind (tx [c]) = 1 := by
    unfold Builtin.Str.strKind
    rw [if_pos (by simp [tx]; omega)]
  have key : partsFrom (tx l) 1 0 (posn c 0 l) = (splitT c l).map tx := by
    have := parts_run (l := l) (c := c) l.length 0 0 (by omega) (Nat.le_refl _)
    rw [List.drop_zero, Nat.sub_zero, List.take_zero] at this
    rw [this]
    cases h : splitT c l with
    | nil => exact absurd h (split_ne _ _)
    | cons p q => rfl
  unfold Txt.split
  rw [show (tx [c]).length = 1 from rfl, h1]
  cases l with
  | nil => rfl
  | cons x r =>
    rw [if_neg (by
      have := hk (tx (x :: r))
      rw [tx_len]
      simp
      omega)]
    rw [show (tx (x :: r)).length = (x :: r).length from tx_len _, occ_one]
    cases hp : posn c 0 (x :: r) with
    | nil =>
      rw [hp] at key
      rw [if_pos (show (([] : List Nat).isEmpty = true) from rfl), ← key]
      show [tx (x :: r)] = [Builtin.Str.strSub _ 0 _]
      rw [str_sub, List.drop_zero, tx_len, Nat.sub_zero, List.take_length]
    | cons a b =>
      rw [if_neg (by intro z; exact nomatch z), partsBetween_eq, ← hp, key]
end My

set_option Elab.async false
set_option linter.all false
set_option maxRecDepth 100000
set_option maxHeartbeats 1000000
/-! comprehensions with a test over lists and tuples, by their items. -/
namespace My
open PySem PySem.Spec PyProof.Rows L2 Evl
section
variable {K : PySem.W.Frag} {σ : L2.St} {H : Hp} {te tl : TE} {tt : TT} {xs : List V} {a : Addr}
/-- the turn of a comprehension whose item is x -/
theorem lcf_turn {H1 H' : Hp} {σ2 : L2.St} {Dl : Addr} {f : V → Bool} {g : V → V} {i : Nat} {x : V} (hx : xs[i]? = some x) (hD : H1 Dl = none) (ex : Ex H1 H') (hl : H' Dl = some (.lst (((xs.take i).filter f).map g))) (hz : xs.length ≤ 40000)
    (ht : EvT tt σ2 H1 (f x)) (he : f x = true → Ev te σ2 H1 (g x)) :
    tt σ2 H' fun b H3 => if b = true then te σ2 H3 fun y H4 => ∃ acc, H4 Dl = some (.lst acc) ∧ acc.length < sizeLine ∧ (Ex H1 (upd H4 Dl (.lst (acc ++ [y]))) ∧ (upd H4 Dl (.lst (acc ++ [y]))) Dl = some (.lst (((xs.take (i + 1)).filter f).map g)))
      else (Ex H1 H3 ∧ H3 Dl = some (.lst (((xs.take (i + 1)).filter f).map g))) := by
  refine ht H' ex _ fun H3 e3 => ?_
  have E3 := ex.trans e3
  have l3 := e3 Dl _ hl
  rw [List.take_add_one, hx, List.filter_append]
  cases hf : f x with
  | false =>
    rw [if_neg (by decide)]
    refine ⟨E3, ?_⟩
    rw [l3]
    simp [hf]
  | true =>
    rw [if_pos rfl]
    refine he hf H3 E3 _ fun H4 e4 => ⟨_, e4 Dl _ l3, sz_lt ?_, (E3.trans e4).mut hD, ?_⟩
    · have h1 := List.length_filter_le f (xs.take i)
      rw [List.length_map]
      rw [List.length_take] at h1
      omega
    · rw [upd_same]
      simp [hf]
theorem el_lcF {j : Nat} {vs : List Nat} (f : V → Bool) (g : V → V) (h : EvL tl σ H xs) (hz : xs.length ≤ 40000) (hw : ∀ x, wipe ((wipe σ vs).set j (some x)) vs = wipe σ vs)
    (ht : ∀ x H1, Ex H H1 → x ∈ xs → EvT tt ((wipe σ vs).set j (some x)) H1 (f x)) (he : ∀ x H1, Ex H H1 → x ∈ xs → f x = true → Ev te ((wipe σ vs).set j (some x)) H1 (g x)) : EvL (tLc (iList K tl) (gName j) tt te vs) σ H ((xs.filter f).map g) := by
  intro H0 e Q q
  refine h H0 e _ fun a H1 ha e1 h1 => ⟨a, rfl, ⟨xs, sq_of h1⟩, fun Dl hD => ?_⟩
  refine ⟨fun i m H' => m = xs.length - i ∧ i ≤ xs.length ∧ Ex H1 H' ∧ H' Dl = some (.lst (((xs.take i).filter f).map g)), ⟨xs.length, rfl, Nat.zero_le _, Ex.new hD, upd_same⟩, ?_⟩
  rintro i m H' ⟨rfl, hi, ex, hl⟩
  by_cases hlt : i < xs.length
  · have gx : xs[i]? = some xs[i] := List.getElem?_eq_getElem hlt
    refine .inr ⟨⟨xs, xs[i], sq_of (ex a _ h1), gx⟩, fun H' => Ex H1 H' ∧ H' Dl = some (.lst (((xs.take (i + 1)).filter f).map g)), fun H2 p => ⟨xs.length - (i + 1), by omega, rfl, hlt, p⟩, fun x H2 y => ?_⟩
    obtain ⟨rfl, y⟩ := y
    have ex' : x = xs[i] := Option.some.inj ((y xs (sq_of (ex a _ h1))).symm.trans gx)
    subst ex'
    exact ⟨hw _, lcf_turn gx hD ex hl hz (ht _ H1 (e.trans e1) (List.mem_of_getElem? gx)) (he _ H1 (e.trans e1) (List.mem_of_getElem? gx))⟩
  · have e0 : i = xs.length := by omega
    subst e0
    rw [List.take_of_length_le (Nat.le_refl _)] at hl
    exact .inl ⟨⟨xs, sq_of (ex a _ h1), Nat.le_refl _⟩, q Dl H' (fresh_back e1 hD) (e1.trans ex) hl⟩
theorem el_lcA {j : Nat} {vs : List Nat} (f : V → Bool) (g : V → V) (h : Ev tl σ H (.ref a)) (hS : SqL K H a xs) (hz : xs.length ≤ 40000) (hw : ∀ x, wipe ((wipe σ vs).set j (some x)) vs = wipe σ vs)
    (ht : ∀ x H1, Ex H H1 → x ∈ xs → EvT tt ((wipe σ vs).set j (some x)) H1 (f x)) (he : ∀ x H1, Ex H H1 → x ∈ xs → f x = true → Ev te ((wipe σ vs).set j (some x)) H1 (g x)) : EvL (tLc (iList K tl) (gName j) tt te vs) σ H ((xs.filter f).map g) := by
  intro H0 e Q q
  refine h H0 e _ fun H1 e1 => ⟨a, rfl, ⟨xs, ex_l (e.trans e1) hS⟩, fun Dl hD => ?_⟩
  have S1 := ex_l (e.trans e1) hS
  refine ⟨fun i m H' => m = xs.length - i ∧ i ≤ xs.length ∧ Ex H1 H' ∧ H' Dl = some (.lst (((xs.take i).filter f).map g)), ⟨xs.length, rfl, Nat.zero_le _, Ex.new hD, upd_same⟩, ?_⟩
  rintro i m H' ⟨rfl, hi, ex, hl⟩
  by_cases hlt : i < xs.length
  · have gx : xs[i]? = some xs[i] := List.getElem?_eq_getElem hlt
    refine .inr ⟨⟨xs, xs[i], ex_l ex S1, gx⟩, fun H' => Ex H1 H' ∧ H' Dl = some (.lst (((xs.take (i + 1)).filter f).map g)), fun H2 p => ⟨xs.length - (i + 1), by omega, rfl, hlt, p⟩, fun x H2 y => ?_⟩
    obtain ⟨rfl, y⟩ := y
    have ex' : x = xs[i] := Option.some.inj ((y xs (ex_l ex S1)).symm.trans gx)
    subst ex'
    exact ⟨hw _, lcf_turn gx hD ex hl hz (ht _ H1 (e.trans e1) (List.mem_of_getElem? gx)) (he _ H1 (e.trans e1) (List.mem_of_getElem? gx))⟩
  · have e0 : i = xs.length := by omega
    subst e0
    rw [List.take_of_length_le (Nat.le_refl _)] at hl
    exact .inl ⟨⟨xs, ex_l ex S1, Nat.le_refl _⟩, q Dl H' (fresh_back e1 hD) (e1.trans ex) hl⟩
theorem el_lcT {j : Nat} {vs : List Nat} (f : V → Bool) (g : V → V) (h : Ev tl σ H (.ref a)) (hS : SqT K H a xs) (hz : xs.length ≤ 40000) (hw : ∀ x, wipe ((wipe σ vs).set j (some x)) vs = wipe σ vs)
    (ht : ∀ x H1, Ex H H1 → x ∈ xs → EvT tt ((wipe σ vs).set j (some x)) H1 (f x)) (he : ∀ x H1, Ex H H1 → x ∈ xs → f x = true → Ev te ((wipe σ vs).set j (some x)) H1 (g x)) : EvL (tLc (iTup K tl) (gName j) tt te vs) σ H ((xs.filter f).map g) := by
  intro H0 e Q q
  refine h H0 e _ fun H1 e1 => ⟨a, rfl, ⟨xs, ex_t (e.trans e1) hS⟩, fun Dl hD => ?_⟩
  have S1 := ex_t (e.trans e1) hS
  refine ⟨fun i m H' => m = xs.length - i ∧ i ≤ xs.length ∧ Ex H1 H' ∧ H' Dl = some (.lst (((xs.take i).filter f).map g)), ⟨xs.length, rfl, Nat.zero_le _, Ex.new hD, upd_same⟩, ?_⟩
  rintro i m H' ⟨rfl, hi, ex, hl⟩
  by_cases hlt : i < xs.length
  · have gx : xs[i]? = some xs[i] := List.getElem?_eq_getElem hlt
    refine .inr ⟨⟨xs, xs[i], ex_t ex S1, gx⟩, fun H' => Ex H1 H' ∧ H' Dl = some (.lst (((xs.take (i + 1)).filter f).map g)), fun H2 p => ⟨xs.length - (i + 1), by omega, rfl, hlt, p⟩, fun x H2 y => ?_⟩
    obtain ⟨rfl, y⟩ := y
    have ex' : x = xs[i] := Option.some.inj ((y xs (ex_t ex S1)).symm.trans gx)
    subst ex'
    exact ⟨hw _, lcf_turn gx hD ex hl hz (ht _ H1 (e.trans e1) (List.mem_of_getElem? gx)) (he _ H1 (e.trans e1) (List.mem_of_getElem? gx))⟩
  · have e0 : i = xs.length := by omega
    subst e0
    rw [List.take_of_length_le (Nat.le_refl _)] at hl
    exact .inl ⟨⟨xs, ex_t ex S1, Nat.le_refl _⟩, q Dl H' (fresh_back e1 hD) (e1.trans ex) hl⟩
end
end My

set_option Elab.async false
set_option linter.all false
set_option maxRecDepth 100000
set_option maxHeartbeats 2000000
/-! enumerate(tuple); loops over enumerate(list), enumerate(tuple). -/
namespace My
open PySem PySem.Spec PyProof.Rows L2 Evl
open Sem (wp)
theorem meets_enumerate_newB1 {v : Value} {o : Obj} {H : Heap → Prop} (B : Begins v o H) :
    Meets (Builtin.«enumerate.__new__» ⟨[.type "enumerate", v], []⟩) (fun _ R s => H s.heap ∧
      R (.ok (.ret (.ref (s.heap.push o).objs.size))) { s with heap := (s.heap.push o).push { cls := .type "enumerate", data := .fields #[.none, .bool false, .ref s.heap.objs.size, rawInt 0, .none, .none] } }) :=
  .of_wp fun prog w A R s h => by
    obtain ⟨hp, g, d, tk, os⟩ := s; obtain ⟨h1, h⟩ := h
    have hsub := sub_enumerate
    have q1 : ∀ {A' : Around} {E : Value → Shared → Prop} {Q : Value → Shared → Prop}, Q (.ref hp.objs.size) ⟨hp.push o, g, d, tk, os⟩ → wpAny (model prog w) A' (pyIter v) Q E ⟨hp, g, d, tk, os⟩ :=
      fun q => B.iter prog w _ _ ⟨hp, g, d, tk, os⟩ _ h1 q
    wp_walk using q1
    refine wpAny_stack_any fun st => wpAny_pure ?_
    split
    · rename_i c _ _ _ _ _
      cases (c == Value.type "enumerate")
      · wp_walk using q1
        exact ⟨_, rfl, h⟩
      · wp_walk using q1
        exact ⟨_, rfl, h⟩
    · wp_walk using q1
      exact ⟨_, rfl, h⟩
theorem enum_begins1 {prog : Program} {w : World} {A : Around} {E : Value → Shared → Prop} {s : Shared} {v : Value} {o : Obj} {H : Heap → Prop} {Q : Value → Shared → Prop} (B : Begins v o H) (h1 : H s.heap)
    (h : ∀ h', IsEnum h' (s.heap.objs.size + 1) s.heap.objs.size 0 .none → h'.get? s.heap.objs.size = some o → h'.objs.size = s.heap.objs.size + 2 →
      (∀ b o, s.heap.get? b = some o → h'.get? b = some o) → Q (.ref (s.heap.objs.size + 1)) { s with heap := h' }) :
    wpAny (model prog w) A (call (.type "enumerate") [v]) Q E s := by
  refine callType_new F.called_enumerate (by decide) (F.typeCall_enumerate_1 _) (F.newCall_enumerate_1 _) (fun obj => F.args_object_init_2 obj _) F.entry_enumerate_new
    (meets_enumerate_newB1 B) ⟨h1, ?_⟩
  have hz : (s.heap.push o).objs.size = s.heap.objs.size + 1 := Heap.size_push ..
  show _ ∧ _
  rw [hz]
  have he : IsEnum ((s.heap.push o).push { cls := .type "enumerate", data := .fields #[.none, .bool false, .ref s.heap.objs.size, rawInt 0, .none, .none] }) (s.heap.objs.size + 1) s.heap.objs.size 0 .none := by
    have := Heap.get?_push_size (s.heap.push o) (o := { cls := .type "enumerate", data := .fields #[.none, .bool false, .ref s.heap.objs.size, rawInt 0, .none, .none] }) rfl
    rw [hz] at this; exact this
  refine ⟨⟨_, he, rfl⟩, h _ he (Heap.get?_push_of_some _ (Heap.get?_push_size _ B.free)) (by rw [Heap.size_push, hz]) fun b o x => Heap.get?_push_of_some _ (Heap.get?_push_of_some _ x)⟩
def IteT (K : PySem.W.Frag) (a : Addr) : It :=
  ⟨fun i H => ∃ (xs : List V) (x : V), SqT K H a xs ∧ xs[i]? = some x, fun i H v H' => ∃ T x, v = .ref T ∧ H T = none ∧ H' = upd H T (.tup [.int (i : Nat), x]) ∧ ∀ xs, SqT K H a xs → xs[i]? = some x, fun i H => ∃ xs : List V, SqT K H a xs ∧ xs.length ≤ i⟩
theorem turn_enumT {P : Program} {w : World} {K : PySem.W.Frag} {elts : List Expr} {kk : Nat} {tpos : Pos} (a e it : Addr) :
    Turn P w K (.Tuple elts kk tpos) (IteT K a) [e, it] e (fun i h => (∃ old, IsEnum h e it ((i : Nat) : Int) old) ∧ h.IsTupleIter it a i ∧ e ≠ it ∧ e ≠ a ∧ a ≠ it) where
  mem := by simp
  obj := fun i h st b hb => by
    obtain ⟨⟨old, he⟩, ⟨o, ho, hc, hd⟩, _⟩ := st
    have e' : b = e ∨ b = it := by simpa using hb
    rcases e' with z | z
    · rw [z]; exact ⟨_, he, fun v q => nomatch q⟩
    · rw [z]; exact ⟨o, ho, fun v q => by rw [hd] at q; cases q⟩
  keep := fun i h h' st k => let ⟨⟨old, he⟩, hi, hne⟩ := st; ⟨⟨old, k e (by simp) _ he⟩, hi.at fun o q => k it (by simp) o q, hne⟩
  item := by
    intro X hP hw hK hc i pins s σ H E I hf st hg
    subst hP hw hK
    obtain ⟨⟨old, he⟩, hit, hne, hea, hai⟩ := st
    obtain ⟨xs, x, hq, hx⟩ := hg
    obtain ⟨its, rv, p, hz⟩ := I.tuple hq
    obtain ⟨u, hu, ru⟩ := rv.get hx
    have hel : e < s.heap.objs.size := Heap.lt_size he
    have hil : it < s.heap.objs.size := by obtain ⟨_, q, _⟩ := hit; exact Heap.lt_size q
    have hlt : i < its.toArray.size := by
      have := (List.getElem?_eq_some_iff.mp hu).1
      simpa using this
    have D := Draws.tuple (prog := X.prog) (w := X.w) (A := X.A.in1) (I.ok.hd hc) it a hai its.toArray
    refine wpAny_pyNext_enum_itemD D he ⟨hit, p⟩ hlt hne (by simp [hne, hea]) fun x' h' tk hP ho hst' hT hsz hk => ?_
    obtain ⟨hit', _⟩ := hst'
    have hux : x' = u := by
      have h1 : its.toArray[i]? = some u := by simpa using hu
      exact Option.some.inj (hP.symm.trans h1)
    subst hux
    refine ⟨_, rfl, wpAny_letOwnedTupleGo_enum (s := { s with heap := h', toks := tk + 1 }) ho fun h'' he' sb => ?_⟩
    have hT2 : h''.get? s.heap.objs.size = some { cls := .type "tuple", data := .seq #[.int i tk, x'] } := (sb.2 _ (Nat.ne_of_gt hel)).trans hT
    have new : ObjOk X.prog X.w (upd H s.heap.objs.size (.tup [.int (i : Nat), x])) h'' s.heap.objs.size (.tup [.int (i : Nat), x]) :=
      ⟨by show 2 ≤ sizeLine; decide, [.int i tk, x'], .cons ⟨_, rfl⟩ (.cons ru .nil), ⟨_, hT2, rfl, _, rfl⟩⟩
    have I1 : Inv X pins σ (upd H s.heap.objs.size (.tup [.int (i : Nat), x])) { s with heap := h'', toks := tk + 1 } :=
      I.turnedNew (ch := [e, it]) (fun b ob hb q => (sb.2 b (fun z => hb (by simp [z]))).trans (hk b ob (fun z => hb (by simp [z])) (fun z => hb (by simp [z])) q)) hf (Nat.le_refl _) new
    refine ⟨.ref s.heap.objs.size, _, I1, rfl, ⟨_, x, rfl, I.hok.fresh (Nat.le_refl _), rfl, fun ys hy => by rw [I.tuple_inj hy hq]; exact hx⟩, ⟨⟨x', ?_⟩, hit'.at fun o q => (sb.2 it (Ne.symm hne)).trans q, hne, hea, hai⟩, fun b hb => ?_⟩
    · have e1 : ((i + 1 : Nat) : Int) = (i : Int) + 1 := by omega
      rw [e1]; exact he'
    · have hb' : b < s.heap.objs.size := by
        have e' : b = e ∨ b = it := by simpa using hb
        rcases e' with z | z
        · rw [z]; exact hel
        · rw [z]; exact hil
      rw [upd_ne (Nat.ne_of_lt hb')]
      exact (hf b hb).1
  done := by
    intro X hP hw hK hc i pins s σ H E I hf st hg
    subst hP hw hK
    obtain ⟨⟨old, he⟩, hit, hne, hea, hai⟩ := st
    obtain ⟨xs, hq, hx⟩ := hg
    obtain ⟨its, rv, p, hz⟩ := I.tuple hq
    obtain ⟨f0, f1, f2, f3, f4, f5⟩ := hf it (by simp)
    have hl := rv.length
    have D := Draws.tuple (prog := X.prog) (w := X.w) (A := X.A.in1) (I.ok.hd hc) it a hai its.toArray
    have hT : s.TypeIs (.ref e) "enumerate" := ⟨_, he, rfl⟩
    unfold pyNext
    refine wpAny_bind (wpAny_attempt (wpAny_callSpecial?_slot (name := Str.ofString "__next__") hT F.slot_enumerate_next
      (wpAny_call_entry F.slot_enumerate_next hT F.entry_enumerate_next ?_ (F.args_enumerate_next_1 _))))
    show wpAny _ _ (field (.ref e) 2 >>= _) _ _ _
    refine wpAny_bind (wpAny_field he rfl (x := .ref it) rfl ?_)
    refine wpAny_bind (wpAny_nextOf_tuple_end (I.ok.hd hc) hit (show s.heap.IsTuple a its.toArray from p) (by simp; omega) fun h' x he' hx' => ?_)
    obtain ⟨o, ho, hc'⟩ := hx'
    refine wpAny_bind (wpAny_isInstance (T := "StopIteration") (b := true) ⟨o, ho, hc'⟩ isSubtype_stop ?_)
    exact wpAny_pure ⟨rfl, I.turned (t' := s.toks) (fun b o hb q => he' b o hb q) f0 f1 f3 f4 f5⟩
  self := fun A i s Q E st h => let ⟨⟨_, he⟩, _⟩ := st; wpAny_pyIter_enum he h
def iEnumT (K : PySem.W.Frag) (ta : TA) : TI := fun σ H R => ta σ H fun vs H1 => ∃ a xs, vs = [.ref a] ∧ SqT K H1 a xs ∧ R (IteT K a) H1
theorem pi_enumT {X : Cx} {e : Expr} {ta : TA} {p pos tpos : Pos} {elts : List Expr} {kk : Nat} (hg : Gl X "enumerate") (hm : X.mg "enumerate" = none) (ha : PA X [e] ta) (hs : starEach [e] X.env = [(false, eval e X.env)] := by rfl) :
    PI X (.Tuple elts kk tpos) (.Call (.Name "enumerate" p) [e] [] pos) (iEnumT X.K ta) := by
  refine ⟨fun pins s σ H R I h => ?_⟩
  refine Call_ (ld_blt I hg hm boot_enumerate (PyProof.Rows.callWith_type1 (thn (ha.run pos pins s σ H _ I h) fun us s1 ⟨vs, H1, I1, r1, q1⟩ => ?_) hs rfl))
  obtain ⟨a, xs, ex, hq, q⟩ := q1
  subst ex
  cases r1 with
  | cons r rr =>
    cases rr
    cases r
    obtain ⟨its, rv, p', hz⟩ := I1.tuple hq
    have hal : a < s1.heap.objs.size := by obtain ⟨_, q', _⟩ := (show s1.heap.IsTuple a its.toArray from p'); exact Heap.lt_size q'
    refine enum_begins1 (begins_tuple a its.toArray) (show s1.heap.IsTuple a its.toArray from p') fun h' he hit hsz hk => wpAny_pyIter_enum he ?_
    have I2 : Inv X pins σ H1 { s1 with heap := h' } := I1.kept (t' := s1.toks) hk
    refine ⟨s1.heap.objs.size + 1, [s1.heap.objs.size + 1, s1.heap.objs.size], _, _, H1, rfl, I2, turn_enumT a (s1.heap.objs.size + 1) s1.heap.objs.size, ⟨⟨.none, he⟩, ⟨_, hit, rfl, rfl⟩, Nat.succ_ne_self _, Nat.ne_of_gt (Nat.lt_succ_of_lt hal), Nat.ne_of_lt hal⟩, fun b hb => ?_, q⟩
    have e' : b = s1.heap.objs.size + 1 ∨ b = s1.heap.objs.size := by simpa using hb
    have hle : s1.heap.objs.size ≤ b := by
      rcases e' with z | z
      · rw [z]; exact Nat.le_add_right _ _
      · rw [z]; exact Nat.le_refl _
    exact I1.fpOk hle (I1.hok.fresh hle)
section
variable {K : PySem.W.Frag} {σ : L2.St} {H : Hp} {te : TE} {xs : List V} {a : Addr} {D : Ends} {tu tz : TS}
/-- for i, x in enumerate(xs) -/
theorem s_forE {j1 j2 : Nat} (h : Ev te σ H (.ref a)) (hS : SqL K H a xs) (Pv : Nat → L2.St → Hp → Prop) (h0 : ∀ H1, Ex H H1 → Pv 0 σ H1) (hk : ∀ i σ' H', i ≤ xs.length → Pv i σ' H' → SqL K H' a xs)
    (hs : ∀ i x σ' H' H2, xs[i]? = some x → Pv i σ' H' → Ex H' H2 → tu { D with nx := Pv (i + 1), ct := Pv (i + 1), bk := D.nx } ((σ'.set j1 (some (.int (i : Int)))).set j2 (some x)) H2)
    (hd : ∀ σ' H', Pv xs.length σ' H' → D.nx σ' H') : tFor (iEnum K (tCons te tNil)) (gTup K 2 (gCons (gName j1) (gCons (gName j2) gNil))) tu D σ H := by
  refine h H (Ex.refl H) _ fun H1 e1 => ⟨a, xs, rfl, ex_l e1 hS, ?_⟩
  refine ⟨fun i m σ' H' => m = xs.length - i ∧ i ≤ xs.length ∧ Pv i σ' H', ⟨xs.length, rfl, Nat.zero_le _, h0 H1 e1⟩, ?_⟩
  rintro i m σ' H' ⟨rfl, hi, p⟩
  have S := hk i σ' H' hi p
  by_cases hlt : i < xs.length
  · have gx : xs[i]? = some xs[i] := List.getElem?_eq_getElem hlt
    refine .inr ⟨⟨xs, _, S, gx⟩, Pv (i + 1), fun σ2 H2 p2 => ⟨xs.length - (i + 1), by omega, rfl, hlt, p2⟩, fun v H2 y => ?_⟩
    obtain ⟨T, x', rfl, hT, rfl, f1⟩ := y
    exact ⟨T, [.int (i : Nat), x'], rfl, st_of upd_same, rfl, _, _, rfl, _, _, rfl, rfl, hs i x' σ' H' _ (f1 xs S) p (Ex.new hT)⟩
  · have e0 : i = xs.length := by omega
    subst e0
    exact .inl ⟨⟨xs, S, Nat.le_refl _⟩, hd σ' H' p⟩
theorem s_forET {j1 j2 : Nat} (h : Ev te σ H (.ref a)) (hS : SqT K H a xs) (Pv : Nat → L2.St → Hp → Prop) (h0 : ∀ H1, Ex H H1 → Pv 0 σ H1) (hk : ∀ i σ' H', i ≤ xs.length → Pv i σ' H' → SqT K H' a xs)
    (hs : ∀ i x σ' H' H2, xs[i]? = some x → Pv i σ' H' → Ex H' H2 → tu { D with nx := Pv (i + 1), ct := Pv (i + 1), bk := D.nx } ((σ'.set j1 (some (.int (i : Int)))).set j2 (some x)) H2)
    (hd : ∀ σ' H', Pv xs.length σ' H' → D.nx σ' H') : tFor (iEnumT K (tCons te tNil)) (gTup K 2 (gCons (gName j1) (gCons (gName j2) gNil))) tu D σ H := by
  refine h H (Ex.refl H) _ fun H1 e1 => ⟨a, xs, rfl, ex_t e1 hS, ?_⟩
  refine ⟨fun i m σ' H' => m = xs.length - i ∧ i ≤ xs.length ∧ Pv i σ' H', ⟨xs.length, rfl, Nat.zero_le _, h0 H1 e1⟩, ?_⟩
  rintro i m σ' H' ⟨rfl, hi, p⟩
  have S := hk i σ' H' hi p
  by_cases hlt : i < xs.length
  · have gx : xs[i]? = some xs[i] := List.getElem?_eq_getElem hlt
    refine .inr ⟨⟨xs, _, S, gx⟩, Pv (i + 1), fun σ2 H2 p2 => ⟨xs.length - (i + 1), by omega, rfl, hlt, p2⟩, fun v H2 y => ?_⟩
    obtain ⟨T, x', rfl, hT, rfl, f1⟩ := y
    exact ⟨T, [.int (i : Nat), x'], rfl, st_of upd_same, rfl, _, _, rfl, _, _, rfl, rfl, hs i x' σ' H' _ (f1 xs S) p (Ex.new hT)⟩
  · have e0 : i = xs.length := by omega
    subst e0
    exact .inl ⟨⟨xs, S, Nat.le_refl _⟩, hd σ' H' p⟩
theorem q_forE {j1 j2 : Nat} (h : Ev te σ H (.ref a)) (hS : SqL K H a xs) (Pv : Nat → L2.St → Hp → Prop) (h0 : ∀ H1, Ex H H1 → Pv 0 σ H1) (hk : ∀ i σ' H', i ≤ xs.length → Pv i σ' H' → SqL K H' a xs)
    (hs : ∀ i x σ' H' H2, xs[i]? = some x → Pv i σ' H' → Ex H' H2 → tu { D with nx := Pv (i + 1), ct := Pv (i + 1), bk := tz D } ((σ'.set j1 (some (.int (i : Int)))).set j2 (some x)) H2)
    (hd : ∀ σ' H', Pv xs.length σ' H' → tz D σ' H') : tSeq (tFor (iEnum K (tCons te tNil)) (gTup K 2 (gCons (gName j1) (gCons (gName j2) gNil))) tu) tz D σ H :=
  s_forE (D := { D with nx := tz D }) h hS Pv h0 hk hs hd
theorem q_forET {j1 j2 : Nat} (h : Ev te σ H (.ref a)) (hS : SqT K H a xs) (Pv : Nat → L2.St → Hp → Prop) (h0 : ∀ H1, Ex H H1 → Pv 0 σ H1) (hk : ∀ i σ' H', i ≤ xs.length → Pv i σ' H' → SqT K H' a xs)
    (hs : ∀ i x σ' H' H2, xs[i]? = some x → Pv i σ' H' → Ex H' H2 → tu { D with nx := Pv (i + 1), ct := Pv (i + 1), bk := tz D } ((σ'.set j1 (some (.int (i : Int)))).set j2 (some x)) H2)
    (hd : ∀ σ' H', Pv xs.length σ' H' → tz D σ' H') : tSeq (tFor (iEnumT K (tCons te tNil)) (gTup K 2 (gCons (gName j1) (gCons (gName j2) gNil))) tu) tz D σ H :=
  s_forET (D := { D with nx := tz D }) h hS Pv h0 hk hs hd
end
end My

set_option Elab.async false
set_option linter.all false
set_option maxRecDepth 100000
set_option maxHeartbeats 2000000
/-! own classes: methods bundled, fields read, dicts with text keys. -/
namespace My
open PySem PySem.Spec PyProof.Rows L2 Evl
structure MCal (P : Program) (w : World) (K : PySem.W.Frag) (mg : Str → Option Value) (base : Heap) (k : Nat) (C : Addr) (m : Str) (ps : List Str) (sp : Sp) : Prop where
  ex : ∃ f fd, FnOk P w K mg base CX0 k f fd ps sp ∧ Binds K fd ps [] ∧ Meth K C m f
theorem MCal.mono {P : Program} {w : World} {K : PySem.W.Frag} {mg : Str → Option Value} {base : Heap} {j k : Nat} {C : Addr} {m : Str} {ps : List Str} {sp : Sp} (M : MCal P w K mg base j C m ps sp) (h : j ≤ k) : MCal P w K mg base k C m ps sp := by
  obtain ⟨f, fd, F, b, mm⟩ := M.ex
  exact ⟨f, fd, F.mono h, b, mm⟩
theorem pe_mcal {X : Cx} {k j : Nat} {C : Addr} {m : Str} {ps : List Str} {sp : Sp} {o e : Expr} {es : List Expr} {ta : TE} {t : TA} {pos apos : Pos} {pl : Sem Bool} (c : Cls X.K C) (M : MCal X.prog X.w X.K X.mg X.base k C m ps sp) (hr : Room j X.A) (he : PE X o ta) (ha : PA X (e :: es) t)
    (hle : k ≤ j := by first | exact Nat.le_refl _ | decide | omega)
    (hst : starEach (e :: es) X.env = (false, eval e X.env) :: starEach es X.env := by rfl) (hpl : (backTo pos (starEach es X.env)).any (·.1) = false := by rfl)
    (ht : eval (.Call (.Attribute o m apos) (e :: es) [] pos) X.env = (do
      let ov ← eval o X.env
      standAt apos.atName
      let (f, first) ← holding [ov] (getMethod ov m pl)
      callWith pos f first (backTo pos (starEach (e :: es) X.env)) (backToKw pos (keywordEach [] X.env))) := by rfl) :
    PE X (.Call (.Attribute o m apos) (e :: es) [] pos) (tMeth C m sp [] E0 ta t) := by
  obtain ⟨f, fd, F, b, mm⟩ := M.ex
  exact pe_meth (pl := pl) he c mm F (hr.mono hle) b .nil pass0 ha hst hpl ht
/-- an own class with its __init__ -/
structure MkC (P : Program) (w : World) (K : PySem.W.Frag) (mg : Str → Option Value) (base : Heap) (k : Nat) (x : Str) (C : Addr) (ps : List Str) (sp : Sp) : Prop where
  ex : ∃ f fd, FnOk P w K mg base CX0 k f fd ps sp ∧ Binds K fd ps [] ∧ Mk K C f ∧ mg x = some (.ref C)
theorem MkC.mono {P : Program} {w : World} {K : PySem.W.Frag} {mg : Str → Option Value} {base : Heap} {j k : Nat} {x : Str} {C : Addr} {ps : List Str} {sp : Sp} (M : MkC P w K mg base j x C ps sp) (h : j ≤ k) : MkC P w K mg base k x C ps sp := by
  obtain ⟨f, fd, F, b, mm⟩ := M.ex
  exact ⟨f, fd, F.mono h, b, mm⟩
theorem pe_mkc0 {X : Cx} {k j : Nat} {x : Str} {C : Addr} {ps : List Str} {sp : Sp} {p pos : Pos} (M : MkC X.prog X.w X.K X.mg X.base k x C ps sp) (hr : Room j X.A) (hle : k + 1 ≤ j := by first | exact Nat.le_refl _ | decide | omega) (hg : Gl X x := by rfl) (hdb : (x == ("__debug__" : Str)) = false := by decide) :
    PE X (.Call (.Name x p) [] [] pos) (tMake C sp [] E0 tNil) := by
  obtain ⟨f, fd, F, b, mm, hm⟩ := M.ex
  exact pe_make0 mm F (hr.mono hle) hg hm b .nil pass0 hdb
section
variable {K : PySem.W.Frag} {σ : L2.St} {H H' : Hp} {ta tb tc te td ty tl : TE} {t : TA} {xs : List V} {x y z v : V} {p a d C dx : Addr} {D : Ends} {tu tz : TS} {fs : List (Str × V)} {f : Str} {kvs : List (Key × V)} {l : List Nat}
theorem ev_fld (h : Ev te σ H (.ref a)) (hi : H a = some (.ins C dx fs)) (c : Cls K C) (n : NoAttr K C f) (hl : fs.lookup f = some v) : Ev (tFld K te f) σ H v := fun H1 e Q q =>
  h H1 e _ fun H2 e2 => ⟨a, C, dx, fs, v, rfl, (e.trans e2) a _ hi, c, n, hl, q H2 e2⟩
theorem ev_din (h : Ev td σ H (.ref d)) (hd : H d = some (.dK kvs)) (hk : Ev ty σ H (.str (tx l))) : Ev (tDIn ty td) σ H (.bl (valV kvs (.inr (tx l))).isSome) := fun H1 e Q q =>
  hk H1 e _ fun H2 e2 => h H2 (e.trans e2) _ fun H3 e3 => ⟨d, _, rfl, DGet.k (k := Sum.inr (tx l)) (((e.trans e2).trans e3) d _ hd), q H3 (e2.trans e3)⟩
theorem ev_dget (h : Ev td σ H (.ref d)) (hd : H d = some (.dK kvs)) (hk : Ev ty σ H (.str (tx l))) (hv : valV kvs (.inr (tx l)) = some v) : Ev (tDGet td ty) σ H v := fun H1 e Q q =>
  h H1 e _ fun H2 e2 => hk H2 (e.trans e2) _ fun H3 e3 => ⟨d, v, rfl, by rw [← hv]; exact DGet.k (k := Sum.inr (tx l)) (((e.trans e2).trans e3) d _ hd), q H3 (e2.trans e3)⟩
/-- d[k] = v -/
theorem s_dput (hd : H d = some (.dK kvs)) (hv : Ev te σ H v) (h : Ev td σ H (.ref d)) (hk : Ev ty σ H (.str (tx l))) (hn : kvs.length < 100000) (k : ∀ H1, Ex H H1 → D.nx σ (upd H1 d (.dK (putK kvs (.inr (tx l)) v)))) : sDPut td ty te D σ H :=
  hv H (Ex.refl H) _ fun H1 e1 => h H1 e1 _ fun H2 e2 => hk H2 (e1.trans e2) _ fun H3 e3 => ⟨d, _, rfl, DPut.k (k := Sum.inr (tx l)) (((e1.trans e2).trans e3) d _ hd) (sz_lt hn), k H3 ((e1.trans e2).trans e3)⟩
theorem q_dput (hd : H d = some (.dK kvs)) (hv : Ev te σ H v) (h : Ev td σ H (.ref d)) (hk : Ev ty σ H (.str (tx l))) (hn : kvs.length < 100000) (k : ∀ H1, Ex H H1 → tz D σ (upd H1 d (.dK (putK kvs (.inr (tx l)) v)))) : tSeq (sDPut td ty te) tz D σ H := s_dput (D := { D with nx := tz D }) hd hv h hk hn k
theorem q_dnew {i : Nat} (k : ∀ p, H p = none → tz D (σ.set i (some (.ref p))) (upd H p (.dK []))) : tSeq (tAsg tDNewK (gName i)) tz D σ H := fun p hp => k p hp
/-- a loop over a tuple that an expression gives -/
theorem s_forTX {j : Nat} (h : ∀ Q : VK, (∀ a H1, Ex H H1 → H1 a = some (.tup xs) → Q (.ref a) H1) → te σ H Q) (Pv : Hp → Nat → L2.St → Hp → Prop) (h0 : ∀ H1, Ex H H1 → Pv H1 0 σ H1) (hk : ∀ H1 i σ' H' a us, Pv H1 i σ' H' → H1 a = some (.tup us) → H' a = some (.tup us))
    (hs : ∀ H1 i x σ' H', Ex H H1 → xs[i]? = some x → Pv H1 i σ' H' → tu { D with nx := Pv H1 (i + 1), ct := Pv H1 (i + 1), bk := D.nx } (σ'.set j (some x)) H') (hd : ∀ H1 σ' H', Ex H H1 → Pv H1 xs.length σ' H' → D.nx σ' H') : tFor (iTup K te) (gName j) tu D σ H := by
  refine h _ fun a H1 e1 h1 => ⟨a, rfl, ⟨xs, st_of h1⟩, ?_⟩
  refine ⟨fun i m σ' H' => m = xs.length - i ∧ i ≤ xs.length ∧ Pv H1 i σ' H', ⟨xs.length, rfl, Nat.zero_le _, h0 H1 e1⟩, ?_⟩
  rintro i m σ' H' ⟨rfl, hi, p⟩
  have S : SqT K H' a xs := st_of (hk H1 i σ' H' a xs p h1)
  by_cases hlt : i < xs.length
  · have gx : xs[i]? = some xs[i] := List.getElem?_eq_getElem hlt
    refine .inr ⟨⟨xs, _, S, gx⟩, Pv H1 (i + 1), fun σ2 H2 p2 => ⟨xs.length - (i + 1), by omega, rfl, hlt, p2⟩, fun v H2 y => ?_⟩
    obtain ⟨rfl, f1⟩ := y
    exact hs H1 i v σ' _ e1 (f1 xs S) p
  · have e0 : i = xs.length := by omega
    subst e0
    exact .inl ⟨⟨xs, S, Nat.le_refl _⟩, hd H1 σ' H' e1 p⟩
/-! what a text's dict holds, keys alone -/
def dkS (ks : List (List Nat)) : List (Key × V) := ks.map fun k => (Sum.inr (tx k), V.bl true)
theorem inr_tx {a b : List Nat} : ((Sum.inr (tx a) : Key) = Sum.inr (tx b)) ↔ a = b := ⟨fun h => tx_inj (Sum.inr.inj h), fun h => by rw [h]⟩
theorem dkS_any (ks : List (List Nat)) (w : List Nat) : (dkS ks).any (fun kv => decide (kv.1 = Sum.inr (tx w))) = decide (w ∈ ks) := by
  unfold dkS
  rw [List.any_map, Bool.eq_iff_iff, List.any_eq_true, decide_eq_true_eq]
  constructor
  · rintro ⟨k, hk, h⟩
    have := inr_tx.mp (of_decide_eq_true h)
    rw [← this]
    exact hk
  · exact fun h => ⟨w, h, decide_eq_true rfl⟩
theorem dkS_put (ks : List (List Nat)) (w : List Nat) : putK (dkS ks) (Sum.inr (tx w)) (V.bl true) = dkS (if w ∈ ks then ks else ks ++ [w]) := by
  by_cases h : w ∈ ks
  · have e : (dkS ks).any (fun kv => decide (kv.1 = Sum.inr (tx w))) = true := by rw [dkS_any, decide_eq_true h]
    unfold putK
    rw [if_pos e, if_pos h]
    have : ∀ l : List (List Nat), (dkS l).map (fun kv => if kv.1 = Sum.inr (tx w) then (kv.1, V.bl true) else kv) = dkS l := by
      intro l
      unfold dkS
      rw [List.map_map]
      refine List.map_congr_left fun k _ => ?_
      show (if (Sum.inr (tx k) : Key) = Sum.inr (tx w) then ((Sum.inr (tx k) : Key), V.bl true) else (Sum.inr (tx k), V.bl true)) = _
      rw [ite_self]
    exact this ks
  · have e : (dkS ks).any (fun kv => decide (kv.1 = Sum.inr (tx w))) = false := by rw [dkS_any, decide_eq_false h]
    unfold putK
    rw [e, if_neg (by decide), if_neg h]
    unfold dkS
    rw [List.map_append]
    rfl
end
end My

set_option Elab.async false
set_option linter.all false
set_option maxRecDepth 100000
set_option maxHeartbeats 2000000
/-! distinct texts, sorted texts; sorted(..), tuple(..) of them. -/
namespace My
open PySem PySem.Spec PyProof.Rows L2 Evl
abbrev L := List Nat
/-! distinct texts, in the order of their first places -/
def addF (acc : List L) (x : L) : List L := if x ∈ acc then acc else acc ++ [x]
def dedF (l : List L) : List L := l.foldl addF []
theorem add_mem {acc : List L} {x y : L} : y ∈ addF acc x ↔ y ∈ acc ∨ y = x := by
  unfold addF
  split
  · rename_i h
    constructor
    · exact fun z => .inl z
    · rintro (z | rfl)
      · exact z
      · exact h
  · rw [List.mem_append, List.mem_singleton]
theorem add_nodup {acc : List L} {x : L} (h : acc.Nodup) : (addF acc x).Nodup := by
  unfold addF
  split
  · exact h
  · rename_i hx
    rw [List.nodup_append]
    exact ⟨h, by simp, fun a ha b hb => by
      rw [List.mem_singleton] at hb
      subst hb
      intro e
      subst e
      exact hx ha⟩
theorem add_len {acc : List L} {x : L} : (addF acc x).length ≤ acc.length + 1 := by
  unfold addF
  split
  · exact Nat.le_succ _
  · rw [List.length_append]; exact Nat.le_refl _
theorem fold_mem (l : List L) : ∀ (acc : List L) (y : L), y ∈ l.foldl addF acc ↔ y ∈ acc ∨ y ∈ l := by
  induction l with
  | nil => intro acc y; simp
  | cons x r ih =>
    intro acc y
    rw [List.foldl_cons, ih, add_mem, List.mem_cons, or_assoc]
theorem fold_nodup (l : List L) : ∀ (acc : List L), acc.Nodup → (l.foldl addF acc).Nodup := by
  induction l with
  | nil => exact fun _ h => h
  | cons x r ih => exact fun acc h => ih _ (add_nodup h)
theorem fold_len (l : List L) : ∀ (acc : List L), (l.foldl addF acc).length ≤ acc.length + l.length := by
  induction l with
  | nil => exact fun _ => Nat.le_refl _
  | cons x r ih =>
    intro acc
    have h1 := ih (addF acc x)
    have h2 := @add_len acc x
    rw [List.foldl_cons, List.length_cons]
    omega
theorem ded_mem {l : List L} {y : L} : y ∈ dedF l ↔ y ∈ l := by
  unfold dedF
  rw [fold_mem]
  simp
theorem ded_nodup (l : List L) : (dedF l).Nodup := fold_nodup l [] List.nodup_nil
theorem ded_len (l : List L) : (dedF l).length ≤ l.length := by
  have := fold_len l []
  rw [List.length_nil, Nat.zero_add] at this
  exact this
theorem ded_snoc (l : List L) (x : L) : dedF (l ++ [x]) = addF (dedF l) x := by
  unfold dedF
  rw [List.foldl_append]
  rfl
theorem nodup_sub : ∀ {a b : List L}, a.Nodup → (∀ x ∈ a, x ∈ b) → a.length ≤ b.length
  | [], _, _, _ => Nat.zero_le _
  | x :: a, b, h, g => by
    rw [List.nodup_cons] at h
    have hx := g x (by simp)
    have := nodup_sub (a := a) (b := b.erase x) h.2 fun y hy => (List.mem_erase_of_ne (fun e : y = x => h.1 (by rw [← e]; exact hy))).mpr (g y (by simp [hy]))
    rw [List.length_erase_of_mem hx] at this
    have := List.length_pos_of_mem hx
    rw [List.length_cons]
    omega
/-! sorted texts -/
def leF (a b : L) : Bool := decide (¬ b < a)
def sortF (l : List L) : List L := l.mergeSort leF
theorem le_tot (a b : L) : leF a b = true ∨ leF b a = true := by
  unfold leF
  rw [decide_eq_true_eq, decide_eq_true_eq]
  rcases List.le_total a b with h | h
  · exact .inl h
  · exact .inr h
theorem le_trans' {a b c : L} (h : leF a b = true) (g : leF b c = true) : leF a c = true := by
  unfold leF at *
  rw [decide_eq_true_eq] at *
  exact List.le_trans h g
theorem le_anti {a b : L} (h : leF a b = true) (g : leF b a = true) : a = b := by
  unfold leF at *
  rw [decide_eq_true_eq] at *
  exact List.le_antisymm h g
theorem sort_unique : ∀ {xs ys : List L}, xs.Pairwise (fun a b => leF a b = true) → ys.Pairwise (fun a b => leF a b = true) → xs.Perm ys → xs = ys
  | [], ys, _, _, p => by
    have := p.length_eq
    cases ys with
    | nil => rfl
    | cons y r => exact nomatch this
  | x :: xs, [], _, _, p => nomatch p.length_eq
  | x :: xs, y :: ys, hx, hy, p => by
    rw [List.pairwise_cons] at hx hy
    have e : x = y := by
      have h1 : x ∈ y :: ys := p.mem_iff.mp (by simp)
      have h2 : y ∈ x :: xs := p.mem_iff.mpr (by simp)
      rw [List.mem_cons] at h1 h2
      rcases h1 with h1 | h1
      · exact h1
      · rcases h2 with h2 | h2
        · exact h2.symm
        · exact le_anti (hx.1 y h2) (hy.1 x h1)
    subst e
    rw [sort_unique hx.2 hy.2 (List.perm_cons x |>.mp p)]
theorem sort_perm (l : List L) : (sortF l).Perm l := List.mergeSort_perm l leF
theorem sort_sorted (l : List L) : (sortF l).Pairwise (fun a b => leF a b = true) := List.pairwise_mergeSort (le := leF) (fun a b c h g => le_trans' h g) (fun a b => by
  rw [Bool.or_eq_true]
  exact le_tot a b) l
theorem sort_mem {l : List L} {y : L} : y ∈ sortF l ↔ y ∈ l := (sort_perm l).mem_iff
theorem sort_len (l : List L) : (sortF l).length = l.length := (sort_perm l).length_eq
theorem sort_nodup {l : List L} (h : l.Nodup) : (sortF l).Nodup := (sort_perm l).nodup_iff.mpr h

theorem le_cps {x p : Str} (h : (!ltCps x.cps.toList p.cps.toList) = true) : leF p.cps.toList x.cps.toList = true := by
  rw [ltCps_eq] at h
  unfold leF
  rw [decide_eq_true_eq]
  intro z
  rw [decide_eq_true z] at h
  exact nomatch h
theorem rise_all : ∀ (r : List Str) (p : Str), risingS p r = true → (p :: r).Pairwise fun a b => leF a.cps.toList b.cps.toList = true
  | [], p, _ => by simp
  | x :: r, p, h => by
    rw [risingS, Bool.and_eq_true] at h
    have ih := rise_all r x h.2
    have h1 := le_cps h.1
    refine List.pairwise_cons.mpr ⟨fun y hy => ?_, ih⟩
    rw [List.mem_cons] at hy
    rcases hy with rfl | hy
    · exact h1
    · exact le_trans' h1 ((List.pairwise_cons.mp ih).1 y hy)
theorem sorted_is {ys : List Str} {ks : List L} (hp : ys.Perm (ks.map tx)) (hs : sortedS ys = true) : ys = (sortF ks).map tx := by
  have e : ys = (ys.map fun z => z.cps.toList).map tx := by
    rw [List.map_map]
    exact (List.map_id' ys).symm.trans (List.map_congr_left fun z _ => rfl)
  have h1 : (ys.map fun z => z.cps.toList).Perm ks := by
    have := hp.map fun z : Str => z.cps.toList
    rw [List.map_map] at this
    rw [show ks.map ((fun z : Str => z.cps.toList) ∘ tx) = ks from (List.map_congr_left fun z _ => rfl).trans (List.map_id' ks)] at this
    exact this
  have h2 : (ys.map fun z => z.cps.toList).Pairwise fun a b => leF a b = true := by
    rw [List.pairwise_map]
    cases ys with
    | nil => exact .nil
    | cons p r => exact rise_all r p hs
  rw [e, sort_unique h2 (sort_sorted ks) (h1.trans (sort_perm ks).symm)]
section
variable {K : PySem.W.Frag} {σ : L2.St} {H H' : Hp} {te : TE} {xs : List V} {a p d : Addr} {ks : List L}
theorem el_sortD (h : Ev te σ H (.ref d)) (hd : H d = some (.dK (dkS ks))) (hn : ks.length ≤ 100000) : EvL (tCB rSortDA (tCons te tNil)) σ H ((sortF ks).map fun p => V.str (tx p)) := fun H1 e Q q =>
  h H1 e _ fun H2 e2 => ⟨d, dkS ks, ks.map tx, rfl, .inl ((e.trans e2) d _ hd), by unfold dkS; rw [List.map_map, List.map_map]; rfl, by rw [List.length_map]; exact hn, fun ys p hp hs hn => by
    have := sorted_is hp hs
    subst this
    rw [List.map_map]
    exact q p _ (fresh_back e2 hn) (e2.trans (Ex.new hn)) upd_same⟩
theorem el_sortL (h : EvP te σ H fun v H' => ∃ a, v = .ref a ∧ SqL K H' a (ks.map fun p => V.str (tx p))) (hn : ks.length ≤ 100000) : EvL (tCB (rSortSA K) (tCons te tNil)) σ H ((sortF ks).map fun p => V.str (tx p)) := fun H1 e Q q =>
  h H1 e _ fun v H2 e2 ⟨a, hv, ha⟩ => ⟨a, ks.map tx, by rw [hv], by rw [List.map_map]; exact ha, by rw [List.length_map]; exact hn, fun ys p hp hs hn => by
    have := sorted_is hp hs
    subst this
    rw [List.map_map]
    exact q p _ (fresh_back e2 hn) (e2.trans (Ex.new hn)) upd_same⟩
def rTupS (K : PySem.W.Frag) : List V → Hp → VK → Prop := fun xs H Q => ∃ p ys, xs = [.ref p] ∧ ((SqL K H p ys ∧ ∀ l, H l = none → Q (.ref l) (upd H l (.tup ys))) ∨ (SqT K H p ys ∧ Q (.ref p) H))
theorem eu_tupL (h : EvL te σ H xs) : EvU (tCB (rTupS K) (tCons te tNil)) σ H xs := fun H1 e Q q =>
  h H1 e _ fun p H2 _ e2 hp => ⟨p, xs, rfl, .inl ⟨sq_of hp, fun l hl => q l _ (fresh_back e2 hl) (e2.trans (Ex.new hl)) upd_same⟩⟩
theorem eu_tupV (h : Ev te σ H (.ref a)) (ha : SqL K H a xs) : EvU (tCB (rTupS K) (tCons te tNil)) σ H xs := fun H1 e Q q =>
  h H1 e _ fun H2 e2 => ⟨a, xs, rfl, .inl ⟨ex_l (e.trans e2) ha, fun l hl => q l _ (fresh_back e2 hl) (e2.trans (Ex.new hl)) upd_same⟩⟩
theorem evp_k (h : Ev te σ H (.ref a)) (ha : SqL K H a xs) : EvP te σ H (fun v H' => ∃ a, v = .ref a ∧ SqL K H' a xs) := fun H1 e Q q => h H1 e Q fun H2 e2 => q _ H2 e2 ⟨a, rfl, ex_l (e.trans e2) ha⟩
theorem evp_ln (h : EvL te σ H xs) : EvP te σ H (fun v H' => ∃ a, v = .ref a ∧ SqL K H' a xs) := fun H1 e Q q => h H1 e Q fun p H2 _ e2 hp => q _ H2 e2 ⟨p, rfl, sq_of hp⟩
end
end My

set_option Elab.async false
set_option linter.all false
set_option maxRecDepth 100000
set_option maxHeartbeats 2000000
/-! == and != of two lists, of two tuples, one of them empty. -/
namespace My
open PySem PySem.Spec PyProof.Rows L2 Evl
def rEqE (K : PySem.W.Frag) : R2 := fun x y H Q => ∃ a b xs ys, x = .ref a ∧ y = .ref b ∧ ((SqL K H a xs ∧ SqL K H b ys) ∨ (SqT K H a xs ∧ SqT K H b ys)) ∧ ys = [] ∧ Q (.bl (decide (xs.length = 0))) H
def rNeE (K : PySem.W.Frag) : R2 := fun x y H Q => ∃ a b xs ys, x = .ref a ∧ y = .ref b ∧ (SqL K H a xs ∧ SqL K H b ys) ∧ ys = [] ∧ Q (.bl (!decide (xs.length = 0))) H
section
variable {X : Cx}
theorem op_eqE (hu : X.A.units + 64 < cLine) : OpR X (compareOp .Eq) (rEqE X.K) := by
  intro pins s σ H x y v u Q I rx ry h
  obtain ⟨a, b, xs, ys, rfl, rfl, hs, rfl, q⟩ := h
  cases rx
  cases ry
  have hu1 : X.A.units < cLine := by omega
  rcases hs with ⟨h1, h2⟩ | ⟨h1, h2⟩
  · obtain ⟨its, rv, p1, _⟩ := I.list h1
    obtain ⟨its2, rv2, p2, _⟩ := I.list h2
    cases rv2
    have hl := rv.length
    by_cases h0 : xs.length = 0
    · rw [decide_eq_true h0] at q
      have e : its = [] := List.eq_nil_of_length_eq_zero (by omega)
      subst e
      exact SeqAt.RcAt.lists (A := X.A) (s := s) (e := fun _ => true) p1.isList p2.isList rfl hu1 (fun j h1 _ => absurd h1 (by simp)) X.prog X.w _ _ ⟨.bl true, H, I, rfl, q⟩
    · rw [decide_eq_false h0] at q
      exact SeqAt.RcAt.lists_lengths (A := X.A) (s := s) p1.isList p2.isList (by simp; intro e; rw [e] at hl; exact h0 hl) hu1 X.prog X.w _ _ ⟨.bl false, H, I, rfl, q⟩
  · obtain ⟨its, rv, p1, _⟩ := I.tuple h1
    obtain ⟨its2, rv2, p2, _⟩ := I.tuple h2
    cases rv2
    have hl := rv.length
    have R := SeqAt.RcAt.tuples (A := X.A) (s := s) (e := fun _ => true) (show s.heap.IsTuple a its.toArray from p1) (show s.heap.IsTuple b [].toArray from p2) hu1 (fun j _ h2 => absurd h2 (by simp))
    have e : ((List.range (min its.toArray.size ([] : List Value).toArray.size)).all (fun _ => true) && its.toArray.size == ([] : List Value).toArray.size) = decide (xs.length = 0) := by
      rw [hl]
      cases its <;> simp
    rw [e] at R
    exact R X.prog X.w _ _ ⟨.bl _, H, I, rfl, q⟩
theorem op_neE (hu : X.A.units + 64 < cLine) : OpR X (compareOp .NotEq) (rNeE X.K) := by
  intro pins s σ H x y v u Q I rx ry h
  obtain ⟨a, b, xs, ys, rfl, rfl, ⟨h1, h2⟩, rfl, q⟩ := h
  cases rx
  cases ry
  have hu1 : X.A.units < cLine := by omega
  obtain ⟨its, rv, p1, _⟩ := I.list h1
  obtain ⟨its2, rv2, p2, _⟩ := I.list h2
  cases rv2
  have hl := rv.length
  by_cases h0 : xs.length = 0
  · rw [decide_eq_true h0] at q
    have e : its = [] := List.eq_nil_of_length_eq_zero (by omega)
    subst e
    exact SeqAt.RcNeAt.lists (A := X.A) (s := s) (e := fun _ => true) p1.isList p2.isList rfl hu1 (fun j h1 _ => absurd h1 (by simp)) X.prog X.w _ _ ⟨.bl false, H, I, rfl, q⟩
  · rw [decide_eq_false h0] at q
    exact SeqAt.RcNeAt.lists_lengths (A := X.A) (s := s) p1.isList p2.isList (by simp; intro e; rw [e] at hl; exact h0 hl) hu1 X.prog X.w _ _ ⟨.bl true, H, I, rfl, q⟩
end
section
variable {K : PySem.W.Frag} {σ : L2.St} {H H' : Hp} {te tb : TE} {xs : List V} {a : Addr}
theorem len0 {α : Type} [DecidableEq α] {xs : List α} : decide (xs.length = 0) = decide (xs = []) := decide_eq_decide.mpr List.length_eq_zero_iff
theorem ev_eqE (h : Ev te σ H (.ref a)) (hS : SqL K H a xs) (hb : EvL tb σ H []) : Ev (tOp (rEqE K) te tb) σ H (.bl (decide (xs.length = 0))) := fun H1 e Q q =>
  h H1 e _ fun H2 e2 => hb H2 (e.trans e2) _ fun p H3 _ e3 h3 => ⟨a, p, xs, [], rfl, rfl, .inl ⟨ex_l ((e.trans e2).trans e3) hS, sq_of h3⟩, rfl, q H3 (e2.trans e3)⟩
theorem ev_eqET (h : Ev te σ H (.ref a)) (hS : SqT K H a xs) (hb : EvU tb σ H []) : Ev (tOp (rEqE K) te tb) σ H (.bl (decide (xs.length = 0))) := fun H1 e Q q =>
  h H1 e _ fun H2 e2 => hb H2 (e.trans e2) _ fun p H3 _ e3 h3 => ⟨a, p, xs, [], rfl, rfl, .inr ⟨ex_t ((e.trans e2).trans e3) hS, st_of h3⟩, rfl, q H3 (e2.trans e3)⟩
theorem ev_neE (h : Ev te σ H (.ref a)) (hS : SqL K H a xs) (hb : EvL tb σ H []) : Ev (tOp (rNeE K) te tb) σ H (.bl (!decide (xs.length = 0))) := fun H1 e Q q =>
  h H1 e _ fun H2 e2 => hb H2 (e.trans e2) _ fun p H3 _ e3 h3 => ⟨a, p, xs, [], rfl, rfl, ⟨ex_l ((e.trans e2).trans e3) hS, sq_of h3⟩, rfl, q H3 (e2.trans e3)⟩
end
end My

set_option Elab.async false
set_option linter.all false
set_option maxRecDepth 100000
set_option maxHeartbeats 1000000
/-! what the top has written: methods of an own class. -/
namespace My
open PySem PySem.Spec PyProof.Rows L2 Evl
def HasM (K : PySem.W.Frag) (C : Addr) (x q : Str) (st : Stmt) : Prop := ∃ (f : Addr) (oc : Value) (od : Option Addr) (kV dc pm : Value) (an : Option Addr) (cd ct : Value) (sl : Array (Option Value)),
  PySem.W.findIn K (.ref C) x = some (some (.ref f)) ∧ PySem.W.isFn K (.ref f) = true ∧ K.lookup f = some ⟨oc, od, .func (PySem.W.fnOf x q (defArgs st) (defBody st) (defScope st) .none kV dc pm an cd ct), sl⟩ ∧ PySem.W.codeIn K cd q = true ∧ PySem.W.keepIn K (.ref f) = true
section
variable {K : PySem.W.Frag} {C : Addr} {x q : Str} {st : Stmt}
theorem HasM.mk' {f : Addr} {oc : Value} {od : Option Addr} {kV dc pm : Value} {an : Option Addr} {cd ct : Value} {sl : Array (Option Value)}
    (a : PySem.W.findIn K (.ref C) x = some (some (.ref f))) (i : PySem.W.isFn K (.ref f) = true) (l : K.lookup f = some ⟨oc, od, .func (PySem.W.fnOf x q (defArgs st) (defBody st) (defScope st) .none kV dc pm an cd ct), sl⟩) (c : PySem.W.codeIn K cd q = true) (k : PySem.W.keepIn K (.ref f) = true) : HasM K C x q st :=
  ⟨f, oc, od, kV, dc, pm, an, cd, ct, sl, a, i, l, c, k⟩
theorem HasM.get (H : HasM K C x q st) : ∃ f fd, Fun K x q st f fd ∧ Meth K C x f := by
  obtain ⟨f, oc, od, kV, dc, pm, an, cd, ct, sl, a, i, l, c, k⟩ := H
  exact ⟨f, _, fun_mk l c k, ⟨a, i, k⟩⟩
end
end My

set_option Elab.async false
set_option linter.all false
set_option maxRecDepth 100000
set_option maxHeartbeats 1000000
/-! sorted of tuples of ints and texts, any number of them: a list's, a dict's keys. -/
namespace My
open PySem PySem.Spec PyProof.Rows L2 Evl
abbrev It1 := Int ⊕ List Nat
def itV : It1 → V
  | .inl n => .int n
  | .inr l => .str (tx l)
def shOk (sh : Nat → Bool) : Nat → List It1 → Bool
  | _, [] => true
  | i, .inl _ :: r => (!sh i) && shOk sh (i + 1) r
  | i, .inr _ :: r => sh i && shOk sh (i + 1) r
def lexT (a b : List It1) : Bool := PyProof.Rows.lexLt itemOrd a b
theorem items_of_vals (sh : Nat → Bool) : ∀ (k : List It1) (us : List Value) (i : Nat), Vals (k.map itV) us → shOk sh i k = true → tupItems sh i us = some k
  | [], us, i, r, _ => by
    cases r
    rfl
  | .inl n :: k, us, i, r, h => by
    rw [shOk, Bool.and_eq_true] at h
    rw [List.map_cons] at r
    cases r with
    | cons r1 r2 =>
      obtain ⟨t, rfl⟩ := r1
      rw [tupItems, if_neg (by rw [Bool.not_eq_true'] at h; rw [h.1]; exact Bool.false_ne_true), items_of_vals sh k _ (i + 1) r2 h.2]
      rfl
  | .inr l :: k, us, i, r, h => by
    rw [shOk, Bool.and_eq_true] at h
    rw [List.map_cons] at r
    cases r with
    | cons r1 r2 =>
      obtain ⟨t, rfl⟩ := r1
      rw [tupItems, if_pos h.1, items_of_vals sh k _ (i + 1) r2 h.2]
      rfl
/-- a tuple of the heap, its items as the shape says -/
def TP (h : Heap) (sh : Nat → Bool) (v : Value) (k : List It1) : Prop := ∃ a o xs n, v = Value.ref a ∧ h.get? a = some o ∧ o.cls = .type "tuple" ∧ o.data = .seq xs n ∧ tupItems sh 0 xs.toList = some k ∧ k ≠ []
theorem TP.key {h : Heap} {sh : Nat → Bool} {v : Value} {k : List It1} (t : TP h sh v k) : tupKey h sh v = some k := by
  obtain ⟨a, o, xs, n, rfl, ho, _, hd, hi, _⟩ := t
  simp only [tupKey, ho, hd]
  exact hi
theorem TP.keeps {h h' : Heap} {sh : Nat → Bool} {v : Value} {k : List It1} (t : TP h sh v k) (hk : ∀ b o, h.get? b = some o → o.cls = .type "tuple" → h'.get? b = some o) : TP h' sh v k := by
  obtain ⟨a, o, xs, n, e, ho, hc, r⟩ := t
  exact ⟨a, o, xs, n, e, hk _ _ ho hc, hc, r⟩
theorem TP.first {h : Heap} {sh : Nat → Bool} {v : Value} {k : List It1} (t : TP h sh v k) : ∃ f, TupOf h sh v f := by
  obtain ⟨a, o, xs, n, e, ho, hc, hd, hi, hne⟩ := t
  cases hx : xs.toList with
  | nil =>
    rw [hx] at hi
    have : k = [] := (Option.some.inj hi).symm
    exact absurd this hne
  | cons f r =>
    rw [hx] at hi
    refine ⟨f, a, o, xs, n, e, ho, hc, hd, by rw [← Array.getElem?_toList, hx]; rfl, fun h0 => ?_, fun h0 => ?_⟩
    · obtain ⟨m, t, l', rfl, _⟩ := tupItems_int h0 hi
      exact ⟨m, t, rfl⟩
    · obtain ⟨m, t, l', rfl, _⟩ := tupItems_str h0 hi
      exact ⟨m, t, rfl⟩
theorem firsts_all {h : Heap} {sh : Nat → Bool} : ∀ {vs : List Value}, (∀ v ∈ vs, ∃ k, TP h sh v k) → ∃ fs, TupsOf h sh vs fs ∧ fs.length = vs.length
  | [], _ => ⟨[], .nil, rfl⟩
  | v :: vs, hv => by
    obtain ⟨k, t⟩ := hv v (by simp)
    obtain ⟨f, tf⟩ := t.first
    obtain ⟨fs, h1, h2⟩ := firsts_all (vs := vs) fun u hu => hv u (by simp [hu])
    exact ⟨f :: fs, .cons tf h1, by rw [List.length_cons, List.length_cons, h2]⟩
def ltK (h : Heap) (sh : Nat → Bool) (v u : Value) : Bool := lexT ((tupKey h sh v).getD []) ((tupKey h sh u).getD [])
theorem swo_K (h : Heap) (sh : Nat → Bool) : SrtO.Swo (ltK h sh) := by
  refine ⟨fun x y e => ?_, fun x y z h1 h2 => ?_⟩
  · cases g : ltK h sh y x with
    | false => rfl
    | true =>
      have := lex_trans (O := itemOrd) _ _ _ e g
      rw [lex_irrefl] at this
      exact nomatch this
  · cases g : ltK h sh z x with
    | false => rfl
    | true =>
      rcases lex_negTrans (O := itemOrd) ((tupKey h sh z).getD []) ((tupKey h sh y).getD []) ((tupKey h sh x).getD []) g with q | q
      · exact absurd (h2.symm.trans q) Bool.false_ne_true
      · exact absurd (h1.symm.trans q) Bool.false_ne_true
section
variable {prog : Program} {w : World} {A : Around} {E : Value → Shared → Prop} {s : Shared}
theorem sortable_K {h0 : Heap} {sh : Nat → Bool} {a : Addr} {vs : List Value} (h2 : 0 < vs.length) (hv0 : ∀ v ∈ vs, ∃ k, TP h0 sh v k) (hk0 : ∀ b o, h0.get? b = some o → o.cls = .type "tuple" → s.heap.get? b = some o) (ha : ∀ o, s.heap.get? a = some o → o.cls ≠ .type "tuple") :
    SrtO.SortableO prog w A s a vs (ltK h0 sh) := by
  intro h' keep
  have hv : ∀ v ∈ vs, ∀ k, TP h0 sh v k → TP h' sh v k := fun v hm k t => (t.keeps hk0).keeps fun b o e c => keep b o (fun z => by subst z; exact ha o e c) e
  obtain ⟨fs, f1, f2⟩ := firsts_all (h := h') (sh := sh) (vs := vs) fun v hm => (hv0 v hm).elim fun k t => ⟨k, hv v hm k t⟩
  refine ⟨tuples' true, fun Q E hq => tup_kind (s := { s with heap := h' }) (by omega) f1 hq, ?_⟩
  intro p q hm hm'
  obtain ⟨k1, t1⟩ := hv0 _ hm
  obtain ⟨k2, t2⟩ := hv0 _ hm'
  refine tup_ltAt (s := { s with heap := h' }) (shape := sh) true A (fun _ _ => False) p.1 q.1 k1 k2 (hv _ hm _ t1).key (hv _ hm' _ t2).key ⟨rfl, ?_⟩
  show PyProof.Rows.lexLt itemOrd k1 k2 = ltK h0 sh p.1 q.1
  unfold ltK
  rw [t1.key, t2.key]
  rfl
end
theorem perm_pre {α β : Type} {f : α → β} : ∀ {l : List β} {ts : List α}, l.Perm (ts.map f) → ∃ ts' : List α, ts'.Perm ts ∧ l = ts'.map f
  | [], ts, h => by
    have := h.length_eq
    rw [List.length_map, List.length_nil] at this
    rw [List.length_eq_zero_iff.mp this.symm]
    exact ⟨[], .refl _, rfl⟩
  | b :: l, ts, h => by
    have hb : b ∈ ts.map f := h.mem_iff.mp (by simp)
    obtain ⟨t, ht, rfl⟩ := List.mem_map.mp hb
    obtain ⟨p, q, rfl⟩ := List.append_of_mem ht
    have h1 : (f t :: l).Perm (f t :: (p ++ q).map f) := h.trans (by
      rw [List.map_append, List.map_append, List.map_cons]
      exact List.perm_middle)
    obtain ⟨ts', g1, g2⟩ := perm_pre (List.Perm.cons_inv h1)
    exact ⟨t :: ts', (g1.cons t).trans List.perm_middle.symm, by rw [g2]; rfl⟩
abbrev TK := Addr × List It1
def rSortTA (K : PySem.W.Frag) : List V → Hp → VK → Prop := fun vs H Q => ∃ (a : Addr) (ts : List TK) (sh : Nat → Bool), vs = [.ref a] ∧ SqL K H a (ts.map fun t => V.ref t.1) ∧ (∀ t ∈ ts, SqT K H t.1 (t.2.map itV) ∧ shOk sh 0 t.2 = true ∧ t.2 ≠ []) ∧ ts.length ≤ 100000 ∧
  ∀ (ts' : List TK) p, ts'.Perm ts → ts'.Pairwise (fun x y => lexT y.2 x.2 = false) → H p = none → Q (.ref p) (upd H p (.lst (ts'.map fun t => V.ref t.1)))
def kI : Key → It1
  | .inl i => .inl i
  | .inr x => .inr x.cps.toList
theorem kI_V (k : Key) : itV (kI k) = kV k := by cases k <;> rfl
/-- sorted(d), d's keys tuples -/
def rSortTD : List V → Hp → VK → Prop := fun vs H Q => ∃ (a : Addr) (kvs : List (List Key × V)) (sh : Nat → Bool), vs = [.ref a] ∧ Rd H a (.dT kvs) ∧ (∀ t ∈ kvs, shOk sh 0 (t.1.map kI) = true ∧ t.1 ≠ []) ∧ kvs.length ≤ 100000 ∧
  ∀ (ts' : List TK) p, (ts'.map (·.2)).Perm (kvs.map fun t => t.1.map kI) → ts'.Pairwise (fun x y => lexT y.2 x.2 = false) → (∀ t ∈ ts', H t.1 = some (.tup (t.2.map itV))) → H p = none → Q (.ref p) (upd H p (.lst (ts'.map fun t => V.ref t.1)))
section
variable {X : Cx}
theorem vals_refT : ∀ {ts : List TK} {us : List Value}, Vals (ts.map fun t => V.ref t.1) us → us = ts.map fun t => Value.ref t.1
  | [], _, .nil => rfl
  | p :: ks, _, .cons r t => by
    cases r
    rw [vals_refT t] <;> rfl
theorem vals_refT' : ∀ ts : List TK, Vals (ts.map fun t => V.ref t.1) (ts.map fun t => Value.ref t.1)
  | [] => .nil
  | _ :: r => .cons rfl (vals_refT' r)
theorem tp_of {pins : List (Addr × Obj)} {σ : L2.St} {H : Hp} {s : Shared} {sh : Nat → Bool} {t : TK} (I : Inv X pins σ H s) (h : SqT X.K H t.1 (t.2.map itV)) (h1 : shOk sh 0 t.2 = true) (h2 : t.2 ≠ []) : TP s.heap sh (.ref t.1) t.2 := by
  obtain ⟨its, r, ⟨o, ho, hc, n, hd⟩, _⟩ := I.tuple h
  exact ⟨_, o, its.toArray, n, rfl, ho, hc, hd, items_of_vals sh _ _ 0 r h1, h2⟩
theorem cr_sortedTA : CallR X (.builtin "sorted") (rSortTA X.K) := by
  intro pins s σ H vs us Q I r h
  obtain ⟨a, ts, sh, rfl, hs, ht, hn, q⟩ := h
  rw [Vals.ref1 r]
  obtain ⟨its, rv, hl, hz⟩ := I.list hs
  have ei := vals_refT rv
  have tp : ∀ t ∈ ts, TP s.heap sh (.ref t.1) t.2 := fun t hm => tp_of I (ht t hm).1 (ht t hm).2.1 (ht t hm).2.2
  have hall : ∀ v ∈ its, ∃ k, TP s.heap sh v k := fun v hv => by
    rw [ei] at hv
    obtain ⟨t, hm, rfl⟩ := List.mem_map.mp hv
    exact ⟨_, tp t hm⟩
  refine SrtO.sorted_ord (swo_K s.heap sh) hl.isList (by rw [ei, List.length_map]; exact sz_of hn) (fun h2 h₁ b hb kk => ?_) fun out hs' hb => ?_
  · refine sortable_K (s := { s with heap := h₁ }) (by omega) hall (fun c o e _ => (kk c o e).2) fun o e => ?_
    have e' : some o = some (seqObj "list" its.toArray 0) := e.symm.trans hb
    cases e'
    intro c
    exact absurd (Value.type.inj c) (by decide)
  · obtain ⟨ts', p1, p2⟩ := perm_pre (show out.Perm (ts.map fun t : TK => Value.ref t.1) by rw [← ei]; exact hb.perm)
    obtain ⟨ep, hat⟩ := sortedAll_at s.heap its out.toArray
    refine ⟨.ref _, upd H (s.heap.objs.size + 1) (.lst (ts'.map fun t => V.ref t.1)), I.laid (t' := s.toks) (fun _ _ => sortedAll_old) (Nat.le_succ _) ⟨?_, out, ep, ?_, hat⟩, rfl, q ts' _ p1 ?_ (I.hok.fresh (Nat.le_succ _))⟩
    · rw [List.length_map, p1.length_eq]
      exact sz_of hn
    · rw [p2]
      exact vals_refT' ts'
    · have hp : (ts'.map fun t : TK => Value.ref t.1).Pairwise (fun x y => ltK s.heap sh y x = false) := by rw [← p2]; exact hs'
      rw [List.pairwise_map] at hp
      refine hp.imp_of_mem fun {x y} hx hy e => ?_
      have tx' := tp x (p1.mem_iff.mp hx)
      have ty' := tp y (p1.mem_iff.mp hy)
      unfold ltK at e
      rw [tx'.key, ty'.key] at e
      exact e
theorem cr_sortedTD (hcalm : X.calm = true) : CallR X (.builtin "sorted") rSortTD := by
  intro pins s σ H vs us Q I r h
  obtain ⟨d, kvs, sh, rfl, hd, ht, hn, q⟩ := h
  rw [Vals.ref1 r]
  obtain ⟨z, hs, ks, pr, o, es, ep, ho, hx, hdt, he, hnd⟩ := (show ObjOk X.prog X.w H s.heap d (.dT kvs) from hd.ok I.hok)
  have l1 : es.size = ks.length := size_of_entries he
  have l2 : kvs.length = ks.length := Paired.length pr
  refine Calls.call_function_entry kind_sorted plain_sorted entry_sorted (args_sorted1 _) ?_
  unfold Builtin.«sorted»
  refine wpAny_bind (m := checkCount "sorted" 1 1 _) (wpAny_pure ?_)
  refine wpAny_bind (PySem.W.kdu_collect (A := X.A.in1) (kdl_raw hs hx hdt) (I.ok.hd hcalm) ho (by omega) fun h' tk acc' kp it => ?_)
  have ea : acc'.toList = ks.map fun x => Value.ref x.2.1 := by
    have hl : acc'.toList.length = ks.length := by rw [Array.length_toList, it.1]; exact l1
    apply List.ext_getElem?
    intro j
    rw [List.getElem?_map]
    cases hj : acc'.toList[j]? with
    | none =>
      have h1 := List.getElem?_eq_none_iff.mp hj
      rw [List.getElem?_eq_none (by omega)]
      all_goals rfl
    | some v =>
      obtain ⟨en, hen, hv⟩ := it.2 j v (by rw [← Array.getElem?_toList]; exact hj)
      have qe := entry_at he j
      rw [hen] at qe
      cases hb : ks[j]? with
      | none =>
        rw [hb] at qe
        exact nomatch (show some en = none from qe)
      | some b =>
        rw [hb] at qe
        have e2 : en = entryOfKey (tupleKind (mixKind X.prog X.w)) b := Option.some.inj qe
        rw [hv, e2]
        all_goals rfl
  have I1 : Inv X pins σ H { s with heap := h', toks := tk } := I.kept kp
  -- the pairs (key's place, key)
  have tk0 : ∀ {l : List (List Key × V)} {m : List (List Key × Addr × Value)}, Paired (fun (p : List Key × V) (q : List Key × Addr × Value) => p.1 = q.1 ∧ H q.2.1 = some (.tup (p.1.map kV)) ∧ RelV p.2 q.2.2) l m → (∀ t ∈ l, shOk sh 0 (t.1.map kI) = true ∧ t.1 ≠ []) →
      ∃ ts : List TK, (m.map fun x => Value.ref x.2.1) = ts.map (fun t => Value.ref t.1) ∧ ts.map (·.2) = l.map (fun t => t.1.map kI) ∧ ∀ t ∈ ts, H t.1 = some (.tup (t.2.map itV)) ∧ shOk sh 0 t.2 = true ∧ t.2 ≠ [] := by
    intro l m q
    induction q with
    | nil => intro _; exact ⟨[], rfl, rfl, fun t h => absurd h (by simp)⟩
    | @cons p q ps qs hq t ih =>
      intro hl
      obtain ⟨ts, a1, a2, a3⟩ := ih fun t ht => hl t (by simp [ht])
      have hp := hl p (by simp)
      refine ⟨(q.2.1, p.1.map kI) :: ts, by rw [List.map_cons, List.map_cons, a1], by rw [List.map_cons, List.map_cons, a2], fun t ht => ?_⟩
      rcases List.mem_cons.mp ht with rfl | ht
      · refine ⟨?_, hp.1, fun e => hp.2 (List.map_eq_nil_iff.mp e)⟩
        show H q.2.1 = _
        rw [hq.2.1, List.map_map]
        congr 2
        exact List.map_congr_left fun k _ => (kI_V k).symm
      · exact a3 t ht
  obtain ⟨ts, e1, e2, e3⟩ := tk0 pr ht
  have ei : acc'.toList = ts.map fun t => Value.ref t.1 := by rw [ea, e1]
  have hlen : acc'.toList.length ≤ sizeLine := by rw [ea, List.length_map]; omega
  refine wpAny_bind (wpAny_newList ?_ hlen)
  have hoL : (h'.push (seqObj "list" acc'.toList.toArray 0)).get? h'.objs.size = some (seqObj "list" acc'.toList.toArray 0) := Heap.get?_push_size _ rfl
  have tp : ∀ t ∈ ts, TP h' sh (.ref t.1) t.2 := fun t hm => tp_of (X := X) (s := { s with heap := h', toks := tk }) I1 (st_of (e3 t hm).1) (e3 t hm).2.1 (e3 t hm).2.2
  have hall : ∀ v ∈ acc'.toList, ∃ k, TP h' sh v k := fun v hv => by
    rw [ei] at hv
    obtain ⟨t, hm, rfl⟩ := List.mem_map.mp hv
    exact ⟨_, tp t hm⟩
  show wpAny _ _ _ _ _ { s with heap := h'.push (seqObj "list" acc'.toList.toArray 0), toks := tk }
  refine wpAny_bind (wpAny_holding (wpAny_call_entry slot_list_sort ⟨_, hoL, rfl⟩ entry_list_sort
    (SrtO.list_sort_ord (s := { s with heap := h'.push (seqObj "list" acc'.toList.toArray 0), toks := tk }) (swo_K h' sh) hoL hlen (fun h2 => ?_) fun out hs' hb => ⟨_, rfl, ?_⟩)
    (args_list_sort _)))
  · refine sortable_K (by omega) hall (fun c o e _ => Heap.get?_push_of_some _ e) fun o e => ?_
    have e' : some o = some (seqObj "list" acc'.toList.toArray 0) := e.symm.trans hoL
    cases e'
    intro c
    exact absurd (Value.type.inj c) (by decide)
  · obtain ⟨ts', p1, p2⟩ := perm_pre (show out.Perm (ts.map fun t : TK => Value.ref t.1) by rw [← ei]; exact hb.perm)
    obtain ⟨e', he'⟩ := sortedHeap_at (vs := acc'.toList) (out := out.toArray) hoL
    refine wpAny_pure ⟨_, rfl, .ref h'.objs.size, upd H h'.objs.size (.lst (ts'.map fun t => V.ref t.1)), I1.laid (t' := tk) (fun b u e => ?_) (Nat.le_refl _)
      (show ObjOk X.prog X.w _ _ _ (.lst (ts'.map fun t => V.ref t.1)) from ⟨?_, out, e', ?_, he'⟩), rfl, q ts' _ ?_ ?_ (fun t hm => (e3 t (p1.mem_iff.mp hm)).1) (I1.hok.fresh (Nat.le_refl _))⟩
    · have hb : b < h'.objs.size := Heap.lt_size e
      rw [sortedHeap_old (Nat.ne_of_lt hb) (by rw [size_push']; exact Nat.lt_succ_of_lt hb)]
      exact Heap.get?_push_of_some _ e
    · rw [List.length_map, p1.length_eq]
      have := congrArg List.length ei
      rw [List.length_map] at this
      omega
    · rw [p2]
      exact vals_refT' ts'
    · rw [← e2]
      exact p1.map _
    · have hp : (ts'.map fun t : TK => Value.ref t.1).Pairwise (fun x y => ltK h' sh y x = false) := by rw [← p2]; exact hs'
      rw [List.pairwise_map] at hp
      refine hp.imp_of_mem fun {x y} hx hy e => ?_
      have tx' := tp x (p1.mem_iff.mp hx)
      have ty' := tp y (p1.mem_iff.mp hy)
      unfold ltK at e
      rw [tx'.key, ty'.key] at e
      exact e
end
/-! the one order of the contents -/
def sortK (l : List (List It1)) : List (List It1) := l.mergeSort fun a b => !lexT b a
theorem sortK_unique {xs ys : List (List It1)} (h1 : xs.Perm ys) (h2 : xs.Pairwise fun a b => lexT b a = false) : xs = sortK ys := by
  have hp : (sortK ys).Perm ys := List.mergeSort_perm ys _
  have hs : (sortK ys).Pairwise fun a b => lexT b a = false := by
    have := List.pairwise_mergeSort (le := fun a b => !lexT b a) (fun a b c h g => by
      rw [Bool.not_eq_true'] at h g ⊢
      cases e : lexT c a with
      | false => rfl
      | true =>
        rcases lex_negTrans (O := itemOrd) c b a e with q | q
        · exact absurd (g.symm.trans q) Bool.false_ne_true
        · exact absurd (h.symm.trans q) Bool.false_ne_true) (fun a b => by
      cases e : lexT b a with
      | false => rfl
      | true =>
        cases f : lexT a b with
        | false => rfl
        | true =>
          have := lex_trans (O := itemOrd) _ _ _ e f
          rw [lex_irrefl] at this
          exact nomatch this) ys
    exact this.imp fun h => by rwa [Bool.not_eq_true'] at h
  have uniq : ∀ {xs ys : List (List It1)}, xs.Pairwise (fun a b => lexT b a = false) → ys.Pairwise (fun a b => lexT b a = false) → xs.Perm ys → xs = ys := by
    intro xs
    induction xs with
    | nil => intro ys _ _ h; exact h.nil_eq
    | cons x xs ih =>
      intro ys ha hb h
      cases ys with
      | nil => exact absurd h.length_eq (by simp)
      | cons y ys =>
        rw [List.pairwise_cons] at ha hb
        have e : x = y := by
          have hx : x ∈ y :: ys := h.mem_iff.mp (by simp)
          have hy : y ∈ x :: xs := h.mem_iff.mpr (by simp)
          rcases List.mem_cons.mp hx with e | hx
          · exact e
          · rcases List.mem_cons.mp hy with e | hy
            · exact e.symm
            · exact lex_total (O := itemOrd) x y (hb.1 x hx) (ha.1 y hy)
        subst e
        rw [ih ha.2 hb.2 (List.Perm.cons_inv h)]
  exact uniq h2 hs (h1.trans hp.symm)
end My

set_option Elab.async false
set_option linter.all false
set_option maxRecDepth 100000
set_option maxHeartbeats 1000000
/-! t[::-1] of a tuple; d[k] = v by a comprehension with tuple keys. -/
namespace My
open PySem PySem.Spec PyProof.Rows L2 Evl
section
variable {prog : Program} {w : World} {A : Around} {E : Value → Shared → Prop} {s : Shared}
theorem fm_congr {α β : Type} {f g : α → Option β} : ∀ (l : List α), (∀ x ∈ l, f x = g x) → l.filterMap f = l.filterMap g
  | [], _ => rfl
  | a :: l, h => by
    rw [List.filterMap_cons, List.filterMap_cons, h a (by simp), fm_congr l fun x hx => h x (by simp [hx])]
theorem pick_back (xs : Array Value) : ((List.range xs.size).filterMap fun (m : Nat) => xs[(((xs.size : Int) - 1) + (m : Int) * (-1)).toNat]?).toArray = xs.toList.reverse.toArray := by
  have e : (List.range xs.size).filterMap (fun (m : Nat) => xs[(((xs.size : Int) - 1) + (m : Int) * (-1)).toNat]?) = xs.toList.reverse := by
    have e1 : (List.range xs.size).filterMap (fun (m : Nat) => xs[(((xs.size : Int) - 1) + (m : Int) * (-1)).toNat]?) = (List.range xs.size).filterMap (fun (m : Nat) => xs.toList.reverse[m]?) := by
      refine fm_congr _ fun m hm => ?_
      have := List.mem_range.mp hm
      rw [List.getElem?_reverse (by rw [Array.length_toList]; exact this), Array.length_toList, Array.getElem?_toList]
      congr 1
      omega
    rw [e1]
    have h : ∀ (l : List Value) (n : Nat), n = l.length → (List.range n).filterMap (fun (m : Nat) => l[m]?) = l := by
      intro l n hn
      subst hn
      induction l with
      | nil => rfl
      | cons a r ih =>
        rw [List.length_cons, List.range_succ_eq_map, List.filterMap_cons]
        show a :: _ = _
        rw [List.filterMap_map]
        exact congrArg (a :: ·) ih
    exact h _ _ (by rw [List.length_reverse, Array.length_toList])
  rw [e]
theorem getItem_tuple_back {t sl : Addr} {items : Array Value} {vl vu vs : Value} {Q : Value → Shared → Prop} (ht : IsTup s.heap t items) (hs : s.heap.IsSliceOf sl vl vu vs) (pl : IsPart vl none) (pu : IsPart vu none) (ps : IsPart vs (some (-1)))
    (h : Q (.ref s.heap.objs.size) { s with heap := s.heap.push { cls := .type "tuple", data := .seq items.toList.reverse.toArray } })
    (hsz : items.size ≤ sizeLine) : wpAny (model prog w) A (getItem (.ref t) (.ref sl)) Q E s := by
  have htake : sizeOk (.seq items.toList.reverse.toArray) := by
    show items.toList.reverse.toArray.size ≤ sizeLine
    rw [List.size_toArray, List.length_reverse, Array.length_toList]
    exact hsz
  obtain ⟨os, hos, hcs, hds⟩ := id hs
  have hTs : s.TypeIs (.ref sl) "slice" := ⟨os, hos, hcs⟩
  unfold getItem
  try with_reducible refine wpAny_holding ?_
  first | refine wpAny_bind (wpAny_pure ?_) | skip
  refine wpAny_bind (wpAny_sequenceKey ht.typeIs (by decide) ?_)
  refine wpAny_bind (wpAny_callSpecial?_slot (name := Str.ofString "__getitem__") ht.typeIs PyProof.Rows.slot_tuple_getitem
    (wpAny_call_entry PyProof.Rows.slot_tuple_getitem ht.typeIs entry_tuple_getitem ?_ (args_tuple_getitem _ _)))
  show wpAny _ _ (Builtin.Tuple.tupleItemsOf (.ref t) >>= _) _ _ s
  refine wpAny_bind (tupleItemsOf_ ht ?_)
  refine wpAny_bind (wpAny_typeOf hTs ?_)
  rw [if_pos (by decide)]
  have hap : ∀ {Q : Int × Int × Nat → Shared → Prop} {A : Around} {E : Value → Shared → Prop}, Q ((items.size : Int) - 1, -1, items.size) s → wpAny (model prog w) A (Builtin.Slice.sliceApplied (.ref sl) (pure (items.size : Int))) Q E s := by
    intro Q A E q
    unfold Builtin.Slice.sliceApplied Builtin.Slice.sliceFields
    refine wpAny_bind (wpAny_bind (wpAny_field hos hds (x := vl) rfl (wpAny_bind (wpAny_field hos hds (x := vu) rfl (wpAny_bind (wpAny_field hos hds (x := vs) rfl (wpAny_pure ?_)))))))
    refine wpAny_bind (HT.slicePart_ ps ?_)
    show wpAny _ _ (if ((-1 : Int) == 0) = true then _ else _) _ _ s
    rw [if_neg (by decide)]
    refine wpAny_bind (HT.slicePart_ pl (wpAny_bind (HT.slicePart_ pu (wpAny_bind (wpAny_pure ?_)))))
    show wpAny _ _ (match Builtin.Slice.sliceAdjust none none (-1) (items.size : Int) with | (lo, hi) => pure (lo, (-1 : Int), Builtin.Slice.slicePlaces lo hi (-1))) _ _ s
    have e : Builtin.Slice.sliceAdjust none none (-1) (items.size : Int) = ((items.size : Int) - 1, -1) := by
      unfold Builtin.Slice.sliceAdjust
      simp
    rw [e]
    show wpAny _ _ (pure ((items.size : Int) - 1, (-1 : Int), Builtin.Slice.slicePlaces ((items.size : Int) - 1) (-1) (-1))) _ _ s
    have e2 : Builtin.Slice.slicePlaces ((items.size : Int) - 1) (-1) (-1) = items.size := by
      unfold Builtin.Slice.slicePlaces
      have h1 : ¬ ((-1 : Int) > 0) := by omega
      have h2 : (- -1 : Int) = 1 := by decide
      simp only [h1, if_false, h2, Int.ediv_one]
      split <;> omega
    rw [e2]
    exact wpAny_pure q
  refine wpAny_bind (hap ?_)
  show wpAny _ _ (if (((items.size : Int) - 1) == 0 && (-1 : Int) == 1 && items.size == items.size) = true then _ else _) _ _ s
  rw [if_neg (by rw [show ((-1 : Int) == 1) = false by decide, Bool.and_false, Bool.false_and]; exact Bool.false_ne_true), pick_back]
  first
    | exact wpAny_bind (m := Builtin.Tuple.tupleExact _) (wpAny_newObj_type (wpAny_pure ⟨_, rfl, wpAny_pure h⟩) htake)
    | exact wpAny_bind (m := Builtin.Tuple.tupleExact _) (wpAny_newObj_type (wpAny_bind (wpAny_pure (wpAny_pure ⟨_, rfl, wpAny_pure h⟩))) htake)
    | exact wpAny_bind (wpAny_bind (m := Builtin.Tuple.tupleExact _) (wpAny_newObj_type (wpAny_pure (wpAny_pure ⟨_, rfl, wpAny_pure h⟩)) htake))
    | exact wpAny_bind (wpAny_bind (m := Builtin.Tuple.tupleExact _) (wpAny_newObj_type (wpAny_pure ⟨_, rfl, wpAny_pure h⟩) htake))
end
section
variable {X : Cx}
def tRevT (K : PySem.W.Frag) (te : TE) : TE := fun σ H Q => te σ H fun x H1 => ∃ a xs, x = .ref a ∧ SqT K H1 a xs ∧ ∀ p, H1 p = none → Q (.ref p) (upd H1 p (.tup xs.reverse))
theorem pe_revT {e : Expr} {te : TE} {k : Nat} {p1 p2 p3 pos : Pos} (he : PE X e te) : PE X (.Subscript e (.Slice none none (some (.UnaryOp .USub (.Constant (.int 1) k p1) p2)) p3) pos) (tRevT X.K te) := by
  refine ⟨fun pins s σ H Q I h => ?_⟩
  refine Subscript_ (thn (he.run pins s σ H _ I h) fun v s1 ⟨x, H1, I1, r1, q1⟩ => ?_)
  obtain ⟨a, xs, ex, hx, q⟩ := q1
  subst ex
  cases r1
  have hst : PO X (some (.UnaryOp .USub (.Constant (.int 1) k p1) p2)) (tPart (tUn (rU fun i => .int (-i)) (tC (.int 1)))) := po_some (pe_un un_neg pe_int)
  refine wpAny_Slice (thn (po_none.run pins s1 σ H1 (fun o H2 => o = none ∧ H2 = H1) I1 ⟨rfl, rfl⟩) fun vl s2 ⟨l, H2, I2, pl, el, e2⟩ => ?_)
  subst el e2
  refine thn (po_none.run pins s2 σ H2 (fun o H3 => o = none ∧ H3 = H2) I2 ⟨rfl, rfl⟩) fun vu s3 ⟨u, H3, I3, pu, eu, e3⟩ => ?_
  subst eu e3
  refine thn (hst.run pins s3 σ H3 (fun o H4 => o = some (-1) ∧ H4 = H3) I3 ⟨1, rfl, -1, rfl, rfl, rfl⟩) fun vs s4 ⟨o, H4, I4, ps, eo, e4⟩ => ?_
  subst eo e4
  have I5 : Inv X pins σ H4 { s4 with heap := s4.heap.push { cls := .type "slice", data := .fields #[vl, vu, vs] } } := I4.kept (t' := s4.toks) fun b ob q => Heap.get?_push_of_some _ q
  obtain ⟨its, r, ht, hz⟩ := I5.tuple hx
  have hlen := r.length
  show wpAny (model X.prog X.w) X.A (subscriptTail e (.Slice none none (some (.UnaryOp .USub (.Constant (.int 1) k p1) p2)) p3) (.ref a) (.ref s4.heap.objs.size)) (EP X pins σ Q) X.xe { s4 with heap := s4.heap.push { cls := .type "slice", data := .fields #[vl, vu, vs] } }
  refine tail_any (ops := [.ref a, .ref s4.heap.objs.size]) ht.typeIs (PyProof.Rows.slot_tuple_getitem.lookup) ?_ (by with_unfolding_all rfl)
  refine getItem_tuple_back ht (Heap.IsSliceOf.new _ vl vu vs) pl pu ps ?_ (by rw [List.size_toArray]; omega)
  refine ⟨.ref _, _, I5.laid (t' := s4.toks) (o := .tup xs.reverse) (fun b ob q => Heap.get?_push_of_some _ q) (Nat.le_refl _) ?_, rfl, q _ (I5.hok.fresh (Nat.le_refl _))⟩
  exact ⟨by rw [List.length_reverse]; exact hz, _, r.reverse, IsTup.new _ _⟩
end
end My

set_option Elab.async false
set_option linter.all false
set_option maxRecDepth 100000
set_option maxHeartbeats 1000000
/-! dict comprehensions whose keys are tuples (the statement and its proof go as HandS.DictComp's). -/
namespace My
open PySem PySem.Spec PyProof.Rows L2 Evl
theorem d_dictSetT {X : Cx} {pins : List (Addr × Obj)} {σ : L2.St} {H : Hp} {s : Shared} {E : Value → Shared → Prop} {D b : Addr} {kvs : List (List Key × V)} {k : List Key} {v : V} {u r : Value} {Q : Unit → Shared → Prop} (hu : X.A.units + 1 < cLine) (I : Inv X pins σ H s) (hD : H D = some (.dT kvs))
    (hb : H b = some (.tup (k.map kV))) (hz : kvs.length < sizeLine) (ry : RelV (.ref b) u) (rv : RelV v r) (h : ∀ s', Inv X pins σ (upd H D (.dT (putK kvs k v))) s' → Q () s') : wpAny (model X.prog X.w) X.A (dictSet D u r) Q E s := by
  cases (show u = Value.ref b from ry)
  obtain ⟨z, hd, xs, rel, dd⟩ := dt_of I.hok hD
  have hz : xs.length ≤ sizeLine := by rw [← Paired.length rel]; exact z
  have hl : (putK kvs k v).length ≤ sizeLine := by have := length_putK kvs k v; omega
  refine wpAny_dictSet_heap (hsz := hz) (show X.A.units < cLine by omega) (key_of I.hok hb) dd fun h' dd' hs => h _ ?_
  obtain ⟨q, es, ep, hq, h2, h3, h4, _, h5⟩ := dd'
  refine d_write I (by rw [hD]; exact True.intro) hs ⟨q, hq⟩ ⟨hl, hd, _, (rel.put k hb rv).keeps fun c ys ec => ?_, q, es, ep, hq, h2, h3, h4, h5⟩
  rw [upd_ne (ne_of ec hD (fun z => nomatch z))]
  exact ec
section
variable {X : Cx}
def tDcT (wi : TI) (g : TG) (tt : TT) (tk tv : TE) (vs : List Nat) : TE := fun σ H Q => wi σ H fun J H1 => ∀ D, H1 D = none → ∃ W : Nat → Nat → Hp → Prop, (∃ m, W 0 m (upd H1 D (.dT []))) ∧ ∀ i m H, W i m H →
  (J.stop i H ∧ Q (.ref D) H) ∨ (J.go i H ∧ ∃ Nx : Hp → Prop, (∀ H', Nx H' → ∃ m', m' < m ∧ W (i + 1) m' H') ∧ ∀ x H', J.yld i H x H' → g x (wipe σ vs) H' fun σ2 H2 => wipe σ2 vs = wipe σ vs ∧ tt σ2 H2 fun b H3 =>
    if b = true then tk σ2 H3 fun y H4 => tv σ2 H4 fun z H5 => ∃ kvs k kb, y = .ref kb ∧ H5 kb = some (.tup (k.map kV)) ∧ H5 D = some (.dT kvs) ∧ kvs.length < sizeLine ∧ Nx (upd H5 D (.dT (putK kvs k z))) else Nx H3)
theorem dct_core {pins : List (Addr × Obj)} {s : Shared} {σ : L2.St} {H : Hp} {Q : VK} {kx vx tg iter : Expr} {ifs : List Expr} {scope : Scope} {own : List (Str × Nat)} {pos pos' : Pos} {wi : TI} {g : TG} {tt : TT} {tk tv : TE} {use : Option (Value → Sem Unit)} {Qf : Value → Shared → Prop}
    (hu : X.A.units + 1 < cLine) (hc : X.calm = true) (hN : X.N.Nodup) (I : Inv X pins σ H s) (hi : PI X tg iter wi) (ok : BlkOk X.N X.env.scope scope own)
    (hg : ∀ (s : Shared) (H : Hp) (C : Addr) (cl : List (Str × Addr)) (fp : List Addr), PG (X.blk s H scope (compEnvC scope cl C X.env) fp) tg g) (ht : ∀ (s : Shared) (H : Hp) (C : Addr) (cl : List (Str × Addr)) (fp : List Addr), PTs (X.blk s H scope (compEnvC scope cl C X.env) fp) ifs tt)
    (hk : ∀ (s : Shared) (H : Hp) (C : Addr) (cl : List (Str × Addr)) (fp : List Addr), PE (X.blk s H scope (compEnvC scope cl C X.env) fp) kx tk)
    (he : ∀ (s : Shared) (H : Hp) (C : Addr) (cl : List (Str × Addr)) (fp : List Addr), PE (X.blk s H scope (compEnvC scope cl C X.env) fp) vx tv) (hs : ∀ x, foldedSetIterable iter X.env x = pure x)
    (h : tDcT wi g tt tk tv (own.map (·.2)) σ H Q)
    (hRR : ∀ D C s' m H', Inv X pins σ H' s' → Q (.ref D) H' → s'.heap.Ns C m → FpOk X pins H' C → compPost (model X.prog X.w) X.A X.xe use Qf (.ref D) C (.ok .next) s') :
    wpAny (model X.prog X.w) X.A (comprehension (.DictComp kx vx [⟨tg, iter, ifs, 0⟩] scope pos) scope X.env pos' newDict false (eval iter X.env) use) Qf X.xe s := by
  have hfree : ∀ y ∈ scope.names, y.2 = .free → ∃ c, X.env.cells.lookup y.1 = some c := fun y hy e => by
    rcases ok.free y hy e with k | k
    · exact I.ok.has _ (.inl k)
    · exact I.ok.has _ (.inr k)
  refine wpAny_comprehension_free (use := use) rfl hs (closure_ok hfree) ok.kind (fun y hy e => by rw [ok.uniq y hy, e])
    (thn (hi.run pins s σ H _ I h) fun xv s1 hx => thn hx fun itv s2 h2 => ?_)
  obtain ⟨it, fp, tn, J, H2, e, I2, T, st2, f2, q⟩ := h2
  subst e
  refine wpAny_newObj_type (newEnv_comp ?_)
  generalize hD : s2.heap.objs.size = D
  have hDn : H2 D = none := I2.hok.fresh (Nat.le_of_eq hD)
  obtain ⟨W, ⟨m0, w0⟩, turn⟩ := q D hDn
  -- the new list
  generalize hs3 : ({ s2 with heap := s2.heap.push { cls := .type "dict", data := .dict #[] } } : Shared) = s3
  have I3 : Inv X pins σ (upd H2 D (.dT [])) s3 := by
    rw [← hs3]
    refine I2.laid (t' := s2.toks) (fun b o e => Heap.get?_push_of_some _ e) (Nat.le_of_eq hD) ?_
    rw [← hD]
    exact dt_empty s2.heap I2.big
  have h3 : s3.heap = s2.heap.push { cls := .type "dict", data := .dict #[] } := by rw [← hs3]
  have sz : ∀ b ∈ fp, b < s2.heap.objs.size := fun b hb => by
    obtain ⟨o, e, _⟩ := T.obj _ _ st2 b hb
    exact Heap.lt_size e
  have f3 : ∀ b ∈ fp, FpOk X pins (upd H2 D (.dT [])) b ∧ b < s3.heap.objs.size := fun b hb => by
    have hlt := sz b hb
    refine ⟨⟨?_, (f2 b hb).2⟩, by rw [h3, Heap.size_push]; exact Nat.lt_succ_of_lt hlt⟩
    rw [upd_ne (by rw [← hD]; exact Nat.ne_of_lt hlt)]
    exact (f2 b hb).1
  have st3 : tn 0 s3.heap := T.keep _ _ _ st2 fun b _ o e => by rw [h3]; exact Heap.get?_push_of_some _ e
  have I4 := block_start I3 ok hN f3
  have pg := hg s3 (upd H2 D (.dT [])) s3.heap.objs.size (cellsFrom (s3.heap.objs.size + 1) scope.names (cloFrom X.env.cells scope.names [])) fp
  have pt := ht s3 (upd H2 D (.dT [])) s3.heap.objs.size (cellsFrom (s3.heap.objs.size + 1) scope.names (cloFrom X.env.cells scope.names [])) fp
  have pk := hk s3 (upd H2 D (.dT [])) s3.heap.objs.size (cellsFrom (s3.heap.objs.size + 1) scope.names (cloFrom X.env.cells scope.names [])) fp
  have pe := he s3 (upd H2 D (.dT [])) s3.heap.objs.size (cellsFrom (s3.heap.objs.size + 1) scope.names (cloFrom X.env.cells scope.names [])) fp
  show codeAny _ _ (.compStart (.DictComp kx vx [⟨tg, iter, ifs, 0⟩] scope pos) 0 (.ref it) (.ref D) (compEnvC scope (cellsFrom (s3.heap.objs.size + 1) scope.names (cloFrom X.env.cells scope.names [])) s3.heap.objs.size X.env)) (compPost (model X.prog X.w) X.A X.xe use Qf (.ref D) s3.heap.objs.size) { s3 with heap := pushCells (s3.heap.push { cls := .type "dict", data := .dict #[] }) scope.names }
  have nfp : ∀ b ∈ fp, (upd H2 D (.dT [])) b = none := fun b hb => (f3 b hb).1.1
  generalize hce : compEnvC scope (cellsFrom (s3.heap.objs.size + 1) scope.names (cloFrom X.env.cells scope.names [])) s3.heap.objs.size X.env = ce at I4 pg pt pk pe ⊢
  have cL : ce.locals = s3.heap.objs.size := by subst hce; rfl
  generalize hH3 : upd H2 D (.dT []) = H3 at I3 I4 pg pt pk pe w0 nfp f3
  generalize hs4 : ({ s3 with heap := pushCells (s3.heap.push { cls := .type "dict", data := .dict #[] }) scope.names } : Shared) = s4 at I4 ⊢
  have st4 : tn 0 s4.heap := T.keep _ _ _ st3 fun b _ o e => by rw [← hs4]; exact pushCells_keeps _ _ _ _ (Heap.get?_push_of_some _ e)
  have stat : ∀ {σ' : L2.St} {H' : Hp} {s' : Shared}, Inv (X.blk s3 H3 scope ce fp) [] σ' H' s' → (∀ b ∈ fp, H' b = none) → ∀ b ∈ fp, FpOk (X.blk s3 H3 scope ce fp) [] H' b := fun {σ' H' s'} I' hn b hb =>
    ⟨hn b hb, (I'.ok.exf b hb).1, I'.ok.exfs b hb, .inl hb, fun x c e => (I'.ok.exf b hb).2 x c e, fun p hp => absurd (show p ∈ ([] : List (Addr × Obj)) ++ [] from hp) (by simp)⟩
  have loop : codeAny (model X.prog X.w) X.A (.compLoop (.DictComp kx vx [⟨tg, iter, ifs, 0⟩] scope pos) 0 (.ref it) (.ref D) ce) (compPost (model X.prog X.w) X.A X.xe use Qf (.ref D) s3.heap.objs.size) s4 := by
    refine compLoop_anyD (fun n s' => ∃ i H', Inv (X.blk s3 H3 scope ce fp) [] (wipe σ (own.map (·.2))) H' s' ∧ tn i s'.heap ∧ (∀ b ∈ fp, H' b = none) ∧ W i n H') ?_ m0 ⟨0, H3, I4, st4, nfp, w0⟩
    rintro n s5 ⟨i, H5, I5, st5, n5, w5⟩
    rcases turn i n H5 w5 with ⟨stop, qq⟩ | ⟨go, Nx, hNx, step⟩
    · have td := T.done (X.blk s3 H3 scope ce fp) rfl rfl rfl hc i [] s5 _ H5 (fun _ _ => False) I5 (stat I5 n5) st5 stop
      refine thnF td fun r s6 ⟨hr, I6⟩ => ?_
      subst hr
      -- back in the def's context
      have I7 : Inv X pins σ H5 s6 := I3.call' (ch := fp) I6.os I6.base I6.hok I6.bare fun b hb => ⟨(f3 b hb).1.2.2.2.1, (f3 b hb).1.2.1, (f3 b hb).1.2.2.2.2.1, (f3 b hb).1.2.2.2.2.2⟩
      have nC : H5 s3.heap.objs.size = none := by
        have z : H5 ce.locals = none := I6.free
        rw [cL] at z
        exact z
      obtain ⟨m, hn, _⟩ := I6.loc
      have hn : s6.heap.Ns ce.locals m := hn
      rw [cL] at hn
      exact hRR D s3.heap.objs.size s6 m H5 I7 qq hn (I3.fpOk (Nat.le_refl _) nC)
    · have ti := T.item (X.blk s3 H3 scope ce fp) rfl rfl rfl hc i [] s5 _ H5 (fun _ _ => False) I5 (stat I5 n5) st5 go
      refine thnF ti fun r s6 ⟨u, hr, h6⟩ => ?_
      subst hr
      refine thnF h6 fun _ s7 ⟨x, H7, I7, r7, y7, st7, n7⟩ => ?_
      have I7' := I7.pinned (stat I7 n7) (T.obj _ _ st7)
      refine thnF (pg.run _ s7 _ H7 x u _ I7' r7 (step x H7 y7)) fun _ s8 ⟨σ8, H8, I8, hw8, q8⟩ => ?_
      refine thnF (pt.run _ s8 σ8 H8 _ I8 q8) fun b s9 ⟨H9, I9, q9⟩ => ?_
      -- the turn's end
      have fin : ∀ {s' : Shared} {H' : Hp}, Inv (X.blk s3 H3 scope ce fp) ([] ++ pinsAt fp s7.heap) σ8 H' s' → Nx H' → ∃ m, m < n ∧ ∃ i H', Inv (X.blk s3 H3 scope ce fp) [] (wipe σ (own.map (·.2))) H' s' ∧ tn i s'.heap ∧ (∀ b ∈ fp, H' b = none) ∧ W i m H' := fun {s' H'} I' nx => by
        obtain ⟨m', hm, w'⟩ := hNx H' nx
        have pin' : ∀ b ∈ fp, ∀ o, s7.heap.get? b = some o → s'.heap.get? b = some o ∧ H' b = none := fun b hb o e =>
          let z := I'.pin (b, o) (List.mem_append_right _ (List.mem_append_right _ (mem_pinsAt hb e)))
          ⟨z.1, z.2.1⟩
        have hl : (wipe σ (own.map (·.2))).length = σ8.length := by rw [← hw8, wipe_length]
        refine ⟨m', hm, i + 1, H', (I'.unpinned (pins := [])).weak hl (fun j v e => ?_), T.keep _ _ _ st7 fun b hb o e => (pin' b hb o e).1, fun b hb => ?_, w'⟩
        · rw [← hw8] at e
          exact (wipe_some e).1
        · obtain ⟨o, e, _⟩ := T.obj _ _ st7 b hb
          exact (pin' b hb o e).2
      cases b with
      | false =>
        simp only [Bool.false_eq_true, if_false] at q9 ⊢
        exact fin I9 q9
      | true =>
        simp only [if_true] at q9 ⊢
        refine thnF (pk.run _ s9 σ8 H9 _ I9 q9) fun z s10 ⟨yk, H10, I10, r10, q10⟩ => ?_
        refine thnF (pe.run _ s10 σ8 H10 _ I10 q10) fun z2 s11 ⟨yv, H11, I11, r11, kvs, k, kb, ek, hkb, hD11, hz11, nx⟩ => ?_
        subst ek
        exact d_dictSetT (X := X.blk s3 H3 scope ce fp) hu I11 hD11 (hkb) hz11 r10 r11 fun s12 I12 => fin I12 nx
  exact codeAny_compStart_dict loop (T.self X.A 0 _ _ _ st4 loop)
/-- as a value -/
theorem pe_dcT (hu : X.A.units + 1 < cLine) {kx vx tg iter : Expr} {ifs : List Expr} {scope : Scope} {own : List (Str × Nat)} {pos : Pos} {wi : TI} {g : TG} {tt : TT} {tk tv : TE} (hc : X.calm = true) (hN : X.N.Nodup) (hi : PI X tg iter wi) (ok : BlkOk X.N X.env.scope scope own)
    (hg : ∀ (s : Shared) (H : Hp) (C : Addr) (cl : List (Str × Addr)) (fp : List Addr), PG (X.blk s H scope (compEnvC scope cl C X.env) fp) tg g) (ht : ∀ (s : Shared) (H : Hp) (C : Addr) (cl : List (Str × Addr)) (fp : List Addr), PTs (X.blk s H scope (compEnvC scope cl C X.env) fp) ifs tt)
    (hk : ∀ (s : Shared) (H : Hp) (C : Addr) (cl : List (Str × Addr)) (fp : List Addr), PE (X.blk s H scope (compEnvC scope cl C X.env) fp) kx tk)
    (he : ∀ (s : Shared) (H : Hp) (C : Addr) (cl : List (Str × Addr)) (fp : List Addr), PE (X.blk s H scope (compEnvC scope cl C X.env) fp) vx tv) (hs : ∀ x, foldedSetIterable iter X.env x = pure x := by intro _; rfl) :
    PE X (.DictComp kx vx [⟨tg, iter, ifs, 0⟩] scope pos) (tDcT wi g tt tk tv (own.map (·.2))) := by
  refine ⟨fun pins s σ H Q I h => ?_⟩
  rw [arm_eval_DictComp]
  refine dct_core hu hc hN I hi ok hg ht hk he hs h fun D C s' m H' I' q hn f => ⟨m, hn, fun h'' sb => ?_⟩
  obtain ⟨f0, f1, f2, f3, f4, f5⟩ := f
  exact ⟨.ref D, H', I'.turned (t' := s'.toks) (fun b o hb e => (sb.2 b hb).trans e) f0 f1 f3 f4 f5, rfl, q⟩
end
end My

set_option Elab.async false
set_option linter.all false
set_option maxRecDepth 100000
set_option maxHeartbeats 1000000
/-! a written dict of the top, keys and values texts: its look-ups. -/
namespace My
open PySem PySem.Spec PyProof.Rows L2 Evl
def strOf : Value → Str
  | .str x _ => x
  | _ => Str.empty
def isStrV : Value → Bool
  | .str _ _ => true
  | _ => false
/-- what the table says of a key -/
def tabF : List (List Nat × List Nat) → List Nat → Option (List Nat)
  | [], _ => none
  | p :: r, l => if p.1 = l then some p.2 else tabF r l
def HasD (K : PySem.W.Frag) (w : World) (x : Str) (tab : List (List Nat × List Nat)) : Prop := ∃ (d : Addr) (es : Array DictEntry) (n : Nat), PySem.W.nsIn K mainGlobals x = some (some (.ref d)) ∧ K.lookup d = some ⟨.type "dict", none, .dict es n, #[]⟩ ∧
  es.toList.map He.keyOf = He.keysIn w.params (tab.map fun p => tx p.1) ∧ (d == sysModules) = false ∧ es.toList.map (fun e => strOf e.val) = tab.map (fun p => tx p.2) ∧ es.toList.all (fun e => isStrV e.val) = true
theorem HasD.mk' {K : PySem.W.Frag} {w : World} {x : Str} {tab : List (List Nat × List Nat)} {d : Addr} {es : Array DictEntry} {n : Nat} (a : PySem.W.nsIn K mainGlobals x = some (some (.ref d))) (l : K.lookup d = some ⟨.type "dict", none, .dict es n, #[]⟩)
    (k : es.toList.map He.keyOf = He.keysIn w.params (tab.map fun p => tx p.1)) (z : (d == sysModules) = false) (v : es.toList.map (fun e => strOf e.val) = tab.map (fun p => tx p.2)) (s : es.toList.all (fun e => isStrV e.val) = true) : HasD K w x tab := ⟨d, es, n, a, l, k, z, v, s⟩
/-- the dict as a global -/
def GD (K : PySem.W.Frag) (w : World) (mg : Str → Option Value) (x : Str) (tab : List (List Nat × List Nat)) : Prop := ∃ (d : Addr) (es : Array DictEntry) (n : Nat), mg x = some (.ref d) ∧ KDict K w d es n ∧
  ∀ l, ∃ r, PySem.W.nsIn K d (tx l) = some r ∧ r.isSome = (tabF tab l).isSome ∧ ∀ y, tabF tab l = some y → ∃ u, r = some u ∧ RelV (.str (tx y)) u
theorem find_tab {P : Params} : ∀ {es : List DictEntry} {tab : List (List Nat × List Nat)}, es.map He.keyOf = He.keysIn P (tab.map fun p => tx p.1) → es.map (fun e => strOf e.val) = tab.map (fun p => tx p.2) → es.all (fun e => isStrV e.val) = true →
    (es.any (·.refKey) = false) ∧ ∀ l, (es.find? (·.key.isStr (tx l))).isSome = (tabF tab l).isSome ∧ ∀ y, tabF tab l = some y → ∃ e, es.find? (·.key.isStr (tx l)) = some e ∧ RelV (.str (tx y)) e.val
  | [], [], _, _, _ => ⟨rfl, fun l => ⟨rfl, fun y h => nomatch h⟩⟩
  | [], p :: r, h, _, _ => by cases h
  | e :: es, [], h, _, _ => by cases h
  | e :: es, p :: r, h, h2, h3 => by
    have h1 : He.keyOf e :: es.map He.keyOf = some (tx p.1, PyData.keyHash P (tx p.1)) :: He.keysIn P (r.map fun p => tx p.1) := h
    injection h1 with k1 k2
    rw [List.map_cons, List.map_cons] at h2
    injection h2 with v1 v2
    rw [List.all_cons, Bool.and_eq_true] at h3
    obtain ⟨i1, i2⟩ := find_tab k2 v2 h3.2
    have hk : ∃ t, e.key = .str (tx p.1) t := by
      unfold He.keyOf at k1
      split at k1
      · rename_i x t q
        obtain ⟨h5, h6⟩ := Prod.mk.inj (Option.some.inj k1)
        exact ⟨t, by rw [q, h5]⟩
      · cases k1
    obtain ⟨t, hk⟩ := hk
    have hv : ∃ t, e.val = .str (tx p.2) t := by
      cases q : e.val with
      | str x t =>
        rw [q] at v1
        exact ⟨t, by rw [← v1]; rfl⟩
      | _ => rw [q] at h3; exact nomatch h3.1
    obtain ⟨t2, hv⟩ := hv
    have hstr : ∀ l, e.key.isStr (tx l) = decide (p.1 = l) := fun l => by
      rw [hk]
      show (tx p.1 == tx l) = _
      by_cases hl : p.1 = l
      · subst hl
        rw [decide_eq_true rfl]
        exact beq_self_eq_true _
      · rw [decide_eq_false hl]
        exact beq_eq_false_iff_ne.mpr fun z => hl (tx_inj z)
    refine ⟨?_, fun l => ?_⟩
    · rw [List.any_cons, i1, Bool.or_false]
      unfold DictEntry.refKey
      rw [hk]
    · rw [List.find?_cons, hstr]
      unfold tabF
      by_cases hl : p.1 = l
      · rw [decide_eq_true hl, if_pos hl]
        exact ⟨rfl, fun y hy => ⟨e, rfl, by cases hy; exact ⟨t2, hv⟩⟩⟩
      · rw [decide_eq_false hl, if_neg hl]
        exact i2 l
theorem HasD.gd {K : PySem.W.Frag} {w : World} {mg : Str → Option Value} {h : Heap} {x : Str} {tab : List (List Nat × List Nat)} (X : K.In h) (G : h.Ns mainGlobals mg) (H : HasD K w x tab) : GD K w mg x tab := by
  obtain ⟨d, es, n, a, l, k, z, v, s⟩ := H
  refine ⟨d, es, n, PySem.W.mg_of X G a, ⟨l, He.keysLit_of k, z⟩, fun y => ?_⟩
  obtain ⟨i1, i2⟩ := find_tab k v s
  obtain ⟨j1, j2⟩ := i2 y
  refine ⟨(es.toList.find? (·.key.isStr (tx y))).map (·.val), ?_, by rw [Option.isSome_map]; exact j1, fun q hq => ?_⟩
  · unfold PySem.W.nsIn
    rw [l]
    show (match es.toList.find? (·.key.isStr (tx y)) with
      | some e => some (some e.val)
      | none => if es.toList.any (·.refKey) then none else some none) = _
    cases e : es.toList.find? (·.key.isStr (tx y)) with
    | some en => rfl
    | none =>
      show (if es.toList.any (·.refKey) = true then none else some none) = _
      rw [if_neg (by rw [i1]; exact Bool.false_ne_true)]
      rfl
  · obtain ⟨en, h1, h2⟩ := j2 q hq
    exact ⟨en.val, by rw [h1]; rfl, h2⟩
/-! the rules: x in T, x not in T, T[x] -/
theorem pe_gr {X : Cx} {x : Str} {d : Addr} {pos : Pos} (g : X.mg x = some (.ref d)) (hg : Gl X x := by rfl) (hd : (x == ("__debug__" : Str)) = false := by decide) : PE X (.Name x pos) (tC (.ref d)) := pe_glob (v := .ref d) hg g rfl hd

section
variable {K : PySem.W.Frag} {w : World} {σ : L2.St} {H : Hp} {te : TE} {d : Addr} {tab : List (List Nat × List Nat)} {l y : List Nat}
theorem ev_inKd (h : Ev te σ H (.str (tx l))) (hl : ∀ l, ∃ r, PySem.W.nsIn K d (tx l) = some r ∧ r.isSome = (tabF tab l).isSome ∧ ∀ y, tabF tab l = some y → ∃ u, r = some u ∧ RelV (.str (tx y)) u) :
    Ev (tOp (fun x y H Q => ∃ (z : Str) (r : Option Value), x = .str z ∧ y = .ref d ∧ PySem.W.nsIn K d z = some r ∧ Q (.bl r.isSome) H) te (tC (.ref d))) σ H (.bl (tabF tab l).isSome) := fun H1 e Q q => h H1 e _ fun H2 e2 => by
  obtain ⟨r, h1, h2, _⟩ := hl l
  exact ⟨tx l, r, rfl, rfl, h1, by rw [h2]; exact q H2 e2⟩
theorem ev_niKd (h : Ev te σ H (.str (tx l))) (hl : ∀ l, ∃ r, PySem.W.nsIn K d (tx l) = some r ∧ r.isSome = (tabF tab l).isSome ∧ ∀ y, tabF tab l = some y → ∃ u, r = some u ∧ RelV (.str (tx y)) u) :
    Ev (tOp (fun x y H Q => ∃ (z : Str) (r : Option Value), x = .str z ∧ y = .ref d ∧ PySem.W.nsIn K d z = some r ∧ Q (.bl (!r.isSome)) H) te (tC (.ref d))) σ H (.bl (!(tabF tab l).isSome)) := fun H1 e Q q => h H1 e _ fun H2 e2 => by
  obtain ⟨r, h1, h2, _⟩ := hl l
  exact ⟨tx l, r, rfl, rfl, h1, by rw [h2]; exact q H2 e2⟩
theorem ev_ixKd {es : Array DictEntry} {n : Nat} (h : Ev te σ H (.str (tx l))) (D : KDict K w d es n) (hl : ∀ l, ∃ r, PySem.W.nsIn K d (tx l) = some r ∧ r.isSome = (tabF tab l).isSome ∧ ∀ y, tabF tab l = some y → ∃ u, r = some u ∧ RelV (.str (tx y)) u) (hy : tabF tab l = some y) :
    Ev (tOp (rIxD K w) (tC (.ref d)) te) σ H (.str (tx y)) := fun H1 e Q q => h H1 e _ fun H2 e2 => by
  obtain ⟨r, h1, _, h3⟩ := hl l
  obtain ⟨u, h4, h5⟩ := h3 y hy
  exact ⟨d, tx l, .str (tx y), rfl, rfl, ⟨es, n, u, D.at_, D.lit, by rw [h1, h4], h5⟩, q H2 e2⟩
end
end My

set_option Elab.async false
set_option linter.all false
set_option maxRecDepth 100000
set_option maxHeartbeats 2000000
/-! comprehensions over a dict's keys; dict(d); != of a tuple and an empty one; startswith and cuts. -/
namespace My
open PySem PySem.Spec PyProof.Rows L2 Evl
/-! ### dict(d): a new dict, entry by entry -/
def rDictD : List V → Hp → VK → Prop := fun xs H Q => ∃ (a : Addr) (kvs : List (Key × V)), xs = [.ref a] ∧ H a = some (.dK kvs) ∧ ∀ p, H p = none → Q (.ref p) (upd H p (.dK kvs))
section
variable {X : Cx}
theorem call_dictD : CallR X (.type "dict") rDictD := by
  intro pins s σ H xs us Q I r q
  obtain ⟨a, kvs, ex, hq, q⟩ := q
  subst ex
  obtain ⟨u, eu, rx⟩ := vals1 r
  subst eu
  cases rx
  obtain ⟨hz, lo, ws, rel, dd⟩ := dk_of I.hok hq
  have hl : kvs.length = ws.length := Paired.length rel
  refine kt_call_dict (knd := mixKind X.prog X.w) lo dd (by rw [← hl]; exact hz) fun h' hd' sb => ?_
  have hm : (s.heap.objs.size == sysModules) = false := beq_eq_false_iff_ne.mpr (Nat.ne_of_gt I.big)
  exact ⟨.ref s.heap.objs.size, upd H s.heap.objs.size (.dK kvs), I.laid (t' := s.toks) (fun b o e => (sb.2 b (Nat.ne_of_lt (Heap.lt_size e))).trans (Heap.get?_push_of_some _ e)) (Nat.le_refl _) (show ObjOk X.prog X.w _ _ _ (.dK kvs) from ⟨hz, hm, ws, rel, hd'⟩), rfl, q _ (I.hok.fresh (Nat.le_refl _))⟩
/-! ### != of two tuples, the second one empty -/
def rNeT (K : PySem.W.Frag) : R2 := fun x y H Q => ∃ a b xs ys, x = .ref a ∧ y = .ref b ∧ (SqT K H a xs ∧ SqT K H b ys) ∧ ys = [] ∧ Q (.bl (!decide (xs.length = 0))) H
theorem op_neT (hu : X.A.units + 64 < cLine) : OpR X (compareOp .NotEq) (rNeT X.K) := by
  intro pins s σ H x y v u Q I rx ry h
  obtain ⟨a, b, xs, ys, rfl, rfl, ⟨h1, h2⟩, rfl, q⟩ := h
  cases rx
  cases ry
  have hu1 : X.A.units < cLine := by omega
  obtain ⟨its, rv, p1, _⟩ := I.tuple h1
  obtain ⟨its2, rv2, p2, _⟩ := I.tuple h2
  cases rv2
  have hl := rv.length
  have R := SeqAt.RcNeAt.tuples (A := X.A) (s := s) (e := fun _ => true) (show s.heap.IsTuple a its.toArray from p1) (show s.heap.IsTuple b [].toArray from p2) hu1 (fun j _ h2 => absurd h2 (by simp))
  have e : (!((List.range (min its.toArray.size ([] : List Value).toArray.size)).all (fun _ => true) && its.toArray.size == ([] : List Value).toArray.size)) = !decide (xs.length = 0) := by
    rw [hl]
    cases its <;> simp
  rw [e] at R
  exact R X.prog X.w _ _ ⟨.bl _, H, I, rfl, q⟩
end
section
variable {K : PySem.W.Frag} {σ : L2.St} {H H' : Hp} {te tl tb : TE} {tt : TT} {xs : List V} {a d : Addr} {kvs : List (Key × V)}
theorem ev_neT (h : EvP te σ H fun v H' => ∃ a, v = .ref a ∧ SqT K H' a xs) (hb : EvU tb σ H []) : Ev (tOp (rNeT K) te tb) σ H (.bl (!decide (xs.length = 0))) := fun H1 e Q q =>
  h H1 e _ fun v H2 e2 ⟨a, hv, hS⟩ => hb H2 (e.trans e2) _ fun p H3 _ e3 h3 => ⟨a, p, xs, [], hv, rfl, ⟨ex_t e3 hS, st_of h3⟩, rfl, q H3 (e2.trans e3)⟩
/-- dict(d) -/
theorem evp_dictD (h : Ev te σ H (.ref d)) (hd : H d = some (.dK kvs)) : EvP (tCB rDictD (tCons te tNil)) σ H (fun v H' => ∃ p, v = .ref p ∧ H' p = some (.dK kvs)) := fun H1 e Q q =>
  h H1 e _ fun H2 e2 => ⟨d, kvs, rfl, (e.trans e2) _ _ hd, fun p hp => q _ _ (e2.trans (Ex.new hp)) ⟨p, rfl, upd_same⟩⟩
/-! ### a comprehension over a dict's keys, texts; tests and items that look at no heap -/
theorem el_lcK {j : Nat} {vs : List Nat} {ks : List (List Nat)} (f : V → Bool) (g : V → V) (h : ∀ H1, Ev tl σ H1 (.ref d)) (hd : H d = some (.dK kvs)) (hk : kvs.map (·.1) = ks.map fun k => Sum.inr (tx k)) (hz : ks.length ≤ 40000) (hw : ∀ x, wipe ((wipe σ vs).set j (some x)) vs = wipe σ vs)
    (ht : ∀ x H1, x ∈ (ks.map fun p => V.str (tx p)) → EvT tt ((wipe σ vs).set j (some x)) H1 (f x)) (he : ∀ x H1, x ∈ (ks.map fun p => V.str (tx p)) → f x = true → Ev te ((wipe σ vs).set j (some x)) H1 (g x)) :
    EvL (tLockE (tLc (iKeys tl) (gName j) tt te vs)) σ H (((ks.map fun p => V.str (tx p)).filter f).map g) := by
  intro H0 e Q q
  have hlen : kvs.length = ks.length := by simpa using congrArg List.length hk
  generalize hxs : (ks.map fun p => V.str (tx p)) = xs at ht he q
  have hxl : xs.length = ks.length := by rw [← hxs, List.length_map]
  refine ⟨d, _, e d _ hd, trivial, fun od => ?_⟩
  generalize hH : L2.upd H0 d (.frz od (.dK kvs)) = HF
  have hF : HF d = some (.frz od (.dK kvs)) := by rw [← hH, upd_same]
  refine h HF HF (Ex.refl HF) _ fun H1 e1 => ⟨d, od, rfl, .inl ⟨kvs, e1 d _ hF, fun Dl hD => ?_⟩⟩
  have hd1 := e1 d _ hF
  have ndl : Dl ≠ d := fun z => by rw [z, hd1] at hD; exact nomatch hD
  refine ⟨fun i m H' => m = xs.length - i ∧ i ≤ xs.length ∧ Ex H1 H' ∧ H' Dl = some (.lst (((xs.take i).filter f).map g)), ⟨xs.length, rfl, Nat.zero_le _, Ex.new hD, upd_same⟩, ?_⟩
  rintro i m H' ⟨rfl, hi, ex, hl⟩
  by_cases hlt : i < xs.length
  · have gx : xs[i]? = some xs[i] := List.getElem?_eq_getElem hlt
    refine .inr ⟨⟨ex d _ hd1, by omega⟩, fun H' => Ex H1 H' ∧ H' Dl = some (.lst (((xs.take (i + 1)).filter f).map g)), fun H2 p => ⟨xs.length - (i + 1), by omega, rfl, hlt, p⟩, fun x H2 y => ?_⟩
    obtain ⟨rfl, k, v, hkv, rfl⟩ := y
    have ex' : kV k = xs[i] := by
      have h1 : (kvs.map (·.1))[i]? = some k := by rw [List.getElem?_map, hkv]; rfl
      rw [hk, List.getElem?_map] at h1
      obtain ⟨p, h2, h3⟩ := Option.map_eq_some_iff.mp h1
      have h4 : xs[i]? = some (.str (tx p)) := by rw [← hxs, List.getElem?_map, h2]; rfl
      rw [gx] at h4
      rw [Option.some.inj h4, ← h3]
      rfl
    rw [ex']
    exact ⟨hw _, lcf_turn gx hD ex hl (by omega) (ht _ H1 (List.mem_of_getElem? gx)) (he _ H1 (List.mem_of_getElem? gx))⟩
  · have e0 : i = xs.length := by omega
    subst e0
    rw [List.take_of_length_le (Nat.le_refl _)] at hl
    refine .inl ⟨⟨ex d _ hd1, by omega⟩, ex d _ hd1, ?_⟩
    have h0 : H0 Dl = none := by
      have := fresh_back e1 hD
      rw [← hH, upd_ne ndl] at this
      exact this
    refine q Dl _ h0 (fun b o hb => ?_) (by rw [upd_ne ndl]; exact hl)
    by_cases hbd : b = d
    · subst hbd
      rw [upd_same]
      rw [e b _ hd] at hb
      exact hb
    · rw [upd_ne hbd]
      exact ex b _ (e1 b _ (by rw [← hH, upd_ne hbd]; exact hb))
end
/-! ### startswith -/
theorem sub_at0 (l p : List Nat) : Builtin.Str.subAt (tx l) (tx p) 0 = decide (l.take p.length = p) := by
  rw [StrLaws.subAt_eq, tx_list, List.drop_zero, tx_list, tx_len]
  rw [Bool.eq_iff_iff, beq_iff_eq, decide_eq_true_eq]
theorem starts_tx (l p : List Nat) : Txt.startswith (tx l) (tx p) = decide (l.take p.length = p) := by
  unfold Txt.startswith
  rw [sub_at0, tx_len, tx_len, Nat.zero_add]
  by_cases h : l.take p.length = p
  · have := congrArg List.length h
    rw [List.length_take] at this
    rw [decide_eq_true h, decide_eq_true (show p.length ≤ l.length by omega)]
    rfl
  · rw [decide_eq_false h, Bool.and_false]
def rStarts : V → List V → Hp → VK → Prop := fun x xs H Q => ∃ a b, x = .str a ∧ xs = [.str b] ∧ Q (.bl (Txt.startswith a b)) H
theorem ev_starts {K : PySem.W.Frag} {σ : L2.St} {H : Hp} {te tb : TE} {l p : List Nat} (h : Ev te σ H (.str (tx l))) (hb : Ev tb σ H (.str (tx p))) : Ev (tBM K "str" rStarts te (tCons tb tNil)) σ H (.bl (decide (l.take p.length = p))) := fun H1 e Q q =>
  h H1 e _ fun H2 e2 => ⟨rfl, hb H2 (e.trans e2) _ fun H3 e3 => ⟨tx l, tx p, rfl, rfl, by rw [starts_tx]; exact q H3 (e2.trans e3)⟩⟩
end My

set_option Elab.async false
set_option linter.all false
set_option maxRecDepth 100000
set_option maxHeartbeats 2000000
/-! own classes: methods without arguments, making with arguments; an expression that is never reached. -/
namespace My
open PySem PySem.Spec PyProof.Rows L2 Evl
theorem pe_mcal0 {X : Cx} {k j : Nat} {C : Addr} {m : Str} {ps : List Str} {sp : Sp} {o : Expr} {ta : TE} {pos apos : Pos} {pl : Sem Bool} (c : Cls X.K C) (M : MCal X.prog X.w X.K X.mg X.base k C m ps sp) (hr : Room j X.A) (he : PE X o ta)
    (hle : k ≤ j := by first | exact Nat.le_refl _ | decide | omega)
    (ht : eval (.Call (.Attribute o m apos) [] [] pos) X.env = (do
      let ov ← eval o X.env
      standAt apos.atName
      let (f, first) ← holding [ov] (getMethod ov m pl)
      callWith pos f first (backTo pos (starEach [] X.env)) (backToKw pos (keywordEach [] X.env))) := by rfl) :
    PE X (.Call (.Attribute o m apos) [] [] pos) (tMeth C m sp [] E0 ta tNil) := by
  obtain ⟨f, fd, F, b, mm⟩ := M.ex
  exact pe_meth0 (pl := pl) he c mm F (hr.mono hle) b .nil pass0 ht
theorem pe_mkc {X : Cx} {k j : Nat} {x : Str} {C : Addr} {ps : List Str} {sp : Sp} {e : Expr} {es : List Expr} {t : TA} {p pos : Pos} (M : MkC X.prog X.w X.K X.mg X.base k x C ps sp) (hr : Room j X.A) (ha : PA X (e :: es) t) (hle : k + 1 ≤ j := by first | exact Nat.le_refl _ | decide | omega) (hg : Gl X x := by rfl) (hdb : (x == ("__debug__" : Str)) = false := by decide)
    (he : starEach (e :: es) X.env = (false, eval e X.env) :: starEach es X.env := by rfl) (hpl : (backTo pos (starEach es X.env)).any (·.1) = false := by rfl) :
    PE X (.Call (.Name x p) (e :: es) [] pos) (tMake C sp [] E0 t) := by
  obtain ⟨f, fd, F, b, mm, hm⟩ := M.ex
  exact pe_make mm F (hr.mono hle) hg hm b .nil pass0 ha hdb he hpl
def tNevE : TE := fun _ _ _ => False
theorem pe_never {X : Cx} {e : Expr} : PE X e tNevE := ⟨fun _ _ _ _ _ _ h => h.elim⟩
section
variable {K : PySem.W.Frag} {σ : L2.St} {H H' : Hp} {te tl tb : TE} {t : TA} {tt : TT} {sp : Sp} {Q : VK} {E : XK} {v : V} {a r C dx : Addr} {fs : List (Str × V)} {m : Str}
theorem ev_ifN {tc : TT} (h : EvT tc σ H true) (ha : Ev te σ H v) : Ev (tIf tc te tNevE) σ H v := fun H1 e Q q => h H1 e _ fun H2 e2 => iteT (ha H2 (e.trans e2) Q fun H3 e3 => q H3 (e2.trans e3))
theorem evp_ifN {tc : TT} {P : V → Hp → Prop} (h : EvT tc σ H true) (ha : EvP te σ H P) : EvP (tIf tc te tNevE) σ H P := fun H1 e Q q => h H1 e _ fun H2 e2 => iteT (ha H2 (e.trans e2) Q fun v H3 e3 p => q v H3 (e2.trans e3) p)
theorem evp_if {tc : TT} {P : V → Hp → Prop} {b : Bool} (h : EvT tc σ H b) (h1 : b = true → EvP te σ H P) (h2 : b = false → EvP tb σ H P) : EvP (tIf tc te tb) σ H P := fun H1 e Q q => h H1 e _ fun H2 e2 => by
  cases b with
  | true => exact iteT (h1 rfl H2 (e.trans e2) Q fun v H3 e3 p => q v H3 (e2.trans e3) p)
  | false => exact iteF (h2 rfl H2 (e.trans e2) Q fun v H3 e3 p => q v H3 (e2.trans e3) p)
/-- a method that hands back something of which R is known -/
theorem evp_mcal {P : List V → Hp → Prop} {R : V → Hp → Prop} (h : Ev te σ H (.ref r)) (hi : H r = some (.ins C dx fs)) (hm : fs.lookup m = none) (ha : EvAP t σ H P) (k : ∀ vs H1 Q, Ex H H1 → P vs H1 → (∀ v H2, Ex H1 H2 → R v H2 → Q v H2) → sp (.ref r :: vs) H1 Q E) : EvP (tMeth C m sp [] E te t) σ H R := fun H1 e Q q =>
  h H1 e _ fun H2 e2 => ⟨r, dx, fs, rfl, (e.trans e2) _ _ hi, hm, ha H2 (e.trans e2) _ fun vs H3 e3 p => by
    rw [List.append_nil]
    exact k vs H3 Q ((e.trans e2).trans e3) p fun v H4 e4 hr => q v H4 ((e2.trans e3).trans e4) hr⟩
/-- a call that hands back something of which R is known -/
theorem evp_cal {P : List V → Hp → Prop} {R : V → Hp → Prop} (ha : EvAP t σ H P) (k : ∀ vs H1 Q, Ex H H1 → P vs H1 → (∀ v H2, Ex H1 H2 → R v H2 → Q v H2) → sp vs H1 Q E) : EvP (tCall sp [] E t) σ H R := fun H1 e Q q =>
  ha H1 e _ fun vs H3 e3 p => by
    rw [List.append_nil]
    exact k vs H3 Q (e.trans e3) p fun v H4 e4 hr => q v H4 (e3.trans e4) hr
end
end My

set_option Elab.async false
set_option linter.all false
set_option maxRecDepth 100000
set_option maxHeartbeats 4000000
/-! things that all laws' texts use: texts in heaps, data without lists, draws, sameness. -/
namespace My
open PySem PySem.Spec PyProof.Rows L2 Evl
def txs (ps : List (List Nat)) : List V := ps.map fun p => V.str (tx p)
theorem txs_len (ps : List (List Nat)) : (txs ps).length = ps.length := by unfold txs; rw [List.length_map]
theorem str_dec {a b : List Nat} : decide (V.str (tx a) = V.str (tx b)) = decide (a = b) := decide_eq_decide.mpr ⟨fun h => tx_inj (V.str.inj h), fun h => by rw [h]⟩
theorem head_get {l : List Nat} (h : l ≠ []) : l[0]? = some (l.headD 0) := by
  cases l with
  | nil => exact absurd rfl h
  | cons a r => rfl
theorem head_dec {c d : Nat} : decide (V.str (tx [c]) = V.str (tx [d])) = decide (c = d) := decide_eq_decide.mpr ⟨fun h => (List.cons.inj (tx_inj (V.str.inj h))).1, fun h => by rw [h]⟩
theorem txs_get {ps : List L} {i : Nat} {p : L} (h : ps[i]? = some p) : (txs ps)[i]? = some (.str (tx p)) := by
  unfold txs
  rw [List.getElem?_map, h]
  rfl
theorem txs_get' {ps : List L} {i : Nat} {v : V} (h : (txs ps)[i]? = some v) : v = .str (tx (ps.getD i [])) ∧ i < ps.length ∧ ps[i]? = some (ps.getD i []) := by
  unfold txs at h
  rw [List.getElem?_map] at h
  obtain ⟨p, hp, rfl⟩ := Option.map_eq_some_iff.mp h
  have hl := (List.getElem?_eq_some_iff.mp hp).1
  rw [List.getD_eq_getElem?_getD, hp]
  exact ⟨rfl, hl, rfl⟩
theorem getD_some {α : Type} {ps : List α} {i : Nat} {d : α} (h : i < ps.length) : ps[i]? = some (ps.getD i d) := by
  rw [List.getD_eq_getElem?_getD, List.getElem?_eq_getElem h]
  rfl
theorem txs_drop (ps : List L) (n : Nat) : txs (ps.drop n) = (txs ps).drop n := by unfold txs; rw [List.map_drop]
theorem txs_flat (ps : List L) : (txs ps).all flatV = true := by
  unfold txs
  rw [List.all_map, List.all_eq_true]
  intro x _
  rfl
theorem txs_in (l : L) (ps : List L) : inV (.str (tx l)) (txs ps) = decide (l ∈ ps) := by
  unfold inV txs
  rw [List.any_map]
  induction ps with
  | nil => rfl
  | cons p r ih =>
    rw [List.any_cons, ih]
    show ((tx p == tx l) || _) = _
    by_cases h : l = p
    · subst h
      rw [show (tx l == tx l) = true from beq_self_eq_true _, Bool.true_or, decide_eq_true (by simp)]
    · rw [show (tx p == tx l) = false from beq_eq_false_iff_ne.mpr fun z => h (tx_inj z).symm, Bool.false_or]
      exact decide_eq_decide.mpr (by simp [h])
theorem el_is {σ : L2.St} {H : Hp} {te : TE} {xs ys : List V} (h : EvL te σ H xs) (e : xs = ys) : EvL te σ H ys := by
  rw [← e]
  exact h
mutual
def NoL : D → Prop
  | .tup ds => NoLL ds
  | .lst _ => False
  | .non => True
  | .bl _ => True
  | .int _ => True
  | .str _ => True
def NoLL : List D → Prop
  | [] => True
  | d :: ds => NoL d ∧ NoLL ds
end
mutual
theorem Rep.keepT {H H1 : Hp} (k : ∀ a us, H a = some (.tup us) → H1 a = some (.tup us)) : ∀ {v : V} {d : D}, NoL d → Rep H v d → Rep H1 v d
  | _, _, _, .non => .non
  | _, _, _, .bl b => .bl b
  | _, _, _, .int i => .int i
  | _, _, _, .str l => .str l
  | _, .tup ds, h, .tup q r => .tup (k _ _ q) (Reps.keepT k (by rw [NoL] at h; exact h) r)
  | _, .lst ds, h, .lst q r => (by rw [NoL] at h; exact h.elim)
theorem Reps.keepT {H H1 : Hp} (k : ∀ a us, H a = some (.tup us) → H1 a = some (.tup us)) : ∀ {vs : List V} {ds : List D}, NoLL ds → Reps H vs ds → Reps H1 vs ds
  | _, _, _, .nil => .nil
  | _, _ :: _, h, .cons r rs => .cons (Rep.keepT k (by rw [NoLL] at h; exact h.1) r) (Reps.keepT k (by rw [NoLL] at h; exact h.2) rs)
end
theorem nol_app : ∀ {a b : List D}, NoLL a → NoLL b → NoLL (a ++ b)
  | [], _, _, h => h
  | d :: a, b, h, g => by
    rw [NoLL] at h
    show NoLL (d :: (a ++ b))
    rw [NoLL]
    exact ⟨h.1, nol_app h.2 g⟩
theorem nol_all {α : Type} {f : α → D} : ∀ {l : List α}, (∀ x ∈ l, NoL (f x)) → NoLL (l.map f)
  | [], _ => by rw [List.map_nil, NoLL]; trivial
  | x :: l, h => by
    rw [List.map_cons, NoLL]
    exact ⟨h x (by simp), nol_all fun y hy => h y (by simp [hy])⟩
theorem reps_txs (H : Hp) : ∀ ps : List L, Reps H (txs ps) (ps.map .str)
  | [] => .nil
  | p :: ps => .cons (.str p) (reps_txs H ps)
section
variable {K : PySem.W.Frag} {σ : L2.St} {H : Hp} {ta tb te tl td ty : TE} {tt : TT} {xs ys : List V} {a p d : Addr} {kvs : List (Key × V)} {l : List Nat} {D : Ends} {tu tz : TS}
theorem ne_kind {H : Hp} {a b : Addr} {o1 o2 : HO} (ha : H a = some o1) (hb : H b = some o2) (h : o1 ≠ o2) : a ≠ b := fun e => by
  rw [e, hb] at ha
  exact h (Option.some.inj ha).symm
theorem ev_word {σ : L2.St} {H : Hp} {a : Addr} {ws : List L} {i : Nat} (ha : Ev ta σ H (.ref a)) (hb : Ev tb σ H (.int (i : Int))) (hS : SqL K H a (txs ws)) (h : i < ws.length) : Ev (tOp (rIxL K) ta tb) σ H (.str (tx (ws.getD i []))) := ev_ixL ha hb hS (txs_get (getD_some h))
theorem ev_eqS {a b : L} (ha : Ev ta σ H (.str (tx a))) (hb : Ev tb σ H (.str (tx b))) : Ev (tOp rEq ta tb) σ H (.bl (decide (a = b))) := ev_is (ev_op ha hb (rv_eq rfl)) (congrArg V.bl str_dec)
def EvW (te : TE) (σ : L2.St) (H : Hp) (xs : List V) : Prop := ∀ H1, Ex H H1 → ∀ Q : VK, (∀ p H2, Ex H1 H2 → H2 p = some (.tup xs) → Q (.ref p) H2) → te σ H1 Q
theorem ev_dni (h : Ev td σ H (.ref d)) (hd : H d = some (.dK kvs)) (hk : Ev ty σ H (.str (tx l))) : Ev (tDNotIn ty td) σ H (.bl (!(valV kvs (.inr (tx l))).isSome)) := fun H1 e Q q =>
  hk H1 e _ fun H2 e2 => h H2 (e.trans e2) _ fun H3 e3 => ⟨d, _, rfl, DGet.k (k := Sum.inr (tx l)) (((e.trans e2).trans e3) d _ hd), q H3 (e2.trans e3)⟩
theorem r_bm0 {K : PySem.W.Frag} {σ : L2.St} {H : Hp} {Q : VK} {T : String} {r : V → List V → Hp → VK → Prop} {to : TE} (h : to σ H fun x H1 => tyV K T x H1 ∧ r x [] H1 Q) : tBM0 K T r to σ H Q := h
theorem ev_inN {x : V} (ha : Ev ta σ H x) (hb : EvL tb σ H xs) (hx : flatV x = true) (hf : xs.all flatV = true) : Ev (tOp (rIn K false) ta tb) σ H (.bl (inV x xs)) := fun H1 e Q q =>
  ha H1 e _ fun H2 e2 => hb H2 (e.trans e2) _ fun p H3 _ e3 h3 => rv_isL (sq_of h3) hx hf H3 (Ex.refl _) _ fun H4 e4 => q H4 ((e2.trans e3).trans e4)
theorem G.kt {p sc : Addr} {ns : List Int} {H' : Hp} (hP : Pool K H p sc ns) (g : G K p sc ns H H') : ∀ c us, H c = some (.tup us) → H' c = some (.tup us) := fun c us h => g.1 c _ (fun e => hP.noT us (by rw [← e]; exact h)) h
theorem G.back {p sc : Addr} {ns : List Int} {H1 : Hp} {a : Addr} (g : G K p sc ns H H1) (h : H1 a = none) : H a = none := by
  cases e : H a with
  | none => rfl
  | some o =>
    by_cases ha : a = p
    · obtain ⟨pl, r, f, hp, _⟩ := g.2
      rw [ha, hp] at h
      exact nomatch h
    · rw [g.1 a o ha e] at h
      exact nomatch h
theorem r_ifS {t : TT} {tu tw tz : TS} {D : Ends} {σ : L2.St} {H : Hp} (h : t σ H fun b H1 => if b = true then tu { D with nx := tz D } σ H1 else tw { D with nx := tz D } σ H1) : tSeq (tIfS t tu tw) tz D σ H := h
theorem r_or {t u : TT} {σ : L2.St} {H : Hp} {Q : Bool → Hp → Prop} (h : t σ H fun c H1 => if c = true then Q true H1 else u σ H1 Q) : tOr t u σ H Q := h
theorem r_lst {ta : TA} {σ : L2.St} {H : Hp} {Q : VK} (h : ta σ H fun vs H1 => vs.length ≤ sizeLine ∧ ∀ p, H1 p = none → Q (.ref p) (upd H1 p (.lst vs))) : tLst ta σ H Q := h
end
section
variable {K : PySem.W.Frag} {σ : L2.St} {H : Hp} {te tl : TE} {tt : TT} {ds : List D}
theorem ed_tupL (h : EvD te σ H (.lst ds)) (hd : NoLL ds) : EvD (tCB (rTupS K) (tCons te tNil)) σ H (.tup ds) := fun H1 e Q q =>
  h H1 e _ fun v H2 e2 r2 => by
    cases r2 with
    | @lst a xs _ ha rs =>
      exact ⟨a, xs, rfl, .inl ⟨sq_of ha, fun l hl => q (.ref l) _ (e2.trans (Ex.new hl)) (.tup upd_same (rs.mono (Ex.new hl)))⟩⟩
theorem ed_lcM {α : Type} {j : Nat} {vs : List Nat} (A B : α → D) (f : α → Bool) {l : List α} (h : EvD tl σ H (.lst (l.map A))) (hz : l.length ≤ 40000) (hw : ∀ x, wipe ((wipe σ vs).set j (some x)) vs = wipe σ vs) (hA : ∀ x ∈ l, NoL (A x)) (hB : ∀ x ∈ l, NoL (B x))
    (ht : ∀ x z H1, Ex H H1 → z ∈ l → Rep H1 x (A z) → EvT tt ((wipe σ vs).set j (some x)) H1 (f z)) (he : ∀ x z H1, Ex H H1 → z ∈ l → Rep H1 x (A z) → f z = true → EvD te ((wipe σ vs).set j (some x)) H1 (B z)) : EvD (tLc (iList K tl) (gName j) tt te vs) σ H (.lst ((l.filter f).map B)) := by
  intro H0 e Q q
  refine h H0 e _ fun v H1 e1 r1 => ?_
  cases r1 with
  | @lst a xs _ ha rs =>
    refine ⟨a, rfl, ⟨xs, sq_of ha⟩, fun Dl hD => ?_⟩
    have hxl := rs.len
    rw [List.length_map] at hxl
    refine ⟨fun i m H' => m = xs.length - i ∧ i ≤ xs.length ∧ Ex H1 H' ∧ ∃ us, H' Dl = some (.lst us) ∧ us.length ≤ i ∧ Reps H' us (((l.take i).filter f).map B), ⟨xs.length, rfl, Nat.zero_le _, Ex.new hD, [], upd_same, Nat.le_refl 0, .nil⟩, ?_⟩
    rintro i m H' ⟨rfl, hi, ex, us, hl, hul, hr⟩
    by_cases hlt : i < xs.length
    · have gx : xs[i]? = some xs[i] := List.getElem?_eq_getElem hlt
      obtain ⟨d, hd, hrep⟩ := rs.get' gx
      rw [List.getElem?_map] at hd
      obtain ⟨z, hz', rfl⟩ := Option.map_eq_some_iff.mp hd
      have hzm := List.mem_of_getElem? hz'
      refine .inr ⟨⟨xs, xs[i], sq_of (ex a _ ha), gx⟩, fun H' => Ex H1 H' ∧ ∃ us, H' Dl = some (.lst us) ∧ us.length ≤ i + 1 ∧ Reps H' us (((l.take (i + 1)).filter f).map B), fun H2 p => ⟨xs.length - (i + 1), by omega, rfl, hlt, p⟩, fun x H2 y => ?_⟩
      obtain ⟨rfl, y⟩ := y
      have ex' : x = xs[i] := Option.some.inj ((y xs (sq_of (ex a _ ha))).symm.trans gx)
      subst ex'
      refine ⟨hw _, ?_⟩
      refine ht _ z H1 (e.trans e1) hzm hrep _ ex _ fun H3 e3 => ?_
      have E3 := ex.trans e3
      have nB : NoLL (((l.take i).filter f).map B) := nol_all fun x hx => hB x (List.mem_of_mem_take (List.mem_filter.mp hx).1)
      rw [List.take_add_one, hz', List.filter_append]
      cases hf : f z with
      | false =>
        rw [if_neg (by decide)]
        refine ⟨E3, us, e3 Dl _ hl, by omega, ?_⟩
        rw [show (some z).toList.filter f = [] by simp [hf], List.append_nil]
        exact hr.mono e3
      | true =>
        rw [if_pos rfl]
        refine he _ z H1 (e.trans e1) hzm hrep hf _ E3 _ fun v H4 e4 r4 => ⟨us, e4 Dl _ (e3 Dl _ hl), sz_lt (by omega), (E3.trans e4).mut hD, us ++ [v], upd_same, by rw [List.length_append]; show _ + 1 ≤ _; omega, ?_⟩
        have kt : ∀ b ws, H4 b = some (.tup ws) → upd H4 Dl (.lst (us ++ [v])) b = some (.tup ws) := fun b ws hb => by
          rw [upd_ne (ne_kind hb (e4 Dl _ (e3 Dl _ hl)) (fun z => nomatch z))]
          exact hb
        rw [show (some z).toList.filter f = [z] by simp [hf], List.map_append]
        exact (Reps.keepT kt nB (hr.mono (e3.trans e4))).append (.cons (Rep.keepT kt (hB z hzm) r4) .nil)
    · have e0 : i = xs.length := by omega
      subst e0
      rw [List.take_of_length_le (by omega)] at hr
      exact .inl ⟨⟨xs, sq_of (ex a _ ha), Nat.le_refl _⟩, q (.ref Dl) H' (e1.trans ex) (.lst hl hr)⟩
end
section
variable {K : PySem.W.Frag} {σ : L2.St} {H : Hp} {Q : VK} {p sc : Addr} {ns : List Int} {D : Ends} {tu tz : TS} {ta : TA} {te : TE}
theorem r_zero {E : XK} {ip n : Nat} (hP : Pool K H p sc ns) (hv : σ[ip]? = some (some (.ref p))) (h0 : 0 < n) (hn : n < 1000) (R : List V → Hp → Prop) (h : ∀ (m : Nat) H1, 0 ≤ m → m ≤ n - 1 → G K p sc ns H H1 → R [.int (m : Int)] H1) :
    tCons (tCall (sp_draw K) [] E (tCons (tVar ip) (tCons (tC (.int (n : Int))) tNil))) tNil σ H R :=
  r_cons (r_draw hP (ea_cons (ev_v hv) (ea_cons (ev_cn n) ea_nil)) h0 (by omega) fun v H1 hv g => r_nil (h v H1 (Nat.zero_le _) (by omega) g))
theorem r_drop {te : TE} (h : te σ H fun _ H1 => tz D σ H1) : tSeq (tDrop te) tz D σ H := h
theorem r_dropE {te : TE} (h : te σ H fun _ H1 => D.nx σ H1) : tDrop te D σ H := h
theorem r_bm {to : TE} {t : TA} {T : String} {r : V → List V → Hp → VK → Prop} (h : to σ H fun x H1 => tyV K T x H1 ∧ t σ H1 fun xs H2 => r x xs H2 Q) : tBM K T r to t σ H Q := h
/-- a loop as often as is drawn -/
theorem s_forG {j : Nat} (M : Nat) (hM : M ≤ 1000) (ht : ∀ R : List V → Hp → Prop, (∀ (m : Nat) H1, 0 ≤ m → m ≤ M → G K p sc ns H H1 → R [.int (m : Int)] H1) → ta σ H R) (Pv : Nat → L2.St → Hp → Prop) (h0 : ∀ H1, G K p sc ns H H1 → Pv 0 σ H1)
    (hs : ∀ (i : Nat) σ' H', i < M → Pv i σ' H' → tu { D with nx := Pv (i + 1), ct := Pv (i + 1), bk := D.nx } (σ'.set j (some (.int (i : Int)))) H') (hd : ∀ i σ' H', i ≤ M → Pv i σ' H' → D.nx σ' H') : tFor (iRng1 ta) (gName j) tu D σ H :=
  ht _ fun m H1 _ hm g => ⟨m, rfl, by omega, by omega, by
    rw [Int.toNat_natCast]
    exact for_range (n := m) Pv (h0 H1 g) (fun i σ' H' hi p => by
      have e0 : (0 : Int) + (i : Int) = (i : Int) := Int.zero_add _
      show tu _ (σ'.set j (some (.int ((0 : Int) + (i : Int))))) H'
      rw [e0]
      exact hs i σ' H' (by omega) p) fun σ' H' p => hd m σ' H' hm p⟩
theorem q_forG {j : Nat} (M : Nat) (hM : M ≤ 1000) (ht : ∀ R : List V → Hp → Prop, (∀ (m : Nat) H1, 0 ≤ m → m ≤ M → G K p sc ns H H1 → R [.int (m : Int)] H1) → ta σ H R) (Pv : Nat → L2.St → Hp → Prop) (h0 : ∀ H1, G K p sc ns H H1 → Pv 0 σ H1)
    (hs : ∀ (i : Nat) σ' H', i < M → Pv i σ' H' → tu { D with nx := Pv (i + 1), ct := Pv (i + 1), bk := tz D } (σ'.set j (some (.int (i : Int)))) H') (hd : ∀ i σ' H', i ≤ M → Pv i σ' H' → tz D σ' H') : tSeq (tFor (iRng1 ta) (gName j) tu) tz D σ H :=
  s_forG (D := { D with nx := tz D }) M hM ht Pv h0 hs hd
end
/-! sameness, of equal data -/
mutual
def Wid : D → Prop
  | .tup ds => ds.length ≤ 10000 ∧ WidL ds
  | .lst ds => ds.length ≤ 10000 ∧ WidL ds
  | _ => True
def WidL : List D → Prop
  | [] => True
  | d :: ds => Wid d ∧ WidL ds
end
theorem WidL_get : ∀ {ds : List D} {i : Nat} {d : D}, WidL ds → ds[i]? = some d → Wid d
  | [], _, _, _, h => nomatch h
  | d :: ds, 0, _, p, h => by cases h; rw [WidL] at p; exact p.1
  | d :: ds, i + 1, _, p, h => by rw [WidL] at p; exact WidL_get (ds := ds) (i := i) p.2 h
def isTD : D → Bool
  | .tup _ => true
  | _ => false
def isLD : D → Bool
  | .lst _ => true
  | _ => false
def isSD : D → Bool
  | .str _ => true
  | _ => false
def isID : D → Bool
  | .int _ => true
  | .bl _ => true
  | _ => false
def isBD : D → Bool
  | .bl _ => true
  | _ => false
theorem kTD (d : D) : kitB (tyD d) "tuple" = some (isTD d) := by cases d <;> rfl
theorem kLD (d : D) : kitB (tyD d) "list" = some (isLD d) := by cases d <;> rfl
theorem kSD (d : D) : kitB (tyD d) "str" = some (isSD d) := by cases d <;> rfl
theorem kID (d : D) : kitB (tyD d) "int" = some (isID d) := by cases d <;> rfl
theorem kBD (d : D) : kitB (tyD d) "bool" = some (isBD d) := by cases d <;> rfl
theorem kDD (d : D) : kitB (tyD d) "dict" = some false := by cases d <;> rfl
section
variable {K : PySem.W.Frag}
theorem ev_isN {te : TE} {σ : L2.St} {H : Hp} {v : V} (h : Ev te σ H v) : Ev (tOp (fun x y H Q => y = .non ∧ Q (.bl (decide (x = .non))) H) te (tC .non)) σ H (.bl (decide (v = .non))) := fun H1 e Q q =>
  h H1 e _ fun H2 e2 => ⟨rfl, q H2 e2⟩
theorem ev_isBA {te : TE} {σ : L2.St} {H : Hp} {v : V} {b : Bool} (h : Ev te σ H v) : Ev (tOp rIsBA te (tC (.bl b))) σ H (.bl (decide (v = .bl b))) := fun H1 e Q q =>
  h H1 e _ fun H2 e2 => ⟨b, rfl, q H2 e2⟩
theorem ev_isNv {i : Nat} {c : Bool} {σ : L2.St} {H : Hp} {v : V} (h : σ[i]? = some (some v)) (hc : decide (v = .non) = c) : Ev (tOp (fun x y H Q => y = .non ∧ Q (.bl (decide (x = .non))) H) (tVar i) (tC .non)) σ H (.bl c) := ev_is (ev_isN (ev_v h)) (by rw [hc])
theorem ev_isBv {i : Nat} {c b : Bool} {σ : L2.St} {H : Hp} {v : V} (h : σ[i]? = some (some v)) (hc : decide (v = .bl b) = c) : Ev (tOp rIsBA (tVar i) (tC (.bl b))) σ H (.bl c) := ev_is (ev_isBA (ev_v h)) (by rw [hc])
theorem ev_lenQ {σ : L2.St} {H : Hp} {ta : TE} {p : Addr} {xs : List V} (ha : Ev ta σ H (.ref p)) (h : SqL K H p xs ∨ SqT K H p xs) : Ev (tCB (rLenS K) (tCons ta tNil)) σ H (.int (xs.length : Int)) := by
  rcases h with h | h
  · exact ev_len ha h
  · exact ev_lenT ha h
theorem rv_ixQ {H : Hp} {p : Addr} {xs : List V} {i : Nat} {v : V} (h : SqL K H p xs ∨ SqT K H p xs) (ha : xs[i]? = some v) : RV (rIx K) (.ref p) (.int (i : Int)) H v := by
  rcases h with h | h
  · exact fun H1 e Q q => .inl (rv_ixLn h ha H1 e Q q)
  · exact fun H1 e Q q => .inr (.inl (rv_ixTn h ha H1 e Q q))
theorem ex_q {H H' : Hp} {p : Addr} {xs : List V} (e : Ex H H') (h : SqL K H p xs ∨ SqT K H p xs) : SqL K H' p xs ∨ SqT K H' p xs := h.imp (ex_l e) (ex_t e)
end
end My

set_option Elab.async false
set_option linter.all false
set_option maxRecDepth 100000
set_option maxHeartbeats 4000000
/-! promises of data; truth of tuples and lists; names in a dict or a list. -/
namespace My
open PySem PySem.Spec PyProof.Rows L2 Evl
/-- a promise: something that stands for a datum -/
def spD (ok : List V → Hp → D → Prop) : Sp := fun vs H Q _ => ∃ d, ok vs H d ∧ ∀ v H', Ex H H' → Rep H' v d → Q v H'
theorem reps_strs {H : Hp} : ∀ {vs : List V} {ps : List L}, Reps H vs (ps.map .str) → vs = txs ps
  | _, [], h => by cases h; rfl
  | _, p :: ps, h => by
    rw [List.map_cons] at h
    cases h with
    | cons h1 r1 =>
      cases h1
      rw [reps_strs r1]
      rfl
theorem rep_strs {H : Hp} {v : V} {ps : List L} (h : Rep H v (.tup (ps.map .str))) : ∃ a, v = .ref a ∧ H a = some (.tup (txs ps)) := by
  cases h with
  | tup e r => exact ⟨_, rfl, by rw [← reps_strs r]; exact e⟩
theorem rep_txs {H : Hp} {a : Addr} {ps : List L} (h : H a = some (.tup (txs ps))) : Rep H (.ref a) (.tup (ps.map .str)) := .tup h (reps_txs H ps)
section
variable {K : PySem.W.Frag} {σ : L2.St} {H H' : Hp} {ta : TA} {te tb : TE} {tt : TT} {vs xs : List V} {v : V} {a : Addr} {d : D} {E : Ends} {tz : TS} {ok : List V → Hp → D → Prop}
theorem ed_calP {P : List V → Hp → Prop} (h : EvAP ta σ H P) (hk : ∀ vs H1, Ex H H1 → P vs H1 → ok vs H1 d) : EvD (tCall (spD ok) [] E0 ta) σ H d := fun H1 e Q q =>
  h H1 e _ fun vs H2 e2 p => by
    rw [List.append_nil]
    exact ⟨d, hk vs H2 (e.trans e2) p, fun v H3 e3 r => q v H3 (e2.trans e3) r⟩
theorem ed_cal (h : EvA ta σ H vs) (hk : ∀ H1, Ex H H1 → ok vs H1 d) : EvD (tCall (spD ok) [] E0 ta) σ H d := fun H1 e Q q =>
  h H1 e _ fun H2 e2 => by
    rw [List.append_nil]
    exact ⟨d, hk H2 (e.trans e2), fun v H3 e3 r => q v H3 (e2.trans e3) r⟩
theorem s_retD (h : EvD te σ H d) (k : ∀ v H1, Ex H H1 → Rep H1 v d → E.rt v H1) : tRet te E σ H := h H (Ex.refl H) _ k
theorem q_asgD {i : Nat} (h : EvD te σ H d) (k : ∀ v H1, Ex H H1 → Rep H1 v d → tz E (σ.set i (some v)) H1) : tSeq (tAsg te (gName i)) tz E σ H := h H (Ex.refl H) _ k
theorem ed_is {d2 : D} (h : EvD te σ H d) (e : d = d2) : EvD te σ H d2 := by
  rw [← e]
  exact h
theorem ed_if {tc : TT} {b : Bool} (h : EvT tc σ H b) (h1 : b = true → EvD te σ H d) (h2 : b = false → EvD tb σ H d) : EvD (tIf tc te tb) σ H d := evp_if h h1 h2
/-- a new tuple of texts, as data -/
theorem ed_txs {ps : List L} (h : EvU te σ H (txs ps)) : EvD te σ H (.tup (ps.map .str)) := fun H1 e Q q => h H1 e _ fun p H2 _ e2 h2 => q _ H2 e2 (rep_txs h2)
def IsT (K : PySem.W.Frag) (xs : List V) : V → Hp → Prop := fun v H => ∃ a, v = .ref a ∧ SqT K H a xs
theorem evt_k (h : Ev te σ H (.ref a)) (hS : SqT K H a xs) : EvP te σ H (IsT K xs) := fun H1 e Q q => h H1 e _ fun H2 e2 => q _ H2 e2 ⟨a, rfl, ex_t (e.trans e2) hS⟩
theorem evt_n (h : EvU te σ H xs) : EvP te σ H (IsT K xs) := fun H1 e Q q => h H1 e _ fun p H2 _ e2 h2 => q _ H2 e2 ⟨p, rfl, st_of h2⟩
theorem et_truT (h : EvP te σ H (IsT K xs)) : EvT (fun σ H Q => te σ H fun x H' => ∃ k, TruV K x H' k ∧ Q k H') σ H (!xs.isEmpty) := fun H1 e Q q =>
  h H1 e _ fun v H2 e2 ⟨a, hv, hS⟩ => by
    subst hv
    exact ⟨_, Or.inr (Or.inl ⟨xs, hS, rfl⟩), q H2 e2⟩
theorem et_truL (h : Ev te σ H (.ref a)) (hS : SqL K H a xs) : EvT (fun σ H Q => te σ H fun x H' => ∃ k, TruV K x H' k ∧ Q k H') σ H (!xs.isEmpty) := fun H1 e Q q =>
  h H1 e _ fun H2 e2 => ⟨_, Or.inl ⟨xs, ex_l (e.trans e2) hS, rfl⟩, q H2 e2⟩
theorem el_lcR0 {j : Nat} {ws : List Nat} {n : Int} (h : EvA ta σ H [.int n]) (hn : -1000 ≤ n ∧ n ≤ 0) : EvL (tLc (iRng1 ta) (gName j) tt te ws) σ H [] := fun H0 e Q q => h H0 e _ fun H1 e1 => ⟨n, rfl, by omega, by omega, fun Dl hD => by
  rw [show n.toNat = 0 by omega]
  exact lc_range (lo := 0) (n := 0) (fun _ H' => H1 Dl = none ∧ Ex H1 H' ∧ H' Dl = some (.lst [])) ⟨hD, Ex.new hD, upd_same⟩ (fun i H' hi => absurd hi (Nat.not_lt_zero i)) fun H' p => q Dl H' (fresh_back e1 p.1) (e1.trans p.2.1) p.2.2⟩
/-- names: the keys of a dict, or a list -/
def keyT (k : L) : Key := Sum.inr (tx k)
def NmAt (K : PySem.W.Frag) (H : Hp) (v : V) (ks : List L) : Prop := ∃ a, v = .ref a ∧ ((∃ kvs : List (Key × V), H a = some (.dK kvs) ∧ kvs.map (·.1) = ks.map keyT) ∨ SqL K H a (txs ks))
theorem NmAt.mono {ks : List L} (e : Ex H H') (h : NmAt K H v ks) : NmAt K H' v ks := by
  obtain ⟨a, hv, h⟩ := h
  refine ⟨a, hv, ?_⟩
  rcases h with ⟨kvs, h1, h2⟩ | h
  · exact .inl ⟨kvs, e _ _ h1, h2⟩
  · exact .inr (ex_l e h)
theorem keyT_in {kvs : List (Key × V)} {ks : List L} (h : kvs.map (·.1) = ks.map keyT) (k : L) : (valV kvs (keyT k)).isSome = decide (k ∈ ks) := by
  rw [← valV_any, Bool.eq_iff_iff, List.any_eq_true, decide_eq_true_eq]
  constructor
  · rintro ⟨kv, hm, e⟩
    have e := of_decide_eq_true e
    have h2 : keyT k ∈ ks.map keyT := by
      rw [← h, ← e]
      exact List.mem_map.mpr ⟨kv, hm, rfl⟩
    obtain ⟨j, hj, e2⟩ := List.mem_map.mp h2
    rw [← inr_tx.mp e2]
    exact hj
  · intro hk
    have h2 : keyT k ∈ kvs.map (·.1) := by
      rw [h]
      exact List.mem_map.mpr ⟨k, hk, rfl⟩
    obtain ⟨kv, hm, e⟩ := List.mem_map.mp h2
    exact ⟨kv, hm, decide_eq_true e⟩
/-- two tuples as data, put together -/
theorem ed_catU {ds es : List D} (ha : EvD te σ H (.tup ds)) (hb : EvD tb σ H (.tup es)) (hz : ds.length + es.length ≤ 100000) : EvD (tOp (rCatA K) te tb) σ H (.tup (ds ++ es)) := fun H1 e Q q =>
  ha H1 e _ fun v H2 e2 r2 => hb H2 (e.trans e2) _ fun u H3 e3 r3 => by
    cases r2 with
    | @tup a xs _ h2 s2 =>
      cases r3 with
      | @tup b ys _ h3 s3 =>
        have s2 := s2.mono e3
        refine ⟨a, b, xs, ys, rfl, rfl, st_of (e3 _ _ h2), st_of h3, sz_of (by rw [s2.len, s3.len]; exact hz), fun hx => ?_, fun _ hy => ?_, fun _ _ p hp => ?_⟩
        · subst hx
          cases s2
          exact q _ H3 (e2.trans e3) (.tup h3 s3)
        · subst hy
          cases s3
          rw [List.append_nil] at q
          exact q _ H3 (e2.trans e3) (.tup (e3 _ _ h2) s2)
        · exact q _ _ ((e2.trans e3).trans (Ex.new hp)) (.tup upd_same ((s2.mono (Ex.new hp)).append (s3.mono (Ex.new hp))))
/-- two lists as data, put together -/
theorem ed_catL {ds es : List D} (ha : EvD te σ H (.lst ds)) (hb : EvD tb σ H (.lst es)) (hz : ds.length + es.length ≤ 100000) : EvD (tOp rCat te tb) σ H (.lst (ds ++ es)) := fun H1 e Q q =>
  ha H1 e _ fun v H2 e2 r2 => hb H2 (e.trans e2) _ fun u H3 e3 r3 => by
    cases r2 with
    | @lst a xs _ h2 s2 =>
      cases r3 with
      | @lst b ys _ h3 s3 =>
        have s2 := s2.mono e3
        exact ⟨a, b, xs, ys, rfl, rfl, e3 _ _ h2, h3, sz_of (by rw [s2.len, s3.len]; exact hz), fun p hp => q _ _ ((e2.trans e3).trans (Ex.new hp)) (.lst upd_same ((s2.mono (Ex.new hp)).append (s3.mono (Ex.new hp))))⟩
/-- a comprehension over a text, items that are data -/
theorem ed_lcS {tl : TE} {j : Nat} {ws : List Nat} {l : List Nat} (B : Nat → D) (h : Ev tl σ H (.str (tx l))) (hz : l.length ≤ 40000) (hw : ∀ x, wipe ((wipe σ ws).set j (some x)) ws = wipe σ ws) (hB : ∀ c ∈ l, NoL (B c))
    (he : ∀ c H1, Ex H H1 → c ∈ l → EvD te ((wipe σ ws).set j (some (.str (tx [c])))) H1 (B c)) : EvD (tLc (iStr tl) (gName j) tYes te ws) σ H (.lst (l.map B)) := by
  intro H0 e Q q
  refine h H0 e _ fun H1 e1 => ⟨tx l, rfl, fun Dl hD => ?_⟩
  have hsz : (tx l).cps.size = l.length := List.size_toArray
  refine ⟨fun i m H' => m = l.length - i ∧ i ≤ l.length ∧ Ex H1 H' ∧ ∃ us, H' Dl = some (.lst us) ∧ Reps H' us ((l.take i).map B), ⟨l.length, rfl, Nat.zero_le _, Ex.new hD, [], upd_same, .nil⟩, ?_⟩
  rintro i m H' ⟨rfl, hi, ex, us, hl, hr⟩
  by_cases hlt : i < l.length
  · refine .inr ⟨show i < _ by rw [hsz]; exact hlt, fun H' => Ex H1 H' ∧ ∃ us, H' Dl = some (.lst us) ∧ Reps H' us ((l.take (i + 1)).map B), fun H2 p => ⟨l.length - (i + 1), by omega, rfl, hlt, p⟩, fun x H2 y => ?_⟩
    obtain ⟨rfl, c, hc, rfl⟩ := y
    have hc' : l[i]? = some c := by simpa [tx] using hc
    refine ⟨hw _, ?_⟩
    refine tyes_ ?_
    have hul : us.length ≤ l.length := by
      rw [hr.len, List.length_map, List.length_take]
      omega
    refine iteT (he c H1 (e.trans e1) (List.mem_of_getElem? hc') H2 ex _ fun v H3 e3 r3 => ⟨us, e3 Dl _ hl, sz_lt (by omega), (ex.trans e3).mut hD, us ++ [v], upd_same, ?_⟩)
    have kt : ∀ b zs, H3 b = some (.tup zs) → upd H3 Dl (.lst (us ++ [v])) b = some (.tup zs) := fun b zs hb => by
      rw [upd_ne (ne_kind hb (e3 Dl _ hl) (fun z => nomatch z))]
      exact hb
    rw [List.take_add_one, hc', List.map_append]
    exact (Reps.keepT kt (nol_all fun x hx => hB x (List.mem_of_mem_take hx)) (hr.mono e3)).append (.cons (Rep.keepT kt (hB c (List.mem_of_getElem? hc')) r3) .nil)
  · have e0 : i = l.length := by omega
    subst e0
    rw [List.take_of_length_le (Nat.le_refl _)] at hr
    exact .inl ⟨show _ ≤ _ by rw [hsz]; exact Nat.le_refl _, q (.ref Dl) H' (e1.trans ex) (.lst hl hr)⟩
end
/-! data as the kit's own plain data -/
mutual
def pyD : D → PyData
  | .non => .none
  | .bl b => .bool b
  | .int i => .int i
  | .str l => .str (tx l)
  | .tup ds => .tuple (pyDL ds)
  | .lst ds => .list (pyDL ds)
def pyDL : List D → List PyData
  | [] => []
  | d :: ds => pyD d :: pyDL ds
end
mutual
theorem dp_of {K : PySem.W.Frag} {H : Hp} : ∀ {v : V} {d : D}, Rep H v d → Dp K H v (pyD d)
  | _, _, .non => by rw [pyD]; exact .non
  | _, _, .bl b => by rw [pyD]; exact .bl b
  | _, _, .int i => by rw [pyD]; exact .int i
  | _, _, .str l => by rw [pyD]; exact .str _
  | _, _, .tup e r => by rw [pyD]; exact .tup (st_of e) (dps_of r)
  | _, _, .lst e r => by rw [pyD]; exact .lst (sq_of e) (dps_of r)
theorem dps_of {K : PySem.W.Frag} {H : Hp} : ∀ {vs : List V} {ds : List D}, Reps H vs ds → DpAll K H vs (pyDL ds)
  | _, _, .nil => by rw [pyDL]; exact .nil
  | _, _, .cons r rs => by rw [pyDL]; exact .cons (dp_of r) (dps_of rs)
end
theorem ev_eqDD {K : PySem.W.Frag} {σ : L2.St} {H : Hp} {ta tb : TE} {d e : D} (ha : EvD ta σ H d) (hb : EvD tb σ H e) (sd : SeqAt.shaped (pyD d) = true) (se : SeqAt.shaped (pyD e) = true) : Ev (tOp (rEqD K) ta tb) σ H (.bl (PyData.eqv (pyD d) (pyD e))) := fun H1 e1 Q q =>
  ha H1 e1 _ fun v H2 e2 r2 => hb H2 (e1.trans e2) _ fun u H3 e3 r3 => ⟨_, _, dp_of (r2.mono e3), dp_of r3, sd, se, q H3 (e2.trans e3)⟩
section
variable {K : PySem.W.Frag} {σ : L2.St} {H : Hp} {te tl : TE} {tt : TT} {v : V} {d : Addr} {kvs : List (Key × V)}
theorem ev_isiX {T T0 : String} {b : Bool} (h : Ev te σ H v) (ht : ∀ H1, Ex H H1 → TyX K H1 v (.type T0)) (hk : kitB T0 T = some b) : Ev (tCB (rIsi K) (tCons te (tCons (tC (.ty T)) tNil))) σ H (.bl b) := fun H1 e Q q =>
  h H1 e _ fun H2 e2 => ⟨v, .ty T, .type T0, .type T, b, rfl, .ty T, ht H2 (e.trans e2), kit_ty hk, q H2 e2⟩
theorem ty_dK (h : H d = some (.dK kvs)) : TyX K H (.ref d) (.type "dict") := .base (.dK h)
theorem ty_lst {xs : List V} (h : H d = some (.lst xs)) : TyX K H (.ref d) (.type "list") := .base (.lst h)
/-- what of a heap is seen while the dict at d is held -/
def Held (H : Hp) (d : Addr) (kvs : List (Key × V)) (H1 : Hp) : Prop := (∀ b o, b ≠ d → H b = some o → H1 b = some o) ∧ ∃ od, H1 d = some (.frz od (.dK kvs))
theorem Held.ex {H1 H2 : Hp} (h : Held H d kvs H1) (e : Ex H1 H2) : Held H d kvs H2 := ⟨fun b o n hb => e _ _ (h.1 b o n hb), by
  obtain ⟨od, ho⟩ := h.2
  exact ⟨od, e _ _ ho⟩⟩
/-- a comprehension over a dict's keys, texts; tests and items read the heap -/
theorem el_lcKg {j : Nat} {vs : List Nat} {ks : List L} (f : V → Bool) (g : V → V) (h : ∀ H1, Ev tl σ H1 (.ref d)) (hd : H d = some (.dK kvs)) (hk : kvs.map (·.1) = ks.map keyT) (hz : ks.length ≤ 40000) (hw : ∀ x, wipe ((wipe σ vs).set j (some x)) vs = wipe σ vs)
    (ht : ∀ k H1, Held H d kvs H1 → k ∈ ks → EvT tt ((wipe σ vs).set j (some (.str (tx k)))) H1 (f (.str (tx k)))) (he : ∀ k H1, Held H d kvs H1 → k ∈ ks → f (.str (tx k)) = true → Ev te ((wipe σ vs).set j (some (.str (tx k)))) H1 (g (.str (tx k)))) :
    EvL (tLockE (tLc (iKeys tl) (gName j) tt te vs)) σ H (((txs ks).filter f).map g) := by
  intro H0 e Q q
  have hlen : kvs.length = ks.length := by simpa using congrArg List.length hk
  have hxl := txs_len ks
  refine ⟨d, _, e d _ hd, trivial, fun od => ?_⟩
  generalize hH : L2.upd H0 d (.frz od (.dK kvs)) = HF
  have hF : HF d = some (.frz od (.dK kvs)) := by rw [← hH, upd_same]
  have hHd : Held H d kvs HF := ⟨fun b o n hb => by rw [← hH, upd_ne n]; exact e _ _ hb, od, hF⟩
  refine h HF HF (Ex.refl HF) _ fun H1 e1 => ⟨d, od, rfl, .inl ⟨kvs, e1 d _ hF, fun Dl hD => ?_⟩⟩
  have hd1 := e1 d _ hF
  have ndl : Dl ≠ d := fun z => by rw [z, hd1] at hD; exact nomatch hD
  refine ⟨fun i m H' => m = (txs ks).length - i ∧ i ≤ (txs ks).length ∧ Ex H1 H' ∧ H' Dl = some (.lst ((((txs ks).take i).filter f).map g)), ⟨(txs ks).length, rfl, Nat.zero_le _, Ex.new hD, upd_same⟩, ?_⟩
  rintro i m H' ⟨rfl, hi, ex, hl⟩
  by_cases hlt : i < (txs ks).length
  · have gx : (txs ks)[i]? = some (txs ks)[i] := List.getElem?_eq_getElem hlt
    refine .inr ⟨⟨ex d _ hd1, by omega⟩, fun H' => Ex H1 H' ∧ H' Dl = some (.lst ((((txs ks).take (i + 1)).filter f).map g)), fun H2 p => ⟨(txs ks).length - (i + 1), by omega, rfl, hlt, p⟩, fun x H2 y => ?_⟩
    obtain ⟨rfl, k, v, hkv, rfl⟩ := y
    obtain ⟨hgv, hlk, hgk⟩ := txs_get' gx
    have ex' : kV k = .str (tx (ks.getD i [])) := by
      have h1 : (kvs.map (·.1))[i]? = some k := by rw [List.getElem?_map, hkv]; rfl
      rw [hk, List.getElem?_map, hgk] at h1
      rw [← Option.some.inj h1]
      rfl
    rw [ex']
    rw [hgv] at gx
    have hm := List.mem_of_getElem? hgk
    exact ⟨hw _, lcf_turn gx hD ex hl (by omega) (ht _ H1 (hHd.ex e1) hm) (he _ H1 (hHd.ex e1) hm)⟩
  · have e0 : i = (txs ks).length := by omega
    subst e0
    rw [List.take_of_length_le (Nat.le_refl _)] at hl
    refine .inl ⟨⟨ex d _ hd1, by omega⟩, ex d _ hd1, ?_⟩
    have h0 : H0 Dl = none := by
      have := fresh_back e1 hD
      rw [← hH, upd_ne ndl] at this
      exact this
    refine q Dl _ h0 (fun b o hb => ?_) (by rw [upd_ne ndl]; exact hl)
    by_cases hbd : b = d
    · subst hbd
      rw [upd_same]
      rw [e b _ hd] at hb
      exact hb
    · rw [upd_ne hbd]
      exact ex b _ (e1 b _ (by rw [← hH, upd_ne hbd]; exact hb))
end
section
variable {K : PySem.W.Frag} {σ : L2.St} {H : Hp} {Q : VK} {p sc : Addr} {ns : List Int}
/-- a comprehension over a range whose items draw -/
theorem r_lcG {ta : TA} {te : TE} {j : Nat} {vs : List Nat} (Pd : Addr → V → Hp → Prop) (lo M : Nat) (hM : M ≤ 1000)
    (hm : ∀ b v H1 H2, (∀ a o, a ≠ p → a ≠ b → H1 a = some o → H2 a = some o) → Pd b v H1 → Pd b v H2) (hP : Pool K H p sc ns)
    (ht : ∀ R : List V → Hp → Prop, (∀ (m : Nat) H1, lo ≤ m → m ≤ M → G K p sc ns H H1 → R [.int (m : Int)] H1) → ta σ H R)
    (hw : ∀ x, wipe ((wipe σ vs).set j (some x)) vs = wipe σ vs)
    (he : ∀ (x : V) H1 (Q' : VK), G K p sc ns H H1 → (∀ v H2, (∀ b, H1 b ≠ none → b ≠ p → Pd b v H2) → G K p sc ns H1 H2 → Q' v H2) → te ((wipe σ vs).set j (some x)) H1 Q')
    (q : ∀ Dl xs H', lo ≤ xs.length → xs.length ≤ M → H Dl = none → H' Dl = some (.lst xs) → (∀ x ∈ xs, Pd Dl x H') → G K p sc ns H H' → Q (.ref Dl) H') : tLc (iRng1 ta) (gName j) tYes te vs σ H Q := by
  refine r_lcR1 (ht _ fun m H1 hlo hhi g1 => ⟨m, rfl, by omega, by omega, fun Dl hD => ?_⟩)
  have hD0 := G.back g1 hD
  have hDp : Dl ≠ p := hP.ne hD0
  rw [Int.toNat_natCast]
  refine ⟨fun i k H' => k = m - i ∧ i ≤ m ∧ G K p sc ns H H' ∧ ∃ xs, H' Dl = some (.lst xs) ∧ xs.length = i ∧ ∀ x ∈ xs, Pd Dl x H', ⟨m, rfl, Nat.zero_le _, G.new hP g1 hD0, [], upd_same, rfl, fun x hx => absurd hx (by simp)⟩, ?_⟩
  rintro i k H' ⟨rfl, hi, g, xs, hl, hlen, hx⟩
  by_cases hlt : i < m
  · refine .inr ⟨hlt, fun H' => G K p sc ns H H' ∧ ∃ xs, H' Dl = some (.lst xs) ∧ xs.length = i + 1 ∧ ∀ x ∈ xs, Pd Dl x H', fun H2 pp => ⟨m - (i + 1), by omega, rfl, hlt, pp⟩, fun x H2 y => ?_⟩
    obtain ⟨rfl, rfl⟩ := y
    refine ⟨hw _, ?_⟩
    refine tyes_ ?_
    refine iteT (he _ _ _ g fun v H4 hv g4 => ⟨xs, g4.1 Dl _ hDp hl, sz_lt (by omega), G.new hP (g.trans g4) hD0, xs ++ [v], upd_same, by rw [List.length_append, hlen]; rfl, fun x hx' => ?_⟩)
    rw [List.mem_append, List.mem_singleton] at hx'
    rcases hx' with hx' | rfl
    · exact hm Dl x _ _ (fun a o n1 n2 h => by rw [upd_ne n2]; exact g4.1 a o n1 h) (hx x hx')
    · exact hm Dl x _ _ (fun a o n1 n2 h => by rw [upd_ne n2]; exact h) (hv Dl (by rw [hl]; exact fun z => nomatch z) hDp)
  · have e0 : i = m := by omega
    subst e0
    exact .inl ⟨Nat.le_refl _, q Dl xs _ (by omega) (by omega) hD0 hl hx g⟩
end
section
variable {K : PySem.W.Frag} {σ : L2.St} {H : Hp} {te tl : TE} {tt : TT} {xs : List V}
theorem evt_d {ps : List L} (h : EvD te σ H (.tup (ps.map .str))) : EvP te σ H (IsT K (txs ps)) := fun H1 e Q q => h H1 e _ fun v H2 e2 r => by
  obtain ⟨a, hv, ha⟩ := rep_strs r
  exact q v H2 e2 ⟨a, hv, st_of ha⟩
/-- over a tuple that an expression gives -/
theorem el_lcTP {j : Nat} {vs : List Nat} (f : V → Bool) (g : V → V) (h : EvP tl σ H (IsT K xs)) (hz : xs.length ≤ 40000) (hw : ∀ x, wipe ((wipe σ vs).set j (some x)) vs = wipe σ vs)
    (ht : ∀ x H1, Ex H H1 → x ∈ xs → EvT tt ((wipe σ vs).set j (some x)) H1 (f x)) (he : ∀ x H1, Ex H H1 → x ∈ xs → f x = true → Ev te ((wipe σ vs).set j (some x)) H1 (g x)) : EvL (tLc (iTup K tl) (gName j) tt te vs) σ H ((xs.filter f).map g) := by
  intro H0 e Q q
  refine h H0 e _ fun w H1 e1 ⟨a, hv, S1⟩ => ?_
  subst hv
  refine ⟨a, rfl, ⟨xs, S1⟩, fun Dl hD => ?_⟩
  refine ⟨fun i m H' => m = xs.length - i ∧ i ≤ xs.length ∧ Ex H1 H' ∧ H' Dl = some (.lst (((xs.take i).filter f).map g)), ⟨xs.length, rfl, Nat.zero_le _, Ex.new hD, upd_same⟩, ?_⟩
  rintro i m H' ⟨rfl, hi, ex, hl⟩
  by_cases hlt : i < xs.length
  · have gx : xs[i]? = some xs[i] := List.getElem?_eq_getElem hlt
    refine .inr ⟨⟨xs, xs[i], ex_t ex S1, gx⟩, fun H' => Ex H1 H' ∧ H' Dl = some (.lst (((xs.take (i + 1)).filter f).map g)), fun H2 p => ⟨xs.length - (i + 1), by omega, rfl, hlt, p⟩, fun x H2 y => ?_⟩
    obtain ⟨rfl, y⟩ := y
    have ex' : x = xs[i] := Option.some.inj ((y xs (ex_t ex S1)).symm.trans gx)
    subst ex'
    exact ⟨hw _, lcf_turn gx hD ex hl hz (ht _ H1 (e.trans e1) (List.mem_of_getElem? gx)) (he _ H1 (e.trans e1) (List.mem_of_getElem? gx))⟩
  · have e0 : i = xs.length := by omega
    subst e0
    rw [List.take_of_length_le (Nat.le_refl _)] at hl
    exact .inl ⟨⟨xs, ex_t ex S1, Nat.le_refl _⟩, q Dl H' (fresh_back e1 hD) (e1.trans ex) hl⟩
end
end My

set_option Elab.async false
set_option linter.all false
set_option maxRecDepth 100000
set_option maxHeartbeats 1000000
/-! zip(t1, t2, strict=False) of two tuples, in a comprehension. -/
namespace My
open PySem PySem.Spec PyProof.Rows L2 Evl Builtin.SmallTypes
theorem typeCall_zf (a b : Value) : checkTypeCall "zip" ⟨[a, b], [(Str.ofString "strict", .bool false)]⟩ = pure () := by kernel_rfl
theorem newCall_zf (a b : Value) : checkBuiltinCall "zip.__new__" ⟨[.type "zip", a, b], [(Str.ofString "strict", .bool false)]⟩ = pure () := by kernel_rfl
theorem init_zf (obj a b : Value) : argsOk "object.__init__" ⟨[obj, a, b], [(Str.ofString "strict", .bool false)]⟩ := by unfold argsOk; kernel_rfl
abbrev zfZ (h : Heap) (o1 o2 : Obj) : Heap := (gzO2 h o1 o2).push { cls := .type "zip", data := .fields #[.none, .bool false, .bool false, .ref ((h.push o1).push o2).objs.size, .ref (gzT2 h o1 o2).objs.size] }
theorem meets_zf {v1 v2 : Value} {o1 o2 : Obj} {H1 H2 : Heap → Prop} (B1 : Begins v1 o1 H1) (B2 : Begins v2 o2 H2) :
    Meets (Builtin.«zip.__new__» ⟨[.type "zip", v1, v2], [(Str.ofString "strict", .bool false)]⟩) (fun _ R s => (H1 s.heap ∧ H2 s.heap) ∧ R (.ok (.ret (.ref (gzO2 s.heap o1 o2).objs.size))) { s with heap := zfZ s.heap o1 o2 }) :=
  .of_wp fun prog w A R s h => by
    obtain ⟨hp, g, d, tk, os⟩ := s; obtain ⟨⟨h1, h2⟩, h⟩ := h
    have hsub := sub_zip
    have q1 : ∀ {A' : Around} {E : Value → Shared → Prop} {Q : Value → Shared → Prop}, Q (.ref hp.objs.size) ⟨(hp.push o1), g, d, tk, os⟩ → wpAny (model prog w) A' (pyIter v1) Q E ⟨hp, g, d, tk, os⟩ :=
      fun q => B1.iter prog w _ _ ⟨hp, g, d, tk, os⟩ _ (B1.keeps _ _ h1 fun b o' e => e) q
    have q2 : ∀ {A' : Around} {E : Value → Shared → Prop} {Q : Value → Shared → Prop}, Q (.ref (hp.push o1).objs.size) ⟨((hp.push o1).push o2), g, d, tk, os⟩ → wpAny (model prog w) A' (pyIter v2) Q E ⟨(hp.push o1), g, d, tk, os⟩ :=
      fun q => B2.iter prog w _ _ ⟨(hp.push o1), g, d, tk, os⟩ _ (B2.keeps _ _ h2 fun b o' e => (Heap.get?_push_of_some _ e)) q
    have e1 : (Str.ofString "strict" != ("strict" : Str)) = false := by decide +kernel
    wp_walk using q1, q2
    exact ⟨_, rfl, h⟩
def iZf (K : PySem.W.Frag) (ta : TA) : TI := fun σ H R => ta σ H fun vs H1 => ∃ a b xs ys, vs = [.ref a, .ref b] ∧ SqT K H1 a xs ∧ SqT K H1 b ys ∧ R (RZ.ItzT K a b) H1
theorem pi_zf {X : Cx} {e : Expr} {es : List Expr} {ta : TA} {p pos tpos : Pos} {kws : List Keyword} {elts : List Expr} {kk : Nat} (hg : Gl X "zip") (hm : X.mg "zip" = none) (ha : PA X (e :: es) ta) (hk : PK X kws (tCons (tC (.bl false)) tNil))
    (he : backTo pos (starEach (e :: es) X.env) = (false, eval e X.env) :: backTo pos (starEach es X.env) := by rfl) (hpl : (backTo pos (starEach (e :: es) X.env)).any (·.1) = false := by rfl)
    (hks : (backToKw pos (keywordEach kws X.env)).filterMap (·.1) = [Str.ofString "strict"] := by rfl)
    (hall : (backToKw pos (keywordEach kws X.env)).all (·.1.isSome) = true := by rfl) (hnone : (backToKw pos (keywordEach kws X.env)).any (·.1.isNone) = false := by rfl) :
    PI X (.Tuple elts kk tpos) (.Call (.Name "zip" p) (e :: es) kws pos) (iZf X.K ta) := by
  refine ⟨fun pins s σ H R I h => ?_⟩
  refine wpAny_Call_Name_kw (ld_blt I hg hm PyProof.Rows.boot_zip ?_)
  refine callTy_kw (thn (ha.run pos pins s σ H _ I h) fun us s1 h1 => ?_) he hpl hall hnone
  obtain ⟨vs, H1, I1, r1, q1⟩ := h1
  refine thn (hk.run pos pins s1 σ H1 (fun zs H2 => zs = [.bl false] ∧ H2 = H1) I1 ⟨rfl, rfl⟩) fun ws s2 h2 => ?_
  obtain ⟨zs, H2, I2, r2, ez, eh⟩ := h2
  subst ez
  subst eh
  obtain ⟨a, b, xs, ys, rfl, hqx, hqy, q⟩ := q1
  have ew : ws = [.bool false] := by
    cases r2 with
    | cons r rr =>
      cases rr
      rw [show _ = Value.bool false from r]
  obtain ⟨u1, u2, rfl, ra, rb⟩ := vals2 r1
  cases (show u1 = Value.ref a from ra)
  cases (show u2 = Value.ref b from rb)
  rw [hks, ew]
  obtain ⟨its, rv, p1, la⟩ := sqB_inv (t := true) I2 hqx
  obtain ⟨its2, rv2, p2, lb⟩ := sqB_inv (t := true) I2 hqy
  refine callType_newKw F.called_zip (by decide) (typeCall_zf _ _) (newCall_zf _ _) (fun obj => init_zf obj _ _) F.entry_zip_new (meets_zf (beginsB true a its.toArray) (beginsB true b its2.toArray)) ⟨⟨p1, p2⟩, ?_⟩
  have z1 : (s2.heap.push (oB true a)).objs.size = s2.heap.objs.size + 1 := by rw [Heap.size_push]
  have z2 : ((s2.heap.push (oB true a)).push (oB true b)).objs.size = s2.heap.objs.size + 2 := by rw [Heap.size_push, z1]
  have zT : (gzT2 s2.heap (oB true a) (oB true b)).objs.size = s2.heap.objs.size + 3 := by rw [Heap.size_push, z2]
  have zO : (gzO2 s2.heap (oB true a) (oB true b)).objs.size = s2.heap.objs.size + 4 := by rw [Heap.size_push, zT]
  have f1 := (beginsB true a its.toArray).free
  have f2 := (beginsB true b its2.toArray).free
  have gZ : (zfZ s2.heap (oB true a) (oB true b)).get? (gzO2 s2.heap (oB true a) (oB true b)).objs.size = some _ := Heap.get?_push_size _ rfl
  have gO : (zfZ s2.heap (oB true a) (oB true b)).get? (gzT2 s2.heap (oB true a) (oB true b)).objs.size = some _ := Heap.get?_push_of_some _ (Heap.get?_push_size _ rfl)
  have gT : (zfZ s2.heap (oB true a) (oB true b)).get? ((s2.heap.push (oB true a)).push (oB true b)).objs.size = some _ := Heap.get?_push_of_some _ (Heap.get?_push_of_some _ (Heap.get?_push_size _ rfl))
  have g1 : (zfZ s2.heap (oB true a) (oB true b)).get? s2.heap.objs.size = some (oB true a) := Heap.get?_push_of_some _ (Heap.get?_push_of_some _ (Heap.get?_push_of_some _ (Heap.get?_push_of_some _ (Heap.get?_push_size _ f1))))
  have g2 : (zfZ s2.heap (oB true a) (oB true b)).get? (s2.heap.push (oB true a)).objs.size = some (oB true b) := Heap.get?_push_of_some _ (Heap.get?_push_of_some _ (Heap.get?_push_of_some _ (Heap.get?_push_size _ f2)))
  have keep : ∀ c o, s2.heap.get? c = some o → (zfZ s2.heap (oB true a) (oB true b)).get? c = some o := fun c o e => Heap.get?_push_of_some _ (Heap.get?_push_of_some _ (Heap.get?_push_of_some _ (Heap.get?_push_of_some _ (Heap.get?_push_of_some _ e))))
  rw [zO, zT, z2] at gZ
  rw [zT] at gO
  rw [z2, z1] at gT
  rw [z1] at g2
  generalize zfZ s2.heap (oB true a) (oB true b) = h' at gZ gO gT g1 g2 keep
  show _ ∧ _
  rw [zO]
  refine ⟨⟨_, gZ, rfl⟩, wpAny_pyIter_zip gZ ?_⟩
  have I3 : Inv X pins σ H2 { s2 with heap := h' } := I2.kept (t' := s2.toks) keep
  refine ⟨s2.heap.objs.size + 4, [s2.heap.objs.size + 4, s2.heap.objs.size + 2, s2.heap.objs.size + 3, s2.heap.objs.size, s2.heap.objs.size + 1], _, _, H2, rfl, I3, RZ.turn_zipT (PySem.W.ktu_apart s2.heap.objs.size a b la lb), ⟨gZ, gT, ⟨_, _, gO⟩, oB_it true g1, oB_it true g2⟩, fun c hcm => ?_, q⟩
  have e' : c = s2.heap.objs.size + 4 ∨ c = s2.heap.objs.size + 2 ∨ c = s2.heap.objs.size + 3 ∨ c = s2.heap.objs.size ∨ c = s2.heap.objs.size + 1 := by simpa using hcm
  have hle : s2.heap.objs.size ≤ c := by
    rcases e' with z | z | z | z | z
    · rw [z]; exact Nat.le_add_right _ _
    · rw [z]; exact Nat.le_add_right _ _
    · rw [z]; exact Nat.le_add_right _ _
    · rw [z]; exact Nat.le_refl _
    · rw [z]; exact Nat.le_add_right _ _
  exact I2.fpOk hle (I2.hok.fresh hle)
section
variable {K : PySem.W.Frag} {σ : L2.St} {H : Hp} {te tl : TE} {ta : TA} {xs ys : List V}
/-- what the comprehension gives: one item for each place of both -/
theorem el_lcZF {j1 j2 : Nat} {vs : List Nat} {a b : Addr} (n : Nat) (v : Nat → V) (h : ∀ H1, Ex H H1 → ∀ Q : List V → Hp → Prop, (∀ a b H2, Ex H1 H2 → SqT K H2 a xs → SqT K H2 b ys → Q [.ref a, .ref b] H2) → ta σ H1 Q) (hn : n = min xs.length ys.length) (hz : xs.length ≤ 1000)
    (hw : ∀ x y, wipe (((wipe σ vs).set j1 (some x)).set j2 (some y)) vs = wipe σ vs)
    (he : ∀ i x y H1, Ex H H1 → xs[i]? = some x → ys[i]? = some y → Ev te (((wipe σ vs).set j1 (some x)).set j2 (some y)) H1 (v i)) :
    EvL (tLc (iZf K ta) (gTup K 2 (gCons (gName j1) (gCons (gName j2) gNil))) tYes te vs) σ H ((List.range n).map v) := by
  intro H0 e Q q
  refine h H0 e _ fun a b H1 e1 ha hb => ⟨a, b, xs, ys, rfl, ha, hb, fun Dl hD => ?_⟩
  refine ⟨fun i m H' => m = n - i ∧ i ≤ n ∧ Ex H1 H' ∧ H' Dl = some (.lst ((List.range i).map v)), ⟨n, rfl, Nat.zero_le _, Ex.new hD, upd_same⟩, ?_⟩
  rintro i m H' ⟨rfl, hi, ex, hl⟩
  by_cases hlt : i < n
  · have gx : xs[i]? = some xs[i] := List.getElem?_eq_getElem (by omega)
    have gy : ys[i]? = some ys[i] := List.getElem?_eq_getElem (by omega)
    refine .inr ⟨⟨xs, ys, _, _, ex_t ex ha, ex_t ex hb, gx, gy⟩, fun H' => Ex H1 H' ∧ H' Dl = some (.lst ((List.range (i + 1)).map v)), fun H2 p => ⟨n - (i + 1), by omega, rfl, hlt, p⟩, fun z H2 y => ?_⟩
    obtain ⟨T, x', y', rfl, hT, rfl, hx', hy'⟩ := y
    have ex1 := hx' xs (ex_t ex ha)
    have ey1 := hy' ys (ex_t ex hb)
    rw [gx] at ex1
    rw [gy] at ey1
    cases ex1
    cases ey1
    refine ⟨T, [xs[i], ys[i]], rfl, st_of upd_same, rfl, xs[i], [ys[i]], rfl, ys[i], [], rfl, rfl, hw _ _, ?_⟩
    refine tyes_ ?_
    have ex2 : Ex H1 (upd H' T (.tup [xs[i], ys[i]])) := ex.trans (Ex.new hT)
    have nDT : Dl ≠ T := fun z => by
      rw [z, hT] at hl
      exact nomatch hl
    refine iteT (he i _ _ H1 (e.trans e1) gx gy _ ex2 _ fun H3 e3 => ⟨(List.range i).map v, e3 Dl _ (by rw [upd_ne nDT]; exact hl), sz_lt (by rw [List.length_map, List.length_range]; omega), (ex2.trans e3).mut hD, ?_⟩)
    rw [upd_same, List.range_succ, List.map_append]
    rfl
  · have e0 : i = n := by omega
    subst e0
    exact .inl ⟨⟨xs, ys, ex_t ex ha, ex_t ex hb, by omega⟩, q Dl H' (fresh_back e1 hD) (e1.trans ex) hl⟩
end
end My

set_option Elab.async false
set_option linter.all false
set_option maxRecDepth 100000
set_option maxHeartbeats 2000000
/-! a display with one tuple key; d.update(d2); a module's dict: d.get(k). -/
namespace My
open PySem PySem.Spec PyProof.Rows L2 Evl
/-! ### {(..): v} -/
def tDispT1 (tk tv : TE) : TE := fun σ H Q => ∀ p, H p = none → tk σ (upd H p (.dT [])) fun x H1 => tv σ H1 fun y H2 => ∃ (b : Addr) (ks : List Key), x = .ref b ∧ H2 b = some (.tup (ks.map kV)) ∧ H2 p = some (.dT []) ∧ Q (.ref p) (upd H2 p (.dT [(ks, y)]))
theorem pe_dispT1 {X : Cx} {pos : Pos} {k v : Expr} {tk tv : TE} (hu : X.A.units + 1 < cLine) (hk : PE X k tk) (hv : PE X v tv) : PE X (.Dict [some k] [v] pos) (tDispT1 tk tv) := by
  refine ⟨fun pins s σ H Q I q => ?_⟩
  have hn := I.hok.fresh (Nat.le_refl s.heap.objs.size)
  have I1 := I.laid (a := s.heap.objs.size) (o := .dT []) (h' := s.heap.push { cls := .type "dict", data := .dict #[] }) (t' := s.toks) (fun _ _ q => Heap.get?_push_of_some _ q) (Nat.le_refl _) (dt_empty s.heap I.big)
  have hl := pairTrees_length [some k] [v] X.env pos rfl rfl
  rw [arm_eval_Dict, zip_pairTrees [some k] [v] X.env pos rfl rfl, dictDisplay_pairs (pairTrees [some k] [v] X.env pos) (fun he => by rw [he] at hl; exact nomatch hl) (by rw [hl]; show 1 < 17; decide)]
  refine wpAny_bind (wpAny_standAt (wpAny_bind (wpAny_subDictH (knd := tupleKind (mixKind X.prog X.w)) (Q := fun d s' => wpAny (model X.prog X.w) X.A (pure (Value.ref d)) (EP X pins σ Q) X.xe s') (show X.A.units < cLine by omega) (by rw [hl]; show 1 ≤ 15; decide) ?_)))
  refine pairTrees_cons_walk (thn (hk.run pins _ σ _ _ I1 (q _ hn)) fun u s1 ⟨x, H1, I2, rx, q1⟩ => thn (hv.run pins s1 σ H1 _ I2 q1) fun w2 s2 ⟨y, H2, I3, ry, b, ks, ex, hb, hp, q2⟩ => pairTrees_nil_walk ?_)
  subst ex
  cases (show u = Value.ref b from rx)
  obtain ⟨z, hd, xs, rel, dd⟩ := dt_of I3.hok hp
  cases rel
  refine ⟨[(ks, b, w2)], ⟨rfl, rfl, key_of I3.hok hb, trivial⟩, dd, fun h' tk' dd' hs => wpAny_pure ?_⟩
  refine ⟨.ref s.heap.objs.size, _, ?_, rfl, q2⟩
  obtain ⟨o, es, ep, hq, h2, h3, h4, _, h5⟩ := dd'
  have hkt : KT H2 [(ks, y)] (storedAllH [] [(ks, b, w2)]) := KT.put (kvs := []) .nil ks hb ry
  refine d_write I3 (by rw [hp]; exact True.intro) hs ⟨o, hq⟩ ⟨by show 1 ≤ sizeLine; rw [sizeLine_eq]; decide, hd, _, hkt.keeps fun c ys ec => ?_, o, es, ep, hq, h2, h3, h4, h5⟩
  rw [upd_ne (ne_of ec hp (fun z => nomatch z))]
  exact ec
/-! ### d.update(d2) -/
def tDUpd (td te : TE) : TE := fun σ H Q => td σ H fun x H1 => ∃ a, x = .ref a ∧ IsD H1 a ∧ te σ H1 fun y H2 => ∃ (b : Addr) (kvs more : List (Key × V)), y = .ref b ∧ a ≠ b ∧ H2 a = some (.dK kvs) ∧ H2 b = some (.dK more) ∧ kvs.length + more.length ≤ 100000 ∧ Q .non (upd H2 a (.dK (mergeK kvs more)))
theorem pe_dupd {X : Cx} {o e : Expr} {apos cpos : Pos} {td te : TE} (ho : PE X o td) (he : PE X e te) (m : M1 X o "update" apos e cpos) : PE X (.Call (.Attribute o "update" apos) [e] [] cpos) (tDUpd td te) := by
  refine ⟨fun pins s σ H Q I h => ?_⟩
  refine wpAny_Call_method m.base m.few m.line PySem.F.plainAttrs_dict PySem.F.slot_dict_update PySem.F.type_dict_update (thn (ho.run pins s σ H _ I h) fun u s1 ⟨x, H1, I1, rx, a, ex, d, q1⟩ => ?_)
  subst ex
  obtain rfl : u = Value.ref a := rx
  obtain ⟨t1, t2, _⟩ := isD_at I1 d
  refine ⟨t1, t2, ?_⟩
  rw [m.trees]
  refine Calls.callWith_builtin rfl (Calls.evalArgs_plain (Calls.spliced_cons (thn (he.run pins s1 σ H1 _ I1 q1) fun iv s2 ⟨y, H2, I2, ry, b, kvs, more, ey, hne, ha, hb, hz, q2⟩ => Calls.spliced_nil ?_)))
  subst ey
  obtain rfl : iv = Value.ref b := ry
  obtain ⟨za, hda, vsa, ra, dda⟩ := dk_of I2.hok ha
  obtain ⟨zb, hdb, vsb, rb, ddb⟩ := dk_of I2.hok hb
  have la := Paired.length ra
  have lb := Paired.length rb
  refine call_meetsIn PySem.F.slot_dict_update dda.typeIs PySem.F.entry_dict_update (PySem.F.args_dict_update_2 _ _) (meets_dict_update (mixKind X.prog X.w) a b hne hdb) ⟨vsa, vsb, dda, ddb, by rw [← la, ← lb]; exact sz_of hz, fun h' dd' _ hs => ⟨.non, upd H2 a (.dK (mergeK kvs more)), ?_, rfl, q2⟩⟩
  have hm : (mergeK kvs more).length ≤ sizeLine := by
    have h1 := length_mergeK more kvs
    exact Nat.le_trans h1 (sz_of hz)
  have he' : ∃ q, h'.get? a = some q := let ⟨q, _, _, hq, _⟩ := dd'; ⟨q, hq⟩
  exact d_write I2 (by rw [ha]; exact True.intro) hs he' (dk_new hm hda (rb.merge ra) dd')
/-! ### D.get(k), D a module's dict -/
def tKGet1 (K : PySem.W.Frag) (d : Addr) (td ty : TE) : TE := fun σ H Q => td σ H fun x H1 => x = .ref d ∧ ty σ H1 fun y H2 => ∃ (z : Str) (r : Option Value) (v : V), y = .str z ∧ PySem.W.nsIn K d z = some r ∧ RelV v (r.getD .none) ∧ Q v H2
theorem pe_kget1 {X : Cx} {o e : Expr} {apos cpos : Pos} {td ty : TE} {d : Addr} {es : Array DictEntry} {n : Nat} (D : KDict X.K X.w d es n) (ho : PE X o td) (he : PE X e ty) (m : M1 X o "get" apos e cpos) : PE X (.Call (.Attribute o "get" apos) [e] [] cpos) (tKGet1 X.K d td ty) := by
  refine ⟨fun pins s σ H Q I h => ?_⟩
  refine wpAny_Call_method m.base m.few m.line PySem.F.plainAttrs_dict PySem.F.slot_dict_get PySem.F.type_dict_get (thn (ho.run pins s σ H _ I h) fun u s1 ⟨x, H1, I1, rx, ex, q1⟩ => ?_)
  subst ex
  obtain rfl : u = Value.ref d := rx
  refine ⟨kd_type D I1, fun b q => ?_, ?_⟩
  · cases q
    exact ⟨_, I1.kIn _ _ D.at_, rfl⟩
  rw [m.trees]
  refine Calls.callWith_builtin rfl (Calls.evalArgs_plain (Calls.spliced_cons (thn (he.run pins s1 σ H1 _ I1 q1) fun iv s2 ⟨y, H2, I2, ry, z, r, v, ey, hr, rv, q2⟩ => Calls.spliced_nil ?_)))
  subst ey
  obtain ⟨t, rfl⟩ := ry
  refine call_meetsIn PySem.F.slot_dict_get (kd_type D I2) PySem.F.entry_dict_get (PySem.F.args_dict_get_2 _ _) (meets_dict_get (strKind X.prog X.w) d (PySem.strKind_is X.prog X.w z t) D.low) ⟨_, PySem.W.mapOf_K (prog := X.prog) I2.kIn D.at_ D.lit, ⟨v, H2, I2.tok _, ?_, q2⟩⟩
  rw [PySem.W.find_K D.at_ hr]
  exact rv
/-- around a body that raises nothing -/
theorem takesN {X : Cx} : Takes X (fun _ _ _ _ => False) := fun _ _ x => by
  obtain ⟨_, _, _, _, _, _, _, _, _, _, _, _, _, _, _, _, z⟩ := x
  exact z.elim
end My

set_option Elab.async false
set_option linter.all false
set_option maxRecDepth 100000
set_option maxHeartbeats 1000000
/-! a written dict of the top, keys texts, values numbers: its .get. -/
namespace My
open PySem PySem.Spec PyProof.Rows L2 Evl
def intOf : Value → Int
  | .int x _ => x
  | _ => 0
def isIntV : Value → Bool
  | .int _ _ => true
  | _ => false
/-- what the table says of a key -/
def tabI : List (List Nat × Int) → List Nat → Option Int
  | [], _ => none
  | p :: r, l => if p.1 = l then some p.2 else tabI r l
def HasI2 (K : PySem.W.Frag) (w : World) (x : Str) (tab : List (List Nat × Int)) : Prop := ∃ (d : Addr) (es : Array DictEntry) (n : Nat), PySem.W.nsIn K mainGlobals x = some (some (.ref d)) ∧ K.lookup d = some ⟨.type "dict", none, .dict es n, #[]⟩ ∧
  es.toList.map He.keyOf = He.keysIn w.params (tab.map fun p => tx p.1) ∧ (d == sysModules) = false ∧ es.toList.map (fun e => intOf e.val) = tab.map (fun p => p.2) ∧ es.toList.all (fun e => isIntV e.val) = true
theorem HasI2.mk' {K : PySem.W.Frag} {w : World} {x : Str} {tab : List (List Nat × Int)} {d : Addr} {es : Array DictEntry} {n : Nat} (a : PySem.W.nsIn K mainGlobals x = some (some (.ref d))) (l : K.lookup d = some ⟨.type "dict", none, .dict es n, #[]⟩)
    (k : es.toList.map He.keyOf = He.keysIn w.params (tab.map fun p => tx p.1)) (z : (d == sysModules) = false) (v : es.toList.map (fun e => intOf e.val) = tab.map (fun p => p.2)) (s : es.toList.all (fun e => isIntV e.val) = true) : HasI2 K w x tab := ⟨d, es, n, a, l, k, z, v, s⟩
/-- the dict as a global -/
def GDI (K : PySem.W.Frag) (w : World) (mg : Str → Option Value) (x : Str) (tab : List (List Nat × Int)) : Prop := ∃ (d : Addr) (es : Array DictEntry) (n : Nat), mg x = some (.ref d) ∧ KDict K w d es n ∧
  ∀ l, ∃ r, PySem.W.nsIn K d (tx l) = some r ∧ r.isSome = (tabI tab l).isSome ∧ ∀ y, tabI tab l = some y → ∃ u, r = some u ∧ RelV (.int y) u
theorem find_tabI {P : Params} : ∀ {es : List DictEntry} {tab : List (List Nat × Int)}, es.map He.keyOf = He.keysIn P (tab.map fun p => tx p.1) → es.map (fun e => intOf e.val) = tab.map (fun p => p.2) → es.all (fun e => isIntV e.val) = true →
    (es.any (·.refKey) = false) ∧ ∀ l, (es.find? (·.key.isStr (tx l))).isSome = (tabI tab l).isSome ∧ ∀ y, tabI tab l = some y → ∃ e, es.find? (·.key.isStr (tx l)) = some e ∧ RelV (.int y) e.val
  | [], [], _, _, _ => ⟨rfl, fun l => ⟨rfl, fun y h => nomatch h⟩⟩
  | [], p :: r, h, _, _ => by cases h
  | e :: es, [], h, _, _ => by cases h
  | e :: es, p :: r, h, h2, h3 => by
    have h1 : He.keyOf e :: es.map He.keyOf = some (tx p.1, PyData.keyHash P (tx p.1)) :: He.keysIn P (r.map fun p => tx p.1) := h
    injection h1 with k1 k2
    rw [List.map_cons, List.map_cons] at h2
    injection h2 with v1 v2
    rw [List.all_cons, Bool.and_eq_true] at h3
    obtain ⟨i1, i2⟩ := find_tabI k2 v2 h3.2
    have hk : ∃ t, e.key = .str (tx p.1) t := by
      unfold He.keyOf at k1
      split at k1
      · rename_i x t q
        obtain ⟨h5, h6⟩ := Prod.mk.inj (Option.some.inj k1)
        exact ⟨t, by rw [q, h5]⟩
      · cases k1
    obtain ⟨t, hk⟩ := hk
    have hv : ∃ t, e.val = .int p.2 t := by
      cases q : e.val with
      | int x t =>
        rw [q] at v1
        exact ⟨t, by rw [← v1]; rfl⟩
      | _ => rw [q] at h3; exact nomatch h3.1
    obtain ⟨t2, hv⟩ := hv
    have hstr : ∀ l, e.key.isStr (tx l) = decide (p.1 = l) := fun l => by
      rw [hk]
      show (tx p.1 == tx l) = _
      by_cases hl : p.1 = l
      · subst hl
        rw [decide_eq_true rfl]
        exact beq_self_eq_true _
      · rw [decide_eq_false hl]
        exact beq_eq_false_iff_ne.mpr fun z => hl (tx_inj z)
    refine ⟨?_, fun l => ?_⟩
    · rw [List.any_cons, i1, Bool.or_false]
      unfold DictEntry.refKey
      rw [hk]
    · rw [List.find?_cons, hstr]
      unfold tabI
      by_cases hl : p.1 = l
      · rw [decide_eq_true hl, if_pos hl]
        exact ⟨rfl, fun y hy => ⟨e, rfl, by cases hy; exact ⟨t2, hv⟩⟩⟩
      · rw [decide_eq_false hl, if_neg hl]
        exact i2 l
theorem HasI2.gd {K : PySem.W.Frag} {w : World} {mg : Str → Option Value} {h : Heap} {x : Str} {tab : List (List Nat × Int)} (X : K.In h) (G : h.Ns mainGlobals mg) (H : HasI2 K w x tab) : GDI K w mg x tab := by
  obtain ⟨d, es, n, a, l, k, z, v, s⟩ := H
  refine ⟨d, es, n, PySem.W.mg_of X G a, ⟨l, He.keysLit_of k, z⟩, fun y => ?_⟩
  obtain ⟨i1, i2⟩ := find_tabI k v s
  obtain ⟨j1, j2⟩ := i2 y
  refine ⟨(es.toList.find? (·.key.isStr (tx y))).map (·.val), ?_, by rw [Option.isSome_map]; exact j1, fun q hq => ?_⟩
  · unfold PySem.W.nsIn
    rw [l]
    show (match es.toList.find? (·.key.isStr (tx y)) with
      | some e => some (some e.val)
      | none => if es.toList.any (·.refKey) then none else some none) = _
    cases e : es.toList.find? (·.key.isStr (tx y)) with
    | some en => rfl
    | none =>
      show (if es.toList.any (·.refKey) = true then none else some none) = _
      rw [if_neg (by rw [i1]; exact Bool.false_ne_true)]
      rfl
  · obtain ⟨en, h1, h2⟩ := j2 q hq
    exact ⟨en.val, by rw [h1]; rfl, h2⟩
section
variable {K : PySem.W.Frag} {w : World} {σ : L2.St} {H : Hp} {te : TE} {d : Addr} {tab : List (List Nat × Int)} {l : List Nat} {y : Int}
theorem ev_kget (h : Ev te σ H (.str (tx l))) (hl : ∀ l, ∃ r, PySem.W.nsIn K d (tx l) = some r ∧ r.isSome = (tabI tab l).isSome ∧ ∀ y, tabI tab l = some y → ∃ u, r = some u ∧ RelV (.int y) u) (hy : tabI tab l = some y) :
    Ev (tKGet1 K d (tC (.ref d)) te) σ H (.int y) := fun H1 e Q q => ⟨rfl, h H1 e _ fun H2 e2 => by
  obtain ⟨r, h1, _, h3⟩ := hl l
  obtain ⟨u, h4, h5⟩ := h3 y hy
  exact ⟨tx l, r, .int y, rfl, h1, by rw [h4]; exact h5, q H2 e2⟩⟩
end
end My

set_option Elab.async false
set_option linter.all false
set_option maxRecDepth 100000
set_option maxHeartbeats 2000000
/-! {**a, **b} of two dicts; x in a tuple, deep; a range as a value, walked. -/
namespace My
open PySem PySem.Spec PyProof.Rows L2 Evl
section
variable {prog : Program} {w : World} {K : Type} [DecidableEq K] {knd : KeyKind prog w K} {A : Around} {E : Value → Shared → Prop} {s : Shared}
theorem dictPut_pairs {d : Addr} {kvs : List (K × Value)} {k : K} {key v : Value} {Q : Unit → Shared → Prop} (hkey : knd.is k key = true) (hm : s.heap.DictOf knd d kvs)
    (hQ : ∀ h', h'.DictOf knd d (stored kvs k v) → Heap.SameBut d s.heap h' → Q () { s with heap := h' })
    (hsz : kvs.length ≤ sizeLine := by size_fits) :
    wpAny (model prog w) A (dictPut d (knd.hash k) key v) Q E s := by
  obtain ⟨o, es, ep, ho, hc, hd, hk, hp, hn⟩ := hm
  have hes : es.size ≤ sizeLine := by have e1 := hp.length; have e2 : es.toList.length = es.size := by simp
                                      omega
  unfold dictPut
  refine wpAny_bind (wpAny_dictFind_of hkey ho hd hk ?_)
  have hidx : (es.findIdx? fun e => knd.is k e.key) = kvs.findIdx? fun kv => decide (kv.1 = k) := by
    rw [← hp.findIdx k]; obtain ⟨l⟩ := es; simp
  cases hi : es.findIdx? fun e => knd.is k e.key with
  | some i =>
    refine wpAny_updateDict ho hd (hQ _ ⟨_, _, ep, Heap.get?_update_self _ ho (Obj.isFreed_of_dict (Obj.data_mapDict hd _)),
      hc.mapDict _, Obj.data_mapDict hd _, hk.modify _ _, ?_, ?_⟩ (Heap.SameBut.update ..))
    · rw [stored, if_pos (any_of_findIdx_some (hidx ▸ hi))]
      have hl : (es.toList.findIdx? fun e => knd.is k e.key) = some i := by rw [← hi]; obtain ⟨l⟩ := es; simp
      have := hp.modify hn hl v
      obtain ⟨l⟩ := es
      simpa using this
    · rw [stored, if_pos (any_of_findIdx_some (hidx ▸ hi)), keys_map_store]; exact hn
  | none =>
    have hnot : k ∉ kvs.map (·.1) := not_mem_of_findIdx_none (hidx ▸ hi)
    have hany : ¬ (kvs.any fun kv => decide (kv.1 = k)) = true := by
      rw [List.any_eq_true]; rintro ⟨kv, hkv, he⟩
      exact hnot (List.mem_map.mpr ⟨kv, hkv, of_decide_eq_true he⟩)
    refine wpAny_updateDictKeys (hz := hes) ho hd (hQ _ ⟨_, _, ep + 1, Heap.get?_update_self _ ho (Obj.isFreed_of_dict (Obj.data_mapDictKeys hd _)),
      hc.mapDictKeys _, Obj.data_mapDictKeys hd _, hk.push hkey _, ?_, ?_⟩ (Heap.SameBut.update ..))
    · rw [stored, if_neg hany]
      have := hp.append hkey (knd.hash k) v
      obtain ⟨l⟩ := es
      simpa using this
    · rw [stored, if_neg hany, List.map_append, List.nodup_append]
      refine ⟨hn, by simp, ?_⟩
      intro a ha b hb
      simp only [List.map_cons, List.map_nil, List.mem_singleton] at hb
      subst hb
      exact fun e => hnot (e ▸ ha)
theorem merge_mapping {d o : Addr} {kvs more : List (K × Value)} {Q : Unit → Shared → Prop} (hdo : d ≠ o) (hoS : (o == sysModules) = false)
    (hd : s.heap.DictOf knd d kvs) (ho : s.heap.DictOf knd o more) (hnr : ∀ (k : K) (b : Addr), knd.is k (.ref b) = false)
    (hQ : ∀ h', h'.DictOf knd d (merged kvs more) → h'.DictOf knd o more → Heap.SameBut d s.heap h' → Q () { s with heap := h' })
    (hsz : kvs.length + more.length ≤ sizeLine := by size_fits) :
    wpAny (model prog w) A (mergeMapping d (.ref o) false) Q E s := by
  obtain ⟨od, esd, epd, hod, hcd, hdd, hkd, hpd, hnd⟩ := id hd
  obtain ⟨oo, eso, epo, hoo, hco, hdo', hko, hpo, hno⟩ := id ho
  unfold mergeMapping
  have hlen : more.length = eso.size := by rw [← hpo.length]; simp
  refine wpAny_bind (wpAny_isInstance ho.typeIs isSubtype_dict_dict ?_)
  rw [if_pos rfl]
  refine wpAny_bind (wpAny_specialOf ho.typeIs F.slot_dict_iter.lookup (wpAny_bind (wpAny_pure ?_)))
  simp only [beq_self_eq_true]
  rw [if_neg (by rw [hoS]; exact Bool.false_ne_true)]
  have loop : wpAny (model prog w) A (do
      let l ← dictEntries o
      let epoch ← dictEpoch o
      forIn (List.range l.size) PUnit.unit fun i (_ : PUnit) => (do
          let l' ← dictEntries o
          match l'[i]? with
            | some e => do
              holding [e.key, e.val] (dictPut d e.hash e.key e.val)
              let ep' ← dictEpoch o
              if (ep' != epoch) = true then do
                  (unsupported "dict.changed-during-merge" : Sem PUnit)
                  pure (ForInStep.yield PUnit.unit)
                else pure (ForInStep.yield PUnit.unit)
            | _ => do
              (unsupported "dict.changed-during-merge" : Sem PUnit)
              pure (ForInStep.yield PUnit.unit) : Sem (ForInStep PUnit))
      pure ()) Q E s := by
    refine wpAny_bind (wpAny_dictEntries hoo hdo' ?_)
    refine wpAny_bind (wpAny_dictEpoch hoo hdo' ?_)
    refine wpAny_bind ?_
    rw [List.range_eq_range']
    refine wpAny_forIn_list _
      (fun rest _ s' => ∃ h' i, s' = { s with heap := h' } ∧ rest = List.range' i (eso.size - i) ∧ i ≤ eso.size ∧ h'.DictOf knd d (merged kvs (more.take i)) ∧ h'.get? o = some oo ∧ Heap.SameBut d s.heap h')
      _ ?_ ?_ _ _ ⟨s.heap, 0, rfl, by simp, Nat.zero_le _, by simpa [merged] using hd, hoo, Heap.SameBut.refl _ _⟩
    · rintro x rest b s' ⟨h', i, rfl, hr, hi, hd', hoo', hs'⟩
      have hlt : i < eso.size := by
        rcases Nat.lt_or_ge i eso.size with h | h
        · exact h
        · rw [Nat.sub_eq_zero_of_le h] at hr; simp at hr
      obtain ⟨rfl, hrest⟩ : x = i ∧ rest = List.range' (i + 1) (eso.size - (i + 1)) := by
        have e : eso.size - i = (eso.size - (i + 1)) + 1 := by omega
        rw [e, List.range'_succ] at hr
        injection hr with h1 h2
        exact ⟨h1, h2⟩
      refine wpAny_bind (wpAny_dictEntries hoo' hdo' ?_)
      rw [Array.getElem?_eq_getElem hlt]
      obtain ⟨kv, hkv⟩ : ∃ kv, more[x]? = some kv := ⟨more[x]'(by rw [hlen]; exact hlt), List.getElem?_eq_getElem _⟩
      obtain ⟨k, v⟩ := kv
      obtain ⟨hkey, hval⟩ := hpo.get? (e := eso[x]) (by simp [hlt]) hkv
      obtain ⟨k', hkey', hhash⟩ := hko eso[x] (Array.getElem_mem hlt)
      obtain rfl : k' = k := knd.inj _ _ _ hkey' hkey
      show wpAny _ _ (holding [eso[x].key, eso[x].val] (dictPut d eso[x].hash eso[x].key eso[x].val) >>= _) _ _ _
      rw [hhash, hval]
      have hmx : (merged kvs (more.take x)).length ≤ sizeLine := by
        have e1 := merged_length_le kvs (more.take x)
        have e2 : (more.take x).length ≤ more.length := by rw [List.length_take]; omega
        omega
      refine wpAny_bind (wpAny_holding (dictPut_pairs (hsz := hmx) hkey hd' fun h'' hd'' hs'' => ?_))
      have hoo'' : h''.get? o = some oo := (hs''.2 o (Ne.symm hdo)).trans hoo'
      refine wpAny_bind (wpAny_dictEpoch hoo'' hdo' ?_)
      rw [if_neg (by simp)]
      exact wpAny_pure ⟨h'', x + 1, rfl, hrest, hlt, by rw [merged_take_succ kvs more x (k', v) hkv]; exact hd'', hoo'', hs'.trans hs''⟩
    · rintro b s' ⟨h', i, rfl, hr, hi, hd', hoo', hs'⟩
      have hin : i = eso.size := by
        rcases Nat.lt_or_ge i eso.size with h | h
        · have e : eso.size - i = (eso.size - (i + 1)) + 1 := by omega
          rw [e, List.range'_succ] at hr; exact nomatch hr
        · exact Nat.le_antisymm hi h
      refine wpAny_pure (hQ h' ?_ ⟨oo, eso, epo, hoo', hco, hdo', hko, hpo, hno⟩ hs')
      rw [hin, ← hlen, List.take_length] at hd'; exact hd'
  refine wpAny_bind (wpAny_dictEntries hod hdd ?_)
  split
  · refine wpAny_bind (wpAny_dictEntries hoo hdo' ?_)
    refine wpAny_bind ?_
    rw [← Array.forIn_toList]
    refine wpAny_forIn_list _ (fun rest _ s' => s' = s ∧ ∀ e ∈ rest, e ∈ eso.toList) _ ?_ ?_ _ _ ⟨rfl, fun e he => he⟩
    · rintro x rest b s' ⟨rfl, hr⟩
      have hx := hr x (by simp)
      obtain ⟨k', hkey', _⟩ := hko x (by simpa using hx)
      split
      · rename_i a ha
        rw [ha, hnr] at hkey'
        exact nomatch hkey'
      · exact wpAny_pure ⟨rfl, fun e he => hr e (by simp [he])⟩
    · rintro b s' ⟨rfl, _⟩
      exact loop
  · exact loop
theorem disp_two {v1 v2 : Sem Value} {Q : Value → Shared → Prop} (h : wpAny (model prog w) A v1 (fun m s1 => ∃ o1 more1, m = .ref o1 ∧ s.heap.objs.size ≠ o1 ∧ (o1 == sysModules) = false ∧ s1.heap.DictOf knd s.heap.objs.size [] ∧ s1.heap.DictOf knd o1 more1 ∧ more1.length ≤ sizeLine ∧
    ∀ h', h'.DictOf knd s.heap.objs.size (merged [] more1) → h'.DictOf knd o1 more1 → Heap.SameBut s.heap.objs.size s1.heap h' → wpAny (model prog w) A v2 (fun m2 s2 => ∃ o2 kvs more2, m2 = .ref o2 ∧ s.heap.objs.size ≠ o2 ∧ (o2 == sysModules) = false ∧ s2.heap.DictOf knd s.heap.objs.size kvs ∧ s2.heap.DictOf knd o2 more2 ∧ kvs.length + more2.length ≤ sizeLine ∧
    ∀ h'', h''.DictOf knd s.heap.objs.size (merged kvs more2) → h''.DictOf knd o2 more2 → Heap.SameBut s.heap.objs.size s2.heap h'' → Q (.ref s.heap.objs.size) { s2 with heap := h'' }) E { s1 with heap := h' }) E { s with heap := s.heap.push { cls := .type "dict", data := .dict #[] } }) (hnr : ∀ (k : K) (b : Addr), knd.is k (.ref b) = false) : wpAny (model prog w) A (dictDisplay [(none, v1), (none, v2)]) Q E s := by
  unfold dictDisplay
  simp only [List.forIn_cons, List.forIn_nil, List.isEmpty_nil, if_true, pure_bind, bind_assoc]
  refine wpAny_bind (wpAny_alloc (wpAny_bind (wpAny_holding ?_)))
  refine wpAny_mono h (fun m s1 h1 => ?_) fun _ _ e => e
  obtain ⟨o1, more1, rfl, n1, y1, d1, t1, z1, h1⟩ := h1
  refine wpAny_bind (wpAny_onRaise (wpAny_tryCatch (wpAny_onRaise (wpAny_holding (merge_mapping (knd := knd) n1 y1 d1 t1 hnr (fun h' e1 e2 e3 => ?_) (by rw [List.length_nil, Nat.zero_add]; exact z1))))))
  refine wpAny_bind (wpAny_holding (wpAny_mono (h1 h' e1 e2 e3) (fun m s2 h2 => ?_) fun _ _ e => e))
  obtain ⟨o2, kvs, more2, rfl, n2, y2, d2, t2, z2, h2⟩ := h2
  refine wpAny_bind (wpAny_onRaise (wpAny_tryCatch (wpAny_onRaise (wpAny_holding (merge_mapping (knd := knd) n2 y2 d2 t2 hnr (fun h'' e1 e2 e3 => ?_) z2)))))
  exact wpAny_pure (h2 h'' e1 e2 e3)
end
/-! ### {**a, **b} -/
def tMrg2 (td te : TE) : TE := fun σ H Q => ∀ p, H p = none → td σ (upd H p (.dK [])) fun x H1 => ∃ (a : Addr) (m1 : List (Key × V)), x = .ref a ∧ p ≠ a ∧ H1 p = some (.dK []) ∧ H1 a = some (.dK m1) ∧ m1.length ≤ 100000 ∧
  te σ (upd H1 p (.dK (mergeK [] m1))) fun y H2 => ∃ (b : Addr) (kvs m2 : List (Key × V)), y = .ref b ∧ p ≠ b ∧ H2 p = some (.dK kvs) ∧ H2 b = some (.dK m2) ∧ kvs.length + m2.length ≤ 100000 ∧ Q (.ref p) (upd H2 p (.dK (mergeK kvs m2)))
theorem mix_nref {P : Program} {w : World} : ∀ (k : Key) (b : Addr), (mixKind P w).is k (.ref b) = false := fun k b => by cases k <;> rfl
theorem pe_mrg2 {X : Cx} {e1 e2 : Expr} {pos : Pos} {td te : TE} (h1 : PE X e1 td) (h2 : PE X e2 te) : PE X (.Dict [none, none] [e1, e2] pos) (tMrg2 td te) := by
  refine ⟨fun pins s σ H Q I q => ?_⟩
  have hn := I.hok.fresh (Nat.le_refl s.heap.objs.size)
  have I1 := I.laid (a := s.heap.objs.size) (o := .dK []) (h' := s.heap.push { cls := .type "dict", data := .dict #[] }) (t' := s.toks) (fun _ _ q => Heap.get?_push_of_some _ q) (Nat.le_refl _) (dk_empty s.heap I.big)
  rw [arm_eval_Dict]
  refine wpAny_bind (wpAny_standAt ?_)
  show wpAny _ _ (dictDisplay [(none, do let x ← eval e1 X.env; standAt pos; pure x), (none, do let x ← eval e2 X.env; standAt pos; pure x)]) _ _ s
  refine disp_two (knd := mixKind X.prog X.w) (wpAny_bind (thn (h1.run pins _ σ _ _ I1 (q _ hn)) fun u s1 ⟨x, H1, I2, rx, a, m1, ex, hpa, hp, ha, hl, q1⟩ => wpAny_bind (wpAny_standAt (wpAny_pure ?_)))) mix_nref
  subst ex
  cases (show u = Value.ref a from rx)
  obtain ⟨zp, hdp, vp, rp, dp⟩ := dk_of I2.hok hp
  obtain ⟨za, hda, va, ra, da⟩ := dk_of I2.hok ha
  cases rp
  have la := Paired.length ra
  refine ⟨a, va, rfl, hpa, hda, dp, da, by rw [← la]; exact za, fun h' d1 d2 hs => ?_⟩
  have hm1 : (mergeK [] m1).length ≤ sizeLine := Nat.le_trans (length_mergeK m1 []) (by rw [List.length_nil, Nat.zero_add]; exact sz_of hl)
  have he' : ∃ q, h'.get? s.heap.objs.size = some q := let ⟨q, _, _, hq, _⟩ := d1; ⟨q, hq⟩
  have I3 := d_write (t' := s1.toks) I2 (by rw [hp]; exact True.intro) hs he' (dk_new hm1 hdp (ra.merge .nil) d1)
  refine wpAny_bind (thn (h2.run pins _ σ _ _ I3 q1) fun u s2 ⟨y, H2, I4, ry, b, kvs, m2, ey, hpb, hp2, hb, hl2, q2⟩ => wpAny_bind (wpAny_standAt (wpAny_pure ?_)))
  subst ey
  cases (show u = Value.ref b from ry)
  obtain ⟨zp2, hdp2, vp2, rp2, dp2⟩ := dk_of I4.hok hp2
  obtain ⟨zb, hdb, vb, rb, db⟩ := dk_of I4.hok hb
  have lp := Paired.length rp2
  have lb := Paired.length rb
  refine ⟨b, vp2, vb, rfl, hpb, hdb, dp2, db, by rw [← lp, ← lb]; exact sz_of hl2, fun h'' d1 d2 hs => ?_⟩
  have hm2 : (mergeK kvs m2).length ≤ sizeLine := Nat.le_trans (length_mergeK m2 kvs) (sz_of hl2)
  have he'' : ∃ q, h''.get? s.heap.objs.size = some q := let ⟨q, _, _, hq, _⟩ := d1; ⟨q, hq⟩
  exact ⟨.ref s.heap.objs.size, _, d_write I4 (by rw [hp2]; exact True.intro) hs he'' (dk_new hm2 hdp2 (rb.merge rp2) d1), rfl, q2⟩
theorem r_mrg2 {td te : TE} {σ : L2.St} {H : Hp} {Q : VK} (h : ∀ p, H p = none → td σ (upd H p (.dK [])) fun x H1 => ∃ (a : Addr) (m1 : List (Key × V)), x = .ref a ∧ p ≠ a ∧ H1 p = some (.dK []) ∧ H1 a = some (.dK m1) ∧ m1.length ≤ 100000 ∧
  te σ (upd H1 p (.dK (mergeK [] m1))) fun y H2 => ∃ (b : Addr) (kvs m2 : List (Key × V)), y = .ref b ∧ p ≠ b ∧ H2 p = some (.dK kvs) ∧ H2 b = some (.dK m2) ∧ kvs.length + m2.length ≤ 100000 ∧ Q (.ref p) (upd H2 p (.dK (mergeK kvs m2)))) : tMrg2 td te σ H Q := h
/-! ### x in a tuple, deep -/
theorem un65 {k : Nat} {A : Around} (r : Room k A) : A.units + 65 < cLine := by have := r.un; omega
def rInDT (K : PySem.W.Frag) : R2 := fun x y H Q => ∃ d ds, Dp K H x d ∧ Dp K H y (.tuple ds) ∧ SeqAt.shaped d = true ∧ SeqAt.shaped (.tuple ds) = true ∧ Q (.bl (ds.any fun z => PyData.eqv z d)) H
theorem op_inDT {X : Cx} (hu : X.A.units + 65 < cLine) : OpR X (compareOp .In) (rInDT X.K) := by
  intro pins s σ H x y v u Q I rx ry h
  obtain ⟨d, ds, hd, he, sd, se, q⟩ := h
  obtain ⟨as, r1⟩ := Dp.reads I d x v hd rx
  obtain ⟨bs, r2⟩ := Dp.reads I (.tuple ds) y u he ry
  exact SeqAt.in_tuple_reads r2 r1 (SeqAt.canLay_of_shaped se) (SeqAt.canLay_of_shaped sd) (room_in_shaped sd hu) ⟨.bl _, H, I, rfl, q⟩
theorem ev_inDT {K : PySem.W.Frag} {σ : L2.St} {H : Hp} {ta tb : TE} {d : D} {ds : List D} (ha : EvD ta σ H d) (hb : EvD tb σ H (.tup ds)) (sd : SeqAt.shaped (pyD d) = true) (se : SeqAt.shaped (pyD (.tup ds)) = true) : Ev (tOp (rInDT K) ta tb) σ H (.bl ((pyDL ds).any fun z => PyData.eqv z (pyD d))) := fun H1 e1 Q q =>
  ha H1 e1 _ fun x H2 e2 r1 => hb H2 (e1.trans e2) _ fun y H3 e3 r2 => ⟨pyD d, pyDL ds, dp_of (r1.mono e3), by
    have := dp_of (K := K) r2
    rw [pyD] at this
    exact this, sd, by rw [pyD] at se; exact se, q H3 (e2.trans e3)⟩
/-! ### a range as a value, and walked -/
def rRange1 : List V → Hp → VK → Prop := fun vs H Q => ∃ i, vs = [V.int i] ∧ ∀ p, H p = none → Q (.ref p) (upd H p (.rng 0 i))
theorem cr_range1 {X : Cx} : CallR X (.type "range") rRange1 := by
  intro pins s σ H vs us Q I r h
  obtain ⟨i, rfl, q⟩ := h
  obtain ⟨u1, rfl, ri⟩ := vals1 r
  obtain ⟨t, rfl⟩ := ri
  refine call_range_1 ⟨.ref s.heap.objs.size, upd H s.heap.objs.size (.rng 0 i), I.laid (t' := s.toks + 2) (fun b o e => Heap.get?_push_of_some _ e) (Nat.le_refl _) ?_, rfl, q _ (I.hok.fresh (Nat.le_refl _))⟩
  exact ⟨_, _, _, Heap.get?_push_size _ rfl⟩
def iRng (te : TE) : TI := fun σ H R => te σ H fun x H1 => ∃ (a : Addr) (n : Int), x = .ref a ∧ H1 a = some (.rng 0 n) ∧ -(2 ^ 62) ≤ n ∧ n < 2 ^ 62 ∧ R (Itr 0 n.toNat) H1
theorem pi_rng {X : Cx} {tg e : Expr} {te : TE} (he : PE X e te) : PI X tg e (iRng te) := by
  refine ⟨fun pins s σ H R I h => ?_⟩
  refine thn (he.run pins s σ H _ I h) fun v s1 ⟨x, H1, I1, r1, q1⟩ => ?_
  obtain ⟨a, n, e, ha, h1, h2, q⟩ := q1
  subst e
  cases r1
  obtain ⟨t1, t2, t3, ho⟩ := I1.hok a _ ha
  refine wpAny_pyIter_range (show IsRange s1.heap a 0 n 1 t1 t2 t3 from ho) (small_one (by omega) (by omega) h1 h2) ?_
  refine ⟨s1.heap.objs.size, [s1.heap.objs.size], _, _, H1, rfl, I1.kept (t' := s1.toks) fun b o e => Heap.get?_push_of_some _ e, turn_range _ 0 n.toNat, ?_, fun b hb => ?_, q⟩
  · have e1 : (0 : Int) + ((0 : Nat) : Int) * 1 = 0 := by simp
    have e2 : ((n.toNat : Nat) : Int) - ((0 : Nat) : Int) = Builtin.Range.rangeSize 0 n 1 := by rw [rangeSize_one]; split <;> omega
    show IsRangeIter _ _ ((0 : Int) + ((0 : Nat) : Int) * 1) (((n.toNat : Nat) : Int) - ((0 : Nat) : Int)) 1
    rw [e1, e2]
    exact Heap.get?_push_size _ rfl
  · have e : b = s1.heap.objs.size := by simpa using hb
    subst e
    exact I1.fpOk (Nat.le_refl _) (I1.hok.fresh (Nat.le_refl _))
end My

set_option Elab.async false
set_option linter.all false
set_option maxRecDepth 100000
set_option maxHeartbeats 3200000
/-! set(xs) of a list of ints, as a rule. -/
namespace My
open PySem PySem.Spec PyProof.Rows L2 Evl
section
variable {P : Program} {w : World} {A : Around} {E : Value → Shared → Prop} {s : Shared}
/-- a set just made -/
def set0 (w : World) : Obj := { cls := .type "set", dict := none, data := .set #[] 0 (.fresh 0 0 (!w.params.followText "set-order")) }
theorem set_of_list {l : Addr} {items : Array Value} (ns : List Int) {Q : Value → Shared → Prop} (hh : A.handled = none) (hl : s.heap.IsList l items) (hit : IntsAre items.toList ns) (hb : ns.length + 1 < scanBound)
    (h : ∀ (h' : Heap) (tk c : Nat), SetR w h' s.heap.objs.size (fun j => decide (j ∈ ns)) c → c ≤ ns.length → (∀ b o, s.heap.get? b = some o → h'.get? b = some o) → Q (.ref s.heap.objs.size) { s with heap := h', toks := tk }) :
    wpAny (model P w) A (call (.type "set") [.ref l]) Q E s := by
  have hisz : items.size = ns.length := by
    have q := IntsAre.length hit
    rwa [Array.length_toList] at q
  have hz1 : (s.heap.push (set0 w)).objs.size = s.heap.objs.size + 1 := Heap.size_push ..
  have hS : (s.heap.push (set0 w)).get? s.heap.objs.size = some (set0 w) := Heap.get?_push_size _ rfl
  have hT : Shared.TypeIs { s with heap := s.heap.push (set0 w) } (.ref s.heap.objs.size) "set" := ⟨_, hS, rfl⟩
  have hlS : l < s.heap.objs.size := let ⟨_, e, _⟩ := hl; Heap.lt_size e
  have hneI : l ≠ (s.heap.push (set0 w)).objs.size := by rw [hz1]; exact Nat.ne_of_lt (Nat.lt_succ_of_lt hlS)
  have hSf : s.heap.objs.size ∉ [(s.heap.push (set0 w)).objs.size, l] := by
    simp only [List.mem_cons, List.not_mem_nil, or_false, not_or]
    exact ⟨by rw [hz1]; exact Nat.ne_of_lt (Nat.lt_succ_self _), Nat.ne_of_gt hlS⟩
  have hval : ∀ (i : Nat) (v : Value), items[i]? = some v → ∃ k t, ns[i]? = some k ∧ v = .int k t := fun i v hv => by
    have hi : i < ns.length := by rw [← hisz]; exact (Array.getElem?_eq_some_iff.mp hv).1
    obtain ⟨t, e⟩ := IntsAre.int_at hit i v (by rw [Array.getElem?_toList]; exact hv)
    refine ⟨ns[i], t, List.getElem?_eq_getElem hi, ?_⟩
    rw [e, List.getD_eq_getElem?_getD, List.getElem?_eq_getElem hi] <;> rfl
  obtain ⟨c, tl, hmro⟩ := F.called_set.mro
  have hmade := F.called_set.made
  have hsub := F.called_set.sub
  refine wpAny_call (codeAny_of_tree ?_)
  show wpAny _ _ (callAny (.type "set") _) _ _ _
  refine wpAny_pure ⟨Code.quiet_builtin _ (by decide +kernel), codeAny_builtin F.entry_type_call ?_⟩
  rw [Around.under_plain (weight_type_call_type "set" [.ref l] []) rfl]
  have h1 := F.called_set.notType
  have h2 := F.called_set.canCreate
  have hct := F.typeCall_set_1 (.ref l)
  repeat (any_goals (first | assumption | wp_step))
  refine codeAny_mono (code_set_led1 (.ref l) (E := E) (Q₁ := fun obj s₁ => obj = .ref s.heap.objs.size ∧ s₁ = { s with heap := s.heap.push (set0 w) }) ⟨rfl, rfl⟩) fun r s₁ hr => ?_
  cases r with
  | error e => exact hr
  | ok fl =>
    cases fl with
    | ret obj =>
      obtain ⟨rfl, rfl⟩ := hr
      have hli := F.called_set.init.lookup
      have hbi := F.called_set.init.bind (.ref s.heap.objs.size)
      repeat (any_goals (first | assumption | wp_step))
      refine codeAny_mono (codeAny_call_builtin (R := wants (fun r s₂ => r = .none ∧ ∃ h' tk c, s₂ = { s with heap := h', toks := tk } ∧ SetR w h' s.heap.objs.size (fun j => decide (j ∈ ns)) c ∧ c ≤ ns.length ∧
          (∀ b o, s.heap.get? b = some o → h'.get? b = some o)) E) F.called_set.init.plain F.entry_set_init (check_set_init_1 hT ?_)) fun r₂ s₂ hr₂ => ?_
      · obtain ⟨⟨ocls, odict, odata, oslots⟩, hol, hcl, nl, hdl⟩ := hl
        simp only at hcl hdl
        subst hcl; subst hdl
        have hol' : (s.heap.push (set0 w)).get? l = some { cls := .type "list", dict := odict, data := .seq items nl, slots := oslots } := Heap.get?_push_of_some _ hol
        have hsls := F.sub_list_set
        have hslf := F.sub_list_frozenset
        have hne : (Value.type "list" == Value.type "dict") = false := by decide
        have hl1 : (s.heap.push (set0 w)).IsList l items := ⟨_, hol', rfl, nl, rfl⟩
        unfold set0 at hS hT hol' hl1 hneI hSf hz1 ⊢
        unfold Builtin.«set.__init__» noKeywords Builtin.Frozenset.updateFrom
        generalize hPI : pyIter = PI
        wp_walk
        subst hPI
        refine wpAny_pyIter_list hl1 (wpAny_bind (wpAny_runValue ?_))
        refine set_update_ints ((Walks.list (show A.in1.in1.in1.handled = none by simp [hh]) _ l hneI items).toS) s.heap.objs.size hSf ns hisz hb hval (items.size - 0) 0 _ (by omega) (Nat.zero_le _) ⟨⟨_, Heap.get?_push_size _ rfl, rfl, rfl⟩, (hl1.push _)⟩ ⟨0, Nat.le_refl 0, setR_new_at (Heap.get?_push_of_some _ hS)⟩ ?_
        rintro ⟨h', g2, d', tk', os'⟩ c' hm hc' hS'
        have eg : g2 = s.gens := hm.gens
        have ed : d' = s.drawn := hm.drawn
        have eo : os' = s.os := hm.os
        subst eg; subst ed; subst eo
        show wpAny _ _ _ _ _ _
        refine wpAny_pure ?_
        show wpAny _ _ (ret Value.none) _ _ _
        rw [hisz] at hc'
        refine wpAny_pure ⟨rfl, h', tk', c', rfl, hS', hc', fun b o e => ?_⟩
        have hb0 : b < s.heap.objs.size := Heap.lt_size e
        exact hm.heap b o (by simp only [List.mem_cons, List.not_mem_nil, or_false, not_or]; exact ⟨Nat.ne_of_lt hb0, by rw [hz1]; exact Nat.ne_of_lt (Nat.lt_succ_of_lt hb0)⟩) (Heap.get?_push_of_some _ (Heap.get?_push_of_some _ e))
      · cases r₂ with
        | error e => exact hr₂
        | ok fl₂ =>
          cases fl₂ with
          | ret r =>
            obtain ⟨rfl, h', tk, c', rfl, hS', hc', hk'⟩ := hr₂
            repeat (any_goals (first | assumption | wp_step))
            exact h _ _ _ hS' hc' hk'
          | _ => exact hr₂.elim
    | _ => exact hr.elim
end
def rSetOfI (K : PySem.W.Frag) (w : World) : List V → Hp → VK → Prop := fun xs H Q => ∃ (l : Addr) (ns : List Int), xs = [V.ref l] ∧ SqL K H l (ns.map V.int) ∧ ns.length < 64 ∧ ∀ a c, H a = none → c ≤ ns.length → Q (.ref a) (upd H a (SetO w a (fun j => decide (j ∈ ns)) c))
theorem cr_setOfI {X : Cx} (hc : X.calm = true) : CallR X (.type "set") (rSetOfI X.K X.w) := by
  intro pins s σ H xs us Q I r h
  obtain ⟨l, ns, rfl, hl, hf, q⟩ := h
  rw [Vals.ref1 r]
  obtain ⟨its, rv, pl, hz⟩ := I.list hl
  have hn : H s.heap.objs.size = none := I.hok.fresh (Nat.le_refl _)
  refine set_of_list (P := X.prog) (w := X.w) ns (I.ok.hd hc) pl.isList (ints_of_vals rv) (by unfold scanBound; omega) fun h' tk c R hle k => ?_
  exact ⟨.ref s.heap.objs.size, upd H s.heap.objs.size (SetO X.w s.heap.objs.size (fun j => decide (j ∈ ns)) c), I.laid (t' := tk) k (Nat.le_refl _) (setO_new R), rfl, q _ c hn hle⟩
end My

set_option Elab.async false
set_option linter.all false
set_option maxRecDepth 100000
set_option maxHeartbeats 2000000
/-! min(t), max(t) of a tuple of two ints. -/
namespace My
open PySem PySem.Spec PyProof.Rows L2 Evl
section
variable {prog : Program} {w : World} {A : Around} {E : Value → Shared → Prop} {s : Shared} {l : Addr} {xs : Array (Int × Tok)}
theorem iter_intTup {Q : Value → Shared → Prop} (hl : s.heap.IsTuple l (intItems xs))
    (h : ∀ s₂ : Shared, s₂ = { s with heap := s.heap.push { cls := .type "tuple_iterator", data := .fields #[.ref l, .int 0 0] } } → s₂.heap.IsTuple l (intItems xs) → (∀ b ∈ [s.heap.objs.size, l], b < s₂.heap.objs.size) → l ≠ s.heap.objs.size → Q (.ref s.heap.objs.size) s₂) :
    wpAny (model prog w) A (pyIter (.ref l)) Q E s := by
  have hlt : l < s.heap.objs.size := by obtain ⟨_, e, _⟩ := hl; exact Heap.lt_size e
  refine wpAny_pyIter_tuple hl (h _ rfl (hl.push _) (fun b hb => ?_) (Nat.ne_of_lt hlt))
  show b < (s.heap.push _).objs.size
  rw [Heap.size_push]
  rcases List.mem_cons.mp hb with rfl | hb
  · exact Nat.lt_succ_self _
  · rcases List.mem_cons.mp hb with rfl | hb
    · exact Nat.lt_succ_of_lt hlt
    · cases hb
theorem min_intTup {Q : Value → Shared → Prop} (hh : A.handled = none) (hl : s.heap.IsTuple l (intItems xs)) (hne : 0 < xs.size)
    (h : ∀ v h' tk, (intItems xs)[argBest (fun i j => decide (numAt xs i < numAt xs j)) (xs.size - 1)]? = some v → (∀ b o, s.heap.get? b = some o → h'.get? b = some o) → Q v { s with heap := h', toks := tk }) :
    wpAny (model prog w) A (call (.builtin "min") [.ref l]) Q E s := by
  refine call_min_walk (iter_intTup hl fun s₂ e hl2 hfp hlI => ?_)
  subst e
  refine ⟨_, _, _, _, _, _, _, rfl, Walks.tuple (A := A.in1) hh _ l hlI (intItems xs), ⟨⟨_, Heap.get?_push_size _ rfl, rfl, rfl⟩, hl2⟩, hfp, by simpa [intItems] using hne, CmpOf.ints_lt (numAt xs) (fun _ _ => intItems_at), fun v h' tk hP hk => ?_⟩
  refine h v h' tk (by simpa [intItems] using hP) fun b o e => hk b o (fun hm => ?_) (Heap.get?_push_of_some _ e)
  rcases List.mem_cons.mp hm with e1 | hm
  · exact absurd (e1 ▸ Heap.lt_size e) (Nat.lt_irrefl _)
  · cases hm
theorem max_intTup {Q : Value → Shared → Prop} (hh : A.handled = none) (hl : s.heap.IsTuple l (intItems xs)) (hne : 0 < xs.size)
    (h : ∀ v h' tk, (intItems xs)[argBest (fun i j => decide (numAt xs i > numAt xs j)) (xs.size - 1)]? = some v → (∀ b o, s.heap.get? b = some o → h'.get? b = some o) → Q v { s with heap := h', toks := tk }) :
    wpAny (model prog w) A (call (.builtin "max") [.ref l]) Q E s := by
  refine call_max_walk (iter_intTup hl fun s₂ e hl2 hfp hlI => ?_)
  subst e
  refine ⟨_, _, _, _, _, _, _, rfl, Walks.tuple (A := A.in1) hh _ l hlI (intItems xs), ⟨⟨_, Heap.get?_push_size _ rfl, rfl, rfl⟩, hl2⟩, hfp, by simpa [intItems] using hne, CmpOf.ints_gt (numAt xs) (fun _ _ => intItems_at), fun v h' tk hP hk => ?_⟩
  refine h v h' tk (by simpa [intItems] using hP) fun b o e => hk b o (fun hm => ?_) (Heap.get?_push_of_some _ e)
  rcases List.mem_cons.mp hm with e1 | hm
  · exact absurd (e1 ▸ Heap.lt_size e) (Nat.lt_irrefl _)
  · cases hm
end
def rMinT (K : PySem.W.Frag) : List V → Hp → VK → Prop := fun vs H Q => ∃ (a : Addr) (i j : Int), vs = [.ref a] ∧ SqT K H a [.int i, .int j] ∧ Q (.int (if j < i then j else i)) H
def rMaxT (K : PySem.W.Frag) : List V → Hp → VK → Prop := fun vs H Q => ∃ (a : Addr) (i j : Int), vs = [.ref a] ∧ SqT K H a [.int i, .int j] ∧ Q (.int (if j > i then j else i)) H
theorem cr_minT {X : Cx} (hc : X.calm = true) : CallR X (.builtin "min") (rMinT X.K) := by
  intro pins s σ H vs us Q I r h
  obtain ⟨a, i, j, rfl, ha, q⟩ := h
  rw [Vals.ref1 r]
  obtain ⟨its, rv, pt, hz⟩ := I.tuple ha
  obtain ⟨u1, u2, rfl, r1, r2⟩ := vals2 rv
  obtain ⟨t1, rfl⟩ := r1
  obtain ⟨t2, rfl⟩ := r2
  have ei : intItems #[(i, t1), (j, t2)] = #[.int i t1, .int j t2] := by simp [intItems]
  refine min_intTup (xs := #[(i, t1), (j, t2)]) (I.ok.hd hc) (by rw [ei]; exact pt) (by simp) fun v h' tk hv hk => ?_
  have e : (intItems #[(i, t1), (j, t2)])[argBest (fun p q => decide (numAt #[(i, t1), (j, t2)] p < numAt #[(i, t1), (j, t2)] q)) 1]? = some (if j < i then .int j t2 else .int i t1) := by
    by_cases hji : j < i
    · rw [if_pos hji]
      simp [argBest, numAt, intItems, hji]
    · rw [if_neg hji]
      simp [argBest, numAt, intItems, hji]
  have hv2 := hv.symm.trans e
  cases Option.some.inj hv2
  refine ⟨.int (if j < i then j else i), H, I.kept hk, ?_, q⟩
  by_cases hji : j < i
  · rw [if_pos hji, if_pos hji]; exact ⟨_, rfl⟩
  · rw [if_neg hji, if_neg hji]; exact ⟨_, rfl⟩
theorem cr_maxT {X : Cx} (hc : X.calm = true) : CallR X (.builtin "max") (rMaxT X.K) := by
  intro pins s σ H vs us Q I r h
  obtain ⟨a, i, j, rfl, ha, q⟩ := h
  rw [Vals.ref1 r]
  obtain ⟨its, rv, pt, hz⟩ := I.tuple ha
  obtain ⟨u1, u2, rfl, r1, r2⟩ := vals2 rv
  obtain ⟨t1, rfl⟩ := r1
  obtain ⟨t2, rfl⟩ := r2
  have ei : intItems #[(i, t1), (j, t2)] = #[.int i t1, .int j t2] := by simp [intItems]
  refine max_intTup (xs := #[(i, t1), (j, t2)]) (I.ok.hd hc) (by rw [ei]; exact pt) (by simp) fun v h' tk hv hk => ?_
  have e : (intItems #[(i, t1), (j, t2)])[argBest (fun p q => decide (numAt #[(i, t1), (j, t2)] p > numAt #[(i, t1), (j, t2)] q)) 1]? = some (if j > i then .int j t2 else .int i t1) := by
    by_cases hji : j > i
    · rw [if_pos hji]
      simp [argBest, numAt, intItems, hji]
    · rw [if_neg hji]
      simp [argBest, numAt, intItems, hji]
  have hv2 := hv.symm.trans e
  cases Option.some.inj hv2
  refine ⟨.int (if j > i then j else i), H, I.kept hk, ?_, q⟩
  by_cases hji : j > i
  · rw [if_pos hji, if_pos hji]; exact ⟨_, rfl⟩
  · rw [if_neg hji, if_neg hji]; exact ⟨_, rfl⟩
theorem ev_minT {K : PySem.W.Frag} {σ : L2.St} {H : Hp} {te : TE} {a : Addr} {i j : Nat} (h : Ev te σ H (.ref a)) (ha : SqT K H a [.int (i : Int), .int (j : Int)]) : Ev (tCB (rMinT K) (tCons te tNil)) σ H (.int ((min i j : Nat) : Int)) := fun H1 e Q q =>
  h H1 e _ fun H2 e2 => ⟨a, i, j, rfl, ex_t (e.trans e2) ha, by
    have : (if (j : Int) < (i : Int) then (j : Int) else (i : Int)) = ((min i j : Nat) : Int) := by split <;> omega
    rw [this]
    exact q H2 e2⟩
theorem ev_maxT {K : PySem.W.Frag} {σ : L2.St} {H : Hp} {te : TE} {a : Addr} {i j : Nat} (h : Ev te σ H (.ref a)) (ha : SqT K H a [.int (i : Int), .int (j : Int)]) : Ev (tCB (rMaxT K) (tCons te tNil)) σ H (.int ((max i j : Nat) : Int)) := fun H1 e Q q =>
  h H1 e _ fun H2 e2 => ⟨a, i, j, rfl, ex_t (e.trans e2) ha, by
    have : (if (j : Int) > (i : Int) then (j : Int) else (i : Int)) = ((max i j : Nat) : Int) := by split <;> omega
    rw [this]
    exact q H2 e2⟩
end My

set_option Elab.async false
set_option linter.all false
set_option maxRecDepth 100000
set_option maxHeartbeats 4000000
namespace K96
open PySem PySem.Spec PyProof.Rows L2 Evl My
def topS (i : Nat) : Stmt := PySem.Challenge.pw_lineage_k96_whole_nets_informed.main.body.getD i (.Pass ⟨0, 0, 0, 0⟩)
/-! nets as data -/
abbrev Pr := Nat × Nat
def prD (p : Pr) : D := .tup [.int (p.1 : Int), .int (p.2 : Int)]
def netD (n : Nat) (ws : List Pr) : D := .tup [.int (n : Int), .tup (ws.map prD)]
structure NetOk (n : Nat) (ws : List Pr) : Prop where
  n1 : 1 ≤ n
  n8 : n ≤ 8
  lt : ∀ p ∈ ws, p.1 < p.2 ∧ p.2 < n
  srt : ws.Pairwise fun p q => p.1 < q.1 ∨ (p.1 = q.1 ∧ p.2 < q.2)
  few : ws.length ≤ 64
def nearF (ws : List Pr) (h : Nat) : List Nat := (ws.filter fun p => decide (h = p.1 ∨ h = p.2)).map fun p => p.1 + p.2 - h
def adj (ws : List Pr) (i j : Nat) : Bool := decide ((min i j, max i j) ∈ ws)
theorem adj_comm (ws : List Pr) (i j : Nat) : adj ws i j = adj ws j i := by
  unfold adj
  rw [Nat.min_comm, Nat.max_comm]
theorem near_mem {n : Nat} {ws : List Pr} (hn : NetOk n ws) {h o : Nat} : o ∈ nearF ws h ↔ adj ws h o = true := by
  unfold nearF adj
  rw [List.mem_map, decide_eq_true_eq]
  constructor
  · rintro ⟨p, hp, rfl⟩
    obtain ⟨hp, hd⟩ := List.mem_filter.mp hp
    have hd := of_decide_eq_true hd
    have hl := (hn.lt p hp).1
    obtain ⟨a, b⟩ := p
    simp only at hd hl ⊢
    rcases hd with rfl | rfl
    · rw [show h + b - h = b by omega, Nat.min_eq_left (by omega), Nat.max_eq_right (by omega)]
      exact hp
    · rw [show a + h - h = a by omega, Nat.min_eq_right (by omega), Nat.max_eq_left (by omega)]
      exact hp
  · intro hp
    have hl := (hn.lt _ hp).1
    simp only at hl
    refine ⟨_, List.mem_filter.mpr ⟨hp, decide_eq_true ?_⟩, ?_⟩
    · simp only
      omega
    · simp only
      omega
theorem adj_lt {n : Nat} {ws : List Pr} (hn : NetOk n ws) {i j : Nat} (h : adj ws i j = true) : i < n ∧ j < n ∧ i ≠ j := by
  unfold adj at h
  have := hn.lt _ (of_decide_eq_true h)
  simp only at this
  omega
theorem near_len (ws : List Pr) (h : Nat) : (nearF ws h).length ≤ ws.length := by
  unfold nearF
  rw [List.length_map]
  exact List.length_filter_le _ _
/-! readings -/
theorem prd_at {H : Hp} {v : V} {p : Pr} (h : Rep H v (prD p)) : ∃ a, v = .ref a ∧ H a = some (.tup [.int (p.1 : Int), .int (p.2 : Int)]) := by
  unfold prD at h
  cases h with
  | tup ha rs => cases rs with
    | cons r0 rs => cases rs with
      | cons r1 rs =>
        cases rs
        cases r0
        cases r1
        exact ⟨_, rfl, ha⟩
theorem net_at {H : Hp} {v : V} {n : Nat} {ws : List Pr} (h : Rep H v (netD n ws)) : ∃ a b us, v = .ref a ∧ H a = some (.tup [.int (n : Int), .ref b]) ∧ H b = some (.tup us) ∧ Reps H us (ws.map prD) := by
  unfold netD at h
  cases h with
  | tup ha rs => cases rs with
    | cons r0 rs => cases rs with
      | cons r1 rs =>
        cases rs
        cases r0
        cases r1 with
        | tup hb rr => exact ⟨_, _, _, rfl, ha, hb, rr⟩
theorem nol_pr (p : Pr) : NoL (prD p) := by
  unfold prD
  simp [NoL, NoLL]
theorem nol_prs (ws : List Pr) : NoLL (ws.map prD) := nol_all fun x _ => nol_pr x
theorem nol_net (n : Nat) (ws : List Pr) : NoL (netD n ws) := by
  unfold netD
  rw [NoL, NoLL, NoLL, NoLL, NoL, NoL]
  exact ⟨trivial, nol_prs ws, trivial⟩
theorem inl_int {a b : Nat} : ((Sum.inl (a : Int) : Key) = Sum.inl (b : Int)) ↔ a = b := ⟨fun h => by have := Sum.inl.inj h; omega, fun h => by rw [h]⟩
theorem nats_mem {v : V} {xs : List Nat} (h : v ∈ nats xs) : ∃ k ∈ xs, v = .int (k : Int) := by
  obtain ⟨k, hk, rfl⟩ := List.mem_map.mp h
  exact ⟨k, hk, rfl⟩
theorem nats_get? {xs : List Nat} {i : Nat} {x : Nat} (h : xs[i]? = some x) : (nats xs)[i]? = some (.int (x : Int)) := by
  unfold nats
  rw [List.getElem?_map, h]
  rfl
theorem nats_get' {xs : List Nat} {i : Nat} {v : V} (h : (nats xs)[i]? = some v) : ∃ x, xs[i]? = some x ∧ v = .int (x : Int) := by
  unfold nats at h
  rw [List.getElem?_map] at h
  obtain ⟨x, hx, rfl⟩ := Option.map_eq_some_iff.mp h
  exact ⟨x, hx, rfl⟩
/-! a tree as a dict: each house, with whom it was come to from -/
def dkI (q : List Pr) : List (Key × V) := q.map fun p => (Sum.inl (p.1 : Int), V.int (p.2 : Int))
theorem dkI_is (h : Nat) : ∀ q : List Pr, (valV (dkI q) (.inl (h : Int))).isSome = decide (h ∈ q.map (·.1))
  | [] => rfl
  | p :: q => by
    show (valV ((Sum.inl (p.1 : Int), V.int (p.2 : Int)) :: dkI q) (Sum.inl (h : Int))).isSome = _
    by_cases e : p.1 = h
    · rw [valV_pos (p := ((Sum.inl (p.1 : Int) : Key), V.int (p.2 : Int))) (inl_int.mpr e), decide_eq_true (by rw [List.map_cons]; exact List.mem_cons.mpr (.inl e.symm))]
      rfl
    · rw [valV_neg (p := ((Sum.inl (p.1 : Int) : Key), V.int (p.2 : Int))) (fun z => e (inl_int.mp z)), dkI_is h q]
      refine decide_eq_decide.mpr ?_
      rw [List.map_cons, List.mem_cons]
      exact ⟨.inr, fun z => z.resolve_left fun z => e z.symm⟩
theorem dkI_get : ∀ {q : List Pr} {p : Pr}, (q.map (·.1)).Nodup → p ∈ q → valV (dkI q) (.inl (p.1 : Int)) = some (.int (p.2 : Int))
  | [], _, _, h => nomatch h
  | a :: q, p, hn, h => by
    show valV ((Sum.inl (a.1 : Int), V.int (a.2 : Int)) :: dkI q) (Sum.inl (p.1 : Int)) = _
    rw [List.map_cons, List.nodup_cons] at hn
    rcases List.mem_cons.mp h with rfl | h
    · rw [valV_pos (p := ((Sum.inl (p.1 : Int) : Key), V.int (p.2 : Int))) rfl]
    · have : ¬ a.1 = p.1 := fun e => hn.1 (by rw [e]; exact List.mem_map.mpr ⟨p, h, rfl⟩)
      rw [valV_neg (p := ((Sum.inl (a.1 : Int) : Key), V.int (a.2 : Int))) (fun z => this (inl_int.mp z))]
      exact dkI_get hn.2 h
theorem dkI_put {q : List Pr} {h p : Nat} (hn : h ∉ q.map (·.1)) : putK (dkI q) (.inl (h : Int)) (.int (p : Int)) = dkI (q ++ [(h, p)]) := by
  unfold putK
  rw [valV_any, dkI_is, decide_eq_false hn, if_neg (by decide)]
  unfold dkI
  rw [List.map_append]
  rfl
theorem dkI_len (q : List Pr) : (dkI q).length = q.length := List.length_map _
section
variable {K : PySem.W.Frag} {σ : L2.St} {H : Hp} {td ty te tl : TE} {tt : TT} {kvs : List (Key × V)} {d : Addr} {k : Key} {v : V} {D : Ends} {tz : TS}
theorem ev_dniK (h : Ev td σ H (.ref d)) (hd : H d = some (.dK kvs)) (hk : Ev ty σ H (kV k)) : Ev (tDNotIn ty td) σ H (.bl (!(valV kvs k).isSome)) := fun H1 e Q q =>
  hk H1 e _ fun H2 e2 => h H2 (e.trans e2) _ fun H3 e3 => ⟨d, _, rfl, DGet.k (((e.trans e2).trans e3) d _ hd), q H3 (e2.trans e3)⟩
theorem ev_dgetK (h : Ev td σ H (.ref d)) (hd : H d = some (.dK kvs)) (hk : Ev ty σ H (kV k)) (hv : valV kvs k = some v) : Ev (tDGet td ty) σ H v := fun H1 e Q q =>
  h H1 e _ fun H2 e2 => hk H2 (e.trans e2) _ fun H3 e3 => ⟨d, v, rfl, by rw [← hv]; exact DGet.k (((e.trans e2).trans e3) d _ hd), q H3 (e2.trans e3)⟩
theorem s_dputK (hd : H d = some (.dK kvs)) (hv : Ev te σ H v) (h : Ev td σ H (.ref d)) (hk : Ev ty σ H (kV k)) (hn : kvs.length < 100000) (q : ∀ H1, Ex H H1 → D.nx σ (upd H1 d (.dK (putK kvs k v)))) : sDPut td ty te D σ H :=
  hv H (Ex.refl H) _ fun H1 e1 => h H1 e1 _ fun H2 e2 => hk H2 (e1.trans e2) _ fun H3 e3 => ⟨d, _, rfl, DPut.k (((e1.trans e2).trans e3) d _ hd) (sz_lt hn), q H3 ((e1.trans e2).trans e3)⟩
theorem q_dputK (hd : H d = some (.dK kvs)) (hv : Ev te σ H v) (h : Ev td σ H (.ref d)) (hk : Ev ty σ H (kV k)) (hn : kvs.length < 100000) (q : ∀ H1, Ex H H1 → tz D σ (upd H1 d (.dK (putK kvs k v)))) : tSeq (sDPut td ty te) tz D σ H := s_dputK (D := { D with nx := tz D }) hd hv h hk hn q
theorem ev_natK {h : Nat} (hv : Ev ty σ H (.int (h : Int))) : Ev ty σ H (kV (.inl (h : Int))) := hv
/-- a comprehension over the pairs of a tuple -/
theorem el_lcPr {j1 j2 : Nat} {vs : List Nat} {a : Addr} {us : List V} {ps : List Pr} (fl : Pr → Bool) (g : Pr → V) (h : Ev tl σ H (.ref a)) (ha : H a = some (.tup us)) (hr : Reps H us (ps.map prD)) (hz : ps.length ≤ 1000) (hw : ∀ x y, wipe (((wipe σ vs).set j1 (some x)).set j2 (some y)) vs = wipe σ vs)
    (ht : ∀ q ∈ ps, ∀ H1, Ex H H1 → EvT tt (((wipe σ vs).set j1 (some (.int (q.1 : Int)))).set j2 (some (.int (q.2 : Int)))) H1 (fl q)) (he : ∀ q ∈ ps, fl q = true → ∀ H1, Ex H H1 → Ev te (((wipe σ vs).set j1 (some (.int (q.1 : Int)))).set j2 (some (.int (q.2 : Int)))) H1 (g q)) :
    EvL (tLc (iTup K tl) (gTup K 2 (gCons (gName j1) (gCons (gName j2) gNil))) tt te vs) σ H ((ps.filter fl).map g) := by
  intro H0 e Q q
  have hul := hr.len
  rw [List.length_map] at hul
  refine h H0 e _ fun H1 e1 => ?_
  have E1 := e.trans e1
  refine ⟨a, rfl, ⟨us, st_of (E1 _ _ ha)⟩, fun Dl hD => ?_⟩
  refine ⟨fun i m H' => m = us.length - i ∧ i ≤ us.length ∧ Ex H1 H' ∧ H' Dl = some (.lst (((ps.take i).filter fl).map g)), ⟨us.length, rfl, Nat.zero_le _, Ex.new hD, upd_same⟩, ?_⟩
  rintro i m H' ⟨rfl, hi, ex, hl⟩
  by_cases hlt : i < us.length
  · have gx : us[i]? = some us[i] := List.getElem?_eq_getElem hlt
    refine .inr ⟨⟨us, us[i], st_of (ex _ _ (E1 _ _ ha)), gx⟩, fun H' => Ex H1 H' ∧ H' Dl = some (.lst (((ps.take (i + 1)).filter fl).map g)), fun H2 p => ⟨us.length - (i + 1), by omega, rfl, hlt, p⟩, fun x H2 y => ?_⟩
    obtain ⟨rfl, y⟩ := y
    have ex' : x = us[i] := Option.some.inj ((y us (st_of (ex _ _ (E1 _ _ ha)))).symm.trans gx)
    subst ex'
    obtain ⟨dp, hdp, hrp⟩ := hr.get' gx
    rw [List.getElem?_map] at hdp
    obtain ⟨qq, hqq, rfl⟩ := Option.map_eq_some_iff.mp hdp
    obtain ⟨pa, hpe, hpa⟩ := prd_at hrp
    rw [hpe]
    have hq := List.mem_of_getElem? hqq
    have hln : (((ps.take i).filter fl).map g).length ≤ 1000 := by
      have h1 := List.length_filter_le fl (ps.take i)
      rw [List.length_take] at h1
      rw [List.length_map]
      omega
    have hnx : ((ps.take (i + 1)).filter fl).map g = ((ps.take i).filter fl).map g ++ (if fl qq = true then [g qq] else []) := by
      rw [List.take_add_one, hqq, List.filter_append, List.map_append]
      show _ ++ (List.filter fl [qq]).map g = _
      rw [List.filter_cons, List.filter_nil]
      split <;> rfl
    refine ⟨pa, _, rfl, st_of ((E1.trans ex) _ _ hpa), rfl, _, _, rfl, _, _, rfl, rfl, hw _ _, ?_⟩
    refine (ht qq hq _ (E1.trans ex)) _ (Ex.refl _) _ fun H4 e4 => ?_
    cases hb : fl qq with
    | true =>
      refine iteT ((he qq hq hb _ ((E1.trans ex).trans e4)) _ (Ex.refl _) _ fun H5 e5 => ⟨_, (e4.trans e5) _ _ hl, sz_lt (by omega), ((ex.trans e4).trans e5).mut hD, ?_⟩)
      rw [upd_same, hnx, hb, if_pos rfl]
    | false =>
      refine iteF ⟨ex.trans e4, ?_⟩
      rw [hnx, hb, if_neg (by decide), List.append_nil]
      exact e4 _ _ hl
  · have e0 : i = us.length := by omega
    subst e0
    rw [List.take_of_length_le (by omega)] at hl
    exact .inl ⟨⟨us, st_of (ex _ _ (E1 _ _ ha)), Nat.le_refl _⟩, q Dl _ (fresh_back e1 hD) (e1.trans ex) hl⟩
/-- a dict comprehension over a list that stands -/
theorem r_dcL {Q : VK} {g : TG} {tk tv : TE} {vs : List Nat} {a : Addr} {xs : List V} (hl : Ev tl σ H (.ref a)) (hS : SqL K H a xs) (Pv : Hp → Addr → Nat → Hp → Prop) (h0 : ∀ H1 D, Ex H H1 → H1 D = none → Pv H1 D 0 (upd H1 D (.dK []))) (hs0 : ∀ H1 D i H', Pv H1 D i H' → Ex H1 H')
    (hs : ∀ H1 D, Ex H H1 → H1 D = none → ∀ i x H', xs[i]? = some x → Pv H1 D i H' → g x (wipe σ vs) H' fun σ2 H2 => wipe σ2 vs = wipe σ vs ∧ tt σ2 H2 fun b H3 =>
      if b = true then tk σ2 H3 fun y H4 => tv σ2 H4 fun z H5 => ∃ kvs k, y = kV k ∧ H5 D = some (.dK kvs) ∧ kvs.length < sizeLine ∧ Pv H1 D (i + 1) (upd H5 D (.dK (putK kvs k z))) else Pv H1 D (i + 1) H3) (hd : ∀ H1 D H', Ex H H1 → H1 D = none → Pv H1 D xs.length H' → Q (.ref D) H') : tDc (iList K tl) g tt tk tv vs σ H Q :=
  hl H (Ex.refl H) _ fun H1 e1 => ⟨a, rfl, ⟨xs, ex_l e1 hS⟩, fun D hD => by
    refine ⟨fun i m H' => m = xs.length - i ∧ i ≤ xs.length ∧ Pv H1 D i H', ⟨xs.length, rfl, Nat.zero_le _, h0 H1 D e1 hD⟩, ?_⟩
    rintro i m H' ⟨rfl, hi, p⟩
    have S : SqL K H' a xs := ex_l (e1.trans (hs0 H1 D i H' p)) hS
    by_cases hlt : i < xs.length
    · have gx : xs[i]? = some xs[i] := List.getElem?_eq_getElem hlt
      refine .inr ⟨⟨xs, xs[i], S, gx⟩, Pv H1 D (i + 1), fun H2 pp => ⟨xs.length - (i + 1), by omega, rfl, hlt, pp⟩, fun x H2 y => ?_⟩
      obtain ⟨rfl, y⟩ := y
      have ex' : x = xs[i] := Option.some.inj ((y xs S).symm.trans gx)
      subst ex'
      exact hs H1 D e1 hD i _ _ gx p
    · have e0 : i = xs.length := by omega
      subst e0
      exact .inl ⟨⟨xs, S, Nat.le_refl _⟩, hd H1 D H' e1 hD p⟩⟩
end
theorem filt_true {α : Type} (l : List α) : l.filter (fun _ => true) = l := by
  rw [List.filter_eq_self]
  exact fun _ _ => rfl
end K96

set_option Elab.async false
set_option linter.all false
set_option maxRecDepth 100000
set_option maxHeartbeats 4000000
namespace K96
open PySem PySem.Spec PyProof.Rows L2 Evl My
/-! the tree that grows from roots -/
structure TreeOk (n : Nat) (ws : List Pr) (roots : List Nat) (q : List Pr) : Prop where
  nd : (q.map (·.1)).Nodup
  lt : ∀ p ∈ q, p.1 < n ∧ p.2 < n
  grow : ∃ rest, q = roots.map (fun r => (r, r)) ++ rest ∧ ∀ (i : Nat) (p : Pr), rest[i]? = some p → p.2 ∈ roots ++ (rest.take i).map (·.1) ∧ p.1 ∈ nearF ws p.2
  cl : ∀ p ∈ q, ∀ o ∈ nearF ws p.1, o ∈ q.map (·.1)
theorem nodup_lt {l : List Nat} {n : Nat} (h : l.Nodup) (hl : ∀ x ∈ l, x < n) : l.length ≤ n := by
  have : ∀ (n : Nat) (l : List Nat), l.Nodup → (∀ x ∈ l, x < n) → l.length ≤ n := by
    intro n
    induction n with
    | zero =>
      intro l _ h
      cases l with
      | nil => exact Nat.le_refl _
      | cons x r => exact absurd (h x (by simp)) (Nat.not_lt_zero _)
    | succ n ih =>
      intro l hn h
      have h1 := ih (l.filter (fun x => decide (x ≠ n))) (hn.filter _) fun x hx => by
        obtain ⟨h1, h2⟩ := List.mem_filter.mp hx
        have := of_decide_eq_true h2
        have := h x h1
        omega
      have h2 : l.length ≤ (l.filter (fun x => decide (x ≠ n))).length + 1 := by
        clear h h1
        induction l with
        | nil => exact Nat.zero_le _
        | cons x r ih2 =>
          rw [List.nodup_cons] at hn
          rw [List.filter_cons]
          by_cases e : x = n
          · subst e
            rw [decide_eq_false (by simp), if_neg (by decide)]
            have : r.filter (fun y => decide (y ≠ x)) = r := by
              rw [List.filter_eq_self]
              intro y hy
              exact decide_eq_true fun e => hn.1 (by rw [← e]; exact hy)
            rw [this]
            exact Nat.le_refl _
          · rw [decide_eq_true e, if_pos rfl, List.length_cons, List.length_cons]
            have := ih2 hn.2
            omega
      omega
  exact this n l h hl
theorem eqV_nat (a b : Nat) : eqV (.int (a : Int)) (.int (b : Int)) = decide (a = b) := by
  by_cases e : a = b
  · subst e
    rw [decide_eq_true rfl]
    simp [eqV]
  · have : ¬ (a : Int) = (b : Int) := by omega
    rw [decide_eq_false e]
    simp [eqV, this]
theorem reps_fst (H : Hp) : ∀ qs : List Pr, Reps H (nats (qs.map (·.1))) (qs.map fun p => D.int (p.1 : Int))
  | [] => .nil
  | p :: qs => .cons (.int _) (reps_fst H qs)
section
variable {P : Program} {w : World} {K : PySem.W.Frag} {mg : Str → Option Value} {base : Heap}
abbrev s_near : Stmt := topS 1
theorem sc_near : FnScope ["net", "house", "i", "j"] ["net", "house"] (defScope s_near) := ⟨rfl, rfl, rfl, by decide +kernel, rfl, by decide +kernel, by decide +kernel⟩
def ok_near (vs : List V) (H : Hp) (z : List V) : Prop := ∃ (v : V) (n h : Nat) (ws : List Pr), vs = [v, .int (h : Int)] ∧ Rep H v (netD n ws) ∧ NetOk n ws ∧ z = nats (nearF ws h)
theorem fn_near {f : Addr} {fd : FuncData} {k : Nat} (F : Fun K "near" "near" s_near f fd) (N : Nb mg) : FnOk P w K mg base CX0 (k + 1) f fd ["net", "house"] (spL ok_near) := by
  refine F.ok sc_near (fun vs H Q E h => ?_) (fun cdv A outer s H vs Q E hr h => ?_)
  · obtain ⟨_, ⟨_, _, _, _, rfl, _⟩, _⟩ := h
    rfl
  · obtain ⟨_, ⟨v, n, h, ws, rfl, hR, hn, hz⟩, q⟩ := h
    rw [hz] at q
    refine ⟨_, (pss_one (ps_ret (pe_lc (own := [("i", 2), ("j", 3)]) (by rfl) sc_near.nd (pi_tup (pe_ix ix_tup (pv 0) pe_int (fun _ _ => rfl))) (blkOk_by (own := [("i", 2), ("j", 3)]) (N := ["net", "house", "i", "j"]) (sc := defScope s_near) (by decide +kernel)) (fun _ _ _ _ _ => (show PG _ _ (gTup K 2 _) from pg_tup rfl (pgs_cons (pg_name (i := 2) sc_near.nd rfl (Or.inl rfl)) (pgs_cons (pg_name (i := 3) sc_near.nd rfl (Or.inl rfl)) pgs_nil)))) (fun _ _ _ _ _ => (pts_one (pt_cmpR (r := rIn K false) op_in_seq (pv 1) (pe_tup (pa_cons (pv 2) (pa_cons (pv 3) pa_nil))) rfl))) (fun _ _ _ _ _ => (pe_op op_sub (pe_op op_add (pv 2) (pv 3)) (pv 1)))))), ?_⟩
    obtain ⟨a, b, us, rfl, ha, hb, hus⟩ := net_at hR
    refine s_retL (el_is (el_lcPr (ps := ws) (fun p => decide (h = p.1 ∨ h = p.2)) (fun p => .int ((p.1 + p.2 - h : Nat) : Int)) (ev_ixT (j := 1) (ev_v rfl) (ev_cn 1) (st_of ha) rfl) hb hus (by have := hn.few; omega) (fun _ _ => rfl) (fun p hp H1 e1 => ?_) fun p hp hf H1 e1 => ?_) (by unfold nearF nats; rw [List.map_map]; rfl)) q
    · refine et_is (et_test (ev_inU (xs := [.int (p.1 : Int), .int (p.2 : Int)]) (ev_v (v := .int (h : Int)) rfl) (eu_tup (ea_cons (ev_v rfl) (ea_cons (ev_v rfl) ea_nil)) (by show 2 ≤ 100000; decide)) rfl rfl)) ?_
      show inV (.int (h : Int)) [.int (p.1 : Int), .int (p.2 : Int)] = _
      unfold inV
      rw [List.any_cons, List.any_cons, List.any_nil, Bool.or_false, eqV_nat, eqV_nat, ← Bool.decide_or]
      exact decide_eq_decide.mpr ⟨fun h => h.imp Eq.symm Eq.symm, fun h => h.imp Eq.symm Eq.symm⟩
    · have hf := of_decide_eq_true hf
      exact ev_op (ev_op (ev_v rfl) (ev_v rfl) rv_addN) (ev_v rfl) (rv_subN (by omega))
abbrev s_is_way : Stmt := topS 4
theorem sc_is_way : FnScope ["net", "i", "j"] ["net", "i", "j"] (defScope s_is_way) := ⟨rfl, rfl, rfl, by decide +kernel, rfl, by decide +kernel, by decide +kernel⟩
theorem shp_pr (p : Pr) : SeqAt.shaped (pyD (prD p)) = true := by
  unfold SeqAt.shaped prD
  simp [pyD, pyDL, PyData.canLay0, PyData.canLayAll0, PyData.depth, PyData.depthAll]
theorem shp_prs : ∀ ws : List Pr, PyData.canLayAll0 (pyDL (ws.map prD)) = true ∧ PyData.depthAll (pyDL (ws.map prD)) ≤ 1
  | [] => ⟨by rw [List.map_nil, pyDL, PyData.canLayAll0], by rw [List.map_nil, pyDL, PyData.depthAll]; exact Nat.zero_le _⟩
  | p :: ws => by
    obtain ⟨h1, h2⟩ := shp_prs ws
    rw [List.map_cons, pyDL, PyData.canLayAll0, PyData.depthAll, h1]
    have d1 : PyData.depth (pyD (prD p)) = 1 := by
      unfold prD
      simp only [pyD, pyDL, PyData.depth, PyData.depthAll]
      rfl
    have c1 : PyData.canLay0 (pyD (prD p)) = true := by
      unfold prD
      simp [pyD, pyDL, PyData.canLay0, PyData.canLayAll0]
    rw [c1, d1]
    exact ⟨rfl, by omega⟩
theorem shp_ws (ws : List Pr) : SeqAt.shaped (pyD (.tup (ws.map prD))) = true := by
  obtain ⟨h1, h2⟩ := shp_prs ws
  unfold SeqAt.shaped
  rw [pyD, PyData.canLay0, PyData.depth, h1, Bool.true_and]
  exact decide_eq_true (by omega)
theorem eqv_pr (p q : Pr) : PyData.eqv (pyD (prD p)) (pyD (prD q)) = decide (p = q) := by
  obtain ⟨a, b⟩ := p
  obtain ⟨c, d⟩ := q
  unfold prD
  simp only [pyD, pyDL]
  by_cases e1 : a = c
  · by_cases e2 : b = d
    · subst e1; subst e2
      rw [decide_eq_true rfl]
      simp [PyData.eqv, PyData.eqvAll]
    · have h2 : ¬ (b : Int) = (d : Int) := by omega
      rw [decide_eq_false (by simp [e2])]
      simp [PyData.eqv, PyData.eqvAll, e1]
      first | done | omega
  · have h1 : ¬ (a : Int) = (c : Int) := by omega
    rw [decide_eq_false (by simp [e1])]
    simp [PyData.eqv, PyData.eqvAll]
    first | done | omega | (intro h; omega)
theorem any_pr (p : Pr) : ∀ ws : List Pr, ((pyDL (ws.map prD)).any fun z => PyData.eqv z (pyD (prD p))) = decide (p ∈ ws)
  | [] => by rw [List.map_nil, pyDL]; rfl
  | q :: ws => by
    rw [List.map_cons, pyDL, List.any_cons, eqv_pr, any_pr p ws, ← Bool.decide_or]
    refine decide_eq_decide.mpr ?_
    rw [List.mem_cons]
    exact ⟨fun h => h.imp Eq.symm id, fun h => h.imp Eq.symm id⟩
theorem min_nat (a b : Nat) : (if (b : Int) < (a : Int) then (b : Int) else (a : Int)) = ((min a b : Nat) : Int) := by
  split <;> omega
theorem max_nat (a b : Nat) : (if (b : Int) > (a : Int) then (b : Int) else (a : Int)) = ((max a b : Nat) : Int) := by
  split <;> omega
def rMin2 : List V → Hp → VK → Prop := fun xs H Q => ∃ i j, xs = [.int i, .int j] ∧ Q (.int (if j < i then j else i)) H
theorem ev_minN {σ : L2.St} {H : Hp} {ta tb : TE} {a b : Nat} (ha : Ev ta σ H (.int (a : Int))) (hb : Ev tb σ H (.int (b : Int))) : Ev (tCB (fun xs H Q => ∃ i j, xs = [.int i, .int j] ∧ Q (.int (if j < i then j else i)) H) (tCons ta (tCons tb tNil))) σ H (.int ((min a b : Nat) : Int)) := fun H1 e Q q =>
  ha H1 e _ fun H2 e2 => hb H2 (e.trans e2) _ fun H3 e3 => ⟨_, _, rfl, by rw [min_nat]; exact q H3 (e2.trans e3)⟩
theorem ev_maxN {σ : L2.St} {H : Hp} {ta tb : TE} {a b : Nat} (ha : Ev ta σ H (.int (a : Int))) (hb : Ev tb σ H (.int (b : Int))) : Ev (tCB (fun xs H Q => ∃ i j, xs = [.int i, .int j] ∧ Q (.int (if j > i then j else i)) H) (tCons ta (tCons tb tNil))) σ H (.int ((max a b : Nat) : Int)) := fun H1 e Q q =>
  ha H1 e _ fun H2 e2 => hb H2 (e.trans e2) _ fun H3 e3 => ⟨_, _, rfl, by rw [max_nat]; exact q H3 (e2.trans e3)⟩
def ok_way (vs : List V) (H : Hp) (z : V) : Prop := ∃ (v : V) (n i j : Nat) (ws : List Pr), vs = [v, .int (i : Int), .int (j : Int)] ∧ Rep H v (netD n ws) ∧ z = .bl (adj ws i j)
theorem fn_is_way {f : Addr} {fd : FuncData} {k : Nat} (F : Fun K "is_way" "is_way" s_is_way f fd) (N : Nb mg) : FnOk P w K mg base CX0 (k + 1) f fd ["net", "i", "j"] (spV ok_way) := by
  refine F.ok sc_is_way (fun vs H Q E h => ?_) (fun cdv A outer s H vs Q E hr h => ?_)
  · obtain ⟨_, ⟨_, _, _, _, _, rfl, _⟩, _⟩ := h
    rfl
  · obtain ⟨_, ⟨v, n, i, j, ws, rfl, hR, hz⟩, q⟩ := h
    rw [hz] at q
    refine ⟨_, (pss_one (ps_ret (pe_cmpR (op_inDT (un65 hr)) (pe_tup (pa_cons (pe_callB (call_min2 rfl) (by rfl) N.min PyProof.Rows.boot_min (pa_cons (pv 1) (pa_cons (pv 2) pa_nil))) (pa_cons (pe_callB (call_max2 rfl) (by rfl) N.max PyProof.Rows.boot_max (pa_cons (pv 1) (pa_cons (pv 2) pa_nil))) pa_nil))) (pe_ix ix_tup (pv 0) pe_int (fun _ _ => rfl)) rfl))), ?_⟩
    obtain ⟨a, b, us, rfl, ha, hb, hus⟩ := net_at hR
    exact s_ret (ev_is (ev_inDT (d := prD (min i j, max i j)) (ds := ws.map prD) (ed_tup (er_cons (evd_v (ev_minN (ev_v rfl) (ev_v rfl)) (.int _)) (er_cons (evd_v (ev_maxN (ev_v rfl) (ev_v rfl)) (.int _)) er_nil)) (by show 2 ≤ 100000; decide)) (evd_v (ev_ixT (j := 1) (ev_v rfl) (ev_cn 1) (st_of ha) rfl) (.tup hb hus)) (shp_pr _) (shp_ws _)) (congrArg V.bl (any_pr _ ws))) q
abbrev s_tree_from : Stmt := topS 2
theorem sc_tree_from : FnScope ["net", "roots", "found", "house", "queue", "at", "other"] ["net", "roots"] (defScope s_tree_from) := ⟨rfl, rfl, rfl, by decide +kernel, rfl, by decide +kernel, by decide +kernel⟩
/- 0 net, 1 roots, 2 found*, 3 house, 4 queue, 5 at, 6 other -/
def sp_tree (K : PySem.W.Frag) : Sp := fun vs H Q _ => ∃ (v : V) (ra : Addr) (n : Nat) (ws : List Pr) (roots : List Nat), vs = [v, .ref ra] ∧ Rep H v (netD n ws) ∧ NetOk n ws ∧ H ra = some (.lst (nats roots)) ∧ roots.Nodup ∧ (∀ r ∈ roots, r < n) ∧ ∀ q u H', TreeOk n ws roots q → Ex H H' → Rep H' u (.lst (q.map prD)) → Q u H'
theorem fn_tree_from {f : Addr} {fd : FuncData} {k : Nat} (F : Fun K "tree_from" "tree_from" s_tree_from f fd) (N : Nb mg) (C_near : Cal P w K mg base k "near" ["net", "house"] (spL ok_near)) : FnOk P w K mg base CX0 (k + 1) f fd ["net", "roots"] (sp_tree K) := by
  refine F.ok sc_tree_from (fun vs H Q E h => ?_) (fun cdv A outer s H vs Q E hr h => ?_)
  · obtain ⟨_, _, _, _, _, rfl, _⟩ := h
    rfl
  · obtain ⟨v, ra, n, ws, roots, rfl, hR, hn, hra, hrn, hrl, q⟩ := h
    refine ⟨_, (pss_cons (ps_set (i := 2) sc_tree_from.nd rfl (Or.inr rfl) (pe_dc (own := [("house", 3)]) (by rfl) sc_tree_from.nd (pi_list (pv 1)) (blkOk_by (own := [("house", 3)]) (N := ["net", "roots", "found", "house", "queue", "at", "other"]) (sc := defScope s_tree_from) (by decide +kernel)) (fun _ _ _ _ _ => (pg_name (i := 3) sc_tree_from.nd rfl (Or.inl rfl))) (fun _ _ _ _ _ => pts_nil) (fun _ _ _ _ _ => (pv 3)) (fun _ _ _ _ _ => (pv 3))))
      (pss_cons (ps_set (i := 4) sc_tree_from.nd rfl (Or.inl rfl) (pe_callTy call_list_of (by rfl) N.list PyProof.Rows.boot_list (pa_cons (pv 1) pa_nil)))
      (pss_cons (ps_set (i := 5) sc_tree_from.nd rfl (Or.inl rfl) pe_int)
      (pss_cons (ps_while PassesOwn.never (pt_cmpR op_lt (pv 5) (pe_callB call_len_seq (by rfl) N.len PySem.boot_len (pa_cons (pv 4) pa_nil)) (nomark _)) (pss_cons (ps_for PassesOwn.never rfl (pi_list (pe_cal C_near hr (pa_cons (pv 0) (pa_cons (pe_ix ix_list (pv 4) (pv 5) (fun _ _ => rfl)) pa_nil)))) (pg_name (i := 6) sc_tree_from.nd rfl (Or.inl rfl)) (pss_one (ps_if (pt_cmp (pc_dnotin (hu_of hr) (pv 6) (pv 2))) (pss_cons (ps_dput (hu_of hr) (pv 2) (pv 6) (pe_ix ix_list (pv 4) (pv 5) (fun _ _ => rfl)) rfl)
      (pss_one (ps_expr (pe_bm PySem.F.plainAttrs_list PySem.F.slot_list_append PySem.F.type_list_append mt_append (pv 4) (pa_cons (pv 6) pa_nil))))) pss_nil)))
      (pss_one (ps_set (i := 5) sc_tree_from.nd rfl (Or.inl rfl) (pe_op op_add (pv 5) pe_int)))))
      (pss_one (ps_ret (pe_lc (own := [("house", 3)]) (by rfl) sc_tree_from.nd (pi_list (pv 4)) (blkOk_by (own := [("house", 3)]) (N := ["net", "roots", "found", "house", "queue", "at", "other"]) (sc := defScope s_tree_from) (by decide +kernel)) (fun _ _ _ _ _ => (pg_name (i := 3) sc_tree_from.nd rfl (Or.inl rfl))) (fun _ _ _ _ _ => pts_nil) (fun _ _ _ _ _ => (pe_tup (pa_cons (pv 3) (pa_cons (pe_dget (hu_of hr) (pv 2) (pv 3) (fun _ _ => rfl)) pa_nil))))))))))), ?_⟩
    have hrlen := nodup_lt hrn hrl
    have hn8 := hn.n8
    have hfst : (roots.map fun r => ((r, r) : Pr)).map (·.1) = roots := by
      rw [List.map_map]
      exact (List.map_congr_left fun z _ => rfl).trans (List.map_id' roots)
    have hnl : (nats roots).length = roots.length := nats_len roots
    refine r_asg (r_dcL (K := K) (a := ra) (xs := nats roots) (ev_v rfl) (sq_of hra) (fun H1 D i H' => Ex H1 H' ∧ H' D = some (.dK (dkI ((roots.take i).map fun r => (r, r))))) (fun H1 D e1 hD => ⟨Ex.new hD, upd_same⟩) (fun H1 D i H' h => h.1) (fun H1 D e1 hD i x H' hx h => ?_) fun H1 dF H' e1 hdF h => ?_)
    · obtain ⟨r, hr1, rfl⟩ := nats_get' hx
      refine ⟨rfl, tyes_ (iteT (r_var rfl (r_var rfl ⟨_, .inl (r : Int), rfl, h.2, sz_lt (by rw [dkI_len, List.length_map, List.length_take]; omega), h.1.mut hD, ?_⟩)))⟩
      rw [upd_same, dkI_put, List.take_add_one, hr1, List.map_append]
      · rfl
      · rw [List.map_map]
        intro hm
        obtain ⟨z, hz, e⟩ := List.mem_map.mp hm
        have e : z = r := e
        subst e
        obtain ⟨j, hj, hje⟩ := List.getElem_of_mem hz
        rw [List.length_take] at hj
        rw [List.getElem_take] at hje
        obtain ⟨hi, hie⟩ := List.getElem?_eq_some_iff.mp hr1
        exact (List.pairwise_iff_getElem.mp hrn) j i (by omega) hi (by omega) (hje.trans hie.symm)
    obtain ⟨ex1, hF⟩ := h
    rw [hnl, List.take_of_length_le (Nat.le_refl _)] at hF
    have E1 := e1.trans ex1
    have hdF0 := fresh_back e1 hdF
    refine q_asgL (el_list (ev_v rfl) (sq_of (E1 _ _ hra))) fun qL H2 hqL e2 h2 => ?_
    have E2 := E1.trans e2
    have hqL0 := fresh_back E1 hqL
    have nqF : dF ≠ qL := fun z => by rw [← z, hF] at hqL; exact nomatch hqL
    refine q_asg (v := .int ((0 : Nat) : Int)) (ev_cn 0) fun H3 e3 => ?_
    let St : List Pr → Hp → Prop := fun qs H' => Ex H H' ∧ H' dF = some (.dK (dkI qs)) ∧ H' qL = some (.lst (nats (qs.map (·.1)))) ∧ (qs.map (·.1)).Nodup ∧ (∀ p ∈ qs, p.1 < n ∧ p.2 < n) ∧ ∃ rest, qs = roots.map (fun r => (r, r)) ++ rest ∧ ∀ (i : Nat) (p : Pr), rest[i]? = some p → p.2 ∈ roots ++ (rest.take i).map (·.1) ∧ p.1 ∈ nearF ws p.2
    let W : Nat → L2.St → Hp → Prop := fun m σ' H' => ∃ (qs : List Pr) (at_ : Nat) (y6 : Option V), m = n - at_ ∧ at_ ≤ qs.length ∧ St qs H' ∧ (∀ (i : Nat) (p : Pr), i < at_ → qs[i]? = some p → ∀ o ∈ nearF ws p.1, o ∈ qs.map (·.1)) ∧ σ' = [some v, some (.ref ra), some (.ref dF), none, some (.ref qL), some (.int (at_ : Int)), y6]
    refine q_while W n ⟨roots.map fun r => (r, r), 0, none, rfl, Nat.zero_le _, ⟨E2.trans e3, (e2.trans e3) _ _ hF, by rw [hfst]; exact e3 _ _ h2, by rw [hfst]; exact hrn, fun p hp => by
      obtain ⟨r, hr1, rfl⟩ := List.mem_map.mp hp
      exact ⟨hrl r hr1, hrl r hr1⟩, [], by rw [List.append_nil], fun i p h => nomatch h⟩, fun i p h => absurd h (by omega), rfl⟩ ?_
    rintro m σ' H' ⟨qs, at_, y6, hm, hat, ⟨e', hF', hQ', hnd, hlt, hgr⟩, hcl, rfl⟩
    have hlen : qs.length ≤ n := by
      have := nodup_lt hnd (n := n) fun x hx => by
        obtain ⟨p, hp, rfl⟩ := List.mem_map.mp hx
        exact (hlt p hp).1
      rwa [List.length_map] at this
    have hql : (nats (qs.map (·.1))).length = qs.length := by rw [nats_len, List.length_map]
    refine ⟨decide (at_ < qs.length), et_is (et_test (ev_op (ev_v rfl) (ev_is (ev_len (ev_v rfl) (sq_of hQ')) (by rw [hql])) rv_I0)) (by exact decide_eq_decide.mpr (by omega)), fun hb H4 e4 => ⟨fun σ2 H2 => ∃ m', m' < m ∧ W m' σ2 H2, fun _ _ h => h, ?_⟩, fun hb H4 e4 => ?_⟩
    · have hlt2 := of_decide_eq_true hb
      obtain ⟨p0, hp0⟩ : ∃ p, qs[at_]? = some p := ⟨_, List.getElem?_eq_getElem hlt2⟩
      have hpm := List.mem_of_getElem? hp0
      have hk0 : (qs.map (·.1))[at_]? = some p0.1 := by rw [List.getElem?_map, hp0]; rfl
      have E4 := e'.trans e4
      refine q_forNL (xs := nats (nearF ws p0.1)) (el_cal (ea_cons (ev_v rfl) (ea_cons (ev_ixL (j := at_) (ev_v rfl) (ev_v rfl) (sq_of (e4 _ _ hQ')) (nats_get? hk0)) ea_nil)) fun H5 e5 => ⟨v, n, p0.1, ws, rfl, hR.mono (E4.trans e5), hn, rfl⟩) (fun p j σ2 H2 => p ≠ qL ∧ H2 p = some (.lst (nats (nearF ws p0.1))) ∧ ∃ (qs2 more : List Pr) (y6 : Option V), qs2 = qs ++ more ∧ St qs2 H2 ∧ (∀ o ∈ (nearF ws p0.1).take j, o ∈ qs2.map (·.1)) ∧ σ2 = [some v, some (.ref ra), some (.ref dF), none, some (.ref qL), some (.int (at_ : Int)), y6]) (fun p H5 hp e5 h5 => ⟨(fun z => by rw [z, e4 _ _ hQ'] at hp; exact (nomatch hp)), h5, qs, [], _, by rw [List.append_nil], ⟨E4.trans e5, (e4.trans e5) _ _ hF', (e4.trans e5) _ _ hQ', hnd, hlt, hgr⟩, (fun o ho => by rw [List.take_zero] at ho; exact (nomatch ho)), rfl⟩) (fun p j σ2 H2 _ h => sq_of h.2.1) ?_ ?_
      · rintro p j x σ2 H2 hx ⟨hpq, hpl, qs2, more, y6, hq2, ⟨g1, g2, g3, g4, g5, rest, g6, g7⟩, hdn, rfl⟩
        obtain ⟨o, ho, rfl⟩ := nats_get' hx
        have hom := List.mem_of_getElem? ho
        have hoa := adj_lt hn ((near_mem hn).mp hom)
        have hk2 : (qs2.map (·.1))[at_]? = some p0.1 := by
          rw [hq2, List.map_append, List.getElem?_append_left (by rw [List.length_map]; exact hlt2)]
          exact hk0
        have hl2 : qs2.length ≤ n := by
          have := nodup_lt g4 (n := n) fun x hx => by
            obtain ⟨p, hp, rfl⟩ := List.mem_map.mp hx
            exact (g5 p hp).1
          rwa [List.length_map] at this
        have npd : p ≠ dF := ne_kind hpl g2 (fun z => nomatch z)
        have htk : (nearF ws p0.1).take (j + 1) = (nearF ws p0.1).take j ++ [o] := by
          rw [List.take_add_one, ho]
          rfl
        refine s_when (b := !decide (o ∈ qs2.map (·.1))) (et_B (ev_is (ev_dniK (ev_v rfl) g2 (ev_natK (ev_v rfl))) (by rw [dkI_is]))) (fun hb H5 e5 => ?_) fun hb H5 e5 => ?_
        · rw [Bool.not_eq_true'] at hb
          have hno := of_decide_eq_false hb
          refine q_dputK (kvs := dkI qs2) (k := .inl (o : Int)) (v := .int (p0.1 : Int)) (e5 _ _ g2) (ev_ixL (j := at_) (ev_v rfl) (ev_v rfl) (sq_of (e5 _ _ g3)) (nats_get? hk2)) (ev_v rfl) (ev_natK (ev_v rfl)) (by rw [dkI_len]; omega) fun H6 e6 => ?_
          rw [dkI_put hno]
          have e56 := e5.trans e6
          have hQd : (upd H6 dF (.dK (dkI (qs2 ++ [(o, p0.1)])))) qL = some (.lst (nats (qs2.map (·.1)))) := by rw [upd_ne nqF.symm]; exact e56 _ _ g3
          have hpd : (upd H6 dF (.dK (dkI (qs2 ++ [(o, p0.1)])))) p = some (.lst (nats (nearF ws p0.1))) := by rw [upd_ne npd]; exact e56 _ _ hpl
          have Ed : Ex H (upd H6 dF (.dK (dkI (qs2 ++ [(o, p0.1)])))) := (g1.trans e56).mut hdF0
          have hFd : (upd H6 dF (.dK (dkI (qs2 ++ [(o, p0.1)])))) dF = some (.dK (dkI (qs2 ++ [(o, p0.1)]))) := upd_same
          generalize upd H6 dF (.dK (dkI (qs2 ++ [(o, p0.1)]))) = H7 at hQd hpd Ed hFd ⊢
          refine r_dropE (r_bm (r_ev (ev_v (v := .ref qL) rfl) (Ex.refl _) fun H8 e8 => ⟨.inl ⟨rfl, _, sq_of (e8 _ _ hQd)⟩, r_cons (r_var rfl (r_nil ⟨qL, nats (qs2.map (·.1)), _, rfl, rfl, e8 _ _ hQd, sz_lt (by rw [nats_len, List.length_map]; omega), ?_⟩))⟩))
          refine ⟨hpq, by rw [upd_ne hpq]; exact e8 _ _ hpd, qs2 ++ [(o, p0.1)], more ++ [(o, p0.1)], _, by rw [hq2, List.append_assoc], ⟨(Ed.trans e8).mut hqL0, by rw [upd_ne nqF]; exact e8 _ _ hFd, by rw [upd_same, List.map_append, nats_app]; rfl, ?_, ?_, rest ++ [(o, p0.1)], by rw [g6, List.append_assoc], fun i p hp => ?_⟩, fun z hz => ?_, rfl⟩
          · rw [List.map_append, List.nodup_append]
            refine ⟨g4, by simp, fun c hc d hd => ?_⟩
            rw [List.mem_singleton.mp hd]
            exact fun e => hno (by rw [show c = o from e] at hc; exact hc)
          · intro z hz
            rcases List.mem_append.mp hz with hz | hz
            · exact g5 z hz
            · rw [List.mem_singleton.mp hz]
              exact ⟨hoa.2.1, hoa.1⟩
          · by_cases hi : i < rest.length
            · rw [List.getElem?_append_left hi] at hp
              rw [List.take_append_of_le_length (by omega)]
              exact g7 i p hp
            · rw [List.getElem?_append_right (by omega)] at hp
              have hi0 : i - rest.length = 0 := by
                rcases Nat.eq_zero_or_pos (i - rest.length) with h | h
                · exact h
                · rw [List.getElem?_eq_none (by show 1 ≤ _; omega)] at hp
                  exact nomatch hp
              rw [hi0] at hp
              cases hp
              rw [show i = rest.length by omega, List.take_left]
              refine ⟨?_, hom⟩
              have hm0 : p0.1 ∈ qs2.map (·.1) := List.mem_of_getElem? hk2
              rw [g6, List.map_append, hfst] at hm0
              exact hm0
          · rw [htk] at hz
            rw [List.map_append]
            rcases List.mem_append.mp hz with hz | hz
            · exact List.mem_append_left _ (hdn z hz)
            · exact List.mem_append_right _ hz
        · rw [Bool.not_eq_false'] at hb
          have hyo := of_decide_eq_true hb
          refine ⟨hpq, e5 _ _ hpl, qs2, more, _, hq2, ⟨g1.trans e5, e5 _ _ g2, e5 _ _ g3, g4, g5, rest, g6, g7⟩, fun z hz => ?_, rfl⟩
          rw [htk] at hz
          rcases List.mem_append.mp hz with hz | hz
          · exact hdn z hz
          · rw [List.mem_singleton.mp hz]
            exact hyo
      · rintro p σ2 H2 ⟨hpq, hpl, qs2, more, y6, hq2, hst, hdn, rfl⟩
        rw [nats_len, List.take_of_length_le (Nat.le_refl _)] at hdn
        refine s_asg (D := { nx := _, rt := _, ct := _, bk := _ }) (v := .int ((at_ + 1 : Nat) : Int)) (ev_op (ev_v rfl) (ev_cn 1) rv_addN) fun H5 e5 => ?_
        obtain ⟨g1, g2, g3, g4, g5, g6⟩ := hst
        refine ⟨n - (at_ + 1), by omega, qs2, at_ + 1, _, rfl, by rw [hq2, List.length_append]; omega, ⟨g1.trans e5, e5 _ _ g2, e5 _ _ g3, g4, g5, g6⟩, fun i p hi hp o ho => ?_, rfl⟩
        by_cases hia : i = at_
        · subst hia
          rw [hq2, List.getElem?_append_left hlt2, hp0] at hp
          cases hp
          exact hdn o ho
        · rw [hq2, List.getElem?_append_left (by omega)] at hp
          rw [hq2, List.map_append]
          exact List.mem_append_left _ (hcl i p (by omega) hp o ho)
    · have hge := of_decide_eq_false hb
      have E4 := e'.trans e4
      refine s_retD (d := .lst (qs.map prD)) (ed_is (ed_lcM (α := Pr) (fun p => .int (p.1 : Int)) prD (fun _ => true) (l := qs) (evd_v (ev_v rfl) (.lst (e4 _ _ hQ') (reps_fst _ qs))) (by omega) (fun _ => rfl) (fun x _ => by rw [NoL]; trivial) (fun x _ => nol_pr x) (fun x z H5 e5 hz hr => et_yes) fun x z H5 e5 hz hr _ => ?_) (by rw [filt_true])) fun u H5 e5 r5 => q qs u H5 ⟨hnd, hlt, hgr, fun p hp => ?_⟩ (E4.trans e5) r5
      · cases hr
        exact ed_tup (er_cons (evd_v (ev_v rfl) (.int _)) (er_cons (evd_v (ev_dgetK (ev_v rfl) ((e4.trans e5) _ _ hF') (ev_natK (ev_v rfl)) (dkI_get hnd hz)) (.int _)) er_nil)) (by show 2 ≤ 100000; decide)
      · obtain ⟨i, hi, hie⟩ := List.getElem_of_mem hp
        exact hcl i p (by omega) (by rw [List.getElem?_eq_getElem hi, hie])
abbrev s_connected : Stmt := topS 3
theorem sc_connected : FnScope ["net"] ["net"] (defScope s_connected) := ⟨rfl, rfl, rfl, by decide +kernel, rfl, by decide +kernel, by decide +kernel⟩
/-- whether some tree from house 0 has all houses -/
def sp_conn (K : PySem.W.Frag) : Sp := fun vs H Q _ => ∃ (v : V) (n : Nat) (ws : List Pr), vs = [v] ∧ Rep H v (netD n ws) ∧ NetOk n ws ∧ ∀ q H', TreeOk n ws [0] q → Ex H H' → Q (.bl (decide (q.length = n))) H'
theorem fn_connected {f : Addr} {fd : FuncData} {k : Nat} (F : Fun K "connected" "connected" s_connected f fd) (N : Nb mg) (C_tree_from : Cal P w K mg base k "tree_from" ["net", "roots"] (sp_tree K)) : FnOk P w K mg base CX0 (k + 1) f fd ["net"] (sp_conn K) := by
  refine F.ok sc_connected (fun vs H Q E h => ?_) (fun cdv A outer s H vs Q E hr h => ?_)
  · obtain ⟨_, _, _, rfl, _⟩ := h
    rfl
  · obtain ⟨v, n, ws, rfl, hR, hn, q⟩ := h
    refine ⟨_, (pss_one (ps_ret (pe_cmpR op_eq (pe_callB call_len_seq (by rfl) N.len PySem.boot_len (pa_cons (pe_cal C_tree_from hr (pa_cons (pv 0) (pa_cons (pe_lst (pa_cons pe_int pa_nil)) pa_nil))) pa_nil)) (pe_ix ix_tup (pv 0) pe_int (fun _ _ => rfl)) (nomark _)))), ?_⟩
    refine r_ret (r_op (r_cb (r_cons (r_call (r_cons (r_var rfl (r_cons (r_el (el_lst (ea_cons (ev_cn 0) ea_nil) (by show 1 ≤ 100000; decide)) (Ex.refl _) fun ra H1 hra e1 h1 => r_nil ⟨v, ra, n, ws, [0], rfl, hR.mono e1, hn, h1, by simp, fun r hr => by rw [List.mem_singleton.mp hr]; exact hn.n1, fun tq u H2 ht e2 r2 => ?_⟩))))))))
    cases r2 with
    | @lst la us _ hl hus =>
      have hul := hus.len
      rw [List.length_map] at hul
      have E2 := e1.trans e2
      refine r_nil ⟨la, us, rfl, .inl (sq_of hl), ?_⟩
      have hR2 := hR.mono E2
      obtain ⟨a, b, ws', rfl, ha, hb, _⟩ := net_at hR2
      refine r_ev (ev_ixT (j := 0) (v := .int (n : Int)) (ev_v rfl) (ev_cn 0) (st_of ha) rfl) (Ex.refl _) fun H3 e3 => ?_
      refine (rv_eq rfl) H3 (Ex.refl _) _ fun H4 e4 => ?_
      have : (decide (V.int (us.length : Int) = V.int (n : Int))) = decide (tq.length = n) := decide_eq_decide.mpr ⟨fun h => by have := V.int.inj h; omega, fun h => by rw [hul, h]⟩
      rw [this]
      exact q tq H4 ht ((E2.trans e3).trans e4)
end
end K96

set_option Elab.async false
set_option linter.all false
set_option maxRecDepth 100000
set_option maxHeartbeats 4000000
namespace K96
open PySem PySem.Spec PyProof.Rows L2 Evl My
/-! rounds of four -/
def Cand (ws : List Pr) (a b c d : Nat) : Prop := adj ws a b = true ∧ adj ws b c = true ∧ adj ws c d = true ∧ adj ws d a = true ∧ a ≠ c ∧ b ≠ d
def IsRnd (ws : List Pr) (r : List Nat) : Prop := (r = [] ∧ ∀ a b c d, ¬ Cand ws a b c d) ∨ ∃ a b c d, r = [a, b, c, d] ∧ Cand ws a b c d ∧ ∀ a' b' c' d', Cand ws a' b' c' d' → a < a' ∨ (a = a' ∧ (b < b' ∨ (b = b' ∧ (c < c' ∨ (c = c' ∧ d ≤ d')))))
theorem rnd_unique {ws : List Pr} {r1 r2 : List Nat} (h1 : IsRnd ws r1) (h2 : IsRnd ws r2) : r1 = r2 := by
  rcases h1 with ⟨e1, n1⟩ | ⟨a, b, c, d, e1, c1, l1⟩
  · rcases h2 with ⟨e2, _⟩ | ⟨a', b', c', d', _, c2, _⟩
    · rw [e1, e2]
    · exact absurd c2 (n1 _ _ _ _)
  · rcases h2 with ⟨_, n2⟩ | ⟨a', b', c', d', e2, c2, l2⟩
    · exact absurd c1 (n2 _ _ _ _)
    · have k1 := l1 _ _ _ _ c2
      have k2 := l2 _ _ _ _ c1
      have : a = a' ∧ b = b' ∧ c = c' ∧ d = d' := by omega
      obtain ⟨rfl, rfl, rfl, rfl⟩ := this
      rw [e1, e2]
theorem near_sorted {n : Nat} {ws : List Pr} (hn : NetOk n ws) (h : Nat) : (nearF ws h).Pairwise (· < ·) := by
  unfold nearF
  rw [List.pairwise_map]
  refine List.Pairwise.imp_of_mem (fun {p q} hp hq hpq => ?_) (hn.srt.filter _)
  obtain ⟨hp1, hp2⟩ := List.mem_filter.mp hp
  obtain ⟨hq1, hq2⟩ := List.mem_filter.mp hq
  have hp2 := of_decide_eq_true hp2
  have hq2 := of_decide_eq_true hq2
  have l1 := (hn.lt p hp1).1
  have l2 := (hn.lt q hq1).1
  omega
theorem nodup_subG {α : Type} [DecidableEq α] : ∀ {a b : List α}, a.Nodup → (∀ x ∈ a, x ∈ b) → a.length ≤ b.length
  | [], _, _, _ => Nat.zero_le _
  | x :: a, b, h, hs => by
    rw [List.nodup_cons] at h
    have hx := hs x (by simp)
    have := nodup_subG (a := a) (b := b.erase x) h.2 fun y hy => by
      have hne : y ≠ x := fun e => h.1 (e ▸ hy)
      exact (List.mem_erase_of_ne hne).mpr (hs y (by simp [hy]))
    rw [List.length_erase_of_mem hx] at this
    have hp : 0 < b.length := List.length_pos_of_mem hx
    rw [List.length_cons]
    omega
def d4 (a b c d : Nat) : Prop := a ≠ b ∧ a ≠ c ∧ a ≠ d ∧ b ≠ c ∧ b ≠ d ∧ c ≠ d
instance (a b c d : Nat) : Decidable (d4 a b c d) := by unfold d4; infer_instance
theorem four_len {a b c d : Nat} {ns : List Int} (h1 : ns.Pairwise (· < ·)) (h2 : ∀ k : Int, k ∈ ns ↔ k ∈ [(a : Int), (b : Int), (c : Int), (d : Int)]) (h4 : ns.length ≤ 4) : decide (ns.length = 4) = decide (d4 a b c d) := by
  have hnd : ns.Nodup := h1.imp fun h => by omega
  refine decide_eq_decide.mpr ⟨fun hl => ?_, fun hd => ?_⟩
  · refine Classical.byContradiction fun hn => ?_
    have : ∃ l3 : List Int, l3.length ≤ 3 ∧ ∀ k ∈ [(a : Int), (b : Int), (c : Int), (d : Int)], k ∈ l3 := by
      by_cases e1 : a = b
      · exact ⟨[b, c, d], Nat.le_refl 3, fun k hk => by simp at hk ⊢; omega⟩
      by_cases e2 : a = c
      · exact ⟨[b, c, d], Nat.le_refl 3, fun k hk => by simp at hk ⊢; omega⟩
      by_cases e3 : a = d
      · exact ⟨[b, c, d], Nat.le_refl 3, fun k hk => by simp at hk ⊢; omega⟩
      by_cases e4 : b = c
      · exact ⟨[a, c, d], Nat.le_refl 3, fun k hk => by simp at hk ⊢; omega⟩
      by_cases e5 : b = d
      · exact ⟨[a, c, d], Nat.le_refl 3, fun k hk => by simp at hk ⊢; omega⟩
      by_cases e6 : c = d
      · exact ⟨[a, b, d], Nat.le_refl 3, fun k hk => by simp at hk ⊢; omega⟩
      exact absurd ⟨e1, e2, e3, e4, e5, e6⟩ hn
    obtain ⟨l3, h3, hs⟩ := this
    have := nodup_subG hnd fun k hk => hs k ((h2 k).mp hk)
    omega
  · obtain ⟨e1, e2, e3, e4, e5, e6⟩ := hd
    have hn4 : [(a : Int), (b : Int), (c : Int), (d : Int)].Nodup := by
      simp
      omega
    have := nodup_subG hn4 fun k hk => (h2 k).mpr hk
    have h4' : [(a : Int), (b : Int), (c : Int), (d : Int)].length = 4 := rfl
    omega
section
variable {K : PySem.W.Frag} {w : World} {σ : L2.St} {H : Hp} {te : TE} {a : Addr} {D0 : Ends} {tu tz : TS}
theorem ev_set4 {ta tb tc td : TE} {a b c d : Nat} (ha : Ev ta σ H (.int (a : Int))) (hb : Ev tb σ H (.int (b : Int))) (hc : Ev tc σ H (.int (c : Int))) (hd : Ev td σ H (.int (d : Int))) :
    Ev (tOp rEq (tCB (rLenS K) (tCons (tCB (rSortedSet w) (tCons (tCB (rSetOfI K w) (tCons (tLst (tCons ta (tCons tb (tCons tc (tCons td tNil))))) tNil)) tNil)) tNil)) (tC (.int 4))) σ H (.bl (decide (d4 a b c d))) := fun H0 e Q q => by
  refine r_op (r_cb (r_cons (r_cb (r_cons (r_cb (r_cons ?_))))))
  refine (el_lst (ea_cons ha (ea_cons hb (ea_cons hc (ea_cons hd ea_nil)))) (by show 4 ≤ 100000; decide)) H0 e _ fun l H1 hl e1 h1 => ?_
  refine r_nil ⟨l, [(a : Int), (b : Int), (c : Int), (d : Int)], rfl, sq_of h1, by show 4 < 64; decide, fun sa cc hsa hcc => ?_⟩
  refine r_nil ⟨sa, _, cc, rfl, upd_same, Nat.lt_of_le_of_lt hcc (by show 4 < 64; decide), fun ns pz hpw hmem hlen hpz => ?_⟩
  refine r_nil ⟨pz, ns.map V.int, rfl, .inl (sq_of upd_same), ?_⟩
  rw [List.length_map]
  refine r_c ((rv_eq rfl) _ (Ex.refl _) _ fun H4 e4 => ?_)
  have hc4 : ns.length ≤ 4 := by rw [hlen]; exact hcc
  have : decide (V.int (ns.length : Int) = V.int 4) = decide (d4 a b c d) := by
    rw [← four_len hpw (fun k => by rw [hmem k]; exact decide_eq_true_iff) hc4]
    exact decide_eq_decide.mpr ⟨fun h => by have := V.int.inj h; omega, fun h => by rw [h]; rfl⟩
  rw [this]
  exact q H4 (((e1.trans (Ex.new hsa)).trans (Ex.new hpz)).trans e4)
theorem s_forRg {j : Nat} {n : Nat} (h : Ev te σ H (.ref a)) (ha : H a = some (.rng 0 (n : Int))) (hn : n ≤ 100000) (Pv : Nat → L2.St → Hp → Prop) (h0 : ∀ H1, Ex H H1 → Pv 0 σ H1)
    (hs : ∀ (i : Nat) σ' H', i < n → Pv i σ' H' → tu { D0 with nx := Pv (i + 1), ct := Pv (i + 1), bk := D0.nx } (σ'.set j (some (.int (i : Int)))) H') (hd : ∀ σ' H', Pv n σ' H' → D0.nx σ' H') : tFor (iRng te) (gName j) tu D0 σ H :=
  h H (Ex.refl H) _ fun H1 e => ⟨a, n, rfl, e _ _ ha, by omega, by omega, by
    rw [Int.toNat_natCast]
    exact for_range (n := n) Pv (h0 H1 e) (fun i σ' H' hi p => by
      have e0 : (0 : Int) + (i : Int) = (i : Int) := Int.zero_add _
      show tu _ (σ'.set j (some (.int ((0 : Int) + (i : Int))))) H'
      rw [e0]
      exact hs i σ' H' hi p) hd⟩
theorem q_forRg {j : Nat} {n : Nat} (h : Ev te σ H (.ref a)) (ha : H a = some (.rng 0 (n : Int))) (hn : n ≤ 100000) (Pv : Nat → L2.St → Hp → Prop) (h0 : ∀ H1, Ex H H1 → Pv 0 σ H1)
    (hs : ∀ (i : Nat) σ' H', i < n → Pv i σ' H' → tu { D0 with nx := Pv (i + 1), ct := Pv (i + 1), bk := tz D0 } (σ'.set j (some (.int (i : Int)))) H') (hd : ∀ σ' H', Pv n σ' H' → tz D0 σ' H') : tSeq (tFor (iRng te) (gName j) tu) tz D0 σ H :=
  s_forRg (D0 := { D0 with nx := tz D0 }) h ha hn Pv h0 hs hd
end
theorem least_in {l : List Nat} {j b b' : Nat} (hs : l.Pairwise (· < ·)) (hb : l[j]? = some b) (hm : b' ∈ l) (hn : b' ∉ l.take j) : b ≤ b' := by
  obtain ⟨i, hi, hie⟩ := List.getElem_of_mem hm
  obtain ⟨hj, hje⟩ := List.getElem?_eq_some_iff.mp hb
  by_cases hij : i < j
  · refine absurd ?_ hn
    rw [← hie]
    exact List.mem_of_getElem? (i := i) (by rw [List.getElem?_take, if_pos hij, List.getElem?_eq_getElem hi])
  · by_cases e : i = j
    · subst e
      omega
    · have := (List.pairwise_iff_getElem.mp hs) j i hj hi (by omega)
      omega
def rndD (r : List Nat) : D := .tup (r.map fun (x : Nat) => D.int (x : Int))
section
variable {P : Program} {w : World} {K : PySem.W.Frag} {mg : Str → Option Value} {base : Heap}
abbrev s_round_of_four : Stmt := topS 5
theorem sc_round_of_four : FnScope ["net", "houses", "a", "b", "c", "d"] ["net"] (defScope s_round_of_four) := ⟨rfl, rfl, rfl, by decide +kernel, rfl, by decide +kernel, by decide +kernel⟩
/- 0 net, 1 houses, 2 a, 3 b, 4 c, 5 d -/
def sp_rnd (K : PySem.W.Frag) : Sp := fun vs H Q _ => ∃ (v : V) (n : Nat) (ws : List Pr), vs = [v] ∧ Rep H v (netD n ws) ∧ NetOk n ws ∧ ∀ r u H', IsRnd ws r → Ex H H' → Rep H' u (rndD r) → Q u H'
theorem fn_rnd {f : Addr} {fd : FuncData} {k : Nat} (F : Fun K "round_of_four" "round_of_four" s_round_of_four f fd) (N : Nb mg) (C_near : Cal P w K mg base k "near" ["net", "house"] (spL ok_near)) (C_is_way : Cal P w K mg base k "is_way" ["net", "i", "j"] (spV ok_way)) : FnOk P w K mg base CX0 (k + 1) f fd ["net"] (sp_rnd K) := by
  refine F.ok sc_round_of_four (fun vs H Q E h => ?_) (fun cdv A outer s H vs Q E hr h => ?_)
  · obtain ⟨_, _, _, rfl, _⟩ := h
    rfl
  · obtain ⟨v, n, ws, rfl, hR, hn, q⟩ := h
    refine ⟨_, (pss_cons (ps_set (i := 1) sc_round_of_four.nd rfl (Or.inl rfl) (pe_callTy cr_range1 (by rfl) N.range boot_range (pa_cons (pe_ix ix_tup (pv 0) pe_int (fun _ _ => rfl)) pa_nil)))
      (pss_cons (ps_for PassesOwn.never rfl (pi_rng (pv 1)) (pg_name (i := 2) sc_round_of_four.nd rfl (Or.inl rfl)) (pss_one (ps_for PassesOwn.never rfl (pi_list (pe_cal C_near hr (pa_cons (pv 0) (pa_cons (pv 2) pa_nil)))) (pg_name (i := 3) sc_round_of_four.nd rfl (Or.inl rfl)) (pss_one (ps_for PassesOwn.never rfl (pi_list (pe_cal C_near hr (pa_cons (pv 0) (pa_cons (pv 3) pa_nil)))) (pg_name (i := 4) sc_round_of_four.nd rfl (Or.inl rfl)) (pss_one (ps_for PassesOwn.never rfl (pi_list (pe_cal C_near hr (pa_cons (pv 0) (pa_cons (pv 4) pa_nil)))) (pg_name (i := 5) sc_round_of_four.nd rfl (Or.inl rfl)) (pss_one (ps_if (PW.pt (pw_and (pt_cmpR op_eq (pe_callB call_len_seq (by rfl) N.len PySem.boot_len (pa_cons (pe_callB (cr_sortedSet rfl) (by rfl) N.sorted PyProof.Rows.boot_sorted (pa_cons (pe_callTy (cr_setOfI rfl) (by rfl) N.set PyProof.Rows.boot_set (pa_cons (pe_lst (pa_cons (pv 2) (pa_cons (pv 3) (pa_cons (pv 4) (pa_cons (pv 5) pa_nil))))) pa_nil)) pa_nil)) pa_nil)) pe_int (nomark _)) (pw_and1 (pt_val (pe_cal C_is_way hr (pa_cons (pv 0) (pa_cons (pv 5) (pa_cons (pv 2) pa_nil)))))))) (pss_one (ps_ret (pe_tup (pa_cons (pv 2) (pa_cons (pv 3) (pa_cons (pv 4) (pa_cons (pv 5) pa_nil))))))) pss_nil)))))))))
      (pss_one (ps_ret (pe_tup pa_nil))))), ?_⟩
    have hn8 := hn.n8
    obtain ⟨na, nb, us, rfl, hna, hnb, hus⟩ := net_at hR
    refine r_asg (r_cb (r_cons (r_ev (ev_ixT (j := 0) (v := .int (n : Int)) (ev_v rfl) (ev_cn 0) (st_of hna) rfl) (Ex.refl _) fun H1 e1 => r_nil ⟨n, rfl, fun ra hra => ?_⟩)))
    have E1 : Ex H (upd H1 ra (.rng 0 (n : Int))) := e1.trans (Ex.new hra)
    have h1 : (upd H1 ra (.rng 0 (n : Int))) ra = some (.rng 0 (n : Int)) := upd_same
    generalize upd H1 ra (.rng 0 (n : Int)) = H2 at E1 h1 ⊢
    have near : ∀ {H3 : Hp} {σ : L2.St} {te : TE} {h : Nat}, Ex H H3 → σ[0]? = some (some (.ref na)) → Ev te σ H3 (.int (h : Int)) → EvL (tCall (spL ok_near) [] E0 (tCons (tVar 0) (tCons te tNil))) σ H3 (nats (nearF ws h)) := fun {H3 σ te h} e3 h0 he => el_cal (ea_cons (ev_v h0) (ea_cons he ea_nil)) fun H4 e4 => ⟨_, n, h, ws, rfl, hR.mono (e3.trans e4), hn, rfl⟩
    refine q_forRg (n := n) (ev_v rfl) h1 (by omega) (fun i σ' H' => Ex H H' ∧ (∀ a b c d, Cand ws a b c d → i ≤ a) ∧ ∃ y2 y3 y4 y5, σ' = [some (.ref na), some (.ref ra), y2, y3, y4, y5]) (fun H3 e3 => ⟨E1.trans e3, fun _ _ _ _ _ => Nat.zero_le _, none, none, none, none, rfl⟩) ?_ ?_
    · rintro a σ' H' ha ⟨g1, l1, y2, y3, y4, y5, rfl⟩
      refine s_forNL (xs := nats (nearF ws a)) (near g1 rfl (ev_v rfl)) (fun p j σ2 H2 => Ex H H2 ∧ H2 p = some (.lst (nats (nearF ws a))) ∧ (∀ b c d, Cand ws a b c d → b ∉ (nearF ws a).take j) ∧ ∃ y3 y4 y5, σ2 = [some (.ref na), some (.ref ra), some (.int (a : Int)), y3, y4, y5]) (fun p H3 hp e3 h3 => ⟨g1.trans e3, h3, (fun _ _ _ _ h => by rw [List.take_zero] at h; exact (nomatch h)), _, _, _, rfl⟩) (fun p j σ2 H2 _ h => sq_of h.2.1) ?_ ?_
      · rintro p j x σ2 H2 hx ⟨g2, hp2, l2, y3, y4, y5, rfl⟩
        obtain ⟨b, hb, rfl⟩ := nats_get' hx
        have hab := (near_mem hn).mp (List.mem_of_getElem? hb)
        refine s_forNL (xs := nats (nearF ws b)) (near g2 rfl (ev_v rfl)) (fun p' j' σ3 H3 => Ex H H3 ∧ H3 p = some (.lst (nats (nearF ws a))) ∧ H3 p' = some (.lst (nats (nearF ws b))) ∧ (∀ c d, Cand ws a b c d → c ∉ (nearF ws b).take j') ∧ ∃ y4 y5, σ3 = [some (.ref na), some (.ref ra), some (.int (a : Int)), some (.int (b : Int)), y4, y5]) (fun p' H3 hp' e3 h3 => ⟨g2.trans e3, e3 _ _ hp2, h3, (fun _ _ _ h => by rw [List.take_zero] at h; exact (nomatch h)), _, _, rfl⟩) (fun p' j' σ3 H3 _ h => sq_of h.2.2.1) ?_ ?_
        · rintro p' j' x σ3 H3 hx ⟨g3, hp3, hp3', l3, y4, y5, rfl⟩
          obtain ⟨c, hc, rfl⟩ := nats_get' hx
          have hbc := (near_mem hn).mp (List.mem_of_getElem? hc)
          refine s_forNL (xs := nats (nearF ws c)) (near g3 rfl (ev_v rfl)) (fun p'' j'' σ4 H4 => Ex H H4 ∧ H4 p = some (.lst (nats (nearF ws a))) ∧ H4 p' = some (.lst (nats (nearF ws b))) ∧ H4 p'' = some (.lst (nats (nearF ws c))) ∧ (∀ d, Cand ws a b c d → d ∉ (nearF ws c).take j'') ∧ ∃ y5, σ4 = [some (.ref na), some (.ref ra), some (.int (a : Int)), some (.int (b : Int)), some (.int (c : Int)), y5]) (fun p'' H4 hp'' e4 h4 => ⟨g3.trans e4, e4 _ _ hp3, e4 _ _ hp3', h4, (fun _ _ h => by rw [List.take_zero] at h; exact (nomatch h)), _, rfl⟩) (fun p'' j'' σ4 H4 _ h => sq_of h.2.2.2.1) ?_ ?_
          · rintro p'' j'' x σ4 H4 hx ⟨g4, hp4, hp4', hp4'', l4, y5, rfl⟩
            obtain ⟨d, hd, rfl⟩ := nats_get' hx
            have hcd := (near_mem hn).mp (List.mem_of_getElem? hd)
            have hcand : (decide (d4 a b c d) && adj ws d a) = true ↔ Cand ws a b c d := by
              rw [Bool.and_eq_true, decide_eq_true_eq]
              have k1 := (adj_lt hn hab).2.2
              have k2 := (adj_lt hn hbc).2.2
              have k3 := (adj_lt hn hcd).2.2
              constructor
              · rintro ⟨⟨_, e2, _, _, e5, _⟩, h⟩
                exact ⟨hab, hbc, hcd, h, e2, e5⟩
              · rintro ⟨_, _, _, h, e2, e5⟩
                have k4 := (adj_lt hn h).2.2
                exact ⟨⟨k1, e2, fun e => k4 e.symm, k2, e5, k3⟩, h⟩
            refine s_when (b := decide (d4 a b c d) && adj ws d a) (et_and (et_test (ev_set4 (ev_v rfl) (ev_v rfl) (ev_v rfl) (ev_v rfl))) fun _ => et_B (ev_cal (ea_cons (ev_v rfl) (ea_cons (ev_v rfl) (ea_cons (ev_v rfl) ea_nil))) fun H5 e5 => ⟨_, n, d, a, ws, rfl, hR.mono (g4.trans e5), rfl⟩)) (fun hb2 H5 e5 => ?_) fun hb2 H5 e5 => ?_
            · have hcd' := hcand.mp hb2
              refine s_retD (d := rndD [a, b, c, d]) (ed_tup (er_cons (evd_v (ev_v rfl) (.int _)) (er_cons (evd_v (ev_v rfl) (.int _)) (er_cons (evd_v (ev_v rfl) (.int _)) (er_cons (evd_v (ev_v rfl) (.int _)) er_nil)))) (by show 4 ≤ 100000; decide)) fun u H6 e6 r6 => q [a, b, c, d] u H6 (.inr ⟨a, b, c, d, rfl, hcd', fun a' b' c' d' h' => ?_⟩) ((g4.trans e5).trans e6) r6
              have m1 := l1 _ _ _ _ h'
              by_cases ea : a = a'
              · subst ea
                refine .inr ⟨rfl, ?_⟩
                have m2 := least_in (near_sorted hn a) hb ((near_mem hn).mpr h'.1) (l2 _ _ _ h')
                by_cases eb : b = b'
                · subst eb
                  refine .inr ⟨rfl, ?_⟩
                  have m3 := least_in (near_sorted hn b) hc ((near_mem hn).mpr h'.2.1) (l3 _ _ h')
                  by_cases ec : c = c'
                  · subst ec
                    exact .inr ⟨rfl, least_in (near_sorted hn c) hd ((near_mem hn).mpr h'.2.2.1) (l4 _ h')⟩
                  · exact .inl (by omega)
                · exact .inl (by omega)
              · exact .inl (by omega)
            · refine ⟨g4.trans e5, e5 _ _ hp4, e5 _ _ hp4', e5 _ _ hp4'', fun d' h' hm => ?_, _, rfl⟩
              rw [List.take_add_one, hd] at hm
              rcases List.mem_append.mp hm with hm | hm
              · exact l4 d' h' hm
              · have : d' = d := by simpa using hm
                subst this
                rw [hcand.mpr h'] at hb2
                exact nomatch hb2
          · rintro p'' σ4 H4 ⟨g4, hp4, hp4', _, l4, y5, rfl⟩
            rw [nats_len, List.take_of_length_le (Nat.le_refl _)] at l4
            refine ⟨g4, hp4, hp4', fun c' d' h' hm => ?_, _, _, rfl⟩
            rw [List.take_add_one, hc] at hm
            rcases List.mem_append.mp hm with hm | hm
            · exact l3 c' d' h' hm
            · have : c' = c := by simpa using hm
              subst this
              exact l4 d' h' ((near_mem hn).mpr h'.2.2.1)
        · rintro p' σ3 H3 ⟨g3, hp3, _, l3, y4, y5, rfl⟩
          rw [nats_len, List.take_of_length_le (Nat.le_refl _)] at l3
          refine ⟨g3, hp3, fun b' c' d' h' hm => ?_, _, _, _, rfl⟩
          rw [List.take_add_one, hb] at hm
          rcases List.mem_append.mp hm with hm | hm
          · exact l2 b' c' d' h' hm
          · have : b' = b := by simpa using hm
            subst this
            exact l3 c' d' h' ((near_mem hn).mpr h'.2.1)
      · rintro p σ2 H2 ⟨g2, _, l2, y3, y4, y5, rfl⟩
        rw [nats_len, List.take_of_length_le (Nat.le_refl _)] at l2
        refine ⟨g2, fun a' b' c' d' h' => ?_, _, _, _, _, rfl⟩
        have := l1 _ _ _ _ h'
        by_cases e : a' = a
        · subst e
          exact absurd ((near_mem hn).mpr h'.1) (l2 _ _ _ h')
        · omega
    · rintro σ' H' ⟨g1, l1, y2, y3, y4, y5, rfl⟩
      refine s_retD (d := rndD []) (ed_tup er_nil (by decide)) fun u H2 e2 r2 => q [] u H2 (.inl ⟨rfl, fun a b c d h => ?_⟩) (g1.trans e2) r2
      have := l1 _ _ _ _ h
      have := (adj_lt hn h.1).1
      omega
abbrev s_law_round : Stmt := topS 20
theorem sc_law_round : FnScope ["net", "n", "a", "b", "c", "d", "sides", "right", "pair"] ["net"] (defScope s_law_round) := ⟨rfl, rfl, rfl, by decide +kernel, rfl, by decide +kernel, by decide +kernel⟩
/- 0 net*, 1 n, 2 a, 3 b, 4 c, 5 d, 6 sides, 7 right, 8 pair -/
theorem fn_lrnd {f : Addr} {fd : FuncData} {k : Nat} (F : Fun K "_law_round" "_law_round" s_law_round f fd) (N : Nb mg) : FnOk P w K mg base CX0 (k + 1) f fd ["net"] (sp_rnd K) := by
  refine F.ok sc_law_round (fun vs H Q E h => ?_) (fun cdv A outer s H vs Q E hr h => ?_)
  · obtain ⟨_, _, _, rfl, _⟩ := h
    rfl
  · obtain ⟨v, n, ws, rfl, hR, hn, q⟩ := h
    refine ⟨_, (pss_cons (ps_set (i := 1) sc_law_round.nd rfl (Or.inl rfl) (pe_ix ix_tup (pv 0) pe_int (fun _ _ => rfl)))
      (pss_cons (ps_for PassesOwn.never rfl (pi_range1 rfl N.range (pa_cons (pv 1) pa_nil)) (pg_name (i := 2) sc_law_round.nd rfl (Or.inl rfl)) (pss_one (ps_for PassesOwn.never rfl (pi_range1 rfl N.range (pa_cons (pv 1) pa_nil)) (pg_name (i := 3) sc_law_round.nd rfl (Or.inl rfl)) (pss_one (ps_for PassesOwn.never rfl (pi_range1 rfl N.range (pa_cons (pv 1) pa_nil)) (pg_name (i := 4) sc_law_round.nd rfl (Or.inl rfl)) (pss_one (ps_for PassesOwn.never rfl (pi_range1 rfl N.range (pa_cons (pv 1) pa_nil)) (pg_name (i := 5) sc_law_round.nd rfl (Or.inl rfl)) (pss_cons (ps_set (i := 6) sc_law_round.nd rfl (Or.inl rfl) (pe_lst (pa_cons (pe_tup (pa_cons (pv 2) (pa_cons (pv 3) pa_nil))) (pa_cons (pe_tup (pa_cons (pv 3) (pa_cons (pv 4) pa_nil))) (pa_cons (pe_tup (pa_cons (pv 4) (pa_cons (pv 5) pa_nil))) (pa_cons (pe_tup (pa_cons (pv 5) (pa_cons (pv 2) pa_nil))) pa_nil))))))
      (pss_cons (ps_setLc (i := 7) (own := [("pair", 8)]) (by rfl) sc_law_round.nd rfl rfl (sw_true rfl rfl rfl (by decide +kernel)) (pi_list (pv 6)) (blkOk_by (own := [("pair", 8)]) (N := ["net", "n", "a", "b", "c", "d", "sides", "right", "pair"]) (sc := defScope s_law_round) (by decide +kernel)) (fun _ _ _ _ _ => (pg_name (i := 8) sc_law_round.nd rfl (Or.inl rfl))) (fun _ _ _ _ _ => (pts_one (pt_cmpR (r := rInDT K) (op_inDT (un65 hr)) (pe_tup (pa_cons (pe_callB (r := rMinT K) (cr_minT rfl) (by rfl) N.min PyProof.Rows.boot_min (pa_cons (pv 8) pa_nil)) (pa_cons (pe_callB (r := rMaxT K) (cr_maxT rfl) (by rfl) N.max PyProof.Rows.boot_max (pa_cons (pv 8) pa_nil)) pa_nil))) (pe_ix (r := rIxT K) ix_tup (pv 0) pe_int (fun _ _ => rfl)) rfl))) (fun _ _ _ _ _ => (pv 8)))
      (pss_one (ps_if (PW.pt (pw_and (pt_cmpR op_eq (pe_callB call_len_seq (by rfl) N.len PySem.boot_len (pa_cons (pv 7) pa_nil)) pe_int (nomark _)) (pw_and (pt_cmpR op_ne (pv 2) (pv 4) (nomark _)) (pw_and1 (pt_cmpR op_ne (pv 3) (pv 5) (nomark _)))))) (pss_one (ps_ret (pe_tup (pa_cons (pv 2) (pa_cons (pv 3) (pa_cons (pv 4) (pa_cons (pv 5) pa_nil))))))) pss_nil)))))))))))
      (pss_one (ps_ret (pe_tup pa_nil))))), ?_⟩
    have hn8 := hn.n8
    obtain ⟨na, nb, us, rfl, hna, hnb, hus⟩ := net_at hR
    refine q_asg (v := .int (n : Int)) (ev_ixT (j := 0) (ev_v rfl) (ev_cn 0) (st_of hna) rfl) fun H1 e1 => ?_
    refine q_forR1 (n := (n : Int)) (ea_cons (ev_v rfl) ea_nil) (by omega) (fun i σ' H' => Ex H H' ∧ (∀ a b c d, Cand ws a b c d → i ≤ a) ∧ ∃ y2 y3 y4 y5 y6 y7 y8, σ' = [some (.ref na), some (.int (n : Int)), y2, y3, y4, y5, y6, y7, y8]) (fun H3 e3 => ⟨e1.trans e3, fun _ _ _ _ _ => Nat.zero_le _, none, none, none, none, none, none, none, rfl⟩) ?_ ?_
    · rintro a σ' H' ha ⟨g1, l1, y2, y3, y4, y5, y6, y7, y8, rfl⟩
      refine s_forR1 (n := (n : Int)) (ea_cons (ev_v rfl) ea_nil) (by omega) (fun i σ2 H2 => Ex H H2 ∧ (∀ b c d, Cand ws a b c d → i ≤ b) ∧ ∃ y3 y4 y5 y6 y7 y8, σ2 = [some (.ref na), some (.int (n : Int)), some (.int (a : Int)), y3, y4, y5, y6, y7, y8]) (fun H3 e3 => ⟨g1.trans e3, fun _ _ _ _ => Nat.zero_le _, _, _, _, _, _, _, rfl⟩) ?_ ?_
      · rintro b σ2 H2 hb ⟨g2, l2, y3, y4, y5, y6, y7, y8, rfl⟩
        refine s_forR1 (n := (n : Int)) (ea_cons (ev_v rfl) ea_nil) (by omega) (fun i σ3 H3 => Ex H H3 ∧ (∀ c d, Cand ws a b c d → i ≤ c) ∧ ∃ y4 y5 y6 y7 y8, σ3 = [some (.ref na), some (.int (n : Int)), some (.int (a : Int)), some (.int (b : Int)), y4, y5, y6, y7, y8]) (fun H3 e3 => ⟨g2.trans e3, fun _ _ _ => Nat.zero_le _, _, _, _, _, _, rfl⟩) ?_ ?_
        · rintro c σ3 H3 hc ⟨g3, l3, y4, y5, y6, y7, y8, rfl⟩
          refine s_forR1 (n := (n : Int)) (ea_cons (ev_v rfl) ea_nil) (by omega) (fun i σ4 H4 => Ex H H4 ∧ (∀ d, Cand ws a b c d → i ≤ d) ∧ ∃ y5 y6 y7 y8, σ4 = [some (.ref na), some (.int (n : Int)), some (.int (a : Int)), some (.int (b : Int)), some (.int (c : Int)), y5, y6, y7, y8]) (fun H4 e4 => ⟨g3.trans e4, fun _ _ => Nat.zero_le _, _, _, _, _, rfl⟩) ?_ ?_
          · rintro d σ4 H4 hd ⟨g4, l4, y5, y6, y7, y8, rfl⟩
            refine q_asgD (d := .lst (([(a, b), (b, c), (c, d), (d, a)] : List Pr).map prD)) (ed_lst (er_cons (ed_tup (er_cons (evd_v (ev_v rfl) (.int _)) (er_cons (evd_v (ev_v rfl) (.int _)) er_nil)) (by show 2 ≤ 100000; decide)) (er_cons (ed_tup (er_cons (evd_v (ev_v rfl) (.int _)) (er_cons (evd_v (ev_v rfl) (.int _)) er_nil)) (by show 2 ≤ 100000; decide)) (er_cons (ed_tup (er_cons (evd_v (ev_v rfl) (.int _)) (er_cons (evd_v (ev_v rfl) (.int _)) er_nil)) (by show 2 ≤ 100000; decide)) (er_cons (ed_tup (er_cons (evd_v (ev_v rfl) (.int _)) (er_cons (evd_v (ev_v rfl) (.int _)) er_nil)) (by show 2 ≤ 100000; decide)) er_nil)))) (by show 4 ≤ 100000; decide)) fun u H5 e5 r5 => ?_
            have g5 := g4.trans e5
            refine q_asgD (ed_lcM (α := Pr) prD prD (fun p => adj ws p.1 p.2) (l := [(a, b), (b, c), (c, d), (d, a)]) (evd_v (ev_v rfl) r5) (by show 4 ≤ 40000; decide) (fun _ => rfl) (fun x _ => nol_pr x) (fun x _ => nol_pr x) (fun x z H6 e6 hz hr => ?_) fun x z H6 e6 hz hr _ => evd_v (ev_v rfl) hr) fun u2 H6 e6 r6 => ?_
            · obtain ⟨xa, rfl, hxa⟩ := prd_at hr
              exact et_is (et_test (ev_inDT (d := prD (min z.1 z.2, max z.1 z.2)) (ds := ws.map prD) (ed_tup (er_cons (evd_v (ev_minT (ev_v rfl) (st_of hxa)) (.int _)) (er_cons (evd_v (ev_maxT (ev_v rfl) (st_of hxa)) (.int _)) er_nil)) (by show 2 ≤ 100000; decide)) (evd_v (ev_ixT (j := 1) (v := .ref nb) (ev_v rfl) (ev_cn 1) (st_of ((g5.trans e6) _ _ hna)) rfl) (.tup ((g5.trans e6) _ _ hnb) (hus.mono (g5.trans e6)))) (shp_pr _) (shp_ws _))) (any_pr _ ws)
            have g6 := g5.trans e6
            cases r6 with
            | @lst ra us2 _ hra hr2 =>
              have hul := hr2.len
              rw [List.length_map] at hul
              have hall : decide (us2.length = 4) = (adj ws a b && adj ws b c && adj ws c d && adj ws d a) := by
                rw [hul]
                simp only [List.filter_cons, List.filter_nil]
                cases adj ws a b <;> cases adj ws b c <;> cases adj ws c d <;> cases adj ws d a <;> rfl
              have hcand : ((adj ws a b && adj ws b c && adj ws c d && adj ws d a) && (!decide (a = c) && !decide (b = d))) = true ↔ Cand ws a b c d := by
                unfold Cand
                simp only [Bool.and_eq_true, Bool.not_eq_true', decide_eq_false_iff_not]
                exact ⟨fun ⟨⟨⟨⟨h1, h2⟩, h3⟩, h4⟩, h5, h6⟩ => ⟨h1, h2, h3, h4, h5, h6⟩, fun ⟨h1, h2, h3, h4, h5, h6⟩ => ⟨⟨⟨⟨h1, h2⟩, h3⟩, h4⟩, h5, h6⟩⟩
              have neE : ∀ {x y : Nat}, decide (V.int (x : Int) = V.int (y : Int)) = decide (x = y) := fun {x y} => decide_eq_decide.mpr ⟨fun h => by have := V.int.inj h; omega, fun h => by rw [h]⟩
              refine s_when (b := (adj ws a b && adj ws b c && adj ws c d && adj ws d a) && (!decide (a = c) && !decide (b = d))) (et_and (et_is (et_test (ev_op (ev_len (ev_v rfl) (sq_of hra)) (ev_cn 4) (rv_eq rfl))) (by rw [neE, hall])) fun _ => et_and (et_is (et_test (ev_op (ev_v rfl) (ev_v rfl) (rv_ne rfl))) (by rw [neE])) fun _ => et_is (et_test (ev_op (ev_v rfl) (ev_v rfl) (rv_ne rfl))) (by rw [neE])) (fun hb2 H7 e7 => ?_) fun hb2 H7 e7 => ?_
              · have hcd' := hcand.mp hb2
                refine s_retD (d := rndD [a, b, c, d]) (ed_tup (er_cons (evd_v (ev_v rfl) (.int _)) (er_cons (evd_v (ev_v rfl) (.int _)) (er_cons (evd_v (ev_v rfl) (.int _)) (er_cons (evd_v (ev_v rfl) (.int _)) er_nil)))) (by show 4 ≤ 100000; decide)) fun u H8 e8 r8 => q [a, b, c, d] u H8 (.inr ⟨a, b, c, d, rfl, hcd', fun a' b' c' d' h' => ?_⟩) ((g6.trans e7).trans e8) r8
                have m1 := l1 _ _ _ _ h'
                by_cases ea : a = a'
                · subst ea
                  refine .inr ⟨rfl, ?_⟩
                  have m2 := l2 _ _ _ h'
                  by_cases eb : b = b'
                  · subst eb
                    refine .inr ⟨rfl, ?_⟩
                    have m3 := l3 _ _ h'
                    by_cases ec : c = c'
                    · subst ec
                      exact .inr ⟨rfl, l4 _ h'⟩
                    · exact .inl (by omega)
                  · exact .inl (by omega)
                · exact .inl (by omega)
              · refine ⟨g6.trans e7, fun d' h' => ?_, _, _, _, _, rfl⟩
                have := l4 _ h'
                by_cases e : d' = d
                · subst e
                  rw [hcand.mpr h'] at hb2
                  exact nomatch hb2
                · omega
          · rintro σ4 H4 ⟨g4, l4, y5, y6, y7, y8, rfl⟩
            rw [Int.toNat_natCast] at l4
            refine ⟨g4, fun c' d' h' => ?_, _, _, _, _, _, rfl⟩
            have := l3 _ _ h'
            by_cases e : c' = c
            · subst e
              have := l4 _ h'
              have := (adj_lt hn h'.2.2.1).2.1
              omega
            · omega
        · rintro σ3 H3 ⟨g3, l3, y4, y5, y6, y7, y8, rfl⟩
          rw [Int.toNat_natCast] at l3
          refine ⟨g3, fun b' c' d' h' => ?_, _, _, _, _, _, _, rfl⟩
          have := l2 _ _ _ h'
          by_cases e : b' = b
          · subst e
            have := l3 _ _ h'
            have := (adj_lt hn h'.2.1).2.1
            omega
          · omega
      · rintro σ2 H2 ⟨g2, l2, y3, y4, y5, y6, y7, y8, rfl⟩
        rw [Int.toNat_natCast] at l2
        refine ⟨g2, fun a' b' c' d' h' => ?_, _, _, _, _, _, _, _, rfl⟩
        have := l1 _ _ _ _ h'
        by_cases e : a' = a
        · subst e
          have := l2 _ _ _ h'
          have := (adj_lt hn h'.1).2.1
          omega
        · omega
    · rintro σ' H' ⟨g1, l1, y2, y3, y4, y5, y6, y7, y8, rfl⟩
      rw [Int.toNat_natCast] at l1
      refine s_retD (d := rndD []) (ed_tup er_nil (by decide)) fun u H2 e2 r2 => q [] u H2 (.inl ⟨rfl, fun a b c d h => ?_⟩) (g1.trans e2) r2
      have := l1 _ _ _ _ h
      have := (adj_lt hn h.1).1
      omega
abbrev s_middle_talks : Stmt := topS 6
theorem sc_middle_talks : FnScope ["four", "a", "b", "c", "d"] ["four"] (defScope s_middle_talks) := ⟨rfl, rfl, rfl, by decide +kernel, rfl, by decide +kernel, by decide +kernel⟩
def midF : List Nat → List Pr
  | [a, b] => [(a, b)]
  | [a, b, c, d] => [(a, b), (c, d), (d, a), (b, c)]
  | _ => []
def ok_mid (vs : List V) (H : Hp) (d : D) : Prop := ∃ (v : V) (r : List Nat), vs = [v] ∧ Rep H v (rndD r) ∧ ((∃ a b, r = [a, b]) ∨ ∃ a b c d, r = [a, b, c, d]) ∧ d = .lst ((midF r).map prD)
theorem fn_mid {f : Addr} {fd : FuncData} {k : Nat} (F : Fun K "middle_talks" "middle_talks" s_middle_talks f fd) (N : Nb mg) : FnOk P w K mg base CX0 (k + 1) f fd ["four"] (spD ok_mid) := by
  refine F.ok sc_middle_talks (fun vs H Q E h => ?_) (fun cdv A outer s H vs Q E hr h => ?_)
  · obtain ⟨_, ⟨_, _, rfl, _⟩, _⟩ := h
    rfl
  · obtain ⟨_, ⟨v, r, rfl, hR, hc, hz⟩, q⟩ := h
    rw [hz] at q
    refine ⟨_, (pss_cons (ps_if (pt_cmpR op_eq (pe_callB call_len_seq (by rfl) N.len PySem.boot_len (pa_cons (pv 0) pa_nil)) pe_int (nomark _)) (pss_one (ps_ret (pe_lst (pa_cons (pe_tup (pa_cons (pe_ix ix_tup (pv 0) pe_int (fun _ _ => rfl)) (pa_cons (pe_ix ix_tup (pv 0) pe_int (fun _ _ => rfl)) pa_nil))) pa_nil)))) pss_nil)
      (pss_cons (ps_asg (pv 0) (pg_tup rfl (pgs_cons (pg_name (i := 1) sc_middle_talks.nd rfl (Or.inl rfl)) (pgs_cons (pg_name (i := 2) sc_middle_talks.nd rfl (Or.inl rfl)) (pgs_cons (pg_name (i := 3) sc_middle_talks.nd rfl (Or.inl rfl)) (pgs_cons (pg_name (i := 4) sc_middle_talks.nd rfl (Or.inl rfl)) pgs_nil))))))
      (pss_one (ps_ret (pe_lst (pa_cons (pe_tup (pa_cons (pv 1) (pa_cons (pv 2) pa_nil))) (pa_cons (pe_tup (pa_cons (pv 3) (pa_cons (pv 4) pa_nil))) (pa_cons (pe_tup (pa_cons (pv 4) (pa_cons (pv 1) pa_nil))) (pa_cons (pe_tup (pa_cons (pv 2) (pa_cons (pv 3) pa_nil))) pa_nil))))))))), ?_⟩
    have two : ∀ {σ : L2.St} {H2 : Hp} {ta tb : TE} {x y : Nat}, Ev ta σ H2 (.int (x : Int)) → Ev tb σ H2 (.int (y : Int)) → EvD (tTup (tCons ta (tCons tb tNil))) σ H2 (prD (x, y)) := fun ha hb => ed_tup (er_cons (evd_v ha (.int _)) (er_cons (evd_v hb (.int _)) er_nil)) (by show 2 ≤ 100000; decide)
    rcases hc with ⟨a, b, rfl⟩ | ⟨a, b, c, d, rfl⟩
    · unfold rndD at hR
      cases hR with
      | @tup ra us _ hra rs => cases rs with
        | cons r0 rs => cases rs with
          | cons r1 rs =>
            cases rs
            cases r0
            cases r1
            exact q_when (b := true) (et_is (et_test (ev_op (ev_lenT (ev_v rfl) (st_of hra)) ev_c (rv_eq rfl))) rfl) (fun _ H1 e1 => s_retD (ed_lst (er_cons (two (ev_ixT (j := 0) (ev_v rfl) (ev_cn 0) (st_of (e1 _ _ hra)) rfl) (ev_ixT (j := 1) (ev_v rfl) (ev_cn 1) (st_of (e1 _ _ hra)) rfl)) er_nil) (by show 1 ≤ 100000; decide)) fun u H2 e2 r2 => q u H2 (e1.trans e2) r2) (fun z => nomatch z)
    · unfold rndD at hR
      cases hR with
      | @tup ra us _ hra rs => cases rs with
        | cons r0 rs => cases rs with
          | cons r1 rs => cases rs with
            | cons r2 rs => cases rs with
              | cons r3 rs =>
                cases rs
                cases r0
                cases r1
                cases r2
                cases r3
                refine q_when (b := false) (et_is (et_test (ev_op (ev_lenT (ev_v rfl) (st_of hra)) ev_c (rv_eq rfl))) rfl) (fun z => nomatch z) fun _ H1 e1 => ?_
                refine s_unt (D := { nx := _, rt := _, ct := _, bk := _ }) (vs := [.int (a : Int), .int (b : Int), .int (c : Int), .int (d : Int)]) [1, 2, 3, 4] (ev_v rfl) (st_of (e1 _ _ hra)) rfl rfl fun H2 e2 => ?_
                exact s_retD (ed_lst (er_cons (two (ev_v rfl) (ev_v rfl)) (er_cons (two (ev_v rfl) (ev_v rfl)) (er_cons (two (ev_v rfl) (ev_v rfl)) (er_cons (two (ev_v rfl) (ev_v rfl)) er_nil)))) (by show 4 ≤ 100000; decide)) fun u H3 e3 r3 => q u H3 ((e1.trans e2).trans e3) r3
end
end K96

set_option Elab.async false
set_option linter.all false
set_option maxRecDepth 100000
set_option maxHeartbeats 4000000
namespace K96
open PySem PySem.Spec PyProof.Rows L2 Evl My
/-! what houses know, as bits -/
def spreadF (ms : List Nat) (i j : Nat) : List Nat := (List.range ms.length).map fun k => if k = i ∨ k = j then ms.getD i 0 ||| ms.getD j 0 else ms.getD k 0
def runF (ms : List Nat) (ts : List Pr) : List Nat := ts.foldl (fun m p => spreadF m p.1 p.2) ms
def firstF (n : Nat) : List Nat := (List.range n).map fun k => 1 <<< k
def wholeF (n : Nat) : List Nat := (List.range n).map fun _ => 1 <<< n - 1
theorem spread_len (ms : List Nat) (i j : Nat) : (spreadF ms i j).length = ms.length := by
  unfold spreadF
  rw [List.length_map, List.length_range]
theorem spread_get {ms : List Nat} {i j k : Nat} (hk : k < ms.length) : (spreadF ms i j).getD k 0 = if k = i ∨ k = j then ms.getD i 0 ||| ms.getD j 0 else ms.getD k 0 := by
  unfold spreadF
  rw [List.getD_eq_getElem?_getD, List.getElem?_map, List.getElem?_range hk]
  rfl
theorem run_len (ts : List Pr) : ∀ ms : List Nat, (runF ms ts).length = ms.length := by
  induction ts with
  | nil => exact fun _ => rfl
  | cons p ts ih =>
    intro ms
    show (runF (spreadF ms p.1 p.2) ts).length = _
    rw [ih, spread_len]
theorem first_len (n : Nat) : (firstF n).length = n := by
  unfold firstF
  rw [List.length_map, List.length_range]
theorem whole_len (n : Nat) : (wholeF n).length = n := by
  unfold wholeF
  rw [List.length_map, List.length_range]
/-- what stays below -/
def Blw (n : Nat) (ms : List Nat) : Prop := ∀ k, ms.getD k 0 < 2 ^ n
theorem blw_first (n : Nat) : Blw n (firstF n) := fun k => by
  unfold firstF
  by_cases hk : k < n
  · rw [List.getD_eq_getElem?_getD, List.getElem?_map, List.getElem?_range hk]
    show 1 <<< k < 2 ^ n
    rw [Nat.shiftLeft_eq, Nat.one_mul]
    exact Nat.pow_lt_pow_right (by decide) hk
  · rw [List.getD_eq_getElem?_getD, List.getElem?_eq_none (by rw [List.length_map, List.length_range]; omega)]
    exact Nat.pow_pos (by decide)
theorem blw_spread {n : Nat} {ms : List Nat} (h : Blw n ms) (i j : Nat) : Blw n (spreadF ms i j) := fun k => by
  by_cases hk : k < ms.length
  · rw [spread_get hk]
    split
    · exact Nat.or_lt_two_pow (h i) (h j)
    · exact h k
  · rw [List.getD_eq_getElem?_getD, List.getElem?_eq_none (by rw [spread_len]; omega)]
    exact Nat.pow_pos (by decide)
/-! dicts of houses -/
def dkN (ks : List Nat) : List (Key × V) := ks.map fun (k : Nat) => (Sum.inl (k : Int), V.bl true)
def addN (acc : List Nat) (x : Nat) : List Nat := if x ∈ acc then acc else acc ++ [x]
theorem addN_mem {acc : List Nat} {x y : Nat} : y ∈ addN acc x ↔ y ∈ acc ∨ y = x := by
  unfold addN
  split
  · rename_i h
    exact ⟨.inl, fun z => z.elim id fun e => by rw [e]; exact h⟩
  · rw [List.mem_append, List.mem_singleton]
theorem addN_nodup {acc : List Nat} {x : Nat} (h : acc.Nodup) : (addN acc x).Nodup := by
  unfold addN
  split
  · exact h
  · rename_i hx
    rw [List.nodup_append]
    refine ⟨h, by simp, fun a ha b hb => ?_⟩
    rw [List.mem_singleton.mp hb]
    exact fun e => hx (e ▸ ha)
theorem foldN_mem (l : List Nat) : ∀ (acc : List Nat) (y : Nat), y ∈ l.foldl addN acc ↔ y ∈ acc ∨ y ∈ l := by
  induction l with
  | nil => intro acc y; simp
  | cons x l ih =>
    intro acc y
    rw [List.foldl_cons, ih, addN_mem, List.mem_cons]
    exact or_assoc
theorem foldN_nodup (l : List Nat) : ∀ acc : List Nat, acc.Nodup → (l.foldl addN acc).Nodup := by
  induction l with
  | nil => exact fun _ h => h
  | cons x l ih => exact fun acc h => ih _ (addN_nodup h)
theorem dkN_any (h : Nat) : ∀ ks : List Nat, (dkN ks).any (fun kv => decide (kv.1 = (Sum.inl (h : Int) : Key))) = decide (h ∈ ks)
  | [] => rfl
  | k :: ks => by
    show (decide ((Sum.inl (k : Int) : Key) = Sum.inl (h : Int)) || (dkN ks).any _) = _
    rw [dkN_any h ks, ← Bool.decide_or]
    refine decide_eq_decide.mpr ?_
    rw [inl_int, List.mem_cons]
    exact ⟨fun z => z.imp Eq.symm id, fun z => z.imp Eq.symm id⟩
theorem dkN_put (ks : List Nat) (h : Nat) : putK (dkN ks) (.inl (h : Int)) (.bl true) = dkN (addN ks h) := by
  unfold putK addN
  rw [dkN_any]
  by_cases hk : h ∈ ks
  · rw [decide_eq_true hk, if_pos rfl, if_pos hk]
    unfold dkN
    rw [List.map_map]
    refine List.map_congr_left fun k _ => ?_
    show (if (Sum.inl (k : Int) : Key) = Sum.inl (h : Int) then ((Sum.inl (k : Int) : Key), V.bl true) else (Sum.inl (k : Int), V.bl true)) = _
    rw [ite_self]
  · rw [decide_eq_false hk, if_neg (by decide), if_neg hk]
    unfold dkN
    rw [List.map_append]
    rfl
theorem dkN_merge (bs : List Nat) : ∀ as : List Nat, mergeK (dkN as) (dkN bs) = dkN (bs.foldl addN as) := by
  induction bs with
  | nil => exact fun _ => rfl
  | cons b bs ih =>
    intro as
    show mergeK (putK (dkN as) (.inl (b : Int)) (.bl true)) (dkN bs) = _
    rw [dkN_put, ih]
    rfl
theorem dkN_len (ks : List Nat) : (dkN ks).length = ks.length := List.length_map _
def KnAt (H : Hp) (ds : List Addr) (ms : List Nat) : Prop := ds.length = ms.length ∧ ∀ (i : Nat) (a : Addr), ds[i]? = some a → ∃ ks : List Nat, H a = some (.dK (dkN ks)) ∧ ks.Nodup ∧ ∀ h, h ∈ ks ↔ (ms.getD i 0).testBit h = true
theorem bit_lt {m n h : Nat} (hm : m < 2 ^ n) (hb : m.testBit h = true) : h < n := by
  refine Classical.byContradiction fun hn => ?_
  rw [Nat.testBit_lt_two_pow (Nat.lt_of_lt_of_le hm (Nat.pow_le_pow_right (by decide) (by omega)))] at hb
  exact nomatch hb
theorem full_bits {m n : Nat} (hm : m < 2 ^ n) : m = 1 <<< n - 1 ↔ ∀ h, h < n → m.testBit h = true := by
  rw [Nat.shiftLeft_eq, Nat.one_mul]
  constructor
  · rintro rfl h hh
    rw [Nat.testBit_two_pow_sub_one, decide_eq_true hh]
  · intro h
    refine Nat.eq_of_testBit_eq fun i => ?_
    rw [Nat.testBit_two_pow_sub_one]
    by_cases hi : i < n
    · rw [h i hi, decide_eq_true hi]
    · rw [decide_eq_false hi]
      exact Nat.testBit_lt_two_pow (Nat.lt_of_lt_of_le hm (Nat.pow_le_pow_right (by decide) (by omega)))
theorem full_len {ks : List Nat} {m n : Nat} (hm : m < 2 ^ n) (hn : ks.Nodup) (hk : ∀ h, h ∈ ks ↔ m.testBit h = true) : decide (ks.length = n) = decide (m = 1 <<< n - 1) := by
  have hlt : ∀ h ∈ ks, h < n := fun h hh => bit_lt hm ((hk h).mp hh)
  refine decide_eq_decide.mpr ?_
  rw [full_bits hm]
  constructor
  · intro hl h hh
    refine (hk h).mp (Classical.byContradiction fun hno => ?_)
    have := nodup_lt (l := ks.map fun x => if x < h then x else x - 1) (n := n - 1) ?_ ?_
    · rw [List.length_map] at this
      omega
    · unfold List.Nodup
      rw [List.pairwise_map]
      refine List.Pairwise.imp_of_mem (fun {a b} ha hb hab => ?_) hn
      have h1 : a ≠ h := fun e => hno (e ▸ ha)
      have h2 : b ≠ h := fun e => hno (e ▸ hb)
      split <;> split <;> omega
    · intro x hx
      obtain ⟨y, hy, rfl⟩ := List.mem_map.mp hx
      have h1 : y ≠ h := fun e => hno (e ▸ hy)
      have := hlt y hy
      split <;> omega
  · intro h
    have h1 := nodup_lt hn hlt
    have h2 := nodup_subG (a := List.range n) (b := ks) List.nodup_range fun x hx => (hk x).mpr (h x (List.mem_range.mp hx))
    rw [List.length_range] at h2
    omega
def rLenD : List V → Hp → VK → Prop := fun xs H Q => ∃ (a : Addr) (kvs : List (Key × V)), xs = [V.ref a] ∧ H a = some (.dK kvs) ∧ Q (.int kvs.length) H
theorem call_lenDI {X : Cx} : CallR X (.builtin "len") rLenD := call_lenD
theorem reps_nats (H : Hp) : ∀ xs : List Nat, Reps H (nats xs) (xs.map fun (x : Nat) => D.int (x : Int))
  | [] => .nil
  | x :: xs => .cons (.int _) (reps_nats H xs)
theorem rnd_at {H : Hp} {v : V} {xs : List Nat} (h : Rep H v (rndD xs)) : ∃ a, v = .ref a ∧ H a = some (.tup (nats xs)) := by
  unfold rndD at h
  cases h with
  | @tup a us _ ha rs =>
    have : us = nats xs := by
      clear ha
      induction xs generalizing us with
      | nil => cases rs; rfl
      | cons x xs ih =>
        cases rs with
        | cons r0 rs =>
          cases r0
          rw [ih rs]
          rfl
    subst this
    exact ⟨a, rfl, ha⟩
theorem rnd_rep {H : Hp} {a : Addr} {xs : List Nat} (h : H a = some (.tup (nats xs))) : Rep H (.ref a) (rndD xs) := .tup h (reps_nats H xs)
theorem nol_rnd (xs : List Nat) : NoL (rndD xs) := by
  unfold rndD
  rw [NoL]
  exact nol_all fun x _ => by rw [NoL]; trivial
section
variable {σ : L2.St} {H : Hp} {te : TE} {xs : List Nat}
theorem ed_nats (h : EvU te σ H (nats xs)) : EvD te σ H (rndD xs) := fun H1 e Q q => h H1 e _ fun p H2 _ e2 h2 => q _ H2 e2 (rnd_rep h2)
end
theorem r_disp1 {σ : L2.St} {H : Hp} {Q : VK} {i j : Nat} (hv : σ[j]? = some (some (.int (i : Int)))) (q : ∀ p H4, H p = none → Ex H H4 → H4 p = some (.dK (dkN [i])) → Q (.ref p) H4) : tDisp [(tVar j, tC (.bl true))] σ H Q := by
  intro p hp
  refine r_var hv (r_c ⟨upd_same, [(Sum.inl (i : Int), V.bl true)], rfl, by show 1 ≤ 15; decide, ?_⟩)
  exact q p _ hp ((Ex.new hp).mut hp) upd_same
theorem r_asgG {te : TE} {g : TG} {D0 : Ends} {σ : L2.St} {H : Hp} (h : te σ H fun v H1 => g v σ H1 D0.nx) : tAsg te g D0 σ H := h
theorem r_tup {ta : TA} {σ : L2.St} {H : Hp} {Q : VK} (h : ta σ H fun vs H1 => vs.length ≤ sizeLine ∧ ∀ p, H1 p = none → Q (.ref p) (upd H1 p (.tup vs))) : tTup ta σ H Q := h
theorem in_two (k i j : Nat) : inV (.int (k : Int)) [.int (i : Int), .int (j : Int)] = decide (k = i ∨ k = j) := by
  unfold inV
  rw [List.any_cons, List.any_cons, List.any_nil, Bool.or_false, eqV_nat, eqV_nat, ← Bool.decide_or]
  exact decide_eq_decide.mpr ⟨fun h => h.imp Eq.symm Eq.symm, fun h => h.imp Eq.symm Eq.symm⟩
theorem nats_at {ms : List Nat} {i : Nat} (h : i < ms.length) : (nats ms)[i]? = some (.int ((ms.getD i 0 : Nat) : Int)) := nats_get h
section
variable {P : Program} {w : World} {K : PySem.W.Frag} {mg : Str → Option Value} {base : Heap}
abbrev s_law_spread : Stmt := topS 18
theorem sc_law_spread : FnScope ["known", "i", "j", "both", "k"] ["known", "i", "j"] (defScope s_law_spread) := ⟨rfl, rfl, rfl, by decide +kernel, rfl, by decide +kernel, by decide +kernel⟩
/- 0 known*, 1 i*, 2 j*, 3 both*, 4 k -/
def ok_spread (vs : List V) (H : Hp) (d : D) : Prop := ∃ (v : V) (ms : List Nat) (i j : Nat), vs = [v, .int (i : Int), .int (j : Int)] ∧ Rep H v (rndD ms) ∧ ms.length ≤ 100 ∧ i < ms.length ∧ j < ms.length ∧ d = rndD (spreadF ms i j)
theorem fn_spread {f : Addr} {fd : FuncData} {k : Nat} (F : Fun K "_law_spread" "_law_spread" s_law_spread f fd) (N : Nb mg) : FnOk P w K mg base CX0 (k + 1) f fd ["known", "i", "j"] (spD ok_spread) := by
  refine F.ok sc_law_spread (fun vs H Q E h => ?_) (fun cdv A outer s H vs Q E hr h => ?_)
  · obtain ⟨_, ⟨_, _, _, _, rfl, _⟩, _⟩ := h
    rfl
  · obtain ⟨_, ⟨v, ms, i, j, rfl, hR, hl, hi, hj, hz⟩, q⟩ := h
    rw [hz] at q
    refine ⟨_, (pss_cons (ps_set (i := 3) sc_law_spread.nd rfl (Or.inr rfl) (pe_op op_or (pe_ix ix_tup (pv 0) (pv 1) (fun _ _ => rfl)) (pe_ix ix_tup (pv 0) (pv 2) (fun _ _ => rfl))))
      (pss_one (ps_ret (pe_callTy call_tuple_of (by rfl) N.tuple PyProof.Rows.boot_tuple (pa_cons (pe_lc (own := [("k", 4)]) (by rfl) sc_law_spread.nd (pi_range1 rfl N.range (pa_cons (pe_callB call_len_seq (by rfl) N.len PySem.boot_len (pa_cons (pv 0) pa_nil)) pa_nil)) (blkOk_by (own := [("k", 4)]) (N := ["known", "i", "j", "both", "k"]) (sc := defScope s_law_spread) (by decide +kernel)) (fun _ _ _ _ _ => (pg_name (i := 4) sc_law_spread.nd rfl (Or.inl rfl))) (fun _ _ _ _ _ => pts_nil) (fun _ _ _ _ _ => (pe_ifExp (pt_cmpR (r := rIn K false) op_in_seq (pv 4) (pe_lst (pa_cons (pv 1) (pa_cons (pv 2) pa_nil))) rfl) (pv 3) (pe_ix (r := rIxT K) ix_tup (pv 0) (pv 4) (fun _ _ => rfl))))) pa_nil))))), ?_⟩
    obtain ⟨a, rfl, ha⟩ := rnd_at hR
    refine q_asg (v := .int ((ms.getD i 0 ||| ms.getD j 0 : Nat) : Int)) (ev_op (ev_ixT (j := i) (ev_v rfl) (ev_v rfl) (st_of ha) (nats_at hi)) (ev_ixT (j := j) (ev_v rfl) (ev_v rfl) (st_of ha) (nats_at hj)) rv_orN) fun H1 e1 => ?_
    refine s_retD (ed_nats (eu_tupL (el_is (el_lcR1 (n := ((ms.length : Nat) : Int)) (fun _ => true) (fun k => .int ((if k = i ∨ k = j then ms.getD i 0 ||| ms.getD j 0 else ms.getD k 0 : Nat) : Int)) (ea_cons (ev_is (ev_lenT (ev_v rfl) (st_of (e1 _ _ ha))) (by rw [nats_len])) ea_nil) (by omega) (fun _ => rfl) (fun k H2 e2 hk => et_yes) fun k H2 e2 hk _ => ?_) ?_))) fun u H2 e2 r2 => q u H2 (e1.trans e2) r2
    · have hk : k < ms.length := by omega
      refine ev_if (b := decide (k = i ∨ k = j)) (et_is (et_test (ev_inN (ev_v (v := .int (k : Int)) rfl) (el_lst (ea_cons (ev_v rfl) (ea_cons (ev_v rfl) ea_nil)) (by show 2 ≤ 100000; decide)) rfl rfl)) (in_two k i j)) (fun hb => ?_) fun hb => ?_
      · rw [if_pos (of_decide_eq_true hb)]
        exact ev_v rfl
      · rw [if_neg (of_decide_eq_false hb)]
        exact ev_ixT (j := k) (ev_v rfl) (ev_v rfl) (st_of ((e1.trans e2) _ _ ha)) (nats_at hk)
    · rw [Int.toNat_natCast, given_all]
      unfold spreadF nats
      rw [List.map_map]
      rfl
abbrev s_informs : Stmt := topS 8
theorem sc_informs : FnScope ["net", "talks", "i", "j", "known", "house", "both", "one"] ["net", "talks"] (defScope s_informs) := ⟨rfl, rfl, rfl, by decide +kernel, rfl, by decide +kernel, by decide +kernel⟩
/- 0 net*, 1 talks, 2 i, 3 j, 4 known, 5 house, 6 both, 7 one -/
def infB (n : Nat) (ws ts : List Pr) : Bool := ts.all (fun p => adj ws p.1 p.2) && decide (runF (firstF n) ts = wholeF n)
def ok_inf (vs : List V) (H : Hp) (z : V) : Prop := ∃ (v t : V) (n : Nat) (ws ts : List Pr), vs = [v, t] ∧ Rep H v (netD n ws) ∧ NetOk n ws ∧ Rep H t (.tup (ts.map prD)) ∧ ts.length ≤ 100 ∧ z = .bl (infB n ws ts)
theorem list_eq_whole {ms : List Nat} {n : Nat} (h : ms.length = n) : ms = wholeF n ↔ ∀ i, i < n → ms.getD i 0 = 1 <<< n - 1 := by
  constructor
  · rintro rfl i hi
    unfold wholeF
    rw [List.getD_eq_getElem?_getD, List.getElem?_map, List.getElem?_range hi]
    rfl
  · intro hh
    refine List.ext_getElem? fun i => ?_
    by_cases hi : i < n
    · have h1 : ms[i]? = some ms[i] := List.getElem?_eq_getElem (by omega)
      have h2 := hh i hi
      rw [List.getD_eq_getElem?_getD, h1] at h2
      have h2 : ms[i] = 1 <<< n - 1 := h2
      unfold wholeF
      rw [h1, h2, List.getElem?_map, List.getElem?_range hi]
      rfl
    · rw [List.getElem?_eq_none (by omega), List.getElem?_eq_none (by rw [whole_len]; omega)]
def lenV (H : Hp) : V → Nat
  | .ref a => match H a with
    | some (.dK kvs) => kvs.length
    | _ => 0
  | _ => 0
theorem lenV_at {H : Hp} {a : Addr} {ks : List Nat} (h : H a = some (.dK (dkN ks))) : lenV H (.ref a) = ks.length := by
  show (match H a with | some (.dK kvs) => kvs.length | _ => 0) = _
  rw [h]
  exact dkN_len ks
theorem ev_lenDI {σ : L2.St} {H : Hp} {te : TE} {d : Addr} {kvs : List (Key × V)} (h : Ev te σ H (.ref d)) (hd : H d = some (.dK kvs)) : Ev (tCB rLenD (tCons te tNil)) σ H (.int (kvs.length : Int)) := fun H1 e Q q =>
  h H1 e _ fun H2 e2 => ⟨d, kvs, rfl, (e.trans e2) _ _ hd, q H2 e2⟩
theorem fn_informs {f : Addr} {fd : FuncData} {k : Nat} (F : Fun K "informs" "informs" s_informs f fd) (N : Nb mg) (C_is_way : Cal P w K mg base k "is_way" ["net", "i", "j"] (spV ok_way)) : FnOk P w K mg base CX0 (k + 1) f fd ["net", "talks"] (spV ok_inf) := by
  refine F.ok sc_informs (fun vs H Q E h => ?_) (fun cdv A outer s H vs Q E hr h => ?_)
  · obtain ⟨_, ⟨_, _, _, _, _, rfl, _⟩, _⟩ := h
    rfl
  · obtain ⟨_, ⟨v, t, n, ws, ts, rfl, hR, hn, hT, htl, hz⟩, q⟩ := h
    rw [hz] at q
    refine ⟨_, (pss_cons (ps_if (pt_not (pt_val (pe_callB (cr_all rfl) (by rfl) N.all PyProof.Rows.boot_all (pa_cons (pe_lc (own := [("i", 2), ("j", 3)]) (by rfl) sc_informs.nd (pi_tup (pv 1)) (blkOk_by (own := [("i", 2), ("j", 3)]) (N := ["net", "talks", "i", "j", "known", "house", "both", "one"]) (sc := defScope s_informs) (by decide +kernel)) (fun _ _ _ _ _ => (show PG _ _ (gTup K 2 _) from pg_tup rfl (pgs_cons (pg_name (i := 2) sc_informs.nd rfl (Or.inl rfl)) (pgs_cons (pg_name (i := 3) sc_informs.nd rfl (Or.inl rfl)) pgs_nil)))) (fun _ _ _ _ _ => pts_nil) (fun _ _ _ _ _ => (pe_cal C_is_way hr (pa_cons (pv 0) (pa_cons (pv 2) (pa_cons (pv 3) pa_nil)))))) pa_nil)))) (pss_one (ps_ret pe_bl)) pss_nil)
      (pss_cons (ps_setLc (i := 4) (own := [("house", 5)]) (by rfl) sc_informs.nd rfl rfl (sw_true rfl rfl rfl (by decide +kernel)) (pi_range1 rfl N.range (pa_cons (pe_ix ix_tup (pv 0) pe_int (fun _ _ => rfl)) pa_nil)) (blkOk_by (own := [("house", 5)]) (N := ["net", "talks", "i", "j", "known", "house", "both", "one"]) (sc := defScope s_informs) (by decide +kernel)) (fun _ _ _ _ _ => (pg_name (i := 5) sc_informs.nd rfl (Or.inl rfl))) (fun _ _ _ _ _ => pts_nil) (fun _ _ _ _ _ => (pe_disp (pps_cons (pv 5) pe_bl pps_nil) rfl rfl (fun z => nomatch z) (by decide))))
      (pss_cons (ps_for PassesOwn.never rfl (pi_tup (pv 1)) (pg_tup rfl (pgs_cons (pg_name (i := 2) sc_informs.nd rfl (Or.inl rfl)) (pgs_cons (pg_name (i := 3) sc_informs.nd rfl (Or.inl rfl)) pgs_nil))) (pss_cons (ps_set (i := 6) sc_informs.nd rfl (Or.inl rfl) (pe_mrg2 (pe_ix ix_list (pv 4) (pv 2) (fun _ _ => rfl)) (pe_ix ix_list (pv 4) (pv 3) (fun _ _ => rfl))))
      (pss_one (ps_asg (pe_tup (pa_cons (pv 6) (pa_cons (pv 6) pa_nil))) (pg_tup rfl (pgs_cons (pg_sub (pv 4) (pv 2) set_list) (pgs_cons (pg_sub (pv 4) (pv 3) set_list) pgs_nil)))))))
      (pss_one (ps_ret (pe_callB (cr_all rfl) (by rfl) N.all PyProof.Rows.boot_all (pa_cons (pe_lc (own := [("one", 7)]) (by rfl) sc_informs.nd (pi_list (pv 4)) (blkOk_by (own := [("one", 7)]) (N := ["net", "talks", "i", "j", "known", "house", "both", "one"]) (sc := defScope s_informs) (by decide +kernel)) (fun _ _ _ _ _ => (pg_name (i := 7) sc_informs.nd rfl (Or.inl rfl))) (fun _ _ _ _ _ => pts_nil) (fun _ _ _ _ _ => (pe_cmpR op_eq (pe_callB (r := rLenD) call_lenDI (by rfl) N.len PySem.boot_len (pa_cons (pv 7) pa_nil)) (pe_ix (r := rIxT K) ix_tup (pv 0) pe_int (fun _ _ => rfl)) (nomark _)))) pa_nil))))))), ?_⟩
    have hn8 := hn.n8
    obtain ⟨na, nb, wus, rfl, hna, hnb, hwus⟩ := net_at hR
    cases hT with
    | @tup ta tus _ hta htus =>
      have htul := htus.len
      rw [List.length_map] at htul
      refine q_when (b := !(ts.all fun p => adj ws p.1 p.2)) (et_not (et_B (ev_is (ev_all (bs := ts.map fun p => adj ws p.1 p.2) (el_is (el_lcPr (ps := ts) (fun _ => true) (fun p => .bl (adj ws p.1 p.2)) (ev_v rfl) hta htus (by omega) (fun _ _ => rfl) (fun p hp H1 e1 => et_yes) fun p hp _ H1 e1 => ev_cal (ea_cons (ev_v rfl) (ea_cons (ev_v rfl) (ea_cons (ev_v rfl) ea_nil))) fun H2 e2 => ⟨_, n, p.1, p.2, ws, rfl, hR.mono (e1.trans e2), rfl⟩) (by rw [filt_true, List.map_map]; rfl))) (by rw [List.all_map]; rfl)))) (fun hb H1 e1 => s_ret ev_c fun H2 e2 => ?_) fun hb H1 e1 => ?_
      · rw [Bool.not_eq_true'] at hb
        have := q H2 (e1.trans e2)
        unfold infB at this
        rw [hb, Bool.false_and] at this
        exact this
      · rw [Bool.not_eq_false'] at hb
        unfold infB at q
        rw [hb, Bool.true_and] at q
        have hall : ∀ p ∈ ts, adj ws p.1 p.2 = true := fun p hp => List.all_eq_true.mp hb p hp
        -- what each knows at first
        refine r_asg (r_lcR1 (r_cons (r_ev (ev_ixT (j := 0) (v := .int (n : Int)) (ev_v rfl) (ev_cn 0) (st_of (e1 _ _ hna)) rfl) (Ex.refl _) fun H2 e2 => r_nil ⟨(n : Int), rfl, by omega, by omega, fun Dl hD => ?_⟩)))
        rw [Int.toNat_natCast]
        have E2 := e1.trans e2
        refine ⟨fun i m H' => m = n - i ∧ i ≤ n ∧ Ex H2 H' ∧ ∃ ds : List Addr, H' Dl = some (.lst (ds.map V.ref)) ∧ KnAt H' ds ((firstF n).take i), ⟨n, rfl, Nat.zero_le _, Ex.new hD, [], upd_same, rfl, fun i a h => nomatch h⟩, ?_⟩
        rintro i m H' ⟨rfl, hi, ex, ds, hl, hkn⟩
        have hdl : ds.length = i := by rw [hkn.1, List.length_take, first_len]; omega
        by_cases hlt : i < n
        · refine .inr ⟨hlt, fun H' => Ex H2 H' ∧ ∃ ds : List Addr, H' Dl = some (.lst (ds.map V.ref)) ∧ KnAt H' ds ((firstF n).take (i + 1)), fun H3 pp => ⟨n - (i + 1), by omega, rfl, hlt, pp⟩, fun x H3 y => ?_⟩
          obtain ⟨rfl, rfl⟩ := y
          refine ⟨rfl, tyes_ (iteT ?_)⟩
          have e0 : (0 : Int) + (i : Int) = (i : Int) := Int.zero_add _
          rw [e0]
          refine r_disp1 (i := i) rfl fun p H4 hp e3 hpd => ?_
          have hpl : p ≠ Dl := fun z => by rw [z, hl] at hp; exact nomatch hp
          refine ⟨ds.map V.ref, e3 _ _ hl, sz_lt (by rw [List.length_map]; omega), (ex.trans e3).mut hD, ds ++ [p], by rw [upd_same, List.map_append]; rfl, ?_, fun k a hk => ?_⟩
          · rw [List.length_append, hdl, List.length_take, first_len]
            show i + 1 = _
            omega
          · by_cases hki : k < i
            · rw [List.getElem?_append_left (by omega)] at hk
              obtain ⟨ks, k1, k2, k3⟩ := hkn.2 k a hk
              refine ⟨ks, ?_, k2, fun h => ?_⟩
              · rw [upd_ne (ne_kind (e3 _ _ k1) (e3 _ _ hl) (fun z => nomatch z))]
                exact e3 _ _ k1
              · rw [k3 h, List.getD_eq_getElem?_getD, List.getD_eq_getElem?_getD, List.getElem?_take, List.getElem?_take, if_pos hki, if_pos (by omega)]
            · have hki : k = i := by
                have := (List.getElem?_eq_some_iff.mp hk).1
                rw [List.length_append] at this
                have : k < ds.length + 1 := this
                omega
              subst hki
              rw [List.getElem?_append_right (by omega), show k - ds.length = 0 by omega] at hk
              cases hk
              refine ⟨[k], ?_, by simp, fun h => ?_⟩
              · rw [upd_ne hpl]
                exact hpd
              · have : ((firstF n).take (k + 1)).getD k 0 = 2 ^ k := by
                  rw [List.getD_eq_getElem?_getD, List.getElem?_take, if_pos (by omega)]
                  unfold firstF
                  rw [List.getElem?_map, List.getElem?_range hlt]
                  show 1 <<< k = _
                  rw [Nat.shiftLeft_eq, Nat.one_mul]
                rw [this, Nat.testBit_two_pow, List.mem_singleton, decide_eq_true_eq]
                exact eq_comm
        · have e0 : i = n := by omega
          subst e0
          rw [List.take_of_length_le (by rw [first_len]; exact Nat.le_refl _)] at hkn
          refine .inl ⟨Nat.le_refl _, ?_⟩
          have hDl0 := fresh_back (E2) hD
          -- the talks
          refine q_forT (xs := tus) (ev_v rfl) (st_of ((E2.trans ex) _ _ hta)) (fun j σ2 H3 => Ex H H3 ∧ (∃ ds : List Addr, H3 Dl = some (.lst (ds.map V.ref)) ∧ KnAt H3 ds (runF (firstF i) (ts.take j)) ∧ Blw i (runF (firstF i) (ts.take j))) ∧ ∃ y2 y3 y6, σ2 = [some (.ref na), some (.ref ta), y2, y3, some (.ref Dl), none, y6, none]) (fun H3 e3 => ⟨(E2.trans ex).trans e3, ⟨ds, e3 _ _ hl, ⟨hkn.1, fun k a hk => by
              obtain ⟨ks, k1, k2, k3⟩ := hkn.2 k a hk
              exact ⟨ks, e3 _ _ k1, k2, k3⟩⟩, blw_first i⟩, none, none, none, rfl⟩) (fun j σ2 H3 _ h => st_of (h.1 _ _ hta)) ?_ ?_
          · rintro j x σ2 H3 hx ⟨g3, ⟨ds3, l3, kn3, bl3⟩, y2, y3, y6, rfl⟩
            obtain ⟨dp, hdp, hrp⟩ := htus.get' hx
            rw [List.getElem?_map] at hdp
            obtain ⟨p, hpp, rfl⟩ := Option.map_eq_some_iff.mp hdp
            obtain ⟨pa, rfl, hpa⟩ := prd_at hrp
            have hadj := hall p (List.mem_of_getElem? hpp)
            obtain ⟨hp1, hp2, hp12⟩ := adj_lt hn hadj
            have hdl3 : ds3.length = i := by rw [kn3.1, run_len, first_len]
            have hnx : runF (firstF i) (ts.take (j + 1)) = spreadF (runF (firstF i) (ts.take j)) p.1 p.2 := by
              unfold runF
              rw [List.take_add_one, hpp, List.foldl_append]
              rfl
            have hml : (runF (firstF i) (ts.take j)).length = i := by rw [run_len, first_len]
            generalize runF (firstF i) (ts.take j) = ms at kn3 bl3 hnx hml
            refine ⟨_, _, rfl, st_of (g3 _ _ hpa), rfl, _, _, rfl, _, _, rfl, rfl, ?_⟩
            obtain ⟨a1, ha1⟩ : ∃ a, ds3[p.1]? = some a := ⟨_, List.getElem?_eq_getElem (by omega)⟩
            obtain ⟨a2, ha2⟩ : ∃ a, ds3[p.2]? = some a := ⟨_, List.getElem?_eq_getElem (by omega)⟩
            obtain ⟨k1, k1h, k1n, k1m⟩ := kn3.2 _ _ ha1
            obtain ⟨k2, k2h, k2n, k2m⟩ := kn3.2 _ _ ha2
            have k1l := nodup_lt k1n fun x hx => bit_lt (bl3 p.1) ((k1m x).mp hx)
            have k2l := nodup_lt k2n fun x hx => bit_lt (bl3 p.2) ((k2m x).mp hx)
            have g1 : (ds3.map V.ref)[p.1]? = some (.ref a1) := by rw [List.getElem?_map, ha1]; rfl
            have g2 : (ds3.map V.ref)[p.2]? = some (.ref a2) := by rw [List.getElem?_map, ha2]; rfl
            refine r_asg (r_mrg2 fun bp hbp => ?_)
            have eb : Ex H3 (upd H3 bp (.dK [])) := Ex.new hbp
            have hb0 : (upd H3 bp (.dK [])) bp = some (.dK []) := upd_same
            generalize upd H3 bp (.dK []) = H4 at eb hb0 ⊢
            have nb1 : bp ≠ a1 := fun z => by rw [z, k1h] at hbp; exact nomatch hbp
            have nb2 : bp ≠ a2 := fun z => by rw [z, k2h] at hbp; exact nomatch hbp
            refine r_ev (ev_ixL (j := p.1) (v := .ref a1) (ev_v rfl) (ev_v rfl) (sq_of (eb _ _ l3)) g1) (Ex.refl _) fun H5 e5 => ⟨a1, dkN k1, rfl, nb1, e5 _ _ hb0, (eb.trans e5) _ _ k1h, by rw [dkN_len]; omega, ?_⟩
            have hm1 : mergeK [] (dkN k1) = dkN (k1.foldl addN []) := dkN_merge k1 []
            rw [hm1]
            have ex5 : Ex H3 (upd H5 bp (.dK (dkN (k1.foldl addN [])))) := (eb.trans e5).mut hbp
            have hb5 : (upd H5 bp (.dK (dkN (k1.foldl addN [])))) bp = some (.dK (dkN (k1.foldl addN []))) := upd_same
            generalize upd H5 bp (.dK (dkN (k1.foldl addN []))) = H6 at ex5 hb5 ⊢
            refine r_ev (ev_ixL (j := p.2) (v := .ref a2) (ev_v rfl) (ev_v rfl) (sq_of (ex5 _ _ l3)) g2) (Ex.refl _) fun H7 e7 => ⟨a2, dkN (k1.foldl addN []), dkN k2, rfl, nb2, e7 _ _ hb5, (ex5.trans e7) _ _ k2h, ?_, ?_⟩
            · have := nodup_lt (foldN_nodup k1 [] List.nodup_nil) (n := i) fun x hx => bit_lt (bl3 p.1) ((k1m x).mp (((foldN_mem k1 [] x).mp hx).resolve_left (by simp)))
              rw [dkN_len, dkN_len]
              omega
            rw [dkN_merge]
            have ex7 : Ex H3 (upd H7 bp (.dK (dkN (k2.foldl addN (k1.foldl addN []))))) := (ex5.trans e7).mut hbp
            have hb7 : (upd H7 bp (.dK (dkN (k2.foldl addN (k1.foldl addN []))))) bp = some (.dK (dkN (k2.foldl addN (k1.foldl addN [])))) := upd_same
            generalize hke : k2.foldl addN (k1.foldl addN []) = kk at hb7 ex7
            generalize upd H7 bp (.dK (dkN kk)) = H8 at ex7 hb7 ⊢
            refine r_asgG (r_tup (r_cons (r_var rfl (r_cons (r_var rfl (r_nil ⟨sz_of (by show 2 ≤ 100000; decide), fun tp htp => ?_⟩))))))
            have e9 : Ex H8 (upd H8 tp (.tup [.ref bp, .ref bp])) := Ex.new htp
            have h9 : (upd H8 tp (.tup [.ref bp, .ref bp])) tp = some (.tup [.ref bp, .ref bp]) := upd_same
            generalize upd H8 tp (.tup [.ref bp, .ref bp]) = H9 at e9 h9 ⊢
            have ex9 := ex7.trans e9
            have l9 := ex9 _ _ l3
            refine ⟨tp, _, rfl, st_of h9, rfl, _, _, rfl, ?_⟩
            refine r_var rfl (r_var rfl ⟨Dl, ds3.map V.ref, _, p.1, rfl, rfl, l9, ixN_nat (by rw [List.length_map]; omega), ?_⟩)
            refine ⟨_, _, rfl, ?_⟩
            refine r_var rfl (r_var rfl ⟨Dl, _, _, p.2, rfl, rfl, upd_same, ixN_nat (by rw [List.length_set, List.length_map]; omega), ?_⟩)
            refine ⟨rfl, ?_⟩
            have hset : ((ds3.map V.ref).set p.1 (.ref bp)).set p.2 (.ref bp) = (((ds3.set p.1 bp).set p.2 bp).map V.ref) := by
              rw [List.map_set, List.map_set]
            rw [hset]
            have kd : ∀ (c : Addr) (kvs : List (Key × V)), H9 c = some (.dK kvs) → (upd (upd H9 Dl (.lst ((ds3.map V.ref).set p.1 (.ref bp)))) Dl (.lst (((ds3.set p.1 bp).set p.2 bp).map V.ref))) c = some (.dK kvs) := fun c kvs hc => by
              have : c ≠ Dl := ne_kind hc l9 (fun z => nomatch z)
              rw [upd_ne this, upd_ne this]
              exact hc
            refine ⟨((g3.trans ex9).mut hDl0).mut hDl0, ⟨(ds3.set p.1 bp).set p.2 bp, upd_same, ⟨?_, fun k a hk => ?_⟩, ?_⟩, _, _, _, rfl⟩
            · rw [hnx, List.length_set, List.length_set, spread_len, hml, hdl3]
            · have hkl : k < ms.length := by
                have := (List.getElem?_eq_some_iff.mp hk).1
                rw [List.length_set, List.length_set] at this
                omega
              rw [hnx, spread_get hkl]
              by_cases hkp : k = p.1 ∨ k = p.2
              · have ha : a = bp := by
                  rw [List.getElem?_set, List.getElem?_set] at hk
                  rcases hkp with e | e
                  · by_cases e2 : p.2 = k
                    · rw [if_pos e2, if_pos (by rw [List.length_set]; omega)] at hk
                      exact (Option.some.inj hk).symm
                    · rw [if_neg e2, if_pos e.symm, if_pos (by omega)] at hk
                      exact (Option.some.inj hk).symm
                  · rw [if_pos e.symm, if_pos (by rw [List.length_set]; omega)] at hk
                    exact (Option.some.inj hk).symm
                subst ha
                rw [if_pos hkp]
                refine ⟨kk, kd _ _ (e9 _ _ hb7), by rw [← hke]; exact foldN_nodup _ _ (foldN_nodup _ _ List.nodup_nil), fun h => ?_⟩
                rw [← hke, foldN_mem, foldN_mem, Nat.testBit_or, Bool.or_eq_true, k1m, k2m]
                simp
              · rw [if_neg hkp]
                rw [List.getElem?_set, List.getElem?_set, if_neg (fun e => hkp (.inr e.symm)), if_neg (fun e => hkp (.inl e.symm))] at hk
                obtain ⟨ks, h1, h2, h3⟩ := kn3.2 k a hk
                exact ⟨ks, kd _ _ (ex9 _ _ h1), h2, h3⟩
            · rw [hnx]
              exact blw_spread bl3 _ _
          · rintro σ2 H3 ⟨g3, ⟨ds3, l3, kn3, bl3⟩, y2, y3, y6, rfl⟩
            rw [htul, List.take_of_length_le (Nat.le_refl _)] at kn3 bl3
            have hml : (runF (firstF i) ts).length = i := by rw [run_len, first_len]
            generalize runF (firstF i) ts = ms at kn3 bl3 hml q
            have hdl3 : ds3.length = i := by rw [kn3.1, hml]
            have hitem : ∀ a ∈ ds3, ∃ k ks, ds3[k]? = some a ∧ k < i ∧ H3 a = some (.dK (dkN ks)) ∧ decide (ks.length = i) = decide (ms.getD k 0 = 1 <<< i - 1) := fun a ha => by
              obtain ⟨k, hk, hke⟩ := List.getElem_of_mem ha
              have hk' : ds3[k]? = some a := by rw [List.getElem?_eq_getElem hk, hke]
              obtain ⟨ks, k1, k2, k3⟩ := kn3.2 k a hk'
              exact ⟨k, ks, hk', by omega, k1, full_len (bl3 k) k2 k3⟩
            have hres : (ds3.map fun a => decide (lenV H3 (.ref a) = i)).all id = decide (ms = wholeF i) := by
              rw [List.all_map]
              by_cases hw : ms = wholeF i
              · rw [decide_eq_true hw, List.all_eq_true]
                intro a ha
                obtain ⟨k, ks, h1, h2, h3, h4⟩ := hitem a ha
                show decide (lenV H3 (.ref a) = i) = true
                rw [lenV_at h3, h4]
                exact decide_eq_true ((list_eq_whole hml).mp hw k h2)
              · rw [decide_eq_false hw]
                refine Bool.eq_false_iff.mpr fun h => hw ((list_eq_whole hml).mpr fun k hk => ?_)
                have hk' : ds3[k]? = some ds3[k] := List.getElem?_eq_getElem (by omega)
                obtain ⟨ks, k1, k2, k3⟩ := kn3.2 k _ hk'
                have := List.all_eq_true.mp h _ (List.mem_of_getElem? hk')
                have : decide (lenV H3 (.ref ds3[k]) = i) = true := this
                rw [lenV_at k1, full_len (bl3 k) k2 k3] at this
                exact of_decide_eq_true this
            refine s_ret (ev_is (ev_all (bs := ds3.map fun a => decide (lenV H3 (.ref a) = i)) (el_is (el_lcA (xs := ds3.map V.ref) (fun _ => true) (fun v => .bl (decide (lenV H3 v = i))) (ev_v rfl) (sq_of l3) (by rw [List.length_map]; omega) (fun _ => rfl) (fun x H4 e4 hx => et_yes) fun x H4 e4 hx _ => ?_) (by rw [filt_true, List.map_map, List.map_map]; rfl))) (by rw [hres])) fun H4 e4 => q H4 (g3.trans e4)
            obtain ⟨a, ha, rfl⟩ := List.mem_map.mp hx
            obtain ⟨k, ks, h1, h2, h3, h4⟩ := hitem a ha
            rw [lenV_at h3]
            refine ev_is (ev_op (ev_lenDI (ev_v rfl) (e4 _ _ h3)) (ev_ixT (j := 0) (v := .int (i : Int)) (ev_v rfl) (ev_cn 0) (st_of ((g3.trans e4) _ _ hna)) rfl) (rv_eq rfl)) ?_
            rw [dkN_len]
            exact congrArg V.bl (decide_eq_decide.mpr ⟨fun h => by have := V.int.inj h; omega, fun h => by rw [h]⟩)
end
end K96

set_option Elab.async false
set_option linter.all false
set_option maxRecDepth 100000
set_option maxHeartbeats 4000000
namespace K96
open PySem PySem.Spec PyProof.Rows L2 Evl My
/-! who knows what -/
def Has (ms : List Nat) (x h : Nat) : Prop := (ms.getD x 0).testBit h = true
theorem has_spread {ms : List Nat} {i j x h : Nat} (hx : x < ms.length) : Has (spreadF ms i j) x h ↔ if x = i ∨ x = j then Has ms i h ∨ Has ms j h else Has ms x h := by
  unfold Has
  rw [spread_get hx]
  split
  · rw [Nat.testBit_or, Bool.or_eq_true]
  · exact Iff.rfl
theorem has_mono {ms : List Nat} {i j x h : Nat} (hx : x < ms.length) (hh : Has ms x h) : Has (spreadF ms i j) x h := by
  rw [has_spread hx]
  split
  · rename_i e
    rcases e with rfl | rfl
    · exact .inl hh
    · exact .inr hh
  · exact hh
theorem has_both {ms : List Nat} {i j h : Nat} (hi : i < ms.length) (hj : j < ms.length) (hh : Has ms i h ∨ Has ms j h) : Has (spreadF ms i j) i h ∧ Has (spreadF ms i j) j h := by
  rw [has_spread hi, has_spread hj, if_pos (.inl rfl), if_pos (.inr rfl)]
  exact ⟨hh, hh⟩
theorem run_cons (ms : List Nat) (p : Pr) (ts : List Pr) : runF ms (p :: ts) = runF (spreadF ms p.1 p.2) ts := rfl
theorem run_app (ms : List Nat) (a b : List Pr) : runF ms (a ++ b) = runF (runF ms a) b := by
  unfold runF
  rw [List.foldl_append]
theorem has_run_mono {x h : Nat} (ts : List Pr) : ∀ ms : List Nat, x < ms.length → Has ms x h → Has (runF ms ts) x h := by
  induction ts with
  | nil => exact fun _ _ h => h
  | cons p ts ih => exact fun ms hx hh => ih _ (by rw [spread_len]; exact hx) (has_mono hx hh)
/-- each of the rest came from one before it -/
def Grow (roots : List Nat) (rest : List Pr) : Prop := ∀ (i : Nat) (p : Pr), rest[i]? = some p → p.2 ∈ roots ++ (rest.take i).map (·.1)
theorem snoc {α : Type} {l : List α} (h : l ≠ []) : ∃ a x, l = a ++ [x] := ⟨l.dropLast, l.getLast h, (List.dropLast_concat_getLast h).symm⟩
theorem grow_pre {roots : List Nat} {rest : List Pr} {p : Pr} (h : Grow roots (rest ++ [p])) : Grow roots rest ∧ p.2 ∈ roots ++ rest.map (·.1) := by
  refine ⟨fun i q hq => ?_, ?_⟩
  · have hi := (List.getElem?_eq_some_iff.mp hq).1
    have := h i q (by rw [List.getElem?_append_left hi]; exact hq)
    rwa [List.take_append_of_le_length (by omega)] at this
  · have := h rest.length p (by rw [List.getElem?_append_right (Nat.le_refl _), Nat.sub_self]; rfl)
    rwa [List.take_left] at this
theorem gather {roots : List Nat} {h : Nat} : ∀ (m : Nat) (rest : List Pr), rest.length = m → Grow roots rest → ∀ ms : List Nat, (∀ p ∈ rest, p.1 < ms.length ∧ p.2 < ms.length) → (∀ r ∈ roots, r < ms.length) → ∀ x ∈ roots ++ rest.map (·.1), Has ms x h → ∃ r ∈ roots, Has (runF ms rest.reverse) r h
  | 0, rest, hl, _, ms, _, _, x, hx, hh => by
    have := List.length_eq_zero_iff.mp hl
    subst this
    rw [List.map_nil, List.append_nil] at hx
    exact ⟨x, hx, hh⟩
  | m + 1, rest, hl, hg, ms, hlt, hrl, x, hx, hh => by
    obtain ⟨a, p, rfl⟩ := snoc (l := rest) (fun z => by rw [z] at hl; exact nomatch hl)
    obtain ⟨g1, g2⟩ := grow_pre hg
    have hp := hlt p (by simp)
    have ha : a.length = m := by rw [List.length_append] at hl; exact Nat.succ.inj hl
    rw [List.reverse_append]
    show ∃ r ∈ roots, Has (runF (spreadF ms p.1 p.2) a.reverse) r h
    have hl2 : ∀ q ∈ a, q.1 < (spreadF ms p.1 p.2).length ∧ q.2 < (spreadF ms p.1 p.2).length := fun q hq => by rw [spread_len]; exact hlt q (by simp [hq])
    have hr2 : ∀ r ∈ roots, r < (spreadF ms p.1 p.2).length := fun r hr => by rw [spread_len]; exact hrl r hr
    have hxl : x < ms.length := by
      rcases List.mem_append.mp hx with hx | hx
      · exact hrl x hx
      · obtain ⟨q, hq, rfl⟩ := List.mem_map.mp hx
        exact (hlt q hq).1
    by_cases hc : x = p.1
    · subst hc
      exact gather m a ha g1 _ hl2 hr2 p.2 g2 (has_both hp.1 hp.2 (.inl hh)).2
    · refine gather m a ha g1 _ hl2 hr2 x ?_ (has_mono hxl hh)
      rw [List.map_append, ← List.append_assoc] at hx
      rcases List.mem_append.mp hx with hx | hx
      · exact hx
      · exact absurd (List.mem_singleton.mp hx) hc
theorem spread_out {roots : List Nat} {h : Nat} : ∀ (m : Nat) (rest : List Pr), rest.length = m → Grow roots rest → ∀ ms : List Nat, (∀ p ∈ rest, p.1 < ms.length ∧ p.2 < ms.length) → (∀ r ∈ roots, r < ms.length) → (∀ r ∈ roots, Has ms r h) → ∀ x ∈ roots ++ rest.map (·.1), Has (runF ms rest) x h
  | 0, rest, hl, _, ms, _, _, hr, x, hx => by
    have := List.length_eq_zero_iff.mp hl
    subst this
    rw [List.map_nil, List.append_nil] at hx
    exact hr x hx
  | m + 1, rest, hl, hg, ms, hlt, hrl, hr, x, hx => by
    obtain ⟨a, p, rfl⟩ := snoc (l := rest) (fun z => by rw [z] at hl; exact nomatch hl)
    obtain ⟨g1, g2⟩ := grow_pre hg
    have hp := hlt p (by simp)
    have ha : a.length = m := by rw [List.length_append] at hl; exact Nat.succ.inj hl
    have ih := spread_out m a ha g1 ms (fun q hq => hlt q (by simp [hq])) hrl hr
    rw [run_app]
    show Has (spreadF (runF ms a) p.1 p.2) x h
    have hlen := run_len a ms
    have hxl : x < (runF ms a).length := by
      rw [hlen]
      rcases List.mem_append.mp hx with hx | hx
      · exact hrl x hx
      · obtain ⟨q, hq, rfl⟩ := List.mem_map.mp hx
        exact (hlt q hq).1
    rw [List.map_append, ← List.append_assoc] at hx
    rcases List.mem_append.mp hx with hx | hx
    · exact has_mono hxl (ih x hx)
    · have hx : x = p.1 := List.mem_singleton.mp hx
      subst hx
      exact (has_both (by rw [hlen]; exact hp.1) (by rw [hlen]; exact hp.2) (.inr (ih p.2 g2))).1
theorem core_all {r : List Nat} {h : Nat} (hr : (∃ a b, r = [a, b]) ∨ ∃ a b c d, r = [a, b, c, d]) {ms : List Nat} (hl : ∀ x ∈ r, x < ms.length) {x0 : Nat} (h0 : x0 ∈ r) (hh : Has ms x0 h) : ∀ x ∈ r, Has (runF ms (midF r)) x h := by
  rcases hr with ⟨a, b, rfl⟩ | ⟨a, b, c, d, rfl⟩
  · have la := hl a (by simp)
    have lb := hl b (by simp)
    have hab : Has ms a h ∨ Has ms b h := by
      simp at h0
      rcases h0 with rfl | rfl
      · exact .inl hh
      · exact .inr hh
    obtain ⟨k1, k2⟩ := has_both la lb hab
    intro x hx
    show Has (spreadF ms a b) x h
    simp at hx
    rcases hx with rfl | rfl
    · exact k1
    · exact k2
  · have la := hl a (by simp)
    have lb := hl b (by simp)
    have lc := hl c (by simp)
    have ld := hl d (by simp)
    show ∀ x ∈ [a, b, c, d], Has (spreadF (spreadF (spreadF (spreadF ms a b) c d) d a) b c) x h
    have L1 := spread_len ms a b
    have L2 := spread_len (spreadF ms a b) c d
    have L3 := spread_len (spreadF (spreadF ms a b) c d) d a
    generalize hm1 : spreadF ms a b = m1 at L1 L2 L3 ⊢
    generalize hm2 : spreadF m1 c d = m2 at L2 L3 ⊢
    generalize hm3 : spreadF m2 d a = m3 at L3 ⊢
    have s2 : (Has m2 a h ∧ Has m2 b h) ∨ (Has m2 c h ∧ Has m2 d h) := by
      rw [← hm2]
      have key : (Has ms a h ∨ Has ms b h) ∨ (Has ms c h ∨ Has ms d h) := by
        simp at h0
        rcases h0 with rfl | rfl | rfl | rfl
        · exact .inl (.inl hh)
        · exact .inl (.inr hh)
        · exact .inr (.inl hh)
        · exact .inr (.inr hh)
      rcases key with k | k
      · obtain ⟨k1, k2⟩ := has_both la lb k
        rw [hm1] at k1 k2
        exact .inl ⟨has_mono (by omega) k1, has_mono (by omega) k2⟩
      · have k' : Has m1 c h ∨ Has m1 d h := by
          rw [← hm1]
          exact k.imp (has_mono lc) (has_mono ld)
        exact .inr (has_both (by omega) (by omega) k')
    have s3 : (Has m3 d h ∧ Has m3 a h) ∧ (Has m3 b h ∨ Has m3 c h) := by
      rw [← hm3]
      rcases s2 with ⟨k1, k2⟩ | ⟨k1, k2⟩
      · exact ⟨has_both (by omega) (by omega) (.inr k1), .inl (has_mono (by omega) k2)⟩
      · exact ⟨has_both (by omega) (by omega) (.inl k2), .inr (has_mono (by omega) k1)⟩
    obtain ⟨⟨k1, k2⟩, k3⟩ := s3
    obtain ⟨k4, k5⟩ := has_both (i := b) (j := c) (by omega) (by omega) k3
    intro x hx
    simp at hx
    rcases hx with rfl | rfl | rfl | rfl
    · exact has_mono (by omega) k2
    · exact k4
    · exact k5
    · exact has_mono (by omega) k1
theorem has_first {n h : Nat} (hh : h < n) : Has (firstF n) h h := by
  unfold Has firstF
  rw [List.getD_eq_getElem?_getD, List.getElem?_map, List.getElem?_range hh]
  show (1 <<< h).testBit h = true
  rw [Nat.shiftLeft_eq, Nat.one_mul, Nat.testBit_two_pow, decide_eq_true rfl]
theorem blw_run {n : Nat} (ts : List Pr) : ∀ ms : List Nat, Blw n ms → Blw n (runF ms ts) := by
  induction ts with
  | nil => exact fun _ h => h
  | cons p ts ih => exact fun ms h => ih _ (blw_spread h _ _)
theorem whole_of {n : Nat} {ms : List Nat} (hl : ms.length = n) (hb : Blw n ms) (h : ∀ x, x < n → ∀ y, y < n → Has ms x y) : ms = wholeF n :=
  (list_eq_whole hl).mpr fun x hx => (full_bits (hb x)).mpr (h x hx)
theorem inform {n : Nat} {roots : List Nat} {rest : List Pr} (hr : (∃ a b, roots = [a, b]) ∨ ∃ a b c d, roots = [a, b, c, d]) (hg : Grow roots rest) (hlt : ∀ p ∈ rest, p.1 < n ∧ p.2 < n) (hrl : ∀ r ∈ roots, r < n) (hall : ∀ x, x < n → x ∈ roots ++ rest.map (·.1)) : runF (firstF n) (rest.reverse ++ midF roots ++ rest) = wholeF n := by
  refine whole_of (by rw [run_len, first_len]) (blw_run _ _ (blw_first n)) fun x hx y hy => ?_
  rw [run_app, run_app]
  have fl := first_len n
  obtain ⟨r, hr1, hr2⟩ := gather rest.length rest rfl hg (firstF n) (by rw [fl]; exact hlt) (by rw [fl]; exact hrl) y (hall y hy) (has_first hy)
  have l1 : (runF (firstF n) rest.reverse).length = n := by rw [run_len, fl]
  have k2 := core_all hr (ms := runF (firstF n) rest.reverse) (by rw [l1]; exact hrl) hr1 hr2
  have l2 : (runF (runF (firstF n) rest.reverse) (midF roots)).length = n := by rw [run_len, l1]
  exact spread_out rest.length rest rfl hg _ (by rw [l2]; exact hlt) (by rw [l2]; exact hrl) k2 x (hall x hx)
/-! all houses -/
theorem all_in {l : List Nat} {n : Nat} (hn : l.Nodup) (hl : ∀ x ∈ l, x < n) (he : l.length = n) : ∀ x, x < n → x ∈ l := fun x hx => by
  refine Classical.byContradiction fun hno => ?_
  have := nodup_lt (l := x :: l) (n := n) (List.nodup_cons.mpr ⟨hno, hn⟩) fun y hy => by
    rcases List.mem_cons.mp hy with rfl | hy
    · exact hx
    · exact hl y hy
  rw [List.length_cons] at this
  omega
theorem len_all {l : List Nat} {n : Nat} (hn : l.Nodup) (hl : ∀ x ∈ l, x < n) (h : ∀ x, x < n → x ∈ l) : l.length = n := by
  have h1 := nodup_lt hn hl
  have h2 := nodup_subG (a := List.range n) (b := l) List.nodup_range fun x hx => h x (List.mem_range.mp hx)
  rw [List.length_range] at h2
  omega
theorem tree_roots {n : Nat} {ws : List Pr} {roots : List Nat} {q : List Pr} (h : TreeOk n ws roots q) : ∃ rest, q = roots.map (fun r => (r, r)) ++ rest ∧ q.map (·.1) = roots ++ rest.map (·.1) ∧ Grow roots rest ∧ (∀ p ∈ rest, p.1 ∈ nearF ws p.2) := by
  obtain ⟨rest, h1, h2⟩ := h.grow
  refine ⟨rest, h1, ?_, fun i p hp => (h2 i p hp).1, fun p hp => ?_⟩
  · rw [h1, List.map_append, List.map_map]
    congr 1
    exact (List.map_congr_left fun z _ => rfl).trans (List.map_id' roots)
  · obtain ⟨i, hi, hie⟩ := List.getElem_of_mem hp
    exact (h2 i p (by rw [List.getElem?_eq_getElem hi, hie])).2
/-- what is closed and has the roots has all of the tree -/
theorem tree_sub {n : Nat} {ws : List Pr} {roots : List Nat} {q : List Pr} (h : TreeOk n ws roots q) {C : List Nat} (hr : ∀ r ∈ roots, r ∈ C) (hc : ∀ x ∈ C, ∀ o ∈ nearF ws x, o ∈ C) : ∀ x ∈ q.map (·.1), x ∈ C := by
  obtain ⟨rest, h1, h2, h3, h4⟩ := tree_roots h
  have key : ∀ (i : Nat) (p : Pr), rest[i]? = some p → p.1 ∈ C := by
    intro i
    induction i using Nat.strongRecOn with
    | _ i ih =>
      intro p hp
      have hpm := List.mem_of_getElem? hp
      refine hc p.2 ?_ p.1 (h4 p hpm)
      rcases List.mem_append.mp (h3 i p hp) with hm | hm
      · exact hr _ hm
      · obtain ⟨z, hz, he⟩ := List.mem_map.mp hm
        obtain ⟨j, hj, hje⟩ := List.getElem_of_mem hz
        rw [List.length_take] at hj
        rw [List.getElem_take] at hje
        rw [← he]
        exact ih j (by omega) z (by rw [List.getElem?_eq_getElem (by omega), hje])
  intro x hx
  rw [h2] at hx
  rcases List.mem_append.mp hx with hx | hx
  · exact hr x hx
  · obtain ⟨p, hp, rfl⟩ := List.mem_map.mp hx
    obtain ⟨i, hi, hie⟩ := List.getElem_of_mem hp
    exact key i p (by rw [List.getElem?_eq_getElem hi, hie])
/-- what is closed and has a house of a tree has one of its roots -/
theorem tree_back {n : Nat} {ws : List Pr} (hn : NetOk n ws) {roots : List Nat} {q : List Pr} (h : TreeOk n ws roots q) {C : List Nat} (hc : ∀ x ∈ C, ∀ o ∈ nearF ws x, o ∈ C) {x : Nat} (hx : x ∈ q.map (·.1)) (hxc : x ∈ C) : ∃ r ∈ roots, r ∈ C := by
  obtain ⟨rest, h1, h2, h3, h4⟩ := tree_roots h
  have key : ∀ (i : Nat) (p : Pr), rest[i]? = some p → p.1 ∈ C → ∃ r ∈ roots, r ∈ C := by
    intro i
    induction i using Nat.strongRecOn with
    | _ i ih =>
      intro p hp hpc
      have hpm := List.mem_of_getElem? hp
      have hadj := (near_mem hn).mp (h4 p hpm)
      rw [adj_comm] at hadj
      have hp2 : p.2 ∈ C := hc p.1 hpc p.2 ((near_mem hn).mpr hadj)
      rcases List.mem_append.mp (h3 i p hp) with hm | hm
      · exact ⟨p.2, hm, hp2⟩
      · obtain ⟨z, hz, he⟩ := List.mem_map.mp hm
        obtain ⟨j, hj, hje⟩ := List.getElem_of_mem hz
        rw [List.length_take] at hj
        rw [List.getElem_take] at hje
        exact ih j (by omega) z (by rw [List.getElem?_eq_getElem (by omega), hje]) (by rw [show z.1 = p.2 from he]; exact hp2)
  rw [h2] at hx
  rcases List.mem_append.mp hx with hx | hx
  · exact ⟨x, hx, hxc⟩
  · obtain ⟨p, hp, rfl⟩ := List.mem_map.mp hx
    obtain ⟨i, hi, hie⟩ := List.getElem_of_mem hp
    exact key i p (by rw [List.getElem?_eq_getElem hi, hie]) hxc
theorem tree_nl {n : Nat} {ws : List Pr} {roots : List Nat} {q : List Pr} (h : TreeOk n ws roots q) : (q.map (·.1)).Nodup ∧ ∀ x ∈ q.map (·.1), x < n := ⟨h.nd, fun x hx => by
  obtain ⟨p, hp, rfl⟩ := List.mem_map.mp hx
  exact (h.lt p hp).1⟩
theorem tree_cl {n : Nat} {ws : List Pr} {roots : List Nat} {q : List Pr} (h : TreeOk n ws roots q) : ∀ x ∈ q.map (·.1), ∀ o ∈ nearF ws x, o ∈ q.map (·.1) := fun x hx o ho => by
  obtain ⟨p, hp, rfl⟩ := List.mem_map.mp hx
  exact h.cl p hp o ho
/-- a closed list with a house has all houses, if some tree from house 0 has all -/
theorem closed_all {n : Nat} {ws : List Pr} (hn : NetOk n ws) {q : List Pr} (h : TreeOk n ws [0] q) (hl : q.length = n) {C : List Nat} (hc : ∀ x ∈ C, ∀ o ∈ nearF ws x, o ∈ C) {x : Nat} (hxn : x < n) (hx : x ∈ C) : ∀ y, y < n → y ∈ C := by
  obtain ⟨t1, t2⟩ := tree_nl h
  have hall := all_in t1 t2 (by rw [List.length_map]; exact hl)
  obtain ⟨r, hr, hrc⟩ := tree_back hn h hc (hall x hxn) hx
  have h0 : r = 0 := List.mem_singleton.mp hr
  subst h0
  exact fun y hy => tree_sub h (fun r hr => by rw [List.mem_singleton.mp hr]; exact hrc) hc y (hall y hy)
theorem conn_same {n : Nat} {ws : List Pr} (hn : NetOk n ws) {q1 q2 : List Pr} (h1 : TreeOk n ws [0] q1) (h2 : TreeOk n ws [0] q2) : q1.length = n → q2.length = n := fun hl => by
  obtain ⟨t1, t2⟩ := tree_nl h2
  obtain ⟨rest, _, e2, _⟩ := tree_roots h2
  have h0 : 0 ∈ q2.map (·.1) := by
    rw [e2]
    simp
  have := len_all t1 t2 (closed_all hn h1 hl (tree_cl h2) hn.n1 h0)
  rwa [List.length_map] at this
def TalksOk (n : Nat) (ws ts : List Pr) : Prop := (∀ p ∈ ts, adj ws p.1 p.2 = true) ∧ runF (firstF n) ts = wholeF n ∧ ∃ r, IsRnd ws r ∧ ts.length = if n = 1 then 0 else if r = [] then 2 * n - 3 else 2 * n - 4
section
variable {K : PySem.W.Frag} {σ : L2.St} {H : Hp} {Q : VK} {tl te : TE} {g : TG} {tt : TT} {vs : List Nat}
theorem tru_tup {a : Addr} {xs : List V} {F : Bool → Prop} (h : SqT K H a xs) (hF : F (!xs.isEmpty)) : ∃ k, TruV K (.ref a) H k ∧ F k := ⟨_, .inr (.inl ⟨xs, h, rfl⟩), hF⟩
theorem r_notB {B : Bool → Hp → Prop} (h : te σ H fun x H1 => ∃ c, x = .bl c ∧ B (!c) H1) : tNot (tB te) σ H B := h
theorem r_when {t : TT} {tu tz : TS} {D0 : Ends} (h : t σ H fun b H1 => if b = true then tu { D0 with nx := tz D0 } σ H1 else tz D0 σ H1) : tSeq (tIfS t tu tNext) tz D0 σ H := h
theorem r_orT {ta tb : TE} (h : ta σ H fun x H1 => ∃ k, TruV K x H1 k ∧ if k = true then Q x H1 else tb σ H1 Q) : tOrT K ta tb σ H Q := h
theorem el_listT {a : Addr} {xs : List V} (ha : Ev te σ H (.ref a)) (h : SqT K H a xs) : EvL (tCB (rListS K) (tCons te tNil)) σ H xs := fun H1 e Q q =>
  ha H1 e _ fun H2 e2 => ⟨a, xs, rfl, Or.inr (ex_t (e.trans e2) h), fun l hl => q l _ (fresh_back e2 hl) (e2.trans (Ex.new hl)) upd_same⟩
theorem r_lcI (h : tl σ H fun x H1 => tLc (iList K (tC x)) g tt te vs σ H1 Q) : tLc (iList K tl) g tt te vs σ H Q := h
theorem ed_revL {ds : List D} (h : EvD te σ H (.lst ds)) : EvD (tRevL K te) σ H (.lst ds.reverse) := fun H1 e Q q => h H1 e _ fun v H2 e2 r => by
  cases r with
  | @lst a us _ ha rs =>
    refine ⟨a, us, rfl, sq_of ha, fun p hp => q _ _ (e2.trans (Ex.new hp)) (.lst upd_same ?_)⟩
    have : ∀ {us : List V} {ds : List D}, Reps H2 us ds → Reps (upd H2 p (.lst us.reverse)) us ds := fun h => h.mono (Ex.new hp)
    have key : ∀ {us : List V} {ds : List D} {H : Hp}, Reps H us ds → Reps H us.reverse ds.reverse := by
      intro us ds H h
      induction us generalizing ds with
      | nil => cases h; exact .nil
      | cons u us ih =>
        cases h with
        | cons r rs =>
          rw [List.reverse_cons, List.reverse_cons]
          exact (ih rs).append (.cons r .nil)
    exact key (rs.mono (Ex.new hp))
end
section
variable {P : Program} {w : World} {K : PySem.W.Frag} {mg : Str → Option Value} {base : Heap}
abbrev s_talks_for : Stmt := topS 7
theorem sc_talks_for : FnScope ["net", "core", "others", "pair"] ["net"] (defScope s_talks_for) := ⟨rfl, rfl, rfl, by decide +kernel, rfl, by decide +kernel, by decide +kernel⟩
/- 0 net, 1 core, 2 others, 3 pair -/
def sp_talks (K : PySem.W.Frag) : Sp := fun vs H Q _ => ∃ (v : V) (n : Nat) (ws : List Pr), vs = [v] ∧ Rep H v (netD n ws) ∧ NetOk n ws ∧ ∀ q u H', TreeOk n ws [0] q → Ex H H' → ((q.length ≠ n ∧ u = .non) ∨ (q.length = n ∧ ∃ ts, Rep H' u (.tup (ts.map prD)) ∧ TalksOk n ws ts)) → Q u H'
theorem fn_talks {f : Addr} {fd : FuncData} {k : Nat} (F : Fun K "talks_for" "talks_for" s_talks_for f fd) (N : Nb mg) (C_connected : Cal P w K mg base k "connected" ["net"] (sp_conn K)) (C_round_of_four : Cal P w K mg base k "round_of_four" ["net"] (sp_rnd K)) (C_tree_from : Cal P w K mg base k "tree_from" ["net", "roots"] (sp_tree K)) (C_middle_talks : Cal P w K mg base k "middle_talks" ["four"] (spD ok_mid)) : FnOk P w K mg base CX0 (k + 1) f fd ["net"] (sp_talks K) := by
  refine F.ok sc_talks_for (fun vs H Q E h => ?_) (fun cdv A outer s H vs Q E hr h => ?_)
  · obtain ⟨_, _, _, rfl, _⟩ := h
    rfl
  · obtain ⟨v, n, ws, rfl, hR, hn, q⟩ := h
    refine ⟨_, (pss_cons (ps_if (pt_not (pt_val (pe_cal C_connected hr (pa_cons (pv 0) pa_nil)))) (pss_one (ps_ret pe_non)) pss_nil)
      (pss_cons (ps_if (pt_cmpR op_eq (pe_ix ix_tup (pv 0) pe_int (fun _ _ => rfl)) pe_int (nomark _)) (pss_one (ps_ret (pe_tup pa_nil))) pss_nil)
      (pss_cons (ps_set (i := 1) sc_talks_for.nd rfl (Or.inl rfl) (pe_orT (pe_cal C_round_of_four hr (pa_cons (pv 0) pa_nil)) (pe_one (pe_ix ix_tup (pe_ix ix_tup (pv 0) pe_int (fun _ _ => rfl)) pe_int (fun _ _ => rfl)))))
      (pss_cons (ps_setLc (i := 2) (own := [("pair", 3)]) (by rfl) sc_talks_for.nd rfl rfl (sw_true rfl rfl rfl (by decide +kernel)) (pi_list (pe_cal C_tree_from hr (pa_cons (pv 0) (pa_cons (pe_callTy call_list_of (by rfl) N.list PyProof.Rows.boot_list (pa_cons (pv 1) pa_nil)) pa_nil)))) (blkOk_by (own := [("pair", 3)]) (N := ["net", "core", "others", "pair"]) (sc := defScope s_talks_for) (by decide +kernel)) (fun _ _ _ _ _ => (pg_name (i := 3) sc_talks_for.nd rfl (Or.inl rfl))) (fun _ _ _ _ _ => (pts_one (pt_cmpR op_ne (pe_ix (r := rIxT K) ix_tup (pv 3) pe_int (fun _ _ => rfl)) (pe_ix (r := rIxT K) ix_tup (pv 3) pe_int (fun _ _ => rfl)) (nomark _)))) (fun _ _ _ _ _ => (pv 3)))
      (pss_one (ps_ret (pe_callTy call_tuple_of (by rfl) N.tuple PyProof.Rows.boot_tuple (pa_cons (pe_op op_cat (pe_op op_cat (pe_revL (pv 2)) (pe_cal C_middle_talks hr (pa_cons (pv 1) pa_nil))) (pv 2)) pa_nil)))))))), ?_⟩
    have hn8 := hn.n8
    have hn1 := hn.n1
    obtain ⟨na, nb, us, rfl, hna, hnb, hus⟩ := net_at hR
    refine r_when (r_notB (r_call (r_cons (r_var rfl (r_nil ⟨_, n, ws, rfl, hR, hn, fun q0 H1 ht0 e1 => ⟨_, rfl, ?_⟩⟩)))))
    by_cases hc : q0.length = n
    case neg =>
      rw [decide_eq_false hc, if_pos (show (!false) = true from rfl)]
      exact s_ret (σ := [some (.ref na), none, none, none]) ev_c fun H2 e2 => q q0 .non H2 ht0 (e1.trans e2) (.inl ⟨hc, rfl⟩)
    rw [decide_eq_true hc, if_neg (by decide)]
    have neE : ∀ {x y : Nat}, decide (V.int (x : Int) = V.int (y : Int)) = decide (x = y) := fun {x y} => decide_eq_decide.mpr ⟨fun h => by have := V.int.inj h; omega, fun h => by rw [h]⟩
    refine q_when (b := decide (n = 1)) (et_is (et_test (ev_op (ev_ixT (j := 0) (v := .int (n : Int)) (ev_v rfl) (ev_cn 0) (st_of (e1 _ _ hna)) rfl) (ev_cn 1) (rv_eq rfl))) neE) (fun hb H2 e2 => ?_) fun hb H2 e2 => ?_
    · have hb := of_decide_eq_true hb
      refine s_retD (d := .tup ([] : List D)) (ed_tup er_nil (by decide)) fun u H3 e3 r3 => q q0 u H3 ht0 ((e1.trans e2).trans e3) (.inr ⟨hc, [], r3, (fun p hp => nomatch hp), ?_, [], .inl ⟨rfl, fun a b c d hcd => ?_⟩, by rw [if_pos hb]; rfl⟩)
      · subst hb
        rfl
      · have := adj_lt hn hcd.1
        omega
    have hb := of_decide_eq_false hb
    have E2 := e1.trans e2
    obtain ⟨t1, t2⟩ := tree_nl ht0
    have hall0 := all_in t1 t2 (by rw [List.length_map]; exact hc)
    have core : EvP (tOrT K (tCall (sp_rnd K) [] E0 (tCons (tVar 0) tNil)) (tOp (rIxT K) (tOp (rIxT K) (tVar 0) (tC (.int 1))) (tC (.int 0)))) [some (.ref na), none, none, none] H2 (fun u H' => ∃ roots, Rep H' u (rndD roots) ∧ ((∃ a b, roots = [a, b]) ∨ ∃ a b c d, roots = [a, b, c, d]) ∧ roots.Nodup ∧ (∀ r ∈ roots, r < n) ∧ (∀ p ∈ midF roots, adj ws p.1 p.2 = true) ∧ ∃ r, IsRnd ws r ∧ roots.length = (if r = [] then 2 else 4) ∧ (midF roots).length = (if r = [] then 1 else 4)) := by
      intro H3 e3 Q' q'
      have E3 := E2.trans e3
      refine r_orT (r_call (r_cons (r_var rfl (r_nil ⟨_, n, ws, rfl, hR.mono E3, hn, fun r u H4 hrnd e4 r4 => ?_⟩))))
      obtain ⟨ra, rfl, hra⟩ := rnd_at r4
      refine tru_tup (st_of hra) ?_
      rcases hrnd with ⟨rfl, hno⟩ | ⟨a, b, c, d, rfl, hcd, hlst⟩
      · show if (false : Bool) = true then _ else _
        rw [if_neg (by decide)]
        have hws : ∃ p0 wr, ws = p0 :: wr := by
          cases ws with
          | cons p0 wr => exact ⟨p0, wr, rfl⟩
          | nil =>
            exfalso
            obtain ⟨rest, _, k2, _, k4⟩ := tree_roots ht0
            have h1 := hall0 1 (by omega)
            rw [k2] at h1
            rcases List.mem_append.mp h1 with h1 | h1
            · exact absurd (List.mem_singleton.mp h1) (by decide)
            · obtain ⟨p, hp, _⟩ := List.mem_map.mp h1
              exact nomatch k4 p hp
        obtain ⟨p0, wr, rfl⟩ := hws
        have E5 := (E3.trans e4)
        obtain ⟨u0, hu0, hru0⟩ := hus.get (i := 0) (d := prD p0) rfl
        have hlt := hn.lt p0 (by simp)
        refine (ev_ixT (j := 0) (v := u0) (ev_ixT (j := 1) (v := .ref nb) (ev_v rfl) (ev_cn 1) (st_of (E5 _ _ hna)) rfl) (ev_cn 0) (st_of (E5 _ _ hnb)) hu0) H4 (Ex.refl _) _ fun H6 e6 => q' u0 H6 (e4.trans e6) ⟨[p0.1, p0.2], hru0.mono (E5.trans e6), .inl ⟨_, _, rfl⟩, by simp; omega, fun x hx => ?_, fun p hp => ?_, [], .inl ⟨rfl, hno⟩, rfl, rfl⟩
        · simp at hx
          omega
        · have : p = (p0.1, p0.2) := List.mem_singleton.mp hp
          subst this
          unfold adj
          rw [decide_eq_true_eq, show (min p0.1 p0.2, max p0.1 p0.2) = p0 by rw [Nat.min_eq_left (by omega), Nat.max_eq_right (by omega)]]
          simp
      · show if (true : Bool) = true then _ else _
        rw [if_pos rfl]
        obtain ⟨c1, c2, c3, c4, c5, c6⟩ := id hcd
        have l1 := adj_lt hn c1
        have l2 := adj_lt hn c2
        have l3 := adj_lt hn c3
        have l4 := adj_lt hn c4
        refine q' (.ref ra) H4 e4 ⟨[a, b, c, d], r4, .inr ⟨_, _, _, _, rfl⟩, by simp; omega, fun x hx => ?_, fun p hp => ?_, [a, b, c, d], .inr ⟨a, b, c, d, rfl, hcd, hlst⟩, rfl, rfl⟩
        · simp at hx
          omega
        · unfold midF at hp
          simp at hp
          rcases hp with rfl | rfl | rfl | rfl
          · exact c1
          · exact c3
          · exact c4
          · exact c2
    refine r_asg (core H2 (Ex.refl _) _ fun u H3 e3 ⟨roots, hru, hsh, hnd, hrl, hmid, r, hrnd, hlen, hml⟩ => ?_)
    obtain ⟨ca, rfl, hca⟩ := rnd_at hru
    have E3 := E2.trans e3
    refine r_asg (r_lcI (r_call (r_cons (r_var rfl (r_cons (r_el (el_listT (ev_v rfl) (st_of hca)) (Ex.refl _) fun ra H4 hra e4 h4 => r_nil ⟨_, ra, n, ws, roots, rfl, hR.mono (E3.trans e4), hn, h4, hnd, hrl, fun tq u H5 htq e5 r5 => ?_⟩))))))
    have E5 := (E3.trans e4).trans e5
    obtain ⟨rest, k1, k2, k3, k4⟩ := tree_roots htq
    obtain ⟨s1, s2⟩ := tree_nl htq
    have hadj : ∀ p ∈ rest, adj ws p.1 p.2 = true := fun p hp => by
      rw [adj_comm]
      exact (near_mem hn).mp (k4 p hp)
    have hfil : tq.filter (fun p => !decide (p.1 = p.2)) = rest := by
      rw [k1, List.filter_append]
      have h1 : (roots.map fun r => ((r, r) : Pr)).filter (fun p => !decide (p.1 = p.2)) = [] := by
        rw [List.filter_eq_nil_iff]
        intro p hp
        obtain ⟨z, _, rfl⟩ := List.mem_map.mp hp
        simp
      have h2 : rest.filter (fun p => !decide (p.1 = p.2)) = rest := by
        rw [List.filter_eq_self]
        intro p hp
        rw [decide_eq_false (adj_lt hn (hadj p hp)).2.2]
        rfl
      rw [h1, h2]
      rfl
    have htl : tq.length ≤ n := by
      have := nodup_lt s1 s2
      rwa [List.length_map] at this
    refine (ed_lcM (α := Pr) prD prD (fun p => !decide (p.1 = p.2)) (l := tq) (evd_v ev_c r5) (by omega) (fun _ => rfl) (fun x _ => nol_pr x) (fun x _ => nol_pr x) (fun x z H6 e6 hz hr => ?_) fun x z H6 e6 hz hr _ => evd_v (ev_v rfl) hr) H5 (Ex.refl _) _ fun u2 H6 e6 r6 => ?_
    · obtain ⟨xa, rfl, hxa⟩ := prd_at hr
      exact et_is (et_test (ev_op (ev_ixT (j := 0) (ev_v rfl) (ev_cn 0) (st_of hxa) rfl) (ev_ixT (j := 1) (ev_v rfl) (ev_cn 1) (st_of hxa) rfl) (rv_ne rfl))) (by rw [neE])
    rw [hfil] at r6
    have E6 := E5.trans e6
    have hlen2 : roots.length + rest.length = n := by
      have hall := len_all s1 s2 (closed_all hn ht0 hc (tree_cl htq) (x := roots.headD 0) ?_ ?_)
      · rw [k2, List.length_append, List.length_map] at hall
        exact hall
      · rcases hsh with ⟨a, b, rfl⟩ | ⟨a, b, c, d, rfl⟩ <;> exact hrl _ (by simp)
      · rw [k2]
        rcases hsh with ⟨a, b, rfl⟩ | ⟨a, b, c, d, rfl⟩ <;> simp
    have hmidl : (midF roots).length ≤ 4 := by
      rw [hml]
      split <;> omega
    have hnl : NoLL ((rest.reverse ++ midF roots ++ rest).map prD) := nol_prs _
    refine s_retD (d := .tup ((rest.reverse ++ midF roots ++ rest).map prD)) (ed_tupL (ed_is (ed_catL (ds := rest.reverse.map prD ++ (midF roots).map prD) (es := rest.map prD) (ed_catL (ds := rest.reverse.map prD) (es := (midF roots).map prD) (ed_is (ed_revL (evd_v (ev_v rfl) r6)) (by rw [List.map_reverse])) (ed_cal (ea_cons (ev_v rfl) ea_nil) fun H7 e7 => ⟨_, roots, rfl, hru.mono (((e4.trans e5).trans e6).trans e7), hsh, rfl⟩) ?_) (evd_v (ev_v rfl) r6) ?_) (by rw [List.map_append, List.map_append])) hnl) fun u7 H7 e7 r7 => q q0 u7 H7 ht0 (E6.trans e7) (.inr ⟨hc, _, r7, fun p hp => ?_, ?_, r, hrnd, ?_⟩)
    · rw [List.length_map, List.length_map, List.length_reverse]
      omega
    · rw [List.length_append, List.length_map, List.length_map, List.length_map, List.length_reverse]
      omega
    · rcases List.mem_append.mp hp with hp | hp
      · rcases List.mem_append.mp hp with hp | hp
        · exact hadj p (List.mem_reverse.mp hp)
        · exact hmid p hp
      · exact hadj p hp
    · refine inform hsh k3 (fun p hp => ?_) hrl ?_
      · have := adj_lt hn (hadj p hp)
        exact ⟨this.1, this.2.1⟩
      · rw [← k2]
        exact all_in s1 s2 (by rw [k2, List.length_append, List.length_map]; exact hlen2)
    · rw [List.length_append, List.length_append, List.length_reverse, hml, if_neg hb]
      by_cases hr0 : r = []
      · rw [if_pos hr0] at hlen ⊢
        rw [if_pos hr0]
        omega
      · rw [if_neg hr0] at hlen ⊢
        rw [if_neg hr0]
        omega
end
end K96

set_option Elab.async false
set_option linter.all false
set_option maxRecDepth 100000
set_option maxHeartbeats 4000000
namespace K96
open PySem PySem.Spec PyProof.Rows L2 Evl My
/-! no fewer talks inform: a search in the kernel for up to five houses (rows printed by mgen.py) -/
def q3 (x : Nat) : Nat := bif Nat.beq x 7 then 1 else 0
theorem q3_le (x : Nat) : q3 x ≤ 1 := by
  unfold q3
  cases Nat.beq x 7 <;> decide
def S3 (cf : List Nat → Bool) : Nat → List Nat → Nat → Nat → Nat →  Bool
  | 0, u, a, b, c => bif Nat.beq (q3 a + q3 b + q3 c) 3 then cf u else true
  | r + 1, u, a, b, c => bif Nat.beq (q3 a + q3 b + q3 c) 3 then cf u else bif Nat.ble (q3 a + q3 b + q3 c + 2 * r + 3) 3 then true else S3 cf r (1 :: u) (a ||| b) (a ||| b) c && S3 cf r (2 :: u) (a ||| c) b (a ||| c) && S3 cf r (7 :: u) a (b ||| c) (b ||| c)
theorem q3_full {a b c : Nat} (h : [a, b, c] = [7, 7, 7]) : q3 a + q3 b + q3 c = 3 := by
  injection h with h0 h
  injection h with h1 h
  injection h with h2 h
  subst h0 h1 h2
  rfl
theorem q3_back {a b c : Nat} (h : q3 a + q3 b + q3 c = 3) : [a, b, c] = [7, 7, 7] := by
  have la := q3_le a
  have lb := q3_le b
  have lc := q3_le c
  have ee : ∀ x : Nat, q3 x = 1 → x = 7 := fun x hx => by
    unfold q3 at hx
    cases hb : Nat.beq x 7 with
    | true => exact Nat.eq_of_beq_eq_true hb
    | false => rw [hb] at hx; exact nomatch hx
  rw [ee a (by omega), ee b (by omega), ee c (by omega)]
theorem lt3 {i : Nat} (h : i < 3) : i = 0 ∨ i = 1 ∨ i = 2 := by
  omega
theorem S3_cut : ∀ (ts : List Pr) (a b c : Nat), (∀ p ∈ ts, p.1 < 3 ∧ p.2 < 3 ∧ p.1 ≠ p.2) → runF [a, b, c] ts = [7, 7, 7] → 3 ≤ q3 a + q3 b + q3 c + 2 * ts.length
  | [], a, b, c, _, h => by
    have := q3_full (show [a, b, c] = _ from h)
    omega
  | p :: ts, a, b, c, hp, h => by
    obtain ⟨i, j⟩ := p
    obtain ⟨h1, h2, h3⟩ := hp (i, j) (List.mem_cons_self)
    have hp2 := fun q hq => hp q (List.mem_cons_of_mem _ hq)
    rw [List.length_cons]
    simp only at h1 h2 h3
    rcases lt3 h1 with rfl | rfl | rfl <;> rcases lt3 h2 with rfl | rfl | rfl
    · exact absurd rfl h3
    · have := S3_cut ts (a ||| b) (a ||| b) c hp2 h
      have := q3_le (a ||| b)
      omega
    · have := S3_cut ts (a ||| c) b (a ||| c) hp2 h
      have := q3_le (a ||| c)
      omega
    · have := S3_cut ts (b ||| a) (b ||| a) c hp2 h
      have := q3_le (b ||| a)
      omega
    · exact absurd rfl h3
    · have := S3_cut ts a (b ||| c) (b ||| c) hp2 h
      have := q3_le (b ||| c)
      omega
    · have := S3_cut ts (c ||| a) b (c ||| a) hp2 h
      have := q3_le (c ||| a)
      omega
    · have := S3_cut ts a (c ||| b) (c ||| b) hp2 h
      have := q3_le (c ||| b)
      omega
    · exact absurd rfl h3
theorem S3_ok {ws : List Pr} {cf : List Nat → Bool} : ∀ (r : Nat) (u : List Nat) (a b c : Nat), S3 cf r u a b c = true → (∀ x ∈ u, adj ws (x / 5) (x % 5) = true) → ∀ ts : List Pr, ts.length ≤ r → (∀ p ∈ ts, adj ws p.1 p.2 = true ∧ p.1 < 3 ∧ p.2 < 3 ∧ p.1 ≠ p.2) → runF [a, b, c] ts = [7, 7, 7] → ∃ u, cf u = true ∧ ∀ x ∈ u, adj ws (x / 5) (x % 5) = true
  | 0, u, a, b, c, hs, hu, ts, hl, hp, h => by
    cases ts with
    | cons p ts => exact absurd hl (by simp)
    | nil =>
      have hb : Nat.beq (q3 a + q3 b + q3 c) 3 = true := by rw [q3_full (show [a, b, c] = _ from h)]; rfl
      unfold S3 at hs
      rw [hb] at hs
      exact ⟨u, hs, hu⟩
  | r + 1, u, a, b, c, hs, hu, ts, hl, hp, h => by
    unfold S3 at hs
    cases hb : Nat.beq (q3 a + q3 b + q3 c) 3 with
    | true =>
      rw [hb] at hs
      exact ⟨u, hs, hu⟩
    | false =>
      rw [hb] at hs
      have cut := S3_cut ts a b c (fun p hq => (hp p hq).2) h
      have hb2 : Nat.ble (q3 a + q3 b + q3 c + 2 * r + 3) 3 = false := by
        cases hc : Nat.ble (q3 a + q3 b + q3 c + 2 * r + 3) 3 with
        | false => rfl
        | true =>
          have := Nat.le_of_ble_eq_true hc
          omega
      rw [hb2] at hs
      simp only [cond_false, Bool.and_eq_true] at hs
      obtain ⟨⟨hs0, hs1⟩, hs2⟩ := hs
      cases ts with
      | nil =>
        have := q3_full (show [a, b, c] = _ from h)
        rw [this] at hb
        exact nomatch hb
      | cons p ts =>
        obtain ⟨i, j⟩ := p
        obtain ⟨h0, h1, h2, h3⟩ := hp (i, j) (List.mem_cons_self)
        have hp2 := fun q hq => hp q (List.mem_cons_of_mem _ hq)
        rw [List.length_cons] at hl
        simp only at h0 h1 h2 h3
        have hl2 : ts.length ≤ r := by omega
        rcases lt3 h1 with rfl | rfl | rfl <;> rcases lt3 h2 with rfl | rfl | rfl
        · exact absurd rfl h3
        · have h : runF [(a ||| b), (a ||| b), c] ts = _ := h
          exact S3_ok r _ _ _ _ hs0 (fun x hx => by
            rcases List.mem_cons.mp hx with rfl | hx
            · exact h0
            · exact hu x hx) ts hl2 hp2 h
        · have h : runF [(a ||| c), b, (a ||| c)] ts = _ := h
          exact S3_ok r _ _ _ _ hs1 (fun x hx => by
            rcases List.mem_cons.mp hx with rfl | hx
            · exact h0
            · exact hu x hx) ts hl2 hp2 h
        · have h : runF [(b ||| a), (b ||| a), c] ts = _ := h
          rw [Nat.or_comm b a] at h
          exact S3_ok r _ _ _ _ hs0 (fun x hx => by
            rcases List.mem_cons.mp hx with rfl | hx
            · exact (adj_comm ws 1 0 ▸ h0)
            · exact hu x hx) ts hl2 hp2 h
        · exact absurd rfl h3
        · have h : runF [a, (b ||| c), (b ||| c)] ts = _ := h
          exact S3_ok r _ _ _ _ hs2 (fun x hx => by
            rcases List.mem_cons.mp hx with rfl | hx
            · exact h0
            · exact hu x hx) ts hl2 hp2 h
        · have h : runF [(c ||| a), b, (c ||| a)] ts = _ := h
          rw [Nat.or_comm c a] at h
          exact S3_ok r _ _ _ _ hs1 (fun x hx => by
            rcases List.mem_cons.mp hx with rfl | hx
            · exact (adj_comm ws 2 0 ▸ h0)
            · exact hu x hx) ts hl2 hp2 h
        · have h : runF [a, (c ||| b), (c ||| b)] ts = _ := h
          rw [Nat.or_comm c b] at h
          exact S3_ok r _ _ _ _ hs2 (fun x hx => by
            rcases List.mem_cons.mp hx with rfl | hx
            · exact (adj_comm ws 2 1 ▸ h0)
            · exact hu x hx) ts hl2 hp2 h
        · exact absurd rfl h3
def q4 (x : Nat) : Nat := bif Nat.beq x 15 then 1 else 0
theorem q4_le (x : Nat) : q4 x ≤ 1 := by
  unfold q4
  cases Nat.beq x 15 <;> decide
def S4 (cf : List Nat → Bool) : Nat → List Nat → Nat → Nat → Nat → Nat →  Bool
  | 0, u, a, b, c, d => bif Nat.beq (q4 a + q4 b + q4 c + q4 d) 4 then cf u else true
  | r + 1, u, a, b, c, d => bif Nat.beq (q4 a + q4 b + q4 c + q4 d) 4 then cf u else bif Nat.ble (q4 a + q4 b + q4 c + q4 d + 2 * r + 3) 4 then true else S4 cf r (1 :: u) (a ||| b) (a ||| b) c d && S4 cf r (2 :: u) (a ||| c) b (a ||| c) d && S4 cf r (3 :: u) (a ||| d) b c (a ||| d) && S4 cf r (7 :: u) a (b ||| c) (b ||| c) d && S4 cf r (8 :: u) a (b ||| d) c (b ||| d) && S4 cf r (13 :: u) a b (c ||| d) (c ||| d)
theorem q4_full {a b c d : Nat} (h : [a, b, c, d] = [15, 15, 15, 15]) : q4 a + q4 b + q4 c + q4 d = 4 := by
  injection h with h0 h
  injection h with h1 h
  injection h with h2 h
  injection h with h3 h
  subst h0 h1 h2 h3
  rfl
theorem q4_back {a b c d : Nat} (h : q4 a + q4 b + q4 c + q4 d = 4) : [a, b, c, d] = [15, 15, 15, 15] := by
  have la := q4_le a
  have lb := q4_le b
  have lc := q4_le c
  have ld := q4_le d
  have ee : ∀ x : Nat, q4 x = 1 → x = 15 := fun x hx => by
    unfold q4 at hx
    cases hb : Nat.beq x 15 with
    | true => exact Nat.eq_of_beq_eq_true hb
    | false => rw [hb] at hx; exact nomatch hx
  rw [ee a (by omega), ee b (by omega), ee c (by omega), ee d (by omega)]
theorem lt4 {i : Nat} (h : i < 4) : i = 0 ∨ i = 1 ∨ i = 2 ∨ i = 3 := by
  omega
theorem S4_cut : ∀ (ts : List Pr) (a b c d : Nat), (∀ p ∈ ts, p.1 < 4 ∧ p.2 < 4 ∧ p.1 ≠ p.2) → runF [a, b, c, d] ts = [15, 15, 15, 15] → 4 ≤ q4 a + q4 b + q4 c + q4 d + 2 * ts.length
  | [], a, b, c, d, _, h => by
    have := q4_full (show [a, b, c, d] = _ from h)
    omega
  | p :: ts, a, b, c, d, hp, h => by
    obtain ⟨i, j⟩ := p
    obtain ⟨h1, h2, h3⟩ := hp (i, j) (List.mem_cons_self)
    have hp2 := fun q hq => hp q (List.mem_cons_of_mem _ hq)
    rw [List.length_cons]
    simp only at h1 h2 h3
    rcases lt4 h1 with rfl | rfl | rfl | rfl <;> rcases lt4 h2 with rfl | rfl | rfl | rfl
    · exact absurd rfl h3
    · have := S4_cut ts (a ||| b) (a ||| b) c d hp2 h
      have := q4_le (a ||| b)
      omega
    · have := S4_cut ts (a ||| c) b (a ||| c) d hp2 h
      have := q4_le (a ||| c)
      omega
    · have := S4_cut ts (a ||| d) b c (a ||| d) hp2 h
      have := q4_le (a ||| d)
      omega
    · have := S4_cut ts (b ||| a) (b ||| a) c d hp2 h
      have := q4_le (b ||| a)
      omega
    · exact absurd rfl h3
    · have := S4_cut ts a (b ||| c) (b ||| c) d hp2 h
      have := q4_le (b ||| c)
      omega
    · have := S4_cut ts a (b ||| d) c (b ||| d) hp2 h
      have := q4_le (b ||| d)
      omega
    · have := S4_cut ts (c ||| a) b (c ||| a) d hp2 h
      have := q4_le (c ||| a)
      omega
    · have := S4_cut ts a (c ||| b) (c ||| b) d hp2 h
      have := q4_le (c ||| b)
      omega
    · exact absurd rfl h3
    · have := S4_cut ts a b (c ||| d) (c ||| d) hp2 h
      have := q4_le (c ||| d)
      omega
    · have := S4_cut ts (d ||| a) b c (d ||| a) hp2 h
      have := q4_le (d ||| a)
      omega
    · have := S4_cut ts a (d ||| b) c (d ||| b) hp2 h
      have := q4_le (d ||| b)
      omega
    · have := S4_cut ts a b (d ||| c) (d ||| c) hp2 h
      have := q4_le (d ||| c)
      omega
    · exact absurd rfl h3
theorem S4_ok {ws : List Pr} {cf : List Nat → Bool} : ∀ (r : Nat) (u : List Nat) (a b c d : Nat), S4 cf r u a b c d = true → (∀ x ∈ u, adj ws (x / 5) (x % 5) = true) → ∀ ts : List Pr, ts.length ≤ r → (∀ p ∈ ts, adj ws p.1 p.2 = true ∧ p.1 < 4 ∧ p.2 < 4 ∧ p.1 ≠ p.2) → runF [a, b, c, d] ts = [15, 15, 15, 15] → ∃ u, cf u = true ∧ ∀ x ∈ u, adj ws (x / 5) (x % 5) = true
  | 0, u, a, b, c, d, hs, hu, ts, hl, hp, h => by
    cases ts with
    | cons p ts => exact absurd hl (by simp)
    | nil =>
      have hb : Nat.beq (q4 a + q4 b + q4 c + q4 d) 4 = true := by rw [q4_full (show [a, b, c, d] = _ from h)]; rfl
      unfold S4 at hs
      rw [hb] at hs
      exact ⟨u, hs, hu⟩
  | r + 1, u, a, b, c, d, hs, hu, ts, hl, hp, h => by
    unfold S4 at hs
    cases hb : Nat.beq (q4 a + q4 b + q4 c + q4 d) 4 with
    | true =>
      rw [hb] at hs
      exact ⟨u, hs, hu⟩
    | false =>
      rw [hb] at hs
      have cut := S4_cut ts a b c d (fun p hq => (hp p hq).2) h
      have hb2 : Nat.ble (q4 a + q4 b + q4 c + q4 d + 2 * r + 3) 4 = false := by
        cases hc : Nat.ble (q4 a + q4 b + q4 c + q4 d + 2 * r + 3) 4 with
        | false => rfl
        | true =>
          have := Nat.le_of_ble_eq_true hc
          omega
      rw [hb2] at hs
      simp only [cond_false, Bool.and_eq_true] at hs
      obtain ⟨⟨⟨⟨⟨hs0, hs1⟩, hs2⟩, hs3⟩, hs4⟩, hs5⟩ := hs
      cases ts with
      | nil =>
        have := q4_full (show [a, b, c, d] = _ from h)
        rw [this] at hb
        exact nomatch hb
      | cons p ts =>
        obtain ⟨i, j⟩ := p
        obtain ⟨h0, h1, h2, h3⟩ := hp (i, j) (List.mem_cons_self)
        have hp2 := fun q hq => hp q (List.mem_cons_of_mem _ hq)
        rw [List.length_cons] at hl
        simp only at h0 h1 h2 h3
        have hl2 : ts.length ≤ r := by omega
        rcases lt4 h1 with rfl | rfl | rfl | rfl <;> rcases lt4 h2 with rfl | rfl | rfl | rfl
        · exact absurd rfl h3
        · have h : runF [(a ||| b), (a ||| b), c, d] ts = _ := h
          exact S4_ok r _ _ _ _ _ hs0 (fun x hx => by
            rcases List.mem_cons.mp hx with rfl | hx
            · exact h0
            · exact hu x hx) ts hl2 hp2 h
        · have h : runF [(a ||| c), b, (a ||| c), d] ts = _ := h
          exact S4_ok r _ _ _ _ _ hs1 (fun x hx => by
            rcases List.mem_cons.mp hx with rfl | hx
            · exact h0
            · exact hu x hx) ts hl2 hp2 h
        · have h : runF [(a ||| d), b, c, (a ||| d)] ts = _ := h
          exact S4_ok r _ _ _ _ _ hs2 (fun x hx => by
            rcases List.mem_cons.mp hx with rfl | hx
            · exact h0
            · exact hu x hx) ts hl2 hp2 h
        · have h : runF [(b ||| a), (b ||| a), c, d] ts = _ := h
          rw [Nat.or_comm b a] at h
          exact S4_ok r _ _ _ _ _ hs0 (fun x hx => by
            rcases List.mem_cons.mp hx with rfl | hx
            · exact (adj_comm ws 1 0 ▸ h0)
            · exact hu x hx) ts hl2 hp2 h
        · exact absurd rfl h3
        · have h : runF [a, (b ||| c), (b ||| c), d] ts = _ := h
          exact S4_ok r _ _ _ _ _ hs3 (fun x hx => by
            rcases List.mem_cons.mp hx with rfl | hx
            · exact h0
            · exact hu x hx) ts hl2 hp2 h
        · have h : runF [a, (b ||| d), c, (b ||| d)] ts = _ := h
          exact S4_ok r _ _ _ _ _ hs4 (fun x hx => by
            rcases List.mem_cons.mp hx with rfl | hx
            · exact h0
            · exact hu x hx) ts hl2 hp2 h
        · have h : runF [(c ||| a), b, (c ||| a), d] ts = _ := h
          rw [Nat.or_comm c a] at h
          exact S4_ok r _ _ _ _ _ hs1 (fun x hx => by
            rcases List.mem_cons.mp hx with rfl | hx
            · exact (adj_comm ws 2 0 ▸ h0)
            · exact hu x hx) ts hl2 hp2 h
        · have h : runF [a, (c ||| b), (c ||| b), d] ts = _ := h
          rw [Nat.or_comm c b] at h
          exact S4_ok r _ _ _ _ _ hs3 (fun x hx => by
            rcases List.mem_cons.mp hx with rfl | hx
            · exact (adj_comm ws 2 1 ▸ h0)
            · exact hu x hx) ts hl2 hp2 h
        · exact absurd rfl h3
        · have h : runF [a, b, (c ||| d), (c ||| d)] ts = _ := h
          exact S4_ok r _ _ _ _ _ hs5 (fun x hx => by
            rcases List.mem_cons.mp hx with rfl | hx
            · exact h0
            · exact hu x hx) ts hl2 hp2 h
        · have h : runF [(d ||| a), b, c, (d ||| a)] ts = _ := h
          rw [Nat.or_comm d a] at h
          exact S4_ok r _ _ _ _ _ hs2 (fun x hx => by
            rcases List.mem_cons.mp hx with rfl | hx
            · exact (adj_comm ws 3 0 ▸ h0)
            · exact hu x hx) ts hl2 hp2 h
        · have h : runF [a, (d ||| b), c, (d ||| b)] ts = _ := h
          rw [Nat.or_comm d b] at h
          exact S4_ok r _ _ _ _ _ hs4 (fun x hx => by
            rcases List.mem_cons.mp hx with rfl | hx
            · exact (adj_comm ws 3 1 ▸ h0)
            · exact hu x hx) ts hl2 hp2 h
        · have h : runF [a, b, (d ||| c), (d ||| c)] ts = _ := h
          rw [Nat.or_comm d c] at h
          exact S4_ok r _ _ _ _ _ hs5 (fun x hx => by
            rcases List.mem_cons.mp hx with rfl | hx
            · exact (adj_comm ws 3 2 ▸ h0)
            · exact hu x hx) ts hl2 hp2 h
        · exact absurd rfl h3
def q5 (x : Nat) : Nat := bif Nat.beq x 31 then 1 else 0
theorem q5_le (x : Nat) : q5 x ≤ 1 := by
  unfold q5
  cases Nat.beq x 31 <;> decide
def S5 (cf : List Nat → Bool) : Nat → List Nat → Nat → Nat → Nat → Nat → Nat →  Bool
  | 0, u, a, b, c, d, e => bif Nat.beq (q5 a + q5 b + q5 c + q5 d + q5 e) 5 then cf u else true
  | r + 1, u, a, b, c, d, e => bif Nat.beq (q5 a + q5 b + q5 c + q5 d + q5 e) 5 then cf u else bif Nat.ble (q5 a + q5 b + q5 c + q5 d + q5 e + 2 * r + 3) 5 then true else S5 cf r (1 :: u) (a ||| b) (a ||| b) c d e && S5 cf r (2 :: u) (a ||| c) b (a ||| c) d e && S5 cf r (3 :: u) (a ||| d) b c (a ||| d) e && S5 cf r (4 :: u) (a ||| e) b c d (a ||| e) && S5 cf r (7 :: u) a (b ||| c) (b ||| c) d e && S5 cf r (8 :: u) a (b ||| d) c (b ||| d) e && S5 cf r (9 :: u) a (b ||| e) c d (b ||| e) && S5 cf r (13 :: u) a b (c ||| d) (c ||| d) e && S5 cf r (14 :: u) a b (c ||| e) d (c ||| e) && S5 cf r (19 :: u) a b c (d ||| e) (d ||| e)
theorem q5_full {a b c d e : Nat} (h : [a, b, c, d, e] = [31, 31, 31, 31, 31]) : q5 a + q5 b + q5 c + q5 d + q5 e = 5 := by
  injection h with h0 h
  injection h with h1 h
  injection h with h2 h
  injection h with h3 h
  injection h with h4 h
  subst h0 h1 h2 h3 h4
  rfl
theorem q5_back {a b c d e : Nat} (h : q5 a + q5 b + q5 c + q5 d + q5 e = 5) : [a, b, c, d, e] = [31, 31, 31, 31, 31] := by
  have la := q5_le a
  have lb := q5_le b
  have lc := q5_le c
  have ld := q5_le d
  have le := q5_le e
  have ee : ∀ x : Nat, q5 x = 1 → x = 31 := fun x hx => by
    unfold q5 at hx
    cases hb : Nat.beq x 31 with
    | true => exact Nat.eq_of_beq_eq_true hb
    | false => rw [hb] at hx; exact nomatch hx
  rw [ee a (by omega), ee b (by omega), ee c (by omega), ee d (by omega), ee e (by omega)]
theorem lt5 {i : Nat} (h : i < 5) : i = 0 ∨ i = 1 ∨ i = 2 ∨ i = 3 ∨ i = 4 := by
  omega
theorem S5_cut : ∀ (ts : List Pr) (a b c d e : Nat), (∀ p ∈ ts, p.1 < 5 ∧ p.2 < 5 ∧ p.1 ≠ p.2) → runF [a, b, c, d, e] ts = [31, 31, 31, 31, 31] → 5 ≤ q5 a + q5 b + q5 c + q5 d + q5 e + 2 * ts.length
  | [], a, b, c, d, e, _, h => by
    have := q5_full (show [a, b, c, d, e] = _ from h)
    omega
  | p :: ts, a, b, c, d, e, hp, h => by
    obtain ⟨i, j⟩ := p
    obtain ⟨h1, h2, h3⟩ := hp (i, j) (List.mem_cons_self)
    have hp2 := fun q hq => hp q (List.mem_cons_of_mem _ hq)
    rw [List.length_cons]
    simp only at h1 h2 h3
    rcases lt5 h1 with rfl | rfl | rfl | rfl | rfl <;> rcases lt5 h2 with rfl | rfl | rfl | rfl | rfl
    · exact absurd rfl h3
    · have := S5_cut ts (a ||| b) (a ||| b) c d e hp2 h
      have := q5_le (a ||| b)
      omega
    · have := S5_cut ts (a ||| c) b (a ||| c) d e hp2 h
      have := q5_le (a ||| c)
      omega
    · have := S5_cut ts (a ||| d) b c (a ||| d) e hp2 h
      have := q5_le (a ||| d)
      omega
    · have := S5_cut ts (a ||| e) b c d (a ||| e) hp2 h
      have := q5_le (a ||| e)
      omega
    · have := S5_cut ts (b ||| a) (b ||| a) c d e hp2 h
      have := q5_le (b ||| a)
      omega
    · exact absurd rfl h3
    · have := S5_cut ts a (b ||| c) (b ||| c) d e hp2 h
      have := q5_le (b ||| c)
      omega
    · have := S5_cut ts a (b ||| d) c (b ||| d) e hp2 h
      have := q5_le (b ||| d)
      omega
    · have := S5_cut ts a (b ||| e) c d (b ||| e) hp2 h
      have := q5_le (b ||| e)
      omega
    · have := S5_cut ts (c ||| a) b (c ||| a) d e hp2 h
      have := q5_le (c ||| a)
      omega
    · have := S5_cut ts a (c ||| b) (c ||| b) d e hp2 h
      have := q5_le (c ||| b)
      omega
    · exact absurd rfl h3
    · have := S5_cut ts a b (c ||| d) (c ||| d) e hp2 h
      have := q5_le (c ||| d)
      omega
    · have := S5_cut ts a b (c ||| e) d (c ||| e) hp2 h
      have := q5_le (c ||| e)
      omega
    · have := S5_cut ts (d ||| a) b c (d ||| a) e hp2 h
      have := q5_le (d ||| a)
      omega
    · have := S5_cut ts a (d ||| b) c (d ||| b) e hp2 h
      have := q5_le (d ||| b)
      omega
    · have := S5_cut ts a b (d ||| c) (d ||| c) e hp2 h
      have := q5_le (d ||| c)
      omega
    · exact absurd rfl h3
    · have := S5_cut ts a b c (d ||| e) (d ||| e) hp2 h
      have := q5_le (d ||| e)
      omega
    · have := S5_cut ts (e ||| a) b c d (e ||| a) hp2 h
      have := q5_le (e ||| a)
      omega
    · have := S5_cut ts a (e ||| b) c d (e ||| b) hp2 h
      have := q5_le (e ||| b)
      omega
    · have := S5_cut ts a b (e ||| c) d (e ||| c) hp2 h
      have := q5_le (e ||| c)
      omega
    · have := S5_cut ts a b c (e ||| d) (e ||| d) hp2 h
      have := q5_le (e ||| d)
      omega
    · exact absurd rfl h3
theorem S5_ok {ws : List Pr} {cf : List Nat → Bool} : ∀ (r : Nat) (u : List Nat) (a b c d e : Nat), S5 cf r u a b c d e = true → (∀ x ∈ u, adj ws (x / 5) (x % 5) = true) → ∀ ts : List Pr, ts.length ≤ r → (∀ p ∈ ts, adj ws p.1 p.2 = true ∧ p.1 < 5 ∧ p.2 < 5 ∧ p.1 ≠ p.2) → runF [a, b, c, d, e] ts = [31, 31, 31, 31, 31] → ∃ u, cf u = true ∧ ∀ x ∈ u, adj ws (x / 5) (x % 5) = true
  | 0, u, a, b, c, d, e, hs, hu, ts, hl, hp, h => by
    cases ts with
    | cons p ts => exact absurd hl (by simp)
    | nil =>
      have hb : Nat.beq (q5 a + q5 b + q5 c + q5 d + q5 e) 5 = true := by rw [q5_full (show [a, b, c, d, e] = _ from h)]; rfl
      unfold S5 at hs
      rw [hb] at hs
      exact ⟨u, hs, hu⟩
  | r + 1, u, a, b, c, d, e, hs, hu, ts, hl, hp, h => by
    unfold S5 at hs
    cases hb : Nat.beq (q5 a + q5 b + q5 c + q5 d + q5 e) 5 with
    | true =>
      rw [hb] at hs
      exact ⟨u, hs, hu⟩
    | false =>
      rw [hb] at hs
      have cut := S5_cut ts a b c d e (fun p hq => (hp p hq).2) h
      have hb2 : Nat.ble (q5 a + q5 b + q5 c + q5 d + q5 e + 2 * r + 3) 5 = false := by
        cases hc : Nat.ble (q5 a + q5 b + q5 c + q5 d + q5 e + 2 * r + 3) 5 with
        | false => rfl
        | true =>
          have := Nat.le_of_ble_eq_true hc
          omega
      rw [hb2] at hs
      simp only [cond_false, Bool.and_eq_true] at hs
      obtain ⟨⟨⟨⟨⟨⟨⟨⟨⟨hs0, hs1⟩, hs2⟩, hs3⟩, hs4⟩, hs5⟩, hs6⟩, hs7⟩, hs8⟩, hs9⟩ := hs
      cases ts with
      | nil =>
        have := q5_full (show [a, b, c, d, e] = _ from h)
        rw [this] at hb
        exact nomatch hb
      | cons p ts =>
        obtain ⟨i, j⟩ := p
        obtain ⟨h0, h1, h2, h3⟩ := hp (i, j) (List.mem_cons_self)
        have hp2 := fun q hq => hp q (List.mem_cons_of_mem _ hq)
        rw [List.length_cons] at hl
        simp only at h0 h1 h2 h3
        have hl2 : ts.length ≤ r := by omega
        rcases lt5 h1 with rfl | rfl | rfl | rfl | rfl <;> rcases lt5 h2 with rfl | rfl | rfl | rfl | rfl
        · exact absurd rfl h3
        · have h : runF [(a ||| b), (a ||| b), c, d, e] ts = _ := h
          exact S5_ok r _ _ _ _ _ _ hs0 (fun x hx => by
            rcases List.mem_cons.mp hx with rfl | hx
            · exact h0
            · exact hu x hx) ts hl2 hp2 h
        · have h : runF [(a ||| c), b, (a ||| c), d, e] ts = _ := h
          exact S5_ok r _ _ _ _ _ _ hs1 (fun x hx => by
            rcases List.mem_cons.mp hx with rfl | hx
            · exact h0
            · exact hu x hx) ts hl2 hp2 h
        · have h : runF [(a ||| d), b, c, (a ||| d), e] ts = _ := h
          exact S5_ok r _ _ _ _ _ _ hs2 (fun x hx => by
            rcases List.mem_cons.mp hx with rfl | hx
            · exact h0
            · exact hu x hx) ts hl2 hp2 h
        · have h : runF [(a ||| e), b, c, d, (a ||| e)] ts = _ := h
          exact S5_ok r _ _ _ _ _ _ hs3 (fun x hx => by
            rcases List.mem_cons.mp hx with rfl | hx
            · exact h0
            · exact hu x hx) ts hl2 hp2 h
        · have h : runF [(b ||| a), (b ||| a), c, d, e] ts = _ := h
          rw [Nat.or_comm b a] at h
          exact S5_ok r _ _ _ _ _ _ hs0 (fun x hx => by
            rcases List.mem_cons.mp hx with rfl | hx
            · exact (adj_comm ws 1 0 ▸ h0)
            · exact hu x hx) ts hl2 hp2 h
        · exact absurd rfl h3
        · have h : runF [a, (b ||| c), (b ||| c), d, e] ts = _ := h
          exact S5_ok r _ _ _ _ _ _ hs4 (fun x hx => by
            rcases List.mem_cons.mp hx with rfl | hx
            · exact h0
            · exact hu x hx) ts hl2 hp2 h
        · have h : runF [a, (b ||| d), c, (b ||| d), e] ts = _ := h
          exact S5_ok r _ _ _ _ _ _ hs5 (fun x hx => by
            rcases List.mem_cons.mp hx with rfl | hx
            · exact h0
            · exact hu x hx) ts hl2 hp2 h
        · have h : runF [a, (b ||| e), c, d, (b ||| e)] ts = _ := h
          exact S5_ok r _ _ _ _ _ _ hs6 (fun x hx => by
            rcases List.mem_cons.mp hx with rfl | hx
            · exact h0
            · exact hu x hx) ts hl2 hp2 h
        · have h : runF [(c ||| a), b, (c ||| a), d, e] ts = _ := h
          rw [Nat.or_comm c a] at h
          exact S5_ok r _ _ _ _ _ _ hs1 (fun x hx => by
            rcases List.mem_cons.mp hx with rfl | hx
            · exact (adj_comm ws 2 0 ▸ h0)
            · exact hu x hx) ts hl2 hp2 h
        · have h : runF [a, (c ||| b), (c ||| b), d, e] ts = _ := h
          rw [Nat.or_comm c b] at h
          exact S5_ok r _ _ _ _ _ _ hs4 (fun x hx => by
            rcases List.mem_cons.mp hx with rfl | hx
            · exact (adj_comm ws 2 1 ▸ h0)
            · exact hu x hx) ts hl2 hp2 h
        · exact absurd rfl h3
        · have h : runF [a, b, (c ||| d), (c ||| d), e] ts = _ := h
          exact S5_ok r _ _ _ _ _ _ hs7 (fun x hx => by
            rcases List.mem_cons.mp hx with rfl | hx
            · exact h0
            · exact hu x hx) ts hl2 hp2 h
        · have h : runF [a, b, (c ||| e), d, (c ||| e)] ts = _ := h
          exact S5_ok r _ _ _ _ _ _ hs8 (fun x hx => by
            rcases List.mem_cons.mp hx with rfl | hx
            · exact h0
            · exact hu x hx) ts hl2 hp2 h
        · have h : runF [(d ||| a), b, c, (d ||| a), e] ts = _ := h
          rw [Nat.or_comm d a] at h
          exact S5_ok r _ _ _ _ _ _ hs2 (fun x hx => by
            rcases List.mem_cons.mp hx with rfl | hx
            · exact (adj_comm ws 3 0 ▸ h0)
            · exact hu x hx) ts hl2 hp2 h
        · have h : runF [a, (d ||| b), c, (d ||| b), e] ts = _ := h
          rw [Nat.or_comm d b] at h
          exact S5_ok r _ _ _ _ _ _ hs5 (fun x hx => by
            rcases List.mem_cons.mp hx with rfl | hx
            · exact (adj_comm ws 3 1 ▸ h0)
            · exact hu x hx) ts hl2 hp2 h
        · have h : runF [a, b, (d ||| c), (d ||| c), e] ts = _ := h
          rw [Nat.or_comm d c] at h
          exact S5_ok r _ _ _ _ _ _ hs7 (fun x hx => by
            rcases List.mem_cons.mp hx with rfl | hx
            · exact (adj_comm ws 3 2 ▸ h0)
            · exact hu x hx) ts hl2 hp2 h
        · exact absurd rfl h3
        · have h : runF [a, b, c, (d ||| e), (d ||| e)] ts = _ := h
          exact S5_ok r _ _ _ _ _ _ hs9 (fun x hx => by
            rcases List.mem_cons.mp hx with rfl | hx
            · exact h0
            · exact hu x hx) ts hl2 hp2 h
        · have h : runF [(e ||| a), b, c, d, (e ||| a)] ts = _ := h
          rw [Nat.or_comm e a] at h
          exact S5_ok r _ _ _ _ _ _ hs3 (fun x hx => by
            rcases List.mem_cons.mp hx with rfl | hx
            · exact (adj_comm ws 4 0 ▸ h0)
            · exact hu x hx) ts hl2 hp2 h
        · have h : runF [a, (e ||| b), c, d, (e ||| b)] ts = _ := h
          rw [Nat.or_comm e b] at h
          exact S5_ok r _ _ _ _ _ _ hs6 (fun x hx => by
            rcases List.mem_cons.mp hx with rfl | hx
            · exact (adj_comm ws 4 1 ▸ h0)
            · exact hu x hx) ts hl2 hp2 h
        · have h : runF [a, b, (e ||| c), d, (e ||| c)] ts = _ := h
          rw [Nat.or_comm e c] at h
          exact S5_ok r _ _ _ _ _ _ hs8 (fun x hx => by
            rcases List.mem_cons.mp hx with rfl | hx
            · exact (adj_comm ws 4 2 ▸ h0)
            · exact hu x hx) ts hl2 hp2 h
        · have h : runF [a, b, c, (e ||| d), (e ||| d)] ts = _ := h
          rw [Nat.or_comm e d] at h
          exact S5_ok r _ _ _ _ _ _ hs9 (fun x hx => by
            rcases List.mem_cons.mp hx with rfl | hx
            · exact (adj_comm ws 4 3 ▸ h0)
            · exact hu x hx) ts hl2 hp2 h
        · exact absurd rfl h3
def cyc5 : List (List Nat) := [[1, 7, 13, 3], [1, 8, 13, 2], [2, 7, 8, 3], [1, 7, 14, 4], [1, 9, 14, 2], [2, 7, 9, 4], [1, 8, 19, 4], [1, 9, 19, 3], [3, 8, 9, 4], [2, 13, 19, 4], [2, 14, 19, 3], [3, 13, 14, 4], [7, 13, 19, 9], [7, 14, 19, 8], [8, 13, 14, 9]]
def cf5 (u : List Nat) : Bool := cyc5.any fun c => c.all fun x => u.any fun y => Nat.beq x y
theorem cf5_ok {ws : List Pr} {u : List Nat} (h : cf5 u = true) (hu : ∀ x ∈ u, adj ws (x / 5) (x % 5) = true) : ∃ a b c d, Cand ws a b c d := by
  unfold cf5 at h
  obtain ⟨c, hc, ha⟩ := List.any_eq_true.mp h
  have ha := List.all_eq_true.mp ha
  have key : ∀ x ∈ c, adj ws (x / 5) (x % 5) = true := fun x hx => by
    obtain ⟨y, hy, he⟩ := List.any_eq_true.mp (ha x hx)
    rw [Nat.eq_of_beq_eq_true he]
    exact hu y hy
  unfold cyc5 at hc
  simp only [List.mem_cons, or_false, List.not_mem_nil] at hc
  rcases hc with rfl | rfl | rfl | rfl | rfl | rfl | rfl | rfl | rfl | rfl | rfl | rfl | rfl | rfl | rfl
  · exact ⟨0, 1, 2, 3, (key 1 (by simp)), (key 7 (by simp)), (key 13 (by simp)), (adj_comm ws 0 3 ▸ (key 3 (by simp))), by decide, by decide⟩
  · exact ⟨0, 1, 3, 2, (key 1 (by simp)), (key 8 (by simp)), (adj_comm ws 2 3 ▸ (key 13 (by simp))), (adj_comm ws 0 2 ▸ (key 2 (by simp))), by decide, by decide⟩
  · exact ⟨0, 2, 1, 3, (key 2 (by simp)), (adj_comm ws 1 2 ▸ (key 7 (by simp))), (key 8 (by simp)), (adj_comm ws 0 3 ▸ (key 3 (by simp))), by decide, by decide⟩
  · exact ⟨0, 1, 2, 4, (key 1 (by simp)), (key 7 (by simp)), (key 14 (by simp)), (adj_comm ws 0 4 ▸ (key 4 (by simp))), by decide, by decide⟩
  · exact ⟨0, 1, 4, 2, (key 1 (by simp)), (key 9 (by simp)), (adj_comm ws 2 4 ▸ (key 14 (by simp))), (adj_comm ws 0 2 ▸ (key 2 (by simp))), by decide, by decide⟩
  · exact ⟨0, 2, 1, 4, (key 2 (by simp)), (adj_comm ws 1 2 ▸ (key 7 (by simp))), (key 9 (by simp)), (adj_comm ws 0 4 ▸ (key 4 (by simp))), by decide, by decide⟩
  · exact ⟨0, 1, 3, 4, (key 1 (by simp)), (key 8 (by simp)), (key 19 (by simp)), (adj_comm ws 0 4 ▸ (key 4 (by simp))), by decide, by decide⟩
  · exact ⟨0, 1, 4, 3, (key 1 (by simp)), (key 9 (by simp)), (adj_comm ws 3 4 ▸ (key 19 (by simp))), (adj_comm ws 0 3 ▸ (key 3 (by simp))), by decide, by decide⟩
  · exact ⟨0, 3, 1, 4, (key 3 (by simp)), (adj_comm ws 1 3 ▸ (key 8 (by simp))), (key 9 (by simp)), (adj_comm ws 0 4 ▸ (key 4 (by simp))), by decide, by decide⟩
  · exact ⟨0, 2, 3, 4, (key 2 (by simp)), (key 13 (by simp)), (key 19 (by simp)), (adj_comm ws 0 4 ▸ (key 4 (by simp))), by decide, by decide⟩
  · exact ⟨0, 2, 4, 3, (key 2 (by simp)), (key 14 (by simp)), (adj_comm ws 3 4 ▸ (key 19 (by simp))), (adj_comm ws 0 3 ▸ (key 3 (by simp))), by decide, by decide⟩
  · exact ⟨0, 3, 2, 4, (key 3 (by simp)), (adj_comm ws 2 3 ▸ (key 13 (by simp))), (key 14 (by simp)), (adj_comm ws 0 4 ▸ (key 4 (by simp))), by decide, by decide⟩
  · exact ⟨1, 2, 3, 4, (key 7 (by simp)), (key 13 (by simp)), (key 19 (by simp)), (adj_comm ws 1 4 ▸ (key 9 (by simp))), by decide, by decide⟩
  · exact ⟨1, 2, 4, 3, (key 7 (by simp)), (key 14 (by simp)), (adj_comm ws 3 4 ▸ (key 19 (by simp))), (adj_comm ws 1 3 ▸ (key 8 (by simp))), by decide, by decide⟩
  · exact ⟨1, 3, 2, 4, (key 8 (by simp)), (adj_comm ws 2 3 ▸ (key 13 (by simp))), (key 14 (by simp)), (adj_comm ws 1 4 ▸ (key 9 (by simp))), by decide, by decide⟩
theorem s3 : S3 (fun _ => false) 2 [] 1 2 4 = true := by decide +kernel
theorem s4 : S4 (fun _ => false) 3 [] 1 2 4 8 = true := by decide +kernel
theorem s4c : S4 cf5 4 [] 1 2 4 8 = true := by decide +kernel
theorem s5 : S5 (fun _ => false) 5 [] 1 2 4 8 16 = true := by decide +kernel
theorem s5c : S5 cf5 6 [] 1 2 4 8 16 = true := by decide +kernel
theorem cand_four {n : Nat} {ws : List Pr} (hn : NetOk n ws) {a b c d : Nat} (h : Cand ws a b c d) : 4 ≤ n := by
  obtain ⟨h1, h2, h3, h4, h5, h6⟩ := h
  have k1 := adj_lt hn h1
  have k2 := adj_lt hn h2
  have k3 := adj_lt hn h3
  have k4 := adj_lt hn h4
  omega
def fewT (n : Nat) (r : List Nat) : Nat := if n = 1 then 0 else if r = [] then 2 * n - 3 else 2 * n - 4
theorem few_low {n : Nat} {ws : List Pr} {r : List Nat} {ts : List Pr} (hn : NetOk n ws) (h5 : n ≤ 5) (hr : IsRnd ws r) (ht : ∀ p ∈ ts, adj ws p.1 p.2 = true) (hw : runF (firstF n) ts = wholeF n) : fewT n r ≤ ts.length := by
  have h1 := hn.n1
  have hp : ∀ p ∈ ts, adj ws p.1 p.2 = true ∧ p.1 < n ∧ p.2 < n ∧ p.1 ≠ p.2 := fun p hp => ⟨ht p hp, adj_lt hn (ht p hp)⟩
  have noc : r = [] → ∀ a b c d, ¬ Cand ws a b c d := fun e => by
    rcases hr with ⟨_, h⟩ | ⟨a, b, c, d, h, _⟩
    · exact h
    · rw [e] at h
      exact nomatch h
  have four : r ≠ [] → 4 ≤ n := fun e => by
    rcases hr with ⟨h, _⟩ | ⟨a, b, c, d, _, h, _⟩
    · exact absurd h e
    · exact cand_four hn h
  refine Classical.byContradiction fun hlt => ?_
  have nof : ¬ ∃ u : List Nat, (fun _ => false) u = true ∧ ∀ x ∈ u, adj ws (x / 5) (x % 5) = true := fun ⟨_, h, _⟩ => nomatch h
  have emp : ∀ x ∈ ([] : List Nat), adj ws (x / 5) (x % 5) = true := fun x hx => nomatch hx
  have hc : n = 1 ∨ n = 2 ∨ n = 3 ∨ n = 4 ∨ n = 5 := by omega
  rcases hc with rfl | rfl | rfl | rfl | rfl
  · exact hlt (Nat.zero_le _)
  · have hre : r = [] := Classical.byContradiction fun e => absurd (four e) (by decide)
    have e : fewT 2 r = 1 := by
      unfold fewT
      rw [if_neg (by decide), if_pos hre]
    rw [e] at hlt
    cases ts with
    | nil => exact absurd hw (by decide)
    | cons p ts => exact hlt (by rw [List.length_cons]; omega)
  · have hre : r = [] := Classical.byContradiction fun e => absurd (four e) (by decide)
    have e : fewT 3 r = 3 := by
      unfold fewT
      rw [if_neg (by decide), if_pos hre]
    rw [e] at hlt
    exact nof (S3_ok (ws := ws) 2 [] 1 2 4 s3 emp ts (by omega) hp hw)
  · by_cases hre : r = []
    · have e : fewT 4 r = 5 := by
        unfold fewT
        rw [if_neg (by decide), if_pos hre]
      rw [e] at hlt
      obtain ⟨u, hu, hu2⟩ := S4_ok (ws := ws) 4 [] 1 2 4 8 s4c emp ts (by omega) hp hw
      obtain ⟨a, b, c, d, h⟩ := cf5_ok hu hu2
      exact noc hre _ _ _ _ h
    · have e : fewT 4 r = 4 := by
        unfold fewT
        rw [if_neg (by decide), if_neg hre]
      rw [e] at hlt
      exact nof (S4_ok (ws := ws) 3 [] 1 2 4 8 s4 emp ts (by omega) hp hw)
  · by_cases hre : r = []
    · have e : fewT 5 r = 7 := by
        unfold fewT
        rw [if_neg (by decide), if_pos hre]
      rw [e] at hlt
      obtain ⟨u, hu, hu2⟩ := S5_ok (ws := ws) 6 [] 1 2 4 8 16 s5c emp ts (by omega) hp hw
      obtain ⟨a, b, c, d, h⟩ := cf5_ok hu hu2
      exact noc hre _ _ _ _ h
    · have e : fewT 5 r = 6 := by
        unfold fewT
        rw [if_neg (by decide), if_neg hre]
      rw [e] at hlt
      exact nof (S5_ok (ws := ws) 5 [] 1 2 4 8 16 s5 emp ts (by omega) hp hw)
end K96

set_option Elab.async false
set_option linter.all false
set_option maxRecDepth 100000
set_option maxHeartbeats 4000000
namespace K96
open PySem PySem.Spec PyProof.Rows L2 Evl My
structure JoinOk (n : Nat) (ws : List Pr) (f : List Nat) : Prop where
  nd : f.Nodup
  lt : ∀ x ∈ f, x < n
  z : 0 ∈ f
  grow : ∀ (i : Nat) (x : Nat), f[i]? = some x → x = 0 ∨ ∃ y ∈ f.take i, adj ws y x = true
  cl : ∀ x ∈ f, ∀ o, adj ws x o = true → o ∈ f
theorem join_same {n : Nat} {ws : List Pr} (hn : NetOk n ws) {f : List Nat} {q : List Pr} (hf : JoinOk n ws f) (hq : TreeOk n ws [0] q) : f.length = n ↔ q.length = n := by
  obtain ⟨t1, t2⟩ := tree_nl hq
  obtain ⟨rest, _, e2, _⟩ := tree_roots hq
  have h0 : 0 ∈ q.map (·.1) := by
    rw [e2]
    simp
  constructor
  · intro hl
    have hall := all_in hf.nd hf.lt hl
    have key : ∀ (i : Nat) (x : Nat), f[i]? = some x → x ∈ q.map (·.1) := by
      intro i
      induction i using Nat.strongRecOn with
      | _ i ih =>
        intro x hx
        rcases hf.grow i x hx with rfl | ⟨y, hy, ha⟩
        · exact h0
        · obtain ⟨j, hj, hje⟩ := List.getElem_of_mem hy
          rw [List.length_take] at hj
          rw [List.getElem_take] at hje
          have := ih j (by omega) y (by rw [List.getElem?_eq_getElem (by omega), hje])
          exact tree_cl hq y this x ((near_mem hn).mpr ha)
    have := len_all t1 t2 fun x hx => by
      obtain ⟨i, hi, hie⟩ := List.getElem_of_mem (hall x hx)
      exact key i x (by rw [List.getElem?_eq_getElem hi, hie])
    rwa [List.length_map] at this
  · intro hl
    exact len_all hf.nd hf.lt (closed_all hn hq hl (fun x hx o ho => hf.cl x hx o ((near_mem hn).mp ho)) hn.n1 hf.z)
theorem nats_flat (xs : List Nat) : (nats xs).all flatV = true := by
  unfold nats
  rw [List.all_map, List.all_eq_true]
  exact fun _ _ => rfl
theorem nats_in (x : Nat) (xs : List Nat) : inV (.int (x : Int)) (nats xs) = decide (x ∈ xs) := by
  induction xs with
  | nil => rfl
  | cons y xs ih =>
    unfold inV at ih ⊢
    show (eqV (.int (y : Int)) (.int (x : Int)) || (nats xs).any _) = _
    rw [eqV_nat, ih, ← Bool.decide_or]
    refine decide_eq_decide.mpr ?_
    rw [List.mem_cons]
    exact ⟨fun h => h.imp Eq.symm id, fun h => h.imp Eq.symm id⟩
theorem adj_or {n : Nat} {ws : List Pr} (hn : NetOk n ws) {a b : Nat} : adj ws a b = true ↔ (a, b) ∈ ws ∨ (b, a) ∈ ws := by
  unfold adj
  rw [decide_eq_true_eq]
  constructor
  · intro h
    by_cases hab : a ≤ b
    · rw [Nat.min_eq_left hab, Nat.max_eq_right hab] at h
      exact .inl h
    · rw [Nat.min_eq_right (by omega), Nat.max_eq_left (by omega)] at h
      exact .inr h
  · rintro (h | h)
    · have := (hn.lt _ h).1
      simp only at this
      rw [Nat.min_eq_left (by omega), Nat.max_eq_right (by omega)]
      exact h
    · have := (hn.lt _ h).1
      simp only at this
      rw [Nat.min_eq_right (by omega), Nat.max_eq_left (by omega)]
      exact h
section
variable {K : PySem.W.Frag} {σ : L2.St} {H : Hp} {tl : TE} {tu : TS} {D0 : Ends}
theorem s_forD2 {rows : List (D × D)} {j1 j2 : Nat} (h : EvD tl σ H (.lst (rows.map fun r => .tup [r.1, r.2]))) (Pv : Hp → Nat → L2.St → Hp → Prop) (h0 : ∀ H1, Ex H H1 → Pv H1 0 σ H1) (hk : ∀ H1 i σ' H', Pv H1 i σ' H' → Ex H1 H')
    (hs : ∀ H1 i r v1 v2 σ' H', Ex H H1 → rows[i]? = some r → Rep H' v1 r.1 → Rep H' v2 r.2 → Pv H1 i σ' H' → tu { D0 with nx := Pv H1 (i + 1), ct := Pv H1 (i + 1), bk := D0.nx } ((σ'.set j1 (some v1)).set j2 (some v2)) H')
    (hd : ∀ H1 σ' H', Ex H H1 → Pv H1 rows.length σ' H' → D0.nx σ' H') : tFor (iList K tl) (gTup K 2 (gCons (gName j1) (gCons (gName j2) gNil))) tu D0 σ H :=
  q_forD2 (tz := tNext) h Pv h0 hk hs hd
theorem s_forLst {g : TG} {ta : TA} {ds : List D} (h : EvAR ta σ H ds) (hn : ds.length ≤ 100000)
    (k : ∀ a vs H1, (∀ c o, H c = some o → c ≠ a) → Ex H H1 → H1 a = some (.lst vs) → Reps H1 vs ds → ∃ W : Nat → Nat → L2.St → Hp → Prop, (∃ m, W 0 m σ H1) ∧ ∀ i m σ H, W i m σ H →
      ((Itl K a).stop i H ∧ D0.nx σ H) ∨ ((Itl K a).go i H ∧ ∃ N : L2.St → Hp → Prop, (∀ σ' H', N σ' H' → ∃ m', m' < m ∧ W (i + 1) m' σ' H') ∧ ∀ v H', (Itl K a).yld i H v H' → g v σ H' fun σ2 H2 => tu { D0 with nx := N, ct := N, bk := D0.nx } σ2 H2)) : tFor (iList K (tLst ta)) g tu D0 σ H :=
  h H (Ex.refl H) _ fun vs H1 e rs => ⟨sz_of (by rw [rs.len]; exact hn), fun p hp => ⟨p, rfl, ⟨vs, sq_of upd_same⟩, k p vs _ (fun c o hc z => by rw [← z, e _ _ hc] at hp; exact nomatch hp) (e.trans (Ex.new hp)) upd_same (rs.mono (Ex.new hp))⟩⟩
end
section
variable {P : Program} {w : World} {K : PySem.W.Frag} {mg : Str → Option Value} {base : Heap}
abbrev s_law_joined : Stmt := topS 17
theorem sc_law_joined : FnScope ["net", "found", "at", "i", "j", "a", "b"] ["net"] (defScope s_law_joined) := ⟨rfl, rfl, rfl, by decide +kernel, rfl, by decide +kernel, by decide +kernel⟩
/- 0 net, 1 found, 2 at, 3 i, 4 j, 5 a, 6 b -/
def sp_joined (K : PySem.W.Frag) : Sp := fun vs H Q _ => ∃ (v : V) (n : Nat) (ws : List Pr), vs = [v] ∧ Rep H v (netD n ws) ∧ NetOk n ws ∧ ∀ f H', JoinOk n ws f → Ex H H' → Q (.bl (decide (f.length = n))) H'
theorem fn_joined {f : Addr} {fd : FuncData} {k : Nat} (F : Fun K "_law_joined" "_law_joined" s_law_joined f fd) (N : Nb mg) : FnOk P w K mg base CX0 (k + 1) f fd ["net"] (sp_joined K) := by
  refine F.ok sc_law_joined (fun vs H Q E h => ?_) (fun cdv A outer s H vs Q E hr h => ?_)
  · obtain ⟨_, _, _, rfl, _⟩ := h
    rfl
  · obtain ⟨v, n, ws, rfl, hR, hn, q⟩ := h
    refine ⟨_, (pss_cons (ps_set (i := 1) sc_law_joined.nd rfl (Or.inl rfl) (pe_lst (pa_cons pe_int pa_nil)))
      (pss_cons (ps_set (i := 2) sc_law_joined.nd rfl (Or.inl rfl) pe_int)
      (pss_cons (ps_while PassesOwn.never (pt_cmpR op_lt (pv 2) (pe_callB call_len_seq (by rfl) N.len PySem.boot_len (pa_cons (pv 1) pa_nil)) (nomark _)) (pss_cons (ps_for PassesOwn.never rfl (pi_tup (pe_ix ix_tup (pv 0) pe_int (fun _ _ => rfl))) (pg_tup rfl (pgs_cons (pg_name (i := 3) sc_law_joined.nd rfl (Or.inl rfl)) (pgs_cons (pg_name (i := 4) sc_law_joined.nd rfl (Or.inl rfl)) pgs_nil))) (pss_one (ps_for PassesOwn.never rfl (pi_list (pe_lst (pa_cons (pe_tup (pa_cons (pv 3) (pa_cons (pv 4) pa_nil))) (pa_cons (pe_tup (pa_cons (pv 4) (pa_cons (pv 3) pa_nil))) pa_nil)))) (pg_tup rfl (pgs_cons (pg_name (i := 5) sc_law_joined.nd rfl (Or.inl rfl)) (pgs_cons (pg_name (i := 6) sc_law_joined.nd rfl (Or.inl rfl)) pgs_nil))) (pss_one (ps_if (PW.pt (pw_and (pt_cmpR op_eq (pv 5) (pe_ix ix_list (pv 1) (pv 2) (fun _ _ => rfl)) (nomark _)) (pw_and1 (pt_cmpR op_notIn_seq (pv 6) (pv 1) rfl)))) (pss_one (ps_expr (pe_bm PySem.F.plainAttrs_list PySem.F.slot_list_append PySem.F.type_list_append mt_append (pv 1) (pa_cons (pv 6) pa_nil)))) pss_nil)))))
      (pss_one (ps_set (i := 2) sc_law_joined.nd rfl (Or.inl rfl) (pe_op op_add (pv 2) pe_int)))))
      (pss_one (ps_ret (pe_cmpR op_eq (pe_callB call_len_seq (by rfl) N.len PySem.boot_len (pa_cons (pv 1) pa_nil)) (pe_ix ix_tup (pv 0) pe_int (fun _ _ => rfl)) (nomark _))))))), ?_⟩
    have hn8 := hn.n8
    have hn1 := hn.n1
    obtain ⟨na, nb, us, rfl, hna, hnb, hus⟩ := net_at hR
    have hul := hus.len
    rw [List.length_map] at hul
    refine q_asgL (xs := nats [0]) (el_lst (ea_cons (ev_cn 0) ea_nil) (by show 1 ≤ 100000; decide)) fun fl H1 hfl0 e1 h1 => ?_
    refine q_asg (v := .int ((0 : Nat) : Int)) (ev_cn 0) fun H2 e2 => ?_
    let St : List Nat → Hp → Prop := fun f H' => Ex H H' ∧ H' fl = some (.lst (nats f)) ∧ f.Nodup ∧ (∀ x ∈ f, x < n) ∧ 0 ∈ f ∧ ∀ (i : Nat) (x : Nat), f[i]? = some x → x = 0 ∨ ∃ y ∈ f.take i, adj ws y x = true
    let W : Nat → L2.St → Hp → Prop := fun m σ' H' => ∃ (f : List Nat) (at_ : Nat) (y3 y4 y5 y6 : Option V), m = n - at_ ∧ at_ ≤ f.length ∧ St f H' ∧ (∀ (i : Nat) (x : Nat), i < at_ → f[i]? = some x → ∀ o, adj ws x o = true → o ∈ f) ∧ σ' = [some (.ref na), some (.ref fl), some (.int (at_ : Int)), y3, y4, y5, y6]
    refine q_while W n ⟨[0], 0, none, none, none, none, rfl, Nat.zero_le _, ⟨e1.trans e2, e2 _ _ h1, by simp, fun x hx => by rw [List.mem_singleton.mp hx]; exact hn1, by simp, fun i x hx => .inl (List.mem_singleton.mp (List.mem_of_getElem? hx))⟩, fun i x hi => absurd hi (by omega), rfl⟩ ?_
    rintro m σ' H' ⟨f, at_, y3, y4, y5, y6, hm, hat, ⟨e', hF, hnd, hlt, hz, hgr⟩, hcl, rfl⟩
    have hfl : f.length ≤ n := nodup_lt hnd hlt
    refine ⟨decide (at_ < f.length), et_is (et_test (ev_op (ev_v rfl) (ev_is (ev_len (ev_v rfl) (sq_of hF)) (by rw [nats_len])) rv_I0)) (decide_eq_decide.mpr (by omega)), fun hb H4 e4 => ⟨fun σ2 H2 => ∃ m', m' < m ∧ W m' σ2 H2, fun _ _ h => h, ?_⟩, fun hb H4 e4 => ?_⟩
    · have hlt2 := of_decide_eq_true hb
      obtain ⟨h, hh⟩ : ∃ h, f[at_]? = some h := ⟨_, List.getElem?_eq_getElem hlt2⟩
      have E4 := e'.trans e4
      refine q_forT (xs := us) (ev_ixT (j := 1) (v := .ref nb) (ev_v rfl) (ev_cn 1) (st_of (E4 _ _ hna)) rfl) (st_of (E4 _ _ hnb)) (fun j σ2 H2 => ∃ (f2 more : List Nat) (y3 y4 y5 y6 : Option V), f2 = f ++ more ∧ St f2 H2 ∧ (∀ p ∈ ws.take j, ∀ o, p = (h, o) ∨ p = (o, h) → o ∈ f2) ∧ σ2 = [some (.ref na), some (.ref fl), some (.int (at_ : Int)), y3, y4, y5, y6]) (fun H5 e5 => ⟨f, [], _, _, _, _, by rw [List.append_nil], ⟨E4.trans e5, (e4.trans e5) _ _ hF, hnd, hlt, hz, hgr⟩, (fun p hp => by rw [List.take_zero] at hp; exact (nomatch hp)), rfl⟩) (fun j σ2 H2 _ hh => by
        obtain ⟨_, _, _, _, _, _, _, hh, _⟩ := hh
        exact st_of (hh.1 _ _ hnb)) ?_ ?_
      · rintro j x σ2 H2 hx ⟨f2, more, y3, y4, y5, y6, hf2, ⟨g1, g2, g3, g4, g5, g6⟩, hdn, rfl⟩
        obtain ⟨dp, hdp, hrp⟩ := hus.get' hx
        rw [List.getElem?_map] at hdp
        obtain ⟨p, hpp, rfl⟩ := Option.map_eq_some_iff.mp hdp
        obtain ⟨pa, rfl, hpa⟩ := prd_at hrp
        have hpm := List.mem_of_getElem? hpp
        have hpl := hn.lt p hpm
        refine ⟨_, _, rfl, st_of (g1 _ _ hpa), rfl, _, _, rfl, _, _, rfl, rfl, ?_⟩
        have two : ∀ {σ : L2.St} {H2 : Hp} {ta tb : TE} {x y : Nat}, Ev ta σ H2 (.int (x : Int)) → Ev tb σ H2 (.int (y : Int)) → EvD (tTup (tCons ta (tCons tb tNil))) σ H2 (.tup [.int (x : Int), .int (y : Int)]) := fun ha hb => ed_tup (er_cons (evd_v ha (.int _)) (er_cons (evd_v hb (.int _)) er_nil)) (by show 2 ≤ 100000; decide)
        have key : ∀ {H5 : Hp} {f3 more3 : List Nat} {a b : Nat} {y3 y4 : Option V} {D1 : Ends}, f3 = f ++ more3 → St f3 H5 → ((a, b) ∈ ws ∨ (b, a) ∈ ws) → (∀ (f4 more4 : List Nat) H6, f4 = f ++ more4 → (∀ x ∈ f3, x ∈ f4) → St f4 H6 → (a = h → b ∈ f4) → (∀ c us, H5 c = some (.tup us) → H6 c = some (.tup us)) → (∀ c us, c ≠ fl → H5 c = some (.lst us) → H6 c = some (.lst us)) → D1.nx [some (.ref na), some (.ref fl), some (.int (at_ : Int)), y3, y4, some (.int (a : Int)), some (.int (b : Int))] H6) →
            tIfS (tAnd (tTest (tOp rEq (tVar 5) (tOp (rIxL K) (tVar 1) (tVar 2)))) (tTest (tOp (rIn K true) (tVar 6) (tVar 1)))) (tDrop (tBM K "list" rAppend (tVar 1) (tCons (tVar 6) tNil))) tNext D1 [some (.ref na), some (.ref fl), some (.int (at_ : Int)), y3, y4, some (.int (a : Int)), some (.int (b : Int))] H5 := fun {H5 f3 more3 a b y3 y4 D1} hf3 hst hab k => by
          obtain ⟨g1, g2, g3, g4, g5, g6⟩ := hst
          have hh3 : f3[at_]? = some h := by rw [hf3, List.getElem?_append_left hlt2]; exact hh
          have hal : a < n ∧ b < n := by
            rcases hab with hm | hm
            · have := hn.lt _ hm; simp only at this; omega
            · have := hn.lt _ hm; simp only at this; omega
          have hf3l := nodup_lt g3 g4
          refine s_when (b := decide (a = h) && !decide (b ∈ f3)) (et_and (et_is (et_test (ev_op (ev_v rfl) (ev_ixL (j := at_) (ev_v rfl) (ev_v rfl) (sq_of g2) (nats_get? hh3)) (rv_eq rfl))) (decide_eq_decide.mpr ⟨fun z => by have := V.int.inj z; omega, fun z => by rw [z]⟩)) fun _ => et_is (et_test (ev_op (ev_v rfl) (ev_v rfl) (rv_niL (xs := nats f3) (sq_of g2) rfl (nats_flat f3)))) (by rw [nats_in])) (fun hb H6 e6 => ?_) fun hb H6 e6 => ?_
          · rw [Bool.and_eq_true, Bool.not_eq_true'] at hb
            have ha := of_decide_eq_true hb.1
            have hbn := of_decide_eq_false hb.2
            refine r_dropE (r_bm (r_ev (ev_v (v := .ref fl) rfl) (Ex.refl _) fun H7 e7 => ⟨.inl ⟨rfl, _, sq_of ((e6.trans e7) _ _ g2)⟩, r_cons (r_var rfl (r_nil ⟨fl, nats f3, _, rfl, rfl, (e6.trans e7) _ _ g2, sz_lt (by rw [nats_len]; omega), ?_⟩))⟩))
            have e67 := e6.trans e7
            refine k (f3 ++ [b]) (more3 ++ [b]) _ (by rw [hf3, List.append_assoc]) (fun x hx => List.mem_append_left _ hx) ⟨(g1.trans e67).mut hfl0, by rw [upd_same, nats_app]; rfl, ?_, ?_, List.mem_append_left _ g5, ?_⟩ (fun _ => List.mem_append_right _ (by simp)) (fun c us hc => ?_) fun c us hne hc => ?_
            · rw [List.nodup_append]
              refine ⟨g3, by simp, fun c hc d hd => ?_⟩
              rw [List.mem_singleton.mp hd]
              exact fun e => hbn (e ▸ hc)
            · intro x hx
              rcases List.mem_append.mp hx with hx | hx
              · exact g4 x hx
              · rw [List.mem_singleton.mp hx]
                exact hal.2
            · intro i x hx
              by_cases hi : i < f3.length
              · rw [List.getElem?_append_left hi] at hx
                rw [List.take_append_of_le_length (by omega)]
                exact g6 i x hx
              · rw [List.getElem?_append_right (by omega)] at hx
                have hi0 : i - f3.length = 0 := by
                  rcases Nat.eq_zero_or_pos (i - f3.length) with z | z
                  · exact z
                  · rw [List.getElem?_eq_none (by show 1 ≤ _; omega)] at hx
                    exact nomatch hx
                rw [hi0] at hx
                cases hx
                rw [show i = f3.length by omega, List.take_left]
                exact .inr ⟨h, List.mem_of_getElem? hh3, (adj_or hn).mpr (by rw [← ha]; exact hab)⟩
            · rw [upd_ne (ne_kind hc g2 (fun z => nomatch z))]
              exact e67 _ _ hc
            · rw [upd_ne hne]
              exact e67 _ _ hc
          · refine k f3 more3 H6 hf3 (fun x hx => hx) ⟨g1.trans e6, e6 _ _ g2, g3, g4, g5, g6⟩ (fun ha => ?_) (fun c us hc => e6 _ _ hc) fun c us _ hc => e6 _ _ hc
            refine Classical.byContradiction fun hno => ?_
            rw [decide_eq_true ha, decide_eq_false hno] at hb
            exact nomatch hb
        refine s_forLst (ds := [.tup [.int (p.1 : Int), .int (p.2 : Int)], .tup [.int (p.2 : Int), .int (p.1 : Int)]]) (er_cons (two (x := p.1) (y := p.2) (ev_v rfl) (ev_v rfl)) (er_cons (two (x := p.2) (y := p.1) (ev_v rfl) (ev_v rfl)) er_nil)) (by show 2 ≤ 100000; decide) fun lp vs H6 hne e6 h6 rs => ?_
        have hvl := rs.len
        have nlf : lp ≠ fl := fun z => hne _ _ g2 z.symm
        refine for_list (fun i σ3 H3 => H3 lp = some (.lst vs) ∧ Reps H3 vs [.tup [.int (p.1 : Int), .int (p.2 : Int)], .tup [.int (p.2 : Int), .int (p.1 : Int)]] ∧ ∃ (f3 more3 : List Nat) (y5 y6 : Option V), f3 = f ++ more3 ∧ (∀ x ∈ f2, x ∈ f3) ∧ St f3 H3 ∧ (1 ≤ i → p.1 = h → p.2 ∈ f3) ∧ (2 ≤ i → p.2 = h → p.1 ∈ f3) ∧ σ3 = [some (.ref na), some (.ref fl), some (.int (at_ : Int)), some (.int (p.1 : Int)), some (.int (p.2 : Int)), y5, y6]) ⟨h6, rs, f2, more, _, _, hf2, fun x hx => hx, ⟨g1.trans e6, e6 _ _ g2, g3, g4, g5, g6⟩, fun z => absurd z (by decide), fun z => absurd z (by decide), rfl⟩ (fun i σ3 H3 _ hh => sq_of hh.1) ?_ ?_
        · rintro i x σ3 H3 hx ⟨k1, k2, f3, more3, y5, y6, hf3, hsub, hst, hd1, hd2, rfl⟩
          obtain ⟨d, hd, hr⟩ := k2.get' hx
          match i, hd, hx with
          | 0, hd, hx =>
            cases hd
            obtain ⟨xa, rfl, hxa⟩ := prd_at hr
            refine ⟨_, _, rfl, st_of hxa, rfl, _, _, rfl, _, _, rfl, rfl, key hf3 hst (.inl hpm) fun f4 more4 H7 hf4 hs4 hst4 hh4 kt kl => ⟨kl _ _ nlf k1, Reps.keepT kt (by rw [NoLL, NoLL, NoLL]; exact ⟨nol_pr p, nol_pr (p.2, p.1), trivial⟩) k2, f4, more4, _, _, hf4, fun x hx => hs4 x (hsub x hx), hst4, fun _ e => hh4 e, fun z => absurd z (by decide), rfl⟩⟩
          | 1, hd, hx =>
            cases hd
            obtain ⟨xa, rfl, hxa⟩ := prd_at (p := (p.2, p.1)) hr
            refine ⟨_, _, rfl, st_of hxa, rfl, _, _, rfl, _, _, rfl, rfl, key hf3 hst (.inr hpm) fun f4 more4 H7 hf4 hs4 hst4 hh4 kt kl => ⟨kl _ _ nlf k1, Reps.keepT kt (by rw [NoLL, NoLL, NoLL]; exact ⟨nol_pr p, nol_pr (p.2, p.1), trivial⟩) k2, f4, more4, _, _, hf4, fun x hx => hs4 x (hsub x hx), hst4, fun _ e => hs4 _ (hd1 (Nat.le_refl 1) e), fun _ e => hh4 e, rfl⟩⟩
          | i + 2, hd, hx => exact nomatch hd
        · rintro σ3 H3 ⟨k1, k2, f3, more3, y5, y6, hf3, hsub, hst, hd1, hd2, rfl⟩
          have hvl2 : vs.length = 2 := hvl
          rw [hvl2] at hd1 hd2
          refine ⟨f3, more3, _, _, _, _, hf3, hst, fun p' hp' o ho => ?_, rfl⟩
          rw [List.take_add_one, hpp] at hp'
          rcases List.mem_append.mp hp' with hp' | hp'
          · exact hsub o (hdn p' hp' o ho)
          · have : p' = p := by simpa using hp'
            subst this
            rcases ho with e | e
            · have e1 : p'.1 = h := congrArg Prod.fst e
              have e2 : p'.2 = o := congrArg Prod.snd e
              rw [← e2]
              exact hd1 (by decide) e1
            · have e1 : p'.1 = o := congrArg Prod.fst e
              have e2 : p'.2 = h := congrArg Prod.snd e
              rw [← e1]
              exact hd2 (by decide) e2
      · rintro σ2 H2 ⟨f2, more, y3, y4, y5, y6, hf2, ⟨g1, g2, g3, g4, g5, g6⟩, hdn, rfl⟩
        rw [List.take_of_length_le (by omega)] at hdn
        refine s_asg (D := { nx := _, rt := _, ct := _, bk := _ }) (v := .int ((at_ + 1 : Nat) : Int)) (ev_op (ev_v rfl) (ev_cn 1) rv_addN) fun H5 e5 => ?_
        refine ⟨n - (at_ + 1), by omega, f2, at_ + 1, _, _, _, _, rfl, by rw [hf2, List.length_append]; omega, ⟨g1.trans e5, e5 _ _ g2, g3, g4, g5, g6⟩, fun i x hi hx o ho => ?_, rfl⟩
        by_cases hia : i = at_
        · subst hia
          rw [hf2, List.getElem?_append_left hlt2, hh] at hx
          cases hx
          rcases (adj_or hn).mp ho with hm | hm
          · exact hdn _ hm o (.inl rfl)
          · exact hdn _ hm o (.inr rfl)
        · rw [hf2, List.getElem?_append_left (by omega)] at hx
          rw [hf2]
          exact List.mem_append_left _ (hcl i x (by omega) hx o ho)
    · have hge := of_decide_eq_false hb
      have E4 := e'.trans e4
      have hjk : JoinOk n ws f := ⟨hnd, hlt, hz, hgr, fun x hx o ho => by
        obtain ⟨i, hi, hie⟩ := List.getElem_of_mem hx
        exact hcl i x (by omega) (by rw [List.getElem?_eq_getElem hi, hie]) o ho⟩
      exact s_ret (ev_is (ev_op (ev_is (ev_len (ev_v rfl) (sq_of (e4 _ _ hF))) (by rw [nats_len])) (ev_ixT (j := 0) (v := .int (n : Int)) (ev_v rfl) (ev_cn 0) (st_of (E4 _ _ hna)) rfl) (rv_eq rfl)) (congrArg V.bl (decide_eq_decide.mpr ⟨fun z => by have := V.int.inj z; omega, fun z => by rw [z]⟩))) fun H5 e5 => q f H5 hjk (E4.trans e5)
end
end K96

set_option Elab.async false
set_option linter.all false
set_option maxRecDepth 100000
set_option maxHeartbeats 4000000
namespace K96
open PySem PySem.Spec PyProof.Rows L2 Evl My
/-! the shortest talks: a search in breadth -/
abbrev Row := List Nat × List Pr
structure Bfs (n : Nat) (ws : List Pr) (rows : List Row) (a : Nat) : Prop where
  nd : (rows.map (·.1)).Nodup
  ok : ∀ (i : Nat) (r : Row), rows[i]? = some r → r.1 = runF (firstF n) r.2 ∧ (∀ p ∈ r.2, p ∈ ws) ∧ r.2.length ≤ i
  srt : rows.Pairwise fun x y => x.2.length ≤ y.2.length
  zero : (firstF n, []) ∈ rows
  done : ∀ (i : Nat) (r : Row), i < a → rows[i]? = some r → r.1 ≠ wholeF n ∧ ∀ p ∈ ws, ∃ q ∈ rows, q.1 = spreadF r.1 p.1 p.2 ∧ q.2.length ≤ r.2.length + 1
def Lev (rows : List Row) (l : Nat) : Prop := ∀ r ∈ rows, r.2.length ≤ l + 1
theorem bfs_start (n : Nat) (ws : List Pr) : Bfs n ws [(firstF n, [])] 0 where
  nd := by simp
  ok := fun i r h => by
    match i, h with
    | 0, h => cases h; exact ⟨rfl, (fun p hp => nomatch hp), Nat.le_refl _⟩
    | i + 1, h => exact nomatch h
  srt := by simp
  zero := by simp
  done := fun i r h => absurd h (Nat.not_lt_zero _)
theorem spread_comm (ms : List Nat) (i j : Nat) : spreadF ms i j = spreadF ms j i := by
  unfold spreadF
  refine List.map_congr_left fun k _ => ?_
  by_cases h : k = i ∨ k = j
  · rw [if_pos h, if_pos h.symm, Nat.or_comm]
  · rw [if_neg h, if_neg fun z => h z.symm]
theorem bfs_add {n : Nat} {ws : List Pr} {rows : List Row} {a : Nat} {s : List Nat} {t : List Pr} {p : Pr} (h : Bfs n ws rows a) (hx : rows[a]? = some (s, t)) (hl : Lev rows t.length) (hp : p ∈ ws) (hnew : spreadF s p.1 p.2 ∉ rows.map (·.1)) :
    Bfs n ws (rows ++ [(spreadF s p.1 p.2, t ++ [p])]) a ∧ (rows ++ [(spreadF s p.1 p.2, t ++ [p])])[a]? = some (s, t) ∧ Lev (rows ++ [(spreadF s p.1 p.2, t ++ [p])]) t.length := by
  obtain ⟨ha, _⟩ := List.getElem?_eq_some_iff.mp hx
  obtain ⟨k1, k2, k3⟩ := h.ok _ _ hx
  simp only at k1 k2 k3
  refine ⟨⟨?_, fun i r hr => ?_, ?_, List.mem_append_left _ h.zero, fun i r hi hr => ?_⟩, by rw [List.getElem?_append_left ha]; exact hx, fun r hr => ?_⟩
  · rw [List.map_append, List.nodup_append]
    refine ⟨h.nd, by simp, fun x hx y hy => ?_⟩
    have hy : y = spreadF s p.1 p.2 := List.mem_singleton.mp hy
    exact fun e => hnew (by rw [← hy, ← e]; exact hx)
  · by_cases hi : i < rows.length
    · rw [List.getElem?_append_left hi] at hr
      exact h.ok i r hr
    · rw [List.getElem?_append_right (by omega)] at hr
      have hi0 : i - rows.length = 0 := by
        rcases Nat.eq_zero_or_pos (i - rows.length) with z | z
        · exact z
        · rw [List.getElem?_eq_none (by show 1 ≤ _; omega)] at hr
          exact nomatch hr
      rw [hi0] at hr
      cases hr
      refine ⟨by show spreadF s p.1 p.2 = runF _ (t ++ [p]); rw [run_app, ← k1]; rfl, fun q hq => ?_, by show (t ++ [p]).length ≤ i; rw [List.length_append]; show t.length + 1 ≤ i; omega⟩
      rcases List.mem_append.mp hq with hq | hq
      · exact k2 q hq
      · rw [List.mem_singleton.mp hq]; exact hp
  · rw [List.pairwise_append]
    refine ⟨h.srt, by simp, fun x hx y hy => ?_⟩
    rw [List.mem_singleton.mp hy]
    show x.2.length ≤ (t ++ [p]).length
    rw [List.length_append]
    exact hl x hx
  · by_cases hi2 : i < rows.length
    · rw [List.getElem?_append_left hi2] at hr
      obtain ⟨e1, e2⟩ := h.done i r hi hr
      exact ⟨e1, fun q hq => let ⟨z, hz, e⟩ := e2 q hq; ⟨z, List.mem_append_left _ hz, e⟩⟩
    · omega
  · rcases List.mem_append.mp hr with hr | hr
    · exact hl r hr
    · rw [List.mem_singleton.mp hr]
      show (t ++ [p]).length ≤ _
      rw [List.length_append]
      exact Nat.le_refl _
theorem srt_get {rows : List Row} (h : rows.Pairwise fun x y => x.2.length ≤ y.2.length) {i j : Nat} {x y : Row} (hij : i < j) (hx : rows[i]? = some x) (hy : rows[j]? = some y) : x.2.length ≤ y.2.length := by
  obtain ⟨hi, hx⟩ := List.getElem?_eq_some_iff.mp hx
  obtain ⟨hj, hy⟩ := List.getElem?_eq_some_iff.mp hy
  have := List.pairwise_iff_getElem.mp h i j hi hj hij
  rw [hx, hy] at this
  exact this
theorem bfs_step {n : Nat} {ws : List Pr} {rows : List Row} {a : Nat} {s : List Nat} {t : List Pr} (h : Bfs n ws rows a) (hx : rows[a]? = some (s, t)) (hl : Lev rows t.length) (hw : s ≠ wholeF n) (hd : ∀ p ∈ ws, ∃ q ∈ rows, q.1 = spreadF s p.1 p.2 ∧ q.2.length ≤ t.length + 1) :
    Bfs n ws rows (a + 1) ∧ ∀ x, rows[a + 1]? = some x → Lev rows x.2.length := by
  refine ⟨⟨h.nd, h.ok, h.srt, h.zero, fun i r hi hr => ?_⟩, fun x hx2 r hr => ?_⟩
  · by_cases e : i = a
    · subst e
      rw [hx] at hr
      cases hr
      exact ⟨hw, hd⟩
    · exact h.done i r (by omega) hr
  · have : t.length ≤ x.2.length := srt_get h.srt (Nat.lt_succ_self a) hx hx2
    have := hl r hr
    omega
theorem bfs_least {n : Nat} {ws : List Pr} (hn : NetOk n ws) {rows : List Row} {a : Nat} {t : List Pr} (h : Bfs n ws rows a) (hx : rows[a]? = some (wholeF n, t)) {ts : List Pr} (ht : ∀ p ∈ ts, adj ws p.1 p.2 = true) (hw : runF (firstF n) ts = wholeF n) : t.length ≤ ts.length := by
  have key : ∀ (m : Nat) (ts : List Pr), ts.length = m → (∀ p ∈ ts, adj ws p.1 p.2 = true) → (∃ r ∈ rows, r.1 = runF (firstF n) ts ∧ r.2.length ≤ ts.length) ∨ t.length ≤ ts.length := by
    intro m
    induction m with
    | zero =>
      intro ts hl _
      rw [List.length_eq_zero_iff.mp hl]
      exact .inl ⟨_, h.zero, rfl, Nat.le_refl _⟩
    | succ m ih =>
      intro ts hl ht
      obtain ⟨ts, p, rfl⟩ := snoc (l := ts) (fun e => by rw [e] at hl; exact nomatch hl)
      rw [List.length_append] at hl ⊢
      have hl : ts.length + 1 = m + 1 := hl
      show _ ∨ t.length ≤ ts.length + 1
      rcases ih ts (by omega) (fun q hq => ht q (List.mem_append_left _ hq)) with ⟨r, hr, e1, e2⟩ | hle
      · by_cases hlt : t.length ≤ ts.length + 1
        · exact .inr hlt
        · left
          obtain ⟨i, hi, hie⟩ := List.getElem_of_mem hr
          have hri : rows[i]? = some r := by rw [List.getElem?_eq_getElem hi, hie]
          have hia : i < a := by
            refine Classical.byContradiction fun hno => ?_
            by_cases e : i = a
            · subst e
              rw [hx] at hri
              cases hri
              simp only at e2
              omega
            · have := srt_get h.srt (show a < i by omega) hx hri
              simp only at this
              omega
          obtain ⟨_, hd⟩ := h.done i r hia hri
          have hadj := (adj_or hn).mp (ht p (List.mem_append_right _ (by simp)))
          rw [run_app]
          show ∃ r ∈ rows, r.1 = spreadF (runF (firstF n) ts) p.1 p.2 ∧ r.2.length ≤ ts.length + 1
          rcases hadj with hm | hm
          · obtain ⟨q, hq, e3, e4⟩ := hd _ hm
            exact ⟨q, hq, by rw [e3, e1], by omega⟩
          · obtain ⟨q, hq, e3, e4⟩ := hd _ hm
            exact ⟨q, hq, by rw [e3, e1, spread_comm], by omega⟩
      · exact .inr (by omega)
  rcases key _ ts rfl ht with ⟨r, hr, e1, e2⟩ | hle
  · obtain ⟨i, hi, hie⟩ := List.getElem_of_mem hr
    have hri : rows[i]? = some r := by rw [List.getElem?_eq_getElem hi, hie]
    have hia : i = a := by
      obtain ⟨ha, hae⟩ := List.getElem?_eq_some_iff.mp hx
      refine Classical.byContradiction fun hne => ?_
      have hp := List.pairwise_iff_getElem.mp h.nd
      have heq : rows[i].1 = rows[a].1 := by rw [hie, hae, e1, hw]
      rcases Nat.lt_or_gt_of_ne hne with hl | hl
      · exact hp i a (by rw [List.length_map]; exact hi) (by rw [List.length_map]; exact ha) hl (by rw [List.getElem_map, List.getElem_map]; exact heq)
      · exact hp a i (by rw [List.length_map]; exact ha) (by rw [List.length_map]; exact hi) hl (by rw [List.getElem_map, List.getElem_map]; exact heq.symm)
    subst hia
    rw [hx] at hri
    cases hri
    exact e2
  · exact hle
theorem bfs_end {n : Nat} {ws : List Pr} (hn : NetOk n ws) {rows : List Row} (h : Bfs n ws rows rows.length) {ts : List Pr} (ht : ∀ p ∈ ts, adj ws p.1 p.2 = true) : runF (firstF n) ts ≠ wholeF n := by
  have key : ∀ (m : Nat) (ts : List Pr), ts.length = m → (∀ p ∈ ts, adj ws p.1 p.2 = true) → ∃ r ∈ rows, r.1 = runF (firstF n) ts := by
    intro m
    induction m with
    | zero =>
      intro ts hl _
      rw [List.length_eq_zero_iff.mp hl]
      exact ⟨_, h.zero, rfl⟩
    | succ m ih =>
      intro ts hl ht
      obtain ⟨ts, p, rfl⟩ := snoc (l := ts) (fun e => by rw [e] at hl; exact nomatch hl)
      rw [List.length_append] at hl
      have hl : ts.length + 1 = m + 1 := hl
      obtain ⟨r, hr, e1⟩ := ih ts (by omega) (fun q hq => ht q (List.mem_append_left _ hq))
      obtain ⟨i, hi, hie⟩ := List.getElem_of_mem hr
      obtain ⟨_, hd⟩ := h.done i r hi (by rw [List.getElem?_eq_getElem hi, hie])
      have hadj := (adj_or hn).mp (ht p (List.mem_append_right _ (by simp)))
      rw [run_app]
      show ∃ r ∈ rows, r.1 = spreadF (runF (firstF n) ts) p.1 p.2
      rcases hadj with hm | hm
      · obtain ⟨q, hq, e3, e4⟩ := hd _ hm
        exact ⟨q, hq, by rw [e3, e1]⟩
      · obtain ⟨q, hq, e3, e4⟩ := hd _ hm
        exact ⟨q, hq, by rw [e3, e1, spread_comm]⟩
  obtain ⟨r, hr, e1⟩ := key _ ts rfl ht
  obtain ⟨i, hi, hie⟩ := List.getElem_of_mem hr
  obtain ⟨hd, _⟩ := h.done i r hi (by rw [List.getElem?_eq_getElem hi, hie])
  rw [← e1]
  exact hd
/-! how many states there are -/
def cod : List Nat → Nat
  | [] => 0
  | m :: r => m + 32 * cod r
theorem cod_lt : ∀ s : List Nat, (∀ x ∈ s, x < 32) → cod s < 32 ^ s.length
  | [], _ => by show 0 < 1; decide
  | m :: r, h => by
    have h1 := h m (by simp)
    have h2 := cod_lt r fun x hx => h x (by simp [hx])
    show m + 32 * cod r < 32 ^ (r.length + 1)
    rw [Nat.pow_succ]
    omega
theorem cod_inj : ∀ s t : List Nat, s.length = t.length → (∀ x ∈ s, x < 32) → (∀ x ∈ t, x < 32) → cod s = cod t → s = t
  | [], [], _, _, _, _ => rfl
  | [], _ :: _, h, _, _, _ => nomatch h
  | _ :: _, [], h, _, _, _ => nomatch h
  | a :: s, b :: t, h, h1, h2, e => by
    have e : a + 32 * cod s = b + 32 * cod t := e
    have k1 := h1 a (by simp)
    have k2 := h2 b (by simp)
    have e1 : a = b := by omega
    have e2 : cod s = cod t := by omega
    rw [e1, cod_inj s t (Nat.succ.inj h) (fun x hx => h1 x (by simp [hx])) (fun x hx => h2 x (by simp [hx])) e2]
def cod0 : List Nat → Nat
  | [] => 0
  | m :: r => m / 2 + 16 * cod r
theorem bfs_len {n : Nat} {ws : List Pr} (hn : NetOk n ws) (h5 : n ≤ 5) {rows : List Row} {a : Nat} (h : Bfs n ws rows a) : rows.length ≤ sizeLine := by
  have h1 := hn.n1
  have fact : ∀ r ∈ rows, r.1.length = n ∧ (∀ x ∈ r.1, x < 32) ∧ ∃ m l, r.1 = m :: l ∧ m % 2 = 1 := fun r hr => by
    obtain ⟨i, hi, hie⟩ := List.getElem_of_mem hr
    obtain ⟨e, _, _⟩ := h.ok i r (by rw [List.getElem?_eq_getElem hi, hie])
    have hl : r.1.length = n := by rw [e, run_len, first_len]
    have hb : Blw n r.1 := by rw [e]; exact blw_run _ _ (blw_first n)
    refine ⟨hl, fun x hx => ?_, ?_⟩
    · obtain ⟨j, hj, rfl⟩ := List.getElem_of_mem hx
      have := hb j
      rw [List.getD_eq_getElem?_getD, List.getElem?_eq_getElem hj] at this
      exact Nat.lt_of_lt_of_le this (Nat.pow_le_pow_right (by decide) h5)
    · have h0 : Has r.1 0 0 := by rw [e]; exact has_run_mono _ _ (by rw [first_len]; omega) (has_first (by omega))
      cases hc : r.1 with
      | nil => rw [hc] at hl; rw [← hl] at h1; exact absurd h1 (by decide)
      | cons m l =>
        refine ⟨m, l, rfl, ?_⟩
        rw [hc] at h0
        have h0 : m.testBit 0 = true := h0
        rw [Nat.testBit_zero] at h0
        exact of_decide_eq_true h0
  have := nodup_lt (l := rows.map fun r => cod0 r.1) (n := 16777216) ?_ ?_
  · rw [List.length_map] at this
    exact this
  · unfold List.Nodup
    rw [List.pairwise_map]
    have hp := h.nd
    unfold List.Nodup at hp
    rw [List.pairwise_map] at hp
    refine List.Pairwise.imp_of_mem (fun {x y} hx hy hxy => ?_) hp
    obtain ⟨x1, x2, m, l, xe, x3⟩ := fact x hx
    obtain ⟨y1, y2, m', l', ye, y3⟩ := fact y hy
    intro e
    refine hxy ?_
    rw [xe] at x1 x2 e ⊢
    rw [ye] at y1 y2 e ⊢
    have e : m / 2 + 16 * cod l = m' / 2 + 16 * cod l' := e
    have k1 := x2 m (by simp)
    have k2 := y2 m' (by simp)
    have e1 : m = m' := by omega
    have e2 : cod l = cod l' := by omega
    have l1 : l.length + 1 = n := x1
    have l2 : l'.length + 1 = n := y1
    rw [e1, cod_inj l l' (by omega) (fun z hz => x2 z (by simp [hz])) (fun z hz => y2 z (by simp [hz])) e2]
  · intro c hc
    obtain ⟨r, hr, rfl⟩ := List.mem_map.mp hc
    obtain ⟨x1, x2, m, l, xe, x3⟩ := fact r hr
    rw [xe] at x1 x2 ⊢
    have l1 : l.length + 1 = n := x1
    have := cod_lt l fun z hz => x2 z (by simp [hz])
    have h3 : 32 ^ l.length ≤ 32 ^ 4 := Nat.pow_le_pow_right (by decide) (by omega)
    have h4 : (32 : Nat) ^ 4 = 1048576 := by decide
    have k1 := x2 m (by simp)
    show m / 2 + 16 * cod l < 16777216
    omega
/-! the walk -/
theorem shp_ints : ∀ xs : List Nat, PyData.canLayAll0 (pyDL (xs.map fun (x : Nat) => D.int (x : Int))) = true ∧ PyData.depthAll (pyDL (xs.map fun (x : Nat) => D.int (x : Int))) ≤ 0
  | [] => ⟨by rw [List.map_nil, pyDL, PyData.canLayAll0], by rw [List.map_nil, pyDL, PyData.depthAll]; exact Nat.zero_le _⟩
  | x :: xs => by
    obtain ⟨h1, h2⟩ := shp_ints xs
    rw [List.map_cons, pyDL, PyData.canLayAll0, PyData.depthAll, h1]
    simp only [pyD, PyData.canLay0, PyData.depth, Bool.and_self, true_and]
    omega
theorem shp_rnd (xs : List Nat) : SeqAt.shaped (pyD (rndD xs)) = true := by
  obtain ⟨h1, h2⟩ := shp_ints xs
  unfold SeqAt.shaped rndD
  rw [pyD, PyData.canLay0, PyData.depth, h1, Bool.true_and]
  exact decide_eq_true (by omega)
theorem eqv_ints : ∀ xs ys : List Nat, PyData.eqvAll (pyDL (xs.map fun (x : Nat) => D.int (x : Int))) (pyDL (ys.map fun (x : Nat) => D.int (x : Int))) = decide (xs = ys)
  | [], [] => by simp [pyDL, PyData.eqvAll]
  | [], y :: ys => by simp [pyDL, PyData.eqvAll]
  | x :: xs, [] => by simp [pyDL, PyData.eqvAll]
  | x :: xs, y :: ys => by
    rw [List.map_cons, List.map_cons, pyDL, pyDL, PyData.eqvAll, eqv_ints xs ys]
    have : PyData.eqv (pyD (D.int (x : Int))) (pyD (D.int (y : Int))) = decide (x = y) := by
      by_cases e : x = y
      · subst e
        rw [decide_eq_true rfl]
        simp [pyD, PyData.eqv]
      · have : ¬ (x : Int) = (y : Int) := by omega
        rw [decide_eq_false e]
        simp [pyD, PyData.eqv, this]
    rw [this, ← Bool.decide_and]
    refine decide_eq_decide.mpr ?_
    rw [List.cons.injEq]
theorem eqv_rnd (xs ys : List Nat) : PyData.eqv (pyD (rndD xs)) (pyD (rndD ys)) = decide (xs = ys) := by
  unfold rndD
  rw [pyD, pyD, PyData.eqv, eqv_ints]
def rowD (r : Row) : D := .tup [rndD r.1, .tup (r.2.map prD)]
theorem nol_row (r : Row) : NoL (rowD r) := by
  unfold rowD
  rw [NoL, NoLL, NoLL, NoLL, NoL]
  exact ⟨nol_rnd _, nol_prs _, trivial⟩
def kN (s : List Nat) : List Key := s.map fun (x : Nat) => (Sum.inl (x : Int) : Key)
theorem kN_inj : ∀ {s t : List Nat}, kN s = kN t → s = t
  | [], [], _ => rfl
  | [], _ :: _, h => nomatch h
  | _ :: _, [], h => nomatch h
  | a :: s, b :: t, h => by
    have h : (Sum.inl (a : Int) : Key) :: kN s = Sum.inl (b : Int) :: kN t := h
    injection h with h1 h2
    rw [inl_int.mp h1, kN_inj h2]
theorem kN_kV (s : List Nat) : (kN s).map kV = nats s := by
  unfold kN nats
  rw [List.map_map]
  rfl
def dTs (rows : List Row) : List (List Key × V) := rows.map fun r => (kN r.1, V.bl true)
theorem dTs_is (s : List Nat) : ∀ rows : List Row, (valV (dTs rows) (kN s)).isSome = decide (s ∈ rows.map (·.1))
  | [] => rfl
  | r :: rows => by
    show (valV ((kN r.1, V.bl true) :: dTs rows) (kN s)).isSome = _
    by_cases e : r.1 = s
    · rw [valV_pos (p := (kN r.1, V.bl true)) (by rw [e]), decide_eq_true (by rw [List.map_cons]; exact List.mem_cons.mpr (.inl e.symm))]
      rfl
    · rw [valV_neg (p := (kN r.1, V.bl true)) (fun z => e (kN_inj z)), dTs_is s rows]
      refine decide_eq_decide.mpr ?_
      rw [List.map_cons, List.mem_cons]
      exact ⟨.inr, fun z => z.resolve_left fun z => e z.symm⟩
theorem dTs_put {rows : List Row} {r : Row} (hn : r.1 ∉ rows.map (·.1)) : putK (dTs rows) (kN r.1) (.bl true) = dTs (rows ++ [r]) := by
  unfold putK
  rw [valV_any, dTs_is, decide_eq_false hn, if_neg (by decide)]
  unfold dTs
  rw [List.map_append]
  rfl
theorem dTs_len (rows : List Row) : (dTs rows).length = rows.length := List.length_map _
section
variable {K : PySem.W.Frag} {σ : L2.St} {H : Hp} {td ty te tb : TE} {ta : TA} {kvs : List (List Key × V)} {d b : Addr} {k : List Key} {v : V} {D0 : Ends} {tz : TS}
theorem ev_dniT (h : Ev td σ H (.ref d)) (hd : H d = some (.dT kvs)) (hk : Ev ty σ H (.ref b)) (hb : H b = some (.tup (k.map kV))) : Ev (tDNotIn ty td) σ H (.bl (!(valV kvs k).isSome)) := fun H1 e Q q =>
  hk H1 e _ fun H2 e2 => h H2 (e.trans e2) _ fun H3 e3 => ⟨d, _, rfl, DGet.t (((e.trans e2).trans e3) d _ hd) (((e.trans e2).trans e3) b _ hb), q H3 (e2.trans e3)⟩
theorem q_dputT (hd : H d = some (.dT kvs)) (hv : Ev te σ H v) (h : Ev td σ H (.ref d)) (hk : Ev ty σ H (.ref b)) (hb : H b = some (.tup (k.map kV))) (hn : kvs.length < sizeLine) (q : ∀ H1, Ex H H1 → tz D0 σ (upd H1 d (.dT (putK kvs k v)))) : tSeq (sDPut td ty te) tz D0 σ H :=
  hv H (Ex.refl H) _ fun H1 e1 => h H1 e1 _ fun H2 e2 => hk H2 (e1.trans e2) _ fun H3 e3 => ⟨d, _, rfl, DPut.t (((e1.trans e2).trans e3) d _ hd) (((e1.trans e2).trans e3) b _ hb) hn, q H3 ((e1.trans e2).trans e3)⟩
theorem q_asgLst {ds : List D} {i : Nat} (h : EvAR ta σ H ds) (hn : ds.length ≤ 100000) (k : ∀ a vs H1, H a = none → Ex H H1 → H1 a = some (.lst vs) → Reps H1 vs ds → tz D0 (σ.set i (some (.ref a))) H1) : tSeq (tAsg (tLst ta) (gName i)) tz D0 σ H :=
  h H (Ex.refl H) _ fun vs H1 e rs => ⟨sz_of (by rw [rs.len]; exact hn), fun p hp => k p vs _ (fresh_back e hp) (e.trans (Ex.new hp)) upd_same (rs.mono (Ex.new hp))⟩
theorem q_dispT1 {i : Nat} {c : V} (hx : Ev ty σ H (.ref b)) (hb : H b = some (.tup (k.map kV))) (q : ∀ p H1, H p = none → Ex H H1 → H1 p = some (.dT [(k, c)]) → tz D0 (σ.set i (some (.ref p))) H1) : tSeq (tAsg (tDispT1 ty (tC c)) (gName i)) tz D0 σ H := by
  intro p hp
  refine hx _ (Ex.new hp) _ fun H1 e1 => ?_
  refine ⟨b, k, rfl, e1 _ _ (Ex.new hp _ _ hb), e1 _ _ upd_same, ?_⟩
  exact q p _ hp (((Ex.new hp).trans e1).mut hp) upd_same
theorem ed_catS {ds es : List D} (ha : EvD te σ H (.tup ds)) (hb : EvD tb σ H (.tup es)) (hz : ds.length + es.length ≤ sizeLine) : EvD (tOp (rCatA K) te tb) σ H (.tup (ds ++ es)) := fun H1 e Q q =>
  ha H1 e _ fun v H2 e2 r2 => hb H2 (e.trans e2) _ fun u H3 e3 r3 => by
    cases r2 with
    | @tup a xs _ h2 s2 =>
      cases r3 with
      | @tup b ys _ h3 s3 =>
        have s2 := s2.mono e3
        refine ⟨a, b, xs, ys, rfl, rfl, st_of (e3 _ _ h2), st_of h3, (by rw [s2.len, s3.len]; exact hz), fun hx => ?_, fun _ hy => ?_, fun _ _ p hp => ?_⟩
        · subst hx
          cases s2
          exact q _ H3 (e2.trans e3) (.tup h3 s3)
        · subst hy
          cases s3
          rw [List.append_nil] at q
          exact q _ H3 (e2.trans e3) (.tup (e3 _ _ h2) s2)
        · exact q _ _ ((e2.trans e3).trans (Ex.new hp)) (.tup upd_same ((s2.mono (Ex.new hp)).append (s3.mono (Ex.new hp))))
end
section
variable {P : Program} {w : World} {K : PySem.W.Frag} {mg : Str → Option Value} {base : Heap}
abbrev s_law_shortest : Stmt := topS 19
theorem sc_law_shortest : FnScope ["net", "first", "whole", "rows", "seen", "at", "here", "told", "i", "j", "there"] ["net", "first", "whole"] (defScope s_law_shortest) := ⟨rfl, rfl, rfl, by decide +kernel, rfl, by decide +kernel, by decide +kernel⟩
/- 0 net, 1 first, 2 whole, 3 rows, 4 seen, 5 at, 6 here, 7 told, 8 i, 9 j, 10 there -/
def Inf (n : Nat) (ws ts : List Pr) : Prop := (∀ p ∈ ts, adj ws p.1 p.2 = true) ∧ runF (firstF n) ts = wholeF n
def sp_short (K : PySem.W.Frag) : Sp := fun vs H Q _ => ∃ (v f u : V) (n : Nat) (ws : List Pr), vs = [v, f, u] ∧ Rep H v (netD n ws) ∧ NetOk n ws ∧ n ≤ 5 ∧ Rep H f (rndD (firstF n)) ∧ Rep H u (rndD (wholeF n)) ∧ (∃ ts, Inf n ws ts) ∧
  ∀ (t : List Pr) z H', Inf n ws t → (∀ ts, Inf n ws ts → t.length ≤ ts.length) → Ex H H' → Rep H' z (.tup (t.map prD)) → Q z H'
theorem fn_short {f : Addr} {fd : FuncData} {k : Nat} (F : Fun K "_law_shortest" "_law_shortest" s_law_shortest f fd) (N : Nb mg) (C_law_spread : Cal P w K mg base k "_law_spread" ["known", "i", "j"] (spD ok_spread)) : FnOk P w K mg base CX0 (k + 1) f fd ["net", "first", "whole"] (sp_short K) := by
  refine F.ok sc_law_shortest (fun vs H Q E h => ?_) (fun cdv A outer s H vs Q E hr h => ?_)
  · obtain ⟨_, _, _, _, _, rfl, _⟩ := h
    rfl
  · obtain ⟨v, fv, wv, n, ws, rfl, hR, hn, h5, hF, hW, hinf, q⟩ := h
    refine ⟨_, (pss_cons (ps_set (i := 3) sc_law_shortest.nd rfl (Or.inl rfl) (pe_lst (pa_cons (pe_tup (pa_cons (pv 1) (pa_cons (pe_tup pa_nil) pa_nil))) pa_nil)))
      (pss_cons (ps_set (i := 4) sc_law_shortest.nd rfl (Or.inl rfl) (pe_dispT1 (hu_of hr) (pv 1) pe_bl))
      (pss_cons (ps_set (i := 5) sc_law_shortest.nd rfl (Or.inl rfl) pe_int)
      (pss_cons (ps_while PassesOwn.never (pt_cmpR op_lt (pv 5) (pe_callB call_len_seq (by rfl) N.len PySem.boot_len (pa_cons (pv 3) pa_nil)) (nomark _)) (pss_cons (ps_asg (pe_ix ix_list (pv 3) (pv 5) (fun _ _ => rfl)) (pg_tup rfl (pgs_cons (pg_name (i := 6) sc_law_shortest.nd rfl (Or.inl rfl)) (pgs_cons (pg_name (i := 7) sc_law_shortest.nd rfl (Or.inl rfl)) pgs_nil))))
      (pss_cons (ps_set (i := 5) sc_law_shortest.nd rfl (Or.inl rfl) (pe_op op_add (pv 5) pe_int))
      (pss_cons (ps_if (pt_cmpR (op_eqD hr.units) (pv 6) (pv 2) (nomark _)) (pss_one (ps_ret (pv 7))) pss_nil)
      (pss_one (ps_for PassesOwn.never rfl (pi_tup (pe_ix ix_tup (pv 0) pe_int (fun _ _ => rfl))) (pg_tup rfl (pgs_cons (pg_name (i := 8) sc_law_shortest.nd rfl (Or.inl rfl)) (pgs_cons (pg_name (i := 9) sc_law_shortest.nd rfl (Or.inl rfl)) pgs_nil))) (pss_cons (ps_set (i := 10) sc_law_shortest.nd rfl (Or.inl rfl) (pe_cal C_law_spread hr (pa_cons (pv 6) (pa_cons (pv 8) (pa_cons (pv 9) pa_nil)))))
      (pss_one (ps_if (pt_cmp (pc_dnotin (hu_of hr) (pv 10) (pv 4))) (pss_cons (ps_dput (hu_of hr) (pv 4) (pv 10) pe_bl rfl)
      (pss_one (ps_expr (pe_bm PySem.F.plainAttrs_list PySem.F.slot_list_append PySem.F.type_list_append mt_append (pv 3) (pa_cons (pe_tup (pa_cons (pv 10) (pa_cons (pe_op op_catA (pv 7) (pe_tup (pa_cons (pe_tup (pa_cons (pv 8) (pa_cons (pv 9) pa_nil))) pa_nil))) pa_nil))) pa_nil))))) pss_nil)))))))))
      (pss_one (ps_ret pe_non)))))), ?_⟩
    have hn1 := hn.n1
    obtain ⟨na, nb, wus, rfl, hna, hnb, hwus⟩ := net_at hR
    have hwul := hwus.len
    rw [List.length_map] at hwul
    obtain ⟨fa, rfl, hfa⟩ := rnd_at hF
    refine q_asgLst (ds := [rowD (firstF n, [])]) (er_cons (ed_tup (er_cons (evd_v (ev_v rfl) hF) (er_cons (ed_tup er_nil (by show 0 ≤ 100000; decide)) er_nil)) (by show 2 ≤ 100000; decide)) er_nil) (by show 1 ≤ 100000; decide) fun la us1 H1 hla0 e1 hl1 hu1 => ?_
    refine q_dispT1 (k := kN (firstF n)) (ev_v rfl) (by rw [kN_kV]; exact e1 _ _ hfa) fun da H2 hda1 e2 hd2 => ?_
    refine q_asg (v := .int ((0 : Nat) : Int)) (ev_cn 0) fun H3 e3 => ?_
    have hda0 : H da = none := by
      cases hc : H da with
      | none => rfl
      | some o => rw [e1 _ _ hc] at hda1; exact nomatch hda1
    let St : List Row → List V → Hp → Prop := fun rows us H' => Ex H H' ∧ H' la = some (.lst us) ∧ Reps H' us (rows.map rowD) ∧ H' da = some (.dT (dTs rows))
    let W : Nat → L2.St → Hp → Prop := fun m σ' H' => ∃ (rows : List Row) (a : Nat) (us : List V) (y6 y7 y8 y9 y10 : Option V), m = sizeLine - a ∧ a ≤ rows.length ∧ Bfs n ws rows a ∧ (∀ x, rows[a]? = some x → Lev rows x.2.length) ∧ St rows us H' ∧ σ' = [some (.ref na), some (.ref fa), some wv, some (.ref la), some (.ref da), some (.int (a : Int)), y6, y7, y8, y9, y10]
    refine q_while W sizeLine ⟨[(firstF n, [])], 0, us1, none, none, none, none, none, rfl, Nat.zero_le _, bfs_start n ws, (fun x hx r hr => by rw [List.mem_singleton.mp hr]; exact Nat.zero_le _), ⟨(e1.trans e2).trans e3, (e2.trans e3) _ _ hl1, hu1.mono (e2.trans e3), e3 _ _ hd2⟩, rfl⟩ ?_
    rintro m σ' H' ⟨rows, a, us, y6, y7, y8, y9, y10, hm, hat, hB, hLv, ⟨g1, g2, g3, g4⟩, rfl⟩
    have hul : us.length = rows.length := by rw [g3.len, List.length_map]
    have hsz := bfs_len hn h5 hB
    refine ⟨decide (a < rows.length), et_is (et_test (ev_op (ev_v rfl) (ev_is (ev_len (ev_v rfl) (sq_of g2)) (by rw [hul])) rv_I0)) (decide_eq_decide.mpr (by omega)), fun hb H4 e4 => ⟨fun σ2 H2 => ∃ m', m' < m ∧ W m' σ2 H2, fun _ _ h => h, ?_⟩, fun hb H4 e4 => ?_⟩
    · have hlt := of_decide_eq_true hb
      obtain ⟨⟨s, t⟩, hx⟩ : ∃ x, rows[a]? = some x := ⟨_, List.getElem?_eq_getElem hlt⟩
      have hxs : us[a]? = some (us[a]'(by omega)) := List.getElem?_eq_getElem (by omega)
      obtain ⟨dx, hdx, hrx⟩ := g3.get' hxs
      rw [List.getElem?_map, hx] at hdx
      cases hdx
      have hrx : Rep H' (us[a]'(by omega)) (.tup [rndD s, .tup (t.map prD)]) := hrx
      generalize us[a]'(by omega) = xv at hxs hrx
      cases hrx with
      | @tup xa xvs _ hxa hxr => cases hxr with
        | @cons vs _ _ _ r0 hxr => cases hxr with
          | @cons vt _ _ _ r1 hxr =>
            cases hxr
            have E4 := g1.trans e4
            refine s_unt (D := { nx := _, rt := _, ct := _, bk := _ }) (vs := [vs, vt]) [6, 7] (ev_ixL (j := a) (ev_v rfl) (ev_v rfl) (sq_of (e4 _ _ g2)) hxs) (st_of (e4 _ _ hxa)) rfl rfl fun H5 e5 => ?_
            refine q_asg (v := .int ((a + 1 : Nat) : Int)) (ev_op (ev_v rfl) (ev_cn 1) rv_addN) fun H6 e6 => ?_
            have e46 := (e4.trans e5).trans e6
            have E6 := g1.trans e46
            refine q_when (b := decide (s = wholeF n)) (et_is (et_test (ev_eqDD (evd_v (ev_v rfl) (r0.mono e46)) (evd_v (ev_v rfl) (hW.mono E6)) (shp_rnd _) (shp_rnd _))) (eqv_rnd _ _)) (fun hb2 H7 e7 => ?_) fun hb2 H7 e7 => ?_
            · have hsw := of_decide_eq_true hb2
              subst hsw
              obtain ⟨k1, k2, _⟩ := hB.ok _ _ hx
              exact s_ret (ev_v rfl) fun H8 e8 => q t _ H8 ⟨fun p hp => (adj_or hn).mpr (.inl (k2 p hp)), k1.symm⟩ (fun ts hts => bfs_least hn hB hx hts.1 hts.2) ((E6.trans e7).trans e8) (r1.mono (((e46).trans e7).trans e8))
            · have hsw := of_decide_eq_false hb2
              have e47 := e46.trans e7
              have E7 := g1.trans e47
              have hsl : s.length = n := by rw [show s = runF (firstF n) t from (hB.ok _ _ hx).1, run_len, first_len]
              refine s_forT (xs := wus) (ev_ixT (j := 1) (v := .ref nb) (ev_v rfl) (ev_cn 1) (st_of (E7 _ _ hna)) rfl) (st_of (E7 _ _ hnb)) (fun j σ2 H2 => ∃ (rows2 : List Row) (us2 : List V) (y8 y9 y10 : Option V), Bfs n ws rows2 a ∧ rows2[a]? = some (s, t) ∧ Lev rows2 t.length ∧ (∀ p ∈ ws.take j, ∃ q ∈ rows2, q.1 = spreadF s p.1 p.2 ∧ q.2.length ≤ t.length + 1) ∧ St rows2 us2 H2 ∧ Rep H2 vs (rndD s) ∧ Rep H2 vt (.tup (t.map prD)) ∧ σ2 = [some (.ref na), some (.ref fa), some wv, some (.ref la), some (.ref da), some (.int ((a + 1 : Nat) : Int)), some vs, some vt, y8, y9, y10]) (fun H8 e8 => ⟨rows, us, _, _, _, hB, hx, hLv _ hx, (fun p hp => by rw [List.take_zero] at hp; exact (nomatch hp)), ⟨E7.trans e8, (e47.trans e8) _ _ g2, g3.mono (e47.trans e8), (e47.trans e8) _ _ g4⟩, r0.mono (e47.trans e8), r1.mono (e47.trans e8), rfl⟩) (fun j σ2 H2 _ hh => by
                obtain ⟨_, _, _, _, _, _, _, _, _, hh, _⟩ := hh
                exact st_of (hh.1 _ _ hnb)) ?_ ?_
              · rintro j x σ2 H2 hxj ⟨rows2, us2, y8, y9, y10, hB2, hx2, hLv2, hdn, ⟨g1, g2, g3, g4⟩, r0, r1, rfl⟩
                obtain ⟨dp, hdp, hrp⟩ := hwus.get' hxj
                rw [List.getElem?_map] at hdp
                obtain ⟨p, hpp, rfl⟩ := Option.map_eq_some_iff.mp hdp
                obtain ⟨pa, rfl, hpa⟩ := prd_at hrp
                have hpm := List.mem_of_getElem? hpp
                have hpl := hn.lt p hpm
                refine ⟨_, _, rfl, st_of (g1 _ _ hpa), rfl, _, _, rfl, _, _, rfl, rfl, ?_⟩
                refine q_asgD (d := rndD (spreadF s p.1 p.2)) (ed_cal (ea_cons (ev_v rfl) (ea_cons (ev_v rfl) (ea_cons (ev_v rfl) ea_nil))) fun H8 e8 => ⟨vs, s, p.1, p.2, rfl, r0.mono e8, by omega, by omega, by omega, rfl⟩) fun tv H8 e8 rT => ?_
                obtain ⟨ta, rfl, hta⟩ := rnd_at rT
                have htk : ws.take (j + 1) = ws.take j ++ [p] := by
                  rw [List.take_add_one, hpp]
                  rfl
                refine s_when (b := !decide (spreadF s p.1 p.2 ∈ rows2.map (·.1))) (et_B (ev_is (ev_dniT (k := kN (spreadF s p.1 p.2)) (ev_v rfl) (e8 _ _ g4) (ev_v rfl) (by rw [kN_kV]; exact hta)) (by rw [dTs_is]))) (fun hb3 H9 e9 => ?_) fun hb3 H9 e9 => ?_
                · rw [Bool.not_eq_true'] at hb3
                  have hno := of_decide_eq_false hb3
                  obtain ⟨b1, b2, b3⟩ := bfs_add hB2 hx2 hLv2 hpm hno
                  have hsz2 := bfs_len hn h5 b1
                  rw [List.length_append] at hsz2
                  have hsz2 : rows2.length + 1 ≤ sizeLine := hsz2
                  have hul2 : us2.length = rows2.length := by rw [g3.len, List.length_map]
                  have e89 := e8.trans e9
                  refine q_dputT (kvs := dTs rows2) (k := kN (spreadF s p.1 p.2)) (v := .bl true) (e89 _ _ g4) ev_c (ev_v rfl) (ev_v rfl) (by rw [kN_kV]; exact e9 _ _ hta) (by rw [dTs_len]; omega) fun H10 e10 => ?_
                  rw [dTs_put (r := (spreadF s p.1 p.2, t ++ [p])) hno]
                  have e810 := e89.trans e10
                  have nld : la ≠ da := ne_kind g2 g4 (fun z => nomatch z)
                  have k11 : ∀ c us, H10 c = some (.tup us) → (upd H10 da (.dT (dTs (rows2 ++ [(spreadF s p.1 p.2, t ++ [p])])))) c = some (.tup us) := fun c us hc => by
                    rw [upd_ne (ne_kind hc (e810 _ _ g4) (fun z => nomatch z))]
                    exact hc
                  have l11 : (upd H10 da (.dT (dTs (rows2 ++ [(spreadF s p.1 p.2, t ++ [p])])))) la = some (.lst us2) := by
                    rw [upd_ne nld]
                    exact e810 _ _ g2
                  have d11 : (upd H10 da (.dT (dTs (rows2 ++ [(spreadF s p.1 p.2, t ++ [p])])))) da = some (.dT (dTs (rows2 ++ [(spreadF s p.1 p.2, t ++ [p])]))) := upd_same
                  have E11 : Ex H (upd H10 da (.dT (dTs (rows2 ++ [(spreadF s p.1 p.2, t ++ [p])])))) := (g1.trans e810).mut hda0
                  generalize upd H10 da (.dT (dTs (rows2 ++ [(spreadF s p.1 p.2, t ++ [p])]))) = H11 at k11 l11 d11 E11 ⊢
                  have rT11 : Rep H11 (.ref ta) (rndD (spreadF s p.1 p.2)) := Rep.keepT k11 (nol_rnd _) (rT.mono (e9.trans e10))
                  have r011 : Rep H11 vs (rndD s) := Rep.keepT k11 (nol_rnd _) (r0.mono e810)
                  have r111 : Rep H11 vt (.tup (t.map prD)) := Rep.keepT k11 (by rw [NoL]; exact nol_prs _) (r1.mono e810)
                  have u11 : Reps H11 us2 (rows2.map rowD) := Reps.keepT k11 (nol_all fun x _ => nol_row x) (g3.mono e810)
                  have htl : t.length + 1 ≤ sizeLine := by
                    have := (hB2.ok _ _ hx2).2.2
                    obtain ⟨hal, _⟩ := List.getElem?_eq_some_iff.mp hx2
                    have : t.length ≤ a := this
                    omega
                  have row : EvD (tTup (tCons (tVar 10) (tCons (tOp (rCatA K) (tVar 7) (tTup (tCons (tTup (tCons (tVar 8) (tCons (tVar 9) tNil))) tNil))) tNil))) [some (.ref na), some (.ref fa), some wv, some (.ref la), some (.ref da), some (.int ((a + 1 : Nat) : Int)), some vs, some vt, some (.int (p.1 : Int)), some (.int (p.2 : Int)), some (.ref ta)] H11 (rowD (spreadF s p.1 p.2, t ++ [p])) := by
                    unfold rowD
                    refine ed_tup (er_cons (evd_v (ev_v rfl) rT11) (er_cons ?_ er_nil)) (by show 2 ≤ 100000; decide)
                    show EvD _ _ _ (.tup ((t ++ [p]).map prD))
                    rw [List.map_append]
                    exact ed_catS (evd_v (ev_v rfl) r111) (ed_tup (er_cons (ed_tup (er_cons (evd_v (ev_v rfl) (.int _)) (er_cons (evd_v (ev_v rfl) (.int _)) er_nil)) (by show 2 ≤ 100000; decide)) er_nil) (by show 1 ≤ 100000; decide)) (by rw [List.length_map]; exact htl)
                  refine r_dropE (r_bm (r_ev (ev_v (v := .ref la) rfl) (Ex.refl _) fun H12 e12 => ⟨.inl ⟨rfl, _, sq_of (e12 _ _ l11)⟩, r_cons (row H12 e12 _ fun rv H13 e13 rR => r_nil ⟨la, us2, rv, rfl, rfl, (e12.trans e13) _ _ l11, by omega, ?_⟩)⟩))
                  have e113 := e12.trans e13
                  have k14 : ∀ c us, H13 c = some (.tup us) → (upd H13 la (.lst (us2 ++ [rv]))) c = some (.tup us) := fun c us hc => by
                    rw [upd_ne (ne_kind hc (e113 _ _ l11) (fun z => nomatch z))]
                    exact hc
                  refine ⟨rows2 ++ [(spreadF s p.1 p.2, t ++ [p])], us2 ++ [rv], _, _, _, b1, b2, b3, fun z hz => ?_, ⟨(E11.trans e113).mut hla0, upd_same, ?_, by rw [upd_ne nld.symm]; exact e113 _ _ d11⟩, Rep.keepT k14 (nol_rnd _) (r011.mono e113), Rep.keepT k14 (by rw [NoL]; exact nol_prs _) (r111.mono e113), rfl⟩
                  · rw [htk] at hz
                    rcases List.mem_append.mp hz with hz | hz
                    · obtain ⟨y, hy, e⟩ := hdn z hz
                      exact ⟨y, List.mem_append_left _ hy, e⟩
                    · rw [List.mem_singleton.mp hz]
                      refine ⟨_, List.mem_append_right _ (List.mem_singleton.mpr rfl), rfl, ?_⟩
                      show (t ++ [p]).length ≤ _
                      rw [List.length_append]
                      exact Nat.le_refl _
                  · rw [List.map_append]
                    refine Reps.keepT k14 (nol_app (nol_all fun x _ => nol_row x) ?_) ((u11.mono e113).append (.cons rR .nil))
                    show NoLL [rowD _]
                    rw [NoLL, NoLL]
                    exact ⟨nol_row _, trivial⟩
                · rw [Bool.not_eq_false'] at hb3
                  have hin := of_decide_eq_true hb3
                  have e89 := e8.trans e9
                  refine ⟨rows2, us2, _, _, _, hB2, hx2, hLv2, fun z hz => ?_, ⟨g1.trans e89, e89 _ _ g2, g3.mono e89, e89 _ _ g4⟩, r0.mono e89, r1.mono e89, rfl⟩
                  rw [htk] at hz
                  rcases List.mem_append.mp hz with hz | hz
                  · exact hdn z hz
                  · rw [List.mem_singleton.mp hz]
                    obtain ⟨y, hy, e⟩ := List.mem_map.mp hin
                    exact ⟨y, hy, e, hLv2 y hy⟩
              · rintro σ2 H2 ⟨rows2, us2, y8, y9, y10, hB2, hx2, hLv2, hdn, hS2, r0, r1, rfl⟩
                rw [List.take_of_length_le (by omega)] at hdn
                obtain ⟨c1, c2⟩ := bfs_step hB2 hx2 hLv2 hsw hdn
                obtain ⟨hal, _⟩ := List.getElem?_eq_some_iff.mp hx2
                have := bfs_len hn h5 hB2
                exact ⟨sizeLine - (a + 1), by omega, rows2, a + 1, us2, _, _, _, _, _, rfl, hal, c1, c2, hS2, rfl⟩
    · have hge := of_decide_eq_false hb
      have e0 : a = rows.length := by omega
      subst e0
      obtain ⟨ts, hts⟩ := hinf
      exact absurd hts.2 (bfs_end hn hB hts.1)
end
end K96

set_option Elab.async false
set_option linter.all false
set_option maxRecDepth 100000
set_option maxHeartbeats 4000000
namespace K96
open PySem PySem.Spec PyProof.Rows L2 Evl My
section
variable {P : Program} {w : World} {K : PySem.W.Frag} {mg : Str → Option Value} {base : Heap}
abbrev s_law_mixed : Stmt := topS 10
theorem sc_law_mixed : FnScope ["number", "place", "first", "second", "third"] ["number", "place"] (defScope s_law_mixed) := ⟨rfl, rfl, rfl, by decide +kernel, rfl, by decide +kernel, by decide +kernel⟩
/- 0 number, 1 place, 2 first, 3 second, 4 third -/
def ok_mixed_ (vs : List V) (H : Hp) (z : V) : Prop := ∃ n p : Nat, vs = [.int (n : Int), .int (p : Int)] ∧ z = .int (mixF n p : Nat)
theorem fn_mixed_ {f : Addr} {fd : FuncData} {k : Nat} (F : Fun K "_law_mixed" "_law_mixed" s_law_mixed f fd) (N : Nb mg) : FnOk P w K mg base CX0 (k + 1) f fd ["number", "place"] (spV ok_mixed_) := by
  refine F.ok sc_law_mixed (fun vs H Q E h => ?_) (fun cdv A outer s H vs Q E hr h => ?_)
  · obtain ⟨_, ⟨_, _, rfl, _⟩, _⟩ := h
    rfl
  · obtain ⟨_, ⟨n, p, rfl, hz⟩, q⟩ := h
    rw [hz] at q
    refine ⟨_, (pss_cons (ps_set (i := 2) sc_law_mixed.nd rfl (Or.inl rfl) (pe_op op_mod (pe_callTy call_int1 (by rfl) N.int PyProof.Rows.boot_int (pa_cons (pe_op op_add (pe_op op_add (pe_op op_mul (pv 0) pe_int) (pe_op op_mul (pv 1) pe_int)) pe_int) pa_nil)) pe_int))
      (pss_cons (ps_set (i := 3) sc_law_mixed.nd rfl (Or.inl rfl) (pe_op op_mod (pe_callTy call_int1 (by rfl) N.int PyProof.Rows.boot_int (pa_cons (pe_op op_add (pe_op op_add (pe_op op_mulW (pv 2) (pv 2)) (pe_op op_mul pe_int (pv 2))) (pv 1)) pa_nil)) pe_int))
      (pss_cons (ps_set (i := 4) sc_law_mixed.nd rfl (Or.inl rfl) (pe_op op_mod (pe_callTy call_int1 (by rfl) N.int PyProof.Rows.boot_int (pa_cons (pe_op op_add (pe_op op_mulW (pv 3) (pv 3)) (pv 2)) pa_nil)) pe_int))
      (pss_one (ps_ret (pe_op op_add (pe_op op_mulW (pv 3) pe_int) (pv 4))))))), ?_⟩
    have l1 : (n * 48271 + p * 69621 + 11) % m89 < 2 ^ 89 := Nat.lt_trans (Nat.mod_lt _ (by decide)) (by decide)
    refine q_asg (v := .int (((n * 48271 + p * 69621 + 11) % m89 : Nat) : Int)) (ev_op (ev_int (ev_op (ev_op (ev_op (ev_v rfl) (ev_cn 48271) (rv_mulN (.inr (by decide)))) (ev_op (ev_v rfl) (ev_cn 69621) (rv_mulN (.inr (by decide)))) rv_addN) (ev_cn 11) rv_addN)) (ev_cn m89) (rv_modN (by decide))) fun H1 e1 => ?_
    unfold mixF at q
    generalize (n * 48271 + p * 69621 + 11) % m89 = a at l1 q ⊢
    have l2 : (a * a + 7 * a + p) % m107 < 2 ^ 107 := Nat.lt_trans (Nat.mod_lt _ (by decide)) (by decide)
    refine q_asg (v := .int (((a * a + 7 * a + p) % m107 : Nat) : Int)) (ev_op (ev_int (ev_op (ev_op (ev_op (ev_v rfl) (ev_v rfl) (rv_mulWN l1 l1 (by decide) (by decide) (by decide))) (ev_op (ev_cn 7) (ev_v rfl) (rv_mulN (.inl (by decide)))) rv_addN) (ev_v rfl) rv_addN)) (ev_cn m107) (rv_modN (by decide))) fun H2 e2 => ?_
    dsimp only at q
    generalize (a * a + 7 * a + p) % m107 = b at l2 q ⊢
    refine q_asg (v := .int (((b * b + a) % m89 : Nat) : Int)) (ev_op (ev_int (ev_op (ev_op (ev_v rfl) (ev_v rfl) (rv_mulWN l2 l2 (by decide) (by decide) (by decide))) (ev_v rfl) rv_addN)) (ev_cn m89) (rv_modN (by decide))) fun H3 e3 => ?_
    exact s_ret (ev_op (ev_op (ev_v rfl) (ev_cn m89) (rv_mulWN (m := 89) l2 (by decide) (by decide) (by decide) (by decide))) (ev_v rfl) rv_addN) fun H4 e4 => q H4 (((e1.trans e2).trans e3).trans e4)
abbrev s_law_rest : Stmt := topS 11
theorem sc_law_rest : FnScope ["script", "place", "fills", "number"] ["script", "place", "fills"] (defScope s_law_rest) := ⟨rfl, rfl, rfl, by decide +kernel, rfl, by decide +kernel, by decide +kernel⟩
/- 0 script, 1 place, 2 fills, 3 number -/
def ok_rest_ (K : PySem.W.Frag) (vs : List V) (H : Hp) (z : V) : Prop := ∃ (sc : Addr) (xs : List Int) (p f : Nat), vs = [.ref sc, .int (p : Int), .int (f : Int)] ∧ SqL K H sc (xs.map V.int) ∧ z = .int (restF xs p f : Nat)
theorem fn_rest_ {f : Addr} {fd : FuncData} {k : Nat} (F : Fun K "_law_rest" "_law_rest" s_law_rest f fd) (N : Nb mg) (C_law_mixed : Cal P w K mg base k "_law_mixed" ["number", "place"] (spV ok_mixed_)) : FnOk P w K mg base CX0 (k + 1) f fd ["script", "place", "fills"] (spV (ok_rest_ K)) := by
  refine F.ok sc_law_rest (fun vs H Q E h => ?_) (fun cdv A outer s H vs Q E hr h => ?_)
  · obtain ⟨_, ⟨_, _, _, _, rfl, _⟩, _⟩ := h
    rfl
  · obtain ⟨_, ⟨sc, xs, p, f, rfl, hS, hz⟩, q⟩ := h
    rw [hz] at q
    refine ⟨_, (pss_cons (ps_set (i := 3) sc_law_rest.nd rfl (Or.inl rfl) pe_int)
      (pss_cons (ps_if (pt_cmpR op_gt (pe_callB call_len_seq (by rfl) N.len PySem.boot_len (pa_cons (pv 0) pa_nil)) pe_int (nomark _)) (pss_one (ps_set (i := 3) sc_law_rest.nd rfl (Or.inl rfl) (pe_callTy call_int1 (by rfl) N.int PyProof.Rows.boot_int (pa_cons (pe_ix ix_list (pv 0) (pe_op op_mod (pe_callTy call_int1 (by rfl) N.int PyProof.Rows.boot_int (pa_cons (pv 1) pa_nil)) (pe_callB call_len_seq (by rfl) N.len PySem.boot_len (pa_cons (pv 0) pa_nil))) (fun _ _ => rfl)) pa_nil)))) pss_nil)
      (pss_cons (ps_if (pt_cmpR op_lt (pv 3) pe_int (nomark _)) (pss_one (ps_set (i := 3) sc_law_rest.nd rfl (Or.inl rfl) (pe_op op_sub pe_int (pe_op op_mul pe_int (pv 3))))) pss_nil)
      (pss_cons (ps_if (PW.pt (pw_and (pt_cmpR op_eq (pv 2) pe_int (nomark _)) (pw_and (pt_cmpR op_lt (pv 1) (pe_callB call_len_seq (by rfl) N.len PySem.boot_len (pa_cons (pv 0) pa_nil)) (nomark _)) (pw_and1 (pt_cmpR op_ge (pv 3) (pe_op op_pow pe_int pe_int) (nomark _)))))) (pss_one (ps_ret (pe_op op_sub (pv 3) (pe_op op_pow pe_int pe_int)))) pss_nil)
      (pss_one (ps_ret (pe_cal C_law_mixed hr (pa_cons (pe_op op_add (pv 3) (pe_op op_mul (pv 2) pe_int)) (pa_cons (pv 1) pa_nil))))))))), ?_⟩
    have hlen : ∀ σ' H', Ex H H' → σ'[0]? = some (some (.ref sc)) → Ev (tCB (rLenS K) (tCons (tVar 0) tNil)) σ' H' (.int (xs.length : Int)) := fun σ' H' e' s' => by
      have := ev_len (K := K) (ta := tVar 0) (ev_v s') (ex_l e' hS)
      rw [List.length_map] at this
      exact this
    obtain ⟨i0, hi0⟩ : ∃ i0 : Int, i0 = if 0 < xs.length then xs.getD (p % xs.length) 0 else 0 := ⟨_, rfl⟩
    have hn : (if 0 < xs.length then absF (xs.getD (p % xs.length) 0) else 0) = absF i0 := by
      rw [hi0]
      split <;> rfl
    unfold restF at q
    rw [hn] at q
    refine q_asg (ev_cn 0) fun H1 e1 => ?_
    refine q_ifAsg (v := .int i0) (b := decide ((0 : Int) < (xs.length : Int))) (et_test (ev_op (hlen _ _ e1 rfl) (ev_cn 0) rv_I0)) (fun hb => ?_) (fun hb => ?_) fun H2 e2 => ?_
    · have h0 : 0 < xs.length := by have := of_decide_eq_true hb; omega
      rw [if_pos h0] at hi0
      have hj : p % xs.length < xs.length := Nat.mod_lt _ h0
      exact ev_int (ev_op (ev_v rfl) (ev_op (ev_int (ev_v rfl)) (hlen _ _ e1 rfl) (rv_modN h0)) (rv_ixLn (ex_l e1 hS) (by
        rw [hi0, List.getElem?_map, List.getD_eq_getElem?_getD, List.getElem?_eq_getElem hj]
        rfl)))
    · have h0 : ¬ 0 < xs.length := by have := of_decide_eq_false hb; omega
      rw [if_neg h0] at hi0
      rw [hi0]
      rfl
    refine q_ifAsg (v := .int (absF i0 : Nat)) (b := decide (i0 < 0)) (et_test (ev_op (ev_v rfl) (ev_cn 0) rv_I0)) (fun hb => ?_) (fun hb => ?_) fun H3 e3 => ?_
    · have h0 := of_decide_eq_true hb
      refine ev_is (ev_op (ev_cn 1) (ev_op (ev_cn 2) (ev_v rfl) (rv_I (.inl ⟨by decide, by decide⟩))) rv_I0) ?_
      unfold absF
      rw [if_pos h0, Int.toNat_of_nonneg (by omega)]
      rfl
    · have h0 := of_decide_eq_false hb
      unfold absF
      rw [if_neg h0, Int.toNat_of_nonneg (by omega)]
      rfl
    have E3 := (e1.trans e2).trans e3
    generalize absF i0 = n at q ⊢
    have t18 : Ev (tOp (rI CPow fun i j => .int (i ^ j.toNat)) (tC (.int 10)) (tC (.int 18))) [some (.ref sc), some (.int (p : Int)), some (.int (f : Int)), some (.int (n : Int))] H3 (.int ((10 ^ 18 : Nat) : Int)) := ev_op (ev_cn 10) (ev_cn 18) (rv_I (by unfold CPow; decide))
    refine q_when (b := decide (f = 0) && (decide (p < xs.length) && decide (10 ^ 18 ≤ n))) (et_and (et_test (ev_is (ev_op (ev_v rfl) (ev_cn 0) (rv_eq rfl)) (congrArg V.bl (decide_eq_decide.mpr ⟨fun h => by have := V.int.inj h; omega, fun h => by rw [h]⟩)))) fun _ =>
      et_and (et_test (ev_is (ev_op (ev_v rfl) (hlen _ _ E3 rfl) rv_I0) (congrArg V.bl (decide_eq_decide.mpr (by omega))))) fun _ => et_test (ev_is (ev_op (ev_v rfl) t18 rv_I0) (congrArg V.bl (decide_eq_decide.mpr (by omega))))) (fun hb H4 e4 => ?_) fun hb H4 e4 => ?_
    · rw [Bool.and_eq_true, Bool.and_eq_true, decide_eq_true_eq, decide_eq_true_eq, decide_eq_true_eq] at hb
      rw [if_pos ⟨hb.1, hb.2.1, hb.2.2⟩] at q
      exact s_ret (ev_op (ev_v rfl) (t18.mono e4) (rv_subN hb.2.2)) fun H5 e5 => q H5 ((E3.trans e4).trans e5)
    · have hb' : ¬ (f = 0 ∧ p < xs.length ∧ 10 ^ 18 ≤ n) := fun h => by
        rw [decide_eq_true h.1, decide_eq_true h.2.1, decide_eq_true h.2.2] at hb
        exact nomatch hb
      rw [if_neg hb'] at q
      exact s_ret (ev_cal (ea_cons (ev_op (ev_v rfl) (ev_op (ev_v rfl) (ev_cn 1000003) (rv_mulN (.inr (by decide)))) rv_addN) (ea_cons (ev_v rfl) ea_nil)) fun _ _ => ⟨_, p, rfl, rfl⟩) fun H5 e5 => q H5 ((E3.trans e4).trans e5)
abbrev s_law_pool : Stmt := topS 12
theorem sc_law_pool : FnScope ["script"] ["script"] (defScope s_law_pool) := ⟨rfl, rfl, rfl, by decide +kernel, rfl, by decide +kernel, by decide +kernel⟩
def ok_pool_ (K : PySem.W.Frag) (vs : List V) (H : Hp) (z : List V) : Prop := ∃ (sc : Addr) (xs : List Int), vs = [.ref sc] ∧ SqL K H sc (xs.map V.int) ∧ z = [.ref sc, .int ((0 : Nat) : Int), .int (restF xs 0 0 : Nat), .int ((0 : Nat) : Int)]
theorem fn_pool_ {f : Addr} {fd : FuncData} {k : Nat} (F : Fun K "_law_pool" "_law_pool" s_law_pool f fd) (N : Nb mg) (C_law_rest : Cal P w K mg base k "_law_rest" ["script", "place", "fills"] (spV (ok_rest_ K))) : FnOk P w K mg base CX0 (k + 1) f fd ["script"] (spL (ok_pool_ K)) := by
  refine F.ok sc_law_pool (fun vs H Q E h => ?_) (fun cdv A outer s H vs Q E hr h => ?_)
  · obtain ⟨_, ⟨_, _, rfl, _⟩, _⟩ := h
    rfl
  · obtain ⟨_, ⟨sc, xs, rfl, hS, hz⟩, q⟩ := h
    rw [hz] at q
    refine ⟨_, (pss_one (ps_ret (pe_lst (pa_cons (pv 0) (pa_cons pe_int (pa_cons (pe_cal C_law_rest hr (pa_cons (pv 0) (pa_cons pe_int (pa_cons pe_int pa_nil)))) (pa_cons pe_int pa_nil))))))), ?_⟩
    exact s_retL (el_lst (ea_cons (ev_v rfl) (ea_cons (ev_cn 0) (ea_cons (ev_cal (ea_cons (ev_v rfl) (ea_cons (ev_cn 0) (ea_cons (ev_cn 0) ea_nil))) fun H1 e1 => ⟨sc, xs, 0, 0, rfl, ex_l e1 hS, rfl⟩) (ea_cons (ev_cn 0) ea_nil)))) (by show 4 ≤ 100000; decide)) fun p H1 hp e1 h1 => q p H1 hp e1 h1
abbrev s_law_draw : Stmt := topS 13
theorem sc_law_draw : FnScope ["pool", "limit", "value"] ["pool", "limit"] (defScope s_law_draw) := ⟨rfl, rfl, rfl, by decide +kernel, rfl, by decide +kernel, by decide +kernel⟩
/- 0 pool, 1 limit, 2 value -/
theorem fn_draw {f : Addr} {fd : FuncData} {k : Nat} (F : Fun K "_law_draw" "_law_draw" s_law_draw f fd) (N : Nb mg) (C_law_rest : Cal P w K mg base k "_law_rest" ["script", "place", "fills"] (spV (ok_rest_ K))) : FnOk P w K mg base CX0 (k + 1) f fd ["pool", "limit"] (sp_draw K) := by
  refine F.ok sc_law_draw (fun vs H Q E h => ?_) (fun cdv A outer s H vs Q E hr h => ?_)
  · obtain ⟨_, _, _, _, rfl, _⟩ := h
    rfl
  · obtain ⟨p, sc, xs, limit, rfl, hP, h0, hlim, q⟩ := h
    refine ⟨_, (pss_cut (ps_if (pt_cmpR op_le (pe_ix ix_list (pv 0) pe_int (fun _ _ => rfl)) pe_int (nomark _)) (pss_cons (ps_asg (pe_op op_add (pe_ix ix_list (pv 0) pe_int (fun _ _ => rfl)) pe_int) (pg_sub (pv 0) pe_int set_list))
      (pss_one (ps_asg (pe_cal C_law_rest hr (pa_cons (pe_ix ix_list (pv 0) pe_int (fun _ _ => rfl)) (pa_cons (pe_ix ix_list (pv 0) pe_int (fun _ _ => rfl)) (pa_cons (pe_ix ix_list (pv 0) pe_int (fun _ _ => rfl)) pa_nil)))) (pg_sub (pv 0) pe_int set_list)))) pss_nil)
      (pss_cons (ps_set (i := 2) sc_law_draw.nd rfl (Or.inl rfl) (pe_op op_mod (pe_callTy call_int1 (by rfl) N.int PyProof.Rows.boot_int (pa_cons (pe_ix ix_list (pv 0) pe_int (fun _ _ => rfl)) pa_nil)) (pv 1)))
      (pss_cons (ps_asg (pe_op op_fdivW (pe_callTy call_int1 (by rfl) N.int PyProof.Rows.boot_int (pa_cons (pe_ix ix_list (pv 0) pe_int (fun _ _ => rfl)) pa_nil)) (pv 1)) (pg_sub (pv 0) pe_int set_list))
      (pss_one (ps_ret (pv 2)))))), ?_⟩
    have hP0 := hP
    obtain ⟨pl, r, f, hp, hS⟩ := hP
    refine q_cut (M := fun σ' H' => σ' = [some (.ref p), some (.int (limit : Int)), none] ∧ Keep p H H' ∧ ∃ r f : Nat, H' p = some (.lst [.ref sc, .int (pl : Int), .int (r : Int), .int (f : Int)])) ?_ ?_
    · refine s_when (b := decide ((r : Int) ≤ ((1 : Nat) : Int))) (et_test (ev_op (ev_ixL (ev_v rfl) (ev_cn 2) (sq_of hp) rfl) (ev_cn 1) rv_I0)) (fun hb H1 e1 => ?_) fun hb H1 e1 => ⟨rfl, .of e1, r, f, e1 p _ hp⟩
      refine q_setL (j := 3) (v := .int ((f + 1 : Nat) : Int)) (e1 p _ hp) (ev_op (ev_ixL (ev_v rfl) (ev_cn 3) (sq_of (e1 p _ hp)) rfl) (ev_cn 1) rv_addN) (ev_v rfl) (ev_cn 3) (by show 3 < 4; decide) fun H2 e2 => ?_
      have E2 := e1.trans e2
      have k2 : Keep p H (upd H2 p (.lst [.ref sc, .int (pl : Int), .int (r : Int), .int ((f + 1 : Nat) : Int)])) := (Keep.of E2).trans .upd
      refine s_setL (j := 2) (v := .int (restF xs pl (f + 1) : Nat)) (xs := [.ref sc, .int (pl : Int), .int (r : Int), .int ((f + 1 : Nat) : Int)]) upd_same (ev_cal (ea_cons (ev_ixL (ev_v rfl) (ev_cn 0) (sq_of upd_same) rfl) (ea_cons (ev_ixL (ev_v rfl) (ev_cn 1) (sq_of upd_same) rfl) (ea_cons (ev_ixL (ev_v rfl) (ev_cn 3) (sq_of upd_same) rfl) ea_nil))) fun H3 e3 => ⟨sc, xs, pl, f + 1, rfl, ex_l e3 (sc_keep hp k2 hS), rfl⟩) (ev_v rfl) (ev_cn 2) (by show 2 < 4; decide) fun H3 e3 => ?_
      exact ⟨rfl, (k2.trans (.of e3)).trans .upd, _, _, upd_same⟩
    · rintro σ' H' ⟨rfl, hk, r', f', hp'⟩
      refine q_asg (v := .int ((r' % limit : Nat) : Int)) (ev_op (ev_int (ev_ixL (ev_v rfl) (ev_cn 2) (sq_of hp') rfl)) (ev_v rfl) (rv_modN h0)) fun H1 e1 => ?_
      refine q_setL (j := 2) (v := .int ((r' / limit : Nat) : Int)) (e1 p _ hp') (ev_op (ev_int (ev_ixL (ev_v rfl) (ev_cn 2) (sq_of (e1 p _ hp')) rfl)) (ev_v rfl) (rv_divWN (n := 63) h0 hlim (by decide) (by decide))) (ev_v rfl) (ev_cn 2) (by show 2 < 4; decide) fun H2 e2 => ?_
      have k3 : Keep p H (upd H2 p (.lst [.ref sc, .int (pl : Int), .int ((r' / limit : Nat) : Int), .int (f' : Int)])) := (hk.trans (.of (e1.trans e2))).trans .upd
      refine s_ret (ev_v rfl) fun H3 e3 => q (r' % limit) H3 (Nat.mod_lt _ h0) (G.exR ⟨k3, hP0.mk' (r := r' / limit) (f := f') k3 upd_same⟩ e3)
abbrev s_law_pick : Stmt := topS 14
theorem sc_law_pick : FnScope ["pool", "options"] ["pool", "options"] (defScope s_law_pick) := ⟨rfl, rfl, rfl, by decide +kernel, rfl, by decide +kernel, by decide +kernel⟩
/- 0 pool, 1 options -/
theorem fn_pick {f : Addr} {fd : FuncData} {k : Nat} (F : Fun K "_law_pick" "_law_pick" s_law_pick f fd) (N : Nb mg) (C_law_draw : Cal P w K mg base k "_law_draw" ["pool", "limit"] (sp_draw K)) : FnOk P w K mg base CX0 (k + 1) f fd ["pool", "options"] (sp_pick K) := by
  refine F.ok sc_law_pick (fun vs H Q E h => ?_) (fun cdv A outer s H vs Q E hr h => ?_)
  · obtain ⟨_, _, _, _, _, rfl, _⟩ := h
    rfl
  · obtain ⟨p, sc, ns, a, xs, rfl, hP, hS, hne, hx, hl, q⟩ := h
    refine ⟨_, (pss_one (ps_ret (pe_ix ix_list (pv 1) (pe_cal C_law_draw hr (pa_cons (pv 0) (pa_cons (pe_callB call_len_seq (by rfl) N.len PySem.boot_len (pa_cons (pv 1) pa_nil)) pa_nil))) (fun _ _ => rfl)))), ?_⟩
    have h0 : 0 < xs.length := List.length_pos_iff.mpr hx
    refine r_ret (r_op (r_var rfl (r_call (r_cons (r_var rfl (r_cons (r_ev (ev_len (K := K) (ev_v rfl) hS) (Ex.refl H) fun H3 e3 => r_nil ?_)))))))
    refine ⟨p, sc, ns, xs.length, rfl, hP.ex e3, h0, by omega, fun v H4 hv g => ?_⟩
    exact rv_ixLn (keep_l g.1 hne (ex_l e3 hS)) (List.getElem?_eq_getElem hv) H4 (Ex.refl H4) _ fun H5 e5 => q _ H5 (List.getElem_mem hv) ((G.exL e3 g).exR e5)
end
end K96

set_option Elab.async false
set_option linter.all false
set_option maxRecDepth 100000
set_option maxHeartbeats 4000000
namespace K96
open PySem PySem.Spec PyProof.Rows L2 Evl My
/-! the nets that are drawn -/
theorem r_asgE {i : Nat} {te : TE} {D : Ends} {σ : L2.St} {H : Hp} (h : te σ H fun v H1 => D.nx (σ.set i (some v)) H1) : tAsg te (gName i) D σ H := h
section
variable {K : PySem.W.Frag} {σ : L2.St} {H : Hp} {Q : VK} {ta : TA} {te tb : TE} {tt : TT} {p sc : Addr} {ns : List Int}
theorem r_lcR2 {g : TG} {vs : List Nat} (h : ta σ H fun ws H1 => ∃ i j : Int, ws = [.int i, .int j] ∧ (-(2 ^ 62) ≤ i ∧ i < 2 ^ 62 ∧ -(2 ^ 62) ≤ j ∧ j < 2 ^ 62) ∧ ∀ D, H1 D = none → ∃ W : Nat → Nat → Hp → Prop, (∃ m, W 0 m (upd H1 D (.lst []))) ∧ ∀ c m H, W c m H →
    ((Itr i (j - i).toNat).stop c H ∧ Q (.ref D) H) ∨ ((Itr i (j - i).toNat).go c H ∧ ∃ Nx : Hp → Prop, (∀ H', Nx H' → ∃ m', m' < m ∧ W (c + 1) m' H') ∧ ∀ x H', (Itr i (j - i).toNat).yld c H x H' → g x (wipe σ vs) H' fun σ2 H2 => wipe σ2 vs = wipe σ vs ∧ tt σ2 H2 fun b H3 =>
      if b = true then te σ2 H3 fun y H4 => ∃ acc, H4 D = some (.lst acc) ∧ acc.length < sizeLine ∧ Nx (upd H4 D (.lst (acc ++ [y]))) else Nx H3)) : tLc (iRng2 ta) g tt te vs σ H Q := h
theorem r_lcWays {j : Nat} {vs : List Nat} (i n : Nat) (hi : i < n) (hn8 : n ≤ 8) (hP : Pool K H p sc ns) (ht : EvA ta σ H [.int ((i + 1 : Nat) : Int), .int (n : Int)]) (hw : ∀ x, wipe ((wipe σ vs).set j (some x)) vs = wipe σ vs)
    (htt : ∀ (k : Nat) H1 (B : Bool → Hp → Prop), G K p sc ns H H1 → (∀ b H2, G K p sc ns H1 H2 → B b H2) → tt ((wipe σ vs).set j (some (.int (k : Int)))) H1 B)
    (hte : ∀ (k : Nat) H1 (Q' : VK), G K p sc ns H H1 → (∀ v H2, Rep H2 v (prD (i, k)) → G K p sc ns H1 H2 → Q' v H2) → te ((wipe σ vs).set j (some (.int (k : Int)))) H1 Q')
    (q : ∀ (Dl : Addr) (us : List V) (qs : List Pr) (H' : Hp), H Dl = none → H' Dl = some (.lst us) → Reps H' us (qs.map prD) → (∀ q ∈ qs, q.1 = i ∧ i < q.2 ∧ q.2 < n) → qs.Pairwise (fun a b : Pr => a.2 < b.2) → qs.length ≤ 8 → G K p sc ns H H' → Q (.ref Dl) H') : tLc (iRng2 ta) (gName j) tt te vs σ H Q := by
  refine r_lcR2 (ht H (Ex.refl H) _ fun H1 e1 => ⟨((i + 1 : Nat) : Int), (n : Int), rfl, by omega, fun Dl hD => ?_⟩)
  have g1 : G K p sc ns H H1 := G.ex e1 hP
  have hD0 := G.back g1 hD
  have hDp : Dl ≠ p := hP.ne hD0
  rw [show ((n : Int) - ((i + 1 : Nat) : Int)).toNat = n - (i + 1) by omega]
  refine ⟨fun c m H' => m = (n - (i + 1)) - c ∧ c ≤ n - (i + 1) ∧ G K p sc ns H H' ∧ ∃ (us : List V) (qs : List Pr), H' Dl = some (.lst us) ∧ Reps H' us (qs.map prD) ∧ (∀ q ∈ qs, q.1 = i ∧ i < q.2 ∧ q.2 < i + 1 + c) ∧ qs.Pairwise (fun a b : Pr => a.2 < b.2) ∧ qs.length ≤ c, ⟨_, rfl, Nat.zero_le _, G.new hP g1 hD0, [], [], upd_same, .nil, (fun q hq => nomatch hq), by simp, Nat.le_refl _⟩, ?_⟩
  rintro c m H' ⟨rfl, hc, g, us, qs, hl, hr, hq, hpw, hlen⟩
  by_cases hlt : c < n - (i + 1)
  · refine .inr ⟨hlt, fun H' => G K p sc ns H H' ∧ ∃ (us : List V) (qs : List Pr), H' Dl = some (.lst us) ∧ Reps H' us (qs.map prD) ∧ (∀ q ∈ qs, q.1 = i ∧ i < q.2 ∧ q.2 < i + 1 + (c + 1)) ∧ qs.Pairwise (fun a b : Pr => a.2 < b.2) ∧ qs.length ≤ c + 1, fun H2 pp => ⟨_, by omega, rfl, hlt, pp⟩, fun x H2 y => ?_⟩
    obtain ⟨rfl, rfl⟩ := y
    rw [show ((i + 1 : Nat) : Int) + (c : Int) = ((i + 1 + c : Nat) : Int) by omega]
    refine ⟨hw _, ?_⟩
    refine htt (i + 1 + c) _ _ g fun b H3 g3 => ?_
    have G3 := g.trans g3
    have hl3 := g3.1 Dl _ hDp hl
    have hr3 : Reps H3 us (qs.map prD) := Reps.keepT (G.kt g.2 g3) (nol_prs qs) hr
    cases b with
    | true =>
      refine iteT (hte (i + 1 + c) H3 _ G3 fun v H4 hv g4 => ?_)
      have hl4 := g4.1 Dl _ hDp hl3
      have hul := hr.len
      rw [List.length_map] at hul
      refine ⟨us, hl4, sz_lt (by omega), G.new hP (G3.trans g4) hD0, us ++ [v], qs ++ [(i, i + 1 + c)], upd_same, ?_, fun z hz => ?_, ?_, by rw [List.length_append]; exact Nat.succ_le_succ hlen⟩
      · rw [List.map_append]
        refine Reps.keepT (fun a xs ha => by rw [upd_ne (ne_kind ha hl4 (fun z => nomatch z))]; exact ha) (nol_app (nol_prs qs) ?_) ((Reps.keepT (G.kt G3.2 g4) (nol_prs qs) hr3).append (.cons hv .nil))
        exact nol_prs [(i, i + 1 + c)]
      · rcases List.mem_append.mp hz with hz | hz
        · obtain ⟨z1, z2, z3⟩ := hq z hz
          exact ⟨z1, z2, by omega⟩
        · rw [List.mem_singleton.mp hz]
          exact ⟨rfl, by show i < i + 1 + c; omega, by show i + 1 + c < _; omega⟩
      · rw [List.pairwise_append]
        refine ⟨hpw, by simp, fun a ha b hb => ?_⟩
        rw [List.mem_singleton.mp hb]
        exact (hq a ha).2.2
    | false =>
      refine iteF ⟨G3, us, qs, hl3, hr3, fun z hz => ?_, hpw, by omega⟩
      obtain ⟨z1, z2, z3⟩ := hq z hz
      exact ⟨z1, z2, by omega⟩
  · have e0 : c = n - (i + 1) := by omega
    subst e0
    exact .inl ⟨Nat.le_refl _, q Dl us qs _ hD0 hl hr (fun z hz => by
      obtain ⟨z1, z2, z3⟩ := hq z hz
      exact ⟨z1, z2, by omega⟩) hpw (by omega) g⟩
end
section
variable {P : Program} {w : World} {K : PySem.W.Frag} {mg : Str → Option Value} {base : Heap}
abbrev s_law_net : Stmt := topS 16
theorem sc_law_net : FnScope ["pool", "most", "n", "ways", "i", "j"] ["pool", "most"] (defScope s_law_net) := ⟨rfl, rfl, rfl, by decide +kernel, rfl, by decide +kernel, by decide +kernel⟩
/- 0 pool*, 1 most, 2 n, 3 ways, 4 i*, 5 j -/
def sp_net (K : PySem.W.Frag) : Sp := fun vs H Q _ => ∃ (p sc : Addr) (ns : List Int) (most : Nat), vs = [.ref p, .int (most : Int)] ∧ Pool K H p sc ns ∧ 1 ≤ most ∧ most ≤ 8 ∧ ∀ n ws u H', NetOk n ws → n ≤ most → Rep H' u (netD n ws) → G K p sc ns H H' → Q u H'
theorem fn_net {f : Addr} {fd : FuncData} {k : Nat} (F : Fun K "_law_net" "_law_net" s_law_net f fd) (N : Nb mg) (C_law_draw : Cal P w K mg base k "_law_draw" ["pool", "limit"] (sp_draw K)) : FnOk P w K mg base CX0 (k + 1) f fd ["pool", "most"] (sp_net K) := by
  refine F.ok sc_law_net (fun vs H Q E h => ?_) (fun cdv A outer s H vs Q E hr h => ?_)
  · obtain ⟨_, _, _, _, rfl, _⟩ := h
    rfl
  · obtain ⟨p, sc, ns, most, rfl, hP, hm1, hm8, q⟩ := h
    refine ⟨_, (pss_cons (ps_set (i := 2) sc_law_net.nd rfl (Or.inl rfl) (pe_op op_add pe_int (pe_cal C_law_draw hr (pa_cons (pv 0) (pa_cons (pv 1) pa_nil)))))
      (pss_cons (ps_set (i := 3) sc_law_net.nd rfl (Or.inl rfl) (pe_lst pa_nil))
      (pss_cons (ps_for PassesOwn.never rfl (pi_range1 rfl N.range (pa_cons (pv 2) pa_nil)) (pg_name (i := 4) sc_law_net.nd rfl (by first | exact Or.inl rfl | exact Or.inr rfl)) (pss_one (ps_set (i := 3) sc_law_net.nd rfl (Or.inl rfl) (pe_op op_cat (pv 3) (pe_lc (own := [("j", 5)]) (by rfl) sc_law_net.nd (pi_range2 rfl N.range (pa_cons (pe_op op_add (pv 4) pe_int) (pa_cons (pv 2) pa_nil))) (blkOk_by (own := [("j", 5)]) (N := ["pool", "most", "n", "ways", "i", "j"]) (sc := defScope s_law_net) (by decide +kernel)) (fun _ _ _ _ _ => (pg_name (i := 5) sc_law_net.nd rfl (Or.inl rfl))) (fun _ _ _ _ _ => (pts_one (pt_cmpR op_lt (pe_cal C_law_draw hr (pa_cons (pv 0) (pa_cons pe_int pa_nil))) pe_int (nomark _)))) (fun _ _ _ _ _ => (pe_tup (pa_cons (pv 4) (pa_cons (pv 5) pa_nil)))))))))
      (pss_one (ps_ret (pe_tup (pa_cons (pv 2) (pa_cons (pe_callTy call_tuple_of (by rfl) N.tuple PyProof.Rows.boot_tuple (pa_cons (pv 3) pa_nil)) pa_nil)))))))), ?_⟩
    refine r_asg (r_op (r_c (r_draw hP (ea_cons (ev_v rfl) (ea_cons (ev_v rfl) ea_nil)) (by omega) (by omega) fun d H1 hd g1 => ⟨1, (d : Int), rfl, rfl, ?_⟩)))
    show tSeq _ _ _ ([_, _, some (.int ((1 : Int) + (d : Int))), _, _, _] : L2.St) H1
    rw [show (1 : Int) + (d : Int) = ((1 + d : Nat) : Int) by omega]
    generalize hn : 1 + d = n
    refine q_asgL (xs := []) (el_lst ea_nil (by decide)) fun l0 H2 hl0 e2 h2 => ?_
    have hl00 := G.back g1 hl0
    refine q_forR1 (n := (n : Int)) (ea_cons (ev_v rfl) ea_nil) (by omega) (fun i σ' H' => G K p sc ns H H' ∧ i ≤ n ∧ ∃ (l : Addr) (us : List V) (ws : List Pr) (y5 y6 : Option V), H l = none ∧ H' l = some (.lst us) ∧ Reps H' us (ws.map prD) ∧ (∀ q ∈ ws, q.1 < q.2 ∧ q.2 < n ∧ q.1 < i) ∧ ws.Pairwise (fun a b => a.1 < b.1 ∨ (a.1 = b.1 ∧ a.2 < b.2)) ∧ ws.length ≤ 8 * i ∧ σ' = [some (.ref p), some (.int (most : Int)), some (.int (n : Int)), some (.ref l), y5, y6]) (fun H3 e3 => ⟨g1.exR (e2.trans e3), Nat.zero_le _, l0, [], [], none, none, hl00, e3 _ _ h2, .nil, (fun q hq => nomatch hq), by simp, Nat.le_refl _, rfl⟩) ?_ ?_
    · rintro i σ' H' hi ⟨g, _, l, us, ws, y5, y6, hl, hl', hr, hq, hpw, hlen, rfl⟩
      have hi : i < n := by omega
      have hlp : l ≠ p := hP.ne hl
      refine r_asgE (r_op (r_var rfl ?_))
      refine r_lcWays i n hi (by omega) g.2 (ea_cons (ev_op (ev_v rfl) (ev_cn 1) rv_addN) (ea_cons (ev_v rfl) ea_nil)) (fun _ => rfl) (fun k H3 B g3 hB => ?_) (fun k H3 Q' g3 hQ => ?_) fun Dl us2 qs H3 hDl hl3 hr3 hq3 hpw3 hlen3 g3 => ?_
      · exact r_test (r_op (r_draw g3.2 (ea_cons (ev_v rfl) (ea_cons (ev_cn 5) ea_nil)) (by decide) (by decide) fun v H4 hv g4 => r_c ⟨(v : Int), 3, rfl, rfl, _, rfl, hB _ H4 g4⟩))
      · exact (ed_tup (er_cons (evd_v (ev_v rfl) (.int _)) (er_cons (evd_v (ev_v rfl) (.int _)) er_nil)) (by show 2 ≤ 100000; decide) : EvD _ _ H3 (prD (i, k))) H3 (Ex.refl _) _ fun v H4 e4 r4 => hQ v H4 r4 (G.ex e4 g3.2)
      · have hrl := hr.len
        have hrl3 := hr3.len
        rw [List.length_map] at hrl hrl3
        have hl4 := g3.1 l _ hlp hl'
        refine ⟨l, Dl, us, us2, rfl, rfl, hl4, hl3, sz_of (by omega), fun a ha => ?_⟩
        have G3 := g.trans g3
        refine ⟨G3.exR (Ex.new ha), hi, a, us ++ us2, ws ++ qs, _, _, G.back G3 ha, upd_same, ?_, fun z hz => ?_, ?_, by rw [List.length_append]; omega, rfl⟩
        · rw [List.map_append]
          exact ((Reps.keepT (G.kt g.2 g3) (nol_prs ws) hr).append hr3).mono (Ex.new ha)
        · rcases List.mem_append.mp hz with hz | hz
          · obtain ⟨z1, z2, z3⟩ := hq z hz
            exact ⟨z1, z2, by omega⟩
          · obtain ⟨z1, z2, z3⟩ := hq3 z hz
            omega
        · rw [List.pairwise_append]
          refine ⟨hpw, List.Pairwise.imp_of_mem (fun {a b} ha hb hab => .inr ⟨by rw [(hq3 a ha).1, (hq3 b hb).1], hab⟩) hpw3, fun a ha b hb => .inl ?_⟩
          rw [(hq3 b hb).1]
          exact (hq a ha).2.2
    · rintro σ' H' ⟨g, _, l, us, ws, y5, y6, hl, hl', hr, hq, hpw, hlen, rfl⟩
      rw [Int.toNat_natCast] at hlen
      refine s_retD (d := netD n ws) (ed_tup (er_cons (evd_v (ev_v rfl) (.int _)) (er_cons (ed_tupL (evd_v (ev_v rfl) (.lst hl' hr)) (nol_prs ws)) er_nil)) (by show 2 ≤ 100000; decide)) fun u H3 e3 r3 => q n ws u H3 ⟨by omega, by omega, fun z hz => ⟨(hq z hz).1, (hq z hz).2.1⟩, hpw, by omega⟩ (by omega) r3 (g.exR e3)
end
end K96

set_option Elab.async false
set_option linter.all false
set_option maxRecDepth 100000
set_option maxHeartbeats 4000000
namespace K96
open PySem PySem.Spec PyProof.Rows L2 Evl My
section
variable {P : Program} {w : World} {K : PySem.W.Frag} {mg : Str → Option Value} {base : Heap}
abbrev s_law_same : Stmt := topS 15
theorem sc_law_same : FnScope ["due", "answer", "key", "k"] ["due", "answer"] (defScope s_law_same) := ⟨rfl, rfl, rfl, by decide +kernel, rfl, by decide +kernel, by decide +kernel⟩
/- 0 due*, 1 answer*, 2 key, 3 k -/
def ok_same (h : Nat) (vs : List V) (H : Hp) (z : V) : Prop := ∃ (a b : V) (d : D), vs = [a, b] ∧ Rep H a d ∧ Rep H b d ∧ Wid d ∧ height d < h ∧ z = .bl true
theorem fn_same {f : Addr} {fd : FuncData} {k h : Nat} (F : Fun K "_law_same" "_law_same" s_law_same f fd) (N : Nb mg) (C_law_same : Cal P w K mg base k "_law_same" ["due", "answer"] (spV (ok_same h))) : FnOk P w K mg base CX0 (k + 1) f fd ["due", "answer"] (spV (ok_same (h + 1))) := by
  refine F.ok sc_law_same (fun vs H Q E h => ?_) (fun cdv A outer s H vs Q E hr h => ?_)
  · obtain ⟨_, ⟨_, _, _, rfl, _⟩, _⟩ := h
    rfl
  · obtain ⟨_, ⟨a, b, d, rfl, r1, r2, hw, hh, hz⟩, q⟩ := h
    rw [hz] at q
    refine ⟨_, (pss_cons (ps_if (pt_val (pe_callB call_isi (by rfl) N.isinstance PyProof.Rows.boot_isinstance (pa_cons (pv 0) (pa_cons (pe_bltn (v := .ty "dict") (by rfl) N.dict PyProof.Rows.boot_dict rfl) pa_nil)))) pss_never pss_nil)
      (pss_cons (ps_if (PW.pt (pw_or (pt_val (pe_callB call_isi (by rfl) N.isinstance PyProof.Rows.boot_isinstance (pa_cons (pv 0) (pa_cons (pe_bltn (v := .ty "list") (by rfl) N.list PyProof.Rows.boot_list rfl) pa_nil)))) (pw_or1 (pt_val (pe_callB call_isi (by rfl) N.isinstance PyProof.Rows.boot_isinstance (pa_cons (pv 0) (pa_cons (pe_bltn (v := .ty "tuple") (by rfl) N.tuple PyProof.Rows.boot_tuple rfl) pa_nil))))))) (pss_cons (ps_if (PW.pt (pw_or (pt_cmpR op_ne (pe_callB call_isi (by rfl) N.isinstance PyProof.Rows.boot_isinstance (pa_cons (pv 0) (pa_cons (pe_bltn (v := .ty "list") (by rfl) N.list PyProof.Rows.boot_list rfl) pa_nil))) (pe_callB call_isi (by rfl) N.isinstance PyProof.Rows.boot_isinstance (pa_cons (pv 1) (pa_cons (pe_bltn (v := .ty "list") (by rfl) N.list PyProof.Rows.boot_list rfl) pa_nil))) (nomark _)) (pw_or1 (pt_cmpR op_ne (pe_callB call_isi (by rfl) N.isinstance PyProof.Rows.boot_isinstance (pa_cons (pv 0) (pa_cons (pe_bltn (v := .ty "tuple") (by rfl) N.tuple PyProof.Rows.boot_tuple rfl) pa_nil))) (pe_callB call_isi (by rfl) N.isinstance PyProof.Rows.boot_isinstance (pa_cons (pv 1) (pa_cons (pe_bltn (v := .ty "tuple") (by rfl) N.tuple PyProof.Rows.boot_tuple rfl) pa_nil))) (nomark _))))) (pss_one (ps_ret pe_bl)) pss_nil)
      (pss_one (ps_ret (pe_and (pe_cmpR op_eq (pe_callB call_len_seq (by rfl) N.len PySem.boot_len (pa_cons (pv 0) pa_nil)) (pe_callB call_len_seq (by rfl) N.len PySem.boot_len (pa_cons (pv 1) pa_nil)) (nomark _)) (pe_one (pe_callB (cr_all rfl) (by rfl) N.all PyProof.Rows.boot_all (pa_cons (pe_lc (own := [("k", 3)]) (by rfl) sc_law_same.nd (pi_range1 rfl N.range (pa_cons (pe_callB call_len_seq (by rfl) N.len PySem.boot_len (pa_cons (pv 0) pa_nil)) pa_nil)) (blkOk_by (own := [("k", 3)]) (N := ["due", "answer", "key", "k"]) (sc := defScope s_law_same) (by decide +kernel)) (fun _ _ _ _ _ => (pg_name (i := 3) sc_law_same.nd rfl (Or.inl rfl))) (fun _ _ _ _ _ => pts_nil) (fun _ _ _ _ _ => (pe_cal C_law_same hr (pa_cons (pe_ix (r := rIx K) ix_seq (pv 0) (pv 3) (fun _ _ => rfl)) (pa_cons (pe_ix (r := rIx K) ix_seq (pv 1) (pv 3) (fun _ _ => rfl)) pa_nil))))) pa_nil))))))) pss_nil)
      (pss_cons (ps_if (PW.pt (pw_or (pt_cmpR op_isN (pv 0) pe_non (nomark _)) (pw_or1 (pt_cmpR op_isN (pv 1) pe_non (nomark _))))) (pss_one (ps_ret (pe_and (pe_cmpR op_isN (pv 0) pe_non (nomark _)) (pe_one (pe_cmpR op_isN (pv 1) pe_non (nomark _)))))) pss_nil)
      (pss_cons (ps_if (PW.pt (pw_or (pt_val (pe_callB call_isi (by rfl) N.isinstance PyProof.Rows.boot_isinstance (pa_cons (pv 0) (pa_cons (pe_bltn (v := .ty "bool") (by rfl) N.bool PyProof.Rows.boot_bool rfl) pa_nil)))) (pw_or1 (pt_val (pe_callB call_isi (by rfl) N.isinstance PyProof.Rows.boot_isinstance (pa_cons (pv 1) (pa_cons (pe_bltn (v := .ty "bool") (by rfl) N.bool PyProof.Rows.boot_bool rfl) pa_nil))))))) (pss_one (ps_ret (pe_and (pe_callB call_isi (by rfl) N.isinstance PyProof.Rows.boot_isinstance (pa_cons (pv 0) (pa_cons (pe_bltn (v := .ty "bool") (by rfl) N.bool PyProof.Rows.boot_bool rfl) pa_nil))) (pe_and (pe_callB call_isi (by rfl) N.isinstance PyProof.Rows.boot_isinstance (pa_cons (pv 1) (pa_cons (pe_bltn (v := .ty "bool") (by rfl) N.bool PyProof.Rows.boot_bool rfl) pa_nil))) (pe_one (pe_cmpR op_eq (pv 0) (pv 1) (nomark _))))))) pss_nil)
      (pss_cons (ps_if (pt_val (pe_callB call_isi (by rfl) N.isinstance PyProof.Rows.boot_isinstance (pa_cons (pv 0) (pa_cons (pe_bltn (v := .ty "str") (by rfl) N.str PyProof.Rows.boot_str rfl) pa_nil)))) (pss_one (ps_ret (pe_and (pe_callB call_isi (by rfl) N.isinstance PyProof.Rows.boot_isinstance (pa_cons (pv 1) (pa_cons (pe_bltn (v := .ty "str") (by rfl) N.str PyProof.Rows.boot_str rfl) pa_nil))) (pe_one (pe_cmpR op_eq (pv 0) (pv 1) (nomark _)))))) pss_nil)
      (pss_one (ps_ret (pe_and (pe_callB call_isi (by rfl) N.isinstance PyProof.Rows.boot_isinstance (pa_cons (pv 1) (pa_cons (pe_bltn (v := .ty "int") (by rfl) N.int PyProof.Rows.boot_int rfl) pa_nil))) (pe_one (pe_cmpR op_eq (pv 0) (pv 1) (nomark _))))))))))), ?_⟩
    have isi0 : ∀ {T : String} {σ : L2.St} {H' : Hp} {c : Bool}, Ex H H' → σ[0]? = some (some a) → kitB (tyD d) T = some c → Ev (tCB (rIsi K) (tCons (tVar 0) (tCons (tC (.ty T)) tNil))) σ H' (.bl c) := fun e hv hk => ev_isi (ev_v hv) (r1.mono e) hk
    have isi1 : ∀ {T : String} {σ : L2.St} {H' : Hp} {c : Bool}, Ex H H' → σ[1]? = some (some b) → kitB (tyD d) T = some c → Ev (tCB (rIsi K) (tCons (tVar 1) (tCons (tC (.ty T)) tNil))) σ H' (.bl c) := fun e hv hk => ev_isi (ev_v hv) (r2.mono e) hk
    refine q_when (et_test (isi0 (Ex.refl H) rfl (kDD d))) (fun z => nomatch z) fun _ H1 e1 => ?_
    refine q_when (b := isLD d || isTD d) (et_or (et_test (isi0 e1 rfl (kLD d))) fun _ => et_test (isi0 e1 rfl (kTD d))) (fun hb H2 e2 => ?_) fun hb H2 e2 => ?_
    · have E2 := e1.trans e2
      refine q_when (b := false) (et_is (et_or (et_test (ev_op (isi0 E2 rfl (kLD d)) (isi1 E2 rfl (kLD d)) (rv_ne rfl))) fun _ => et_test (ev_op (isi0 E2 rfl (kTD d)) (isi1 E2 rfl (kTD d)) (rv_ne rfl))) (by simp)) (fun z => nomatch z) fun _ H3 e3 => ?_
      have E3 := E2.trans e3
      have core : ∃ (a1 b1 : Addr) (us ws : List V) (ds : List D), a = .ref a1 ∧ b = .ref b1 ∧ (SqL K H a1 us ∨ SqT K H a1 us) ∧ (SqL K H b1 ws ∨ SqT K H b1 ws) ∧ Reps H us ds ∧ Reps H ws ds ∧ ds.length ≤ 10000 ∧ WidL ds ∧ heightL ds < h := by
        cases r2 with
        | tup e2 rs2 =>
          cases r1 with
          | tup e1 rs1 =>
            rw [Wid] at hw
            rw [height] at hh
            exact ⟨_, _, _, _, _, rfl, rfl, .inr (st_of e1), .inr (st_of e2), rs1, rs2, hw.1, hw.2, by omega⟩
        | lst e2 rs2 =>
          cases r1 with
          | lst e1 rs1 =>
            rw [Wid] at hw
            rw [height] at hh
            exact ⟨_, _, _, _, _, rfl, rfl, .inl (sq_of e1), .inl (sq_of e2), rs1, rs2, hw.1, hw.2, by omega⟩
        | non => exact nomatch hb
        | bl c => exact nomatch hb
        | int i => exact nomatch hb
        | str l => exact nomatch hb
      obtain ⟨a1, b1, us, ws, ds, rfl, rfl, s1, s2, rs1, rs2, hn, hW, hH⟩ := core
      have l1 := rs1.len
      have l2 := rs2.len
      refine s_ret (ev_andV (a := true) (b := true) (ev_is (ev_op (ev_lenQ (ev_v rfl) (ex_q E3 s1)) (ev_lenQ (ev_v rfl) (ex_q E3 s2)) (rv_eq rfl)) (by rw [l1, l2, decide_eq_true rfl])) fun _ => ev_is (ev_all (bs := (List.range ds.length).map fun _ => true) ?_) (by simp)) fun H4 e4 => q H4 (E3.trans e4)
      have hg : ((List.range ds.length).map fun _ => true).map V.bl = given ((ds.length : Int)).toNat (fun _ => true) (fun _ => .bl true) := by
        rw [Int.toNat_natCast, given_all, List.map_map]
        rfl
      rw [hg]
      refine el_lcR1 (fun _ => true) (fun _ => .bl true) (n := (ds.length : Int)) (ea_cons (ev_is (ev_lenQ (ev_v rfl) (ex_q E3 s1)) (by rw [l1])) ea_nil) (by omega) (fun _ => rfl) (fun i H4 e4 hi => et_yes) fun i H4 e4 hi _ => ?_
      obtain ⟨d, gd⟩ : ∃ d, ds[i]? = some d := ⟨_, List.getElem?_eq_getElem (by omega)⟩
      obtain ⟨v1, hv1, rv1⟩ := rs1.get gd
      obtain ⟨v2, hv2, rv2⟩ := rs2.get gd
      have gh := heightL_get gd
      have E4 := E3.trans e4
      exact ev_cal (ea_cons (ev_op (ev_v rfl) (ev_v rfl) (rv_ixQ (ex_q E4 s1) hv1)) (ea_cons (ev_op (ev_v rfl) (ev_v rfl) (rv_ixQ (ex_q E4 s2) hv2)) ea_nil)) fun H5 e5 => ⟨v1, v2, d, rfl, rv1.mono (E4.trans e5), rv2.mono (E4.trans e5), WidL_get hW gd, by omega, rfl⟩
    have E2 := e1.trans e2
    cases r2 with
    | tup _ _ => exact nomatch hb
    | lst _ _ => exact nomatch hb
    | non =>
      cases r1
      refine q_when (b := true) (et_or (a := true) (b := false) (et_test (ev_isNv rfl (by rfl))) fun z => nomatch z) (fun _ H4 e4 => ?_) fun z => nomatch z
      exact s_ret (ev_andV (a := true) (b := true) (ev_isNv rfl (by rfl)) fun _ => ev_isNv rfl (by rfl)) fun H5 e5 => q H5 ((E2.trans e4).trans e5)
    | bl c =>
      cases r1
      refine q_when (b := false) (et_or (a := false) (b := false) (et_test (ev_isNv rfl (by rfl))) fun _ => et_test (ev_isNv rfl (by rfl))) (fun z => nomatch z) fun _ H4 e4 => ?_
      refine q_when (b := true) (et_or (a := true) (b := false) (et_test (isi0 (E2.trans e4) rfl (kBD _))) fun z => nomatch z) (fun _ H5 e5 => ?_) fun z => nomatch z
      exact s_ret (ev_andV (a := true) (b := true) (isi0 ((E2.trans e4).trans e5) rfl (kBD _)) fun _ => ev_andV (a := true) (b := true) (isi1 ((E2.trans e4).trans e5) rfl (kBD _)) fun _ => ev_is (ev_op (ev_v rfl) (ev_v rfl) (rv_eq (by cases c <;> rfl))) (by rw [decide_eq_true rfl])) fun H6 e6 => q H6 (((E2.trans e4).trans e5).trans e6)
    | str l =>
      cases r1
      refine q_when (b := false) (et_or (a := false) (b := false) (et_test (ev_isNv rfl (by rfl))) fun _ => et_test (ev_isNv rfl (by rfl))) (fun z => nomatch z) fun _ H4 e4 => ?_
      refine q_when (b := false) (et_or (a := false) (b := false) (et_test (isi0 (E2.trans e4) rfl (kBD _))) fun _ => et_test (isi1 (E2.trans e4) rfl (kBD _))) (fun z => nomatch z) fun _ H5 e5 => ?_
      have E5 := (E2.trans e4).trans e5
      refine q_when (b := true) (et_test (isi0 E5 rfl (kSD _))) (fun _ H6 e6 => ?_) fun z => nomatch z
      exact s_ret (ev_andV (a := true) (b := true) (isi1 (E5.trans e6) rfl (kSD _)) fun _ => ev_is (ev_op (ev_v rfl) (ev_v rfl) (rv_eq rfl)) (by rw [decide_eq_true rfl])) fun H7 e7 => q H7 ((E5.trans e6).trans e7)
    | int i =>
      cases r1
      refine q_when (b := false) (et_or (a := false) (b := false) (et_test (ev_isNv rfl (by rfl))) fun _ => et_test (ev_isNv rfl (by rfl))) (fun z => nomatch z) fun _ H4 e4 => ?_
      refine q_when (b := false) (et_or (a := false) (b := false) (et_test (isi0 (E2.trans e4) rfl (kBD _))) fun _ => et_test (isi1 (E2.trans e4) rfl (kBD _))) (fun z => nomatch z) fun _ H5 e5 => ?_
      have E5 := (E2.trans e4).trans e5
      refine q_when (b := false) (et_test (isi0 E5 rfl (kSD _))) (fun z => nomatch z) fun _ H6 e6 => ?_
      exact s_ret (ev_andV (a := true) (b := true) (isi1 (E5.trans e6) rfl (kID _)) fun _ => ev_is (ev_op (ev_v rfl) (ev_v rfl) (rv_eq rfl)) (by rw [decide_eq_true rfl])) fun H7 e7 => q H7 ((E5.trans e6).trans e7)
theorem cal_same {f : Addr} {fd : FuncData} {k : Nat} (F : Fun K "_law_same" "_law_same" s_law_same f fd) (hb : Binds K fd ["due", "answer"] []) (hk : PySem.W.keepIn K (.ref f) = true) (hm : mg "_law_same" = some (.ref f)) (N : Nb mg) : ∀ h, Cal P w K mg base (k + h) "_law_same" ["due", "answer"] (spV (ok_same h))
  | 0 => ⟨f, fd, ⟨fun vs H Q E h => by obtain ⟨_, ⟨_, _, _, _, _, _, _, h, _⟩, _⟩ := h; exact (Nat.not_lt_zero _ h).elim, fun A outer s H args us vs Q E _ _ _ _ h => by obtain ⟨_, ⟨_, _, _, _, _, _, _, h, _⟩, _⟩ := h; exact (Nat.not_lt_zero _ h).elim⟩, hb, hk, hm⟩
  | h + 1 => ⟨f, fd, fn_same F N (cal_same F hb hk hm N h), hb, hk, hm⟩
end
end K96

set_option Elab.async false
set_option linter.all false
set_option maxRecDepth 100000
set_option maxHeartbeats 4000000
namespace K96
open PySem PySem.Spec PyProof.Rows L2 Evl My
/-! the law -/
def rNinDT (K : PySem.W.Frag) : R2 := fun x y H Q => ∃ d ds, Dp K H x d ∧ Dp K H y (.tuple ds) ∧ SeqAt.shaped d = true ∧ SeqAt.shaped (.tuple ds) = true ∧ Q (.bl (!ds.any fun z => PyData.eqv z d)) H
theorem op_ninDT {X : Cx} (hu : X.A.units + 65 < cLine) : OpR X (compareOp .NotIn) (rNinDT X.K) := by
  intro pins s σ H x y v u Q I rx ry h
  obtain ⟨d, ds, hd, he, sd, se, q⟩ := h
  obtain ⟨as, r1⟩ := Dp.reads I d x v hd rx
  obtain ⟨bs, r2⟩ := Dp.reads I (.tuple ds) y u he ry
  exact SeqAt.notIn_tuple_reads r2 r1 (SeqAt.canLay_of_shaped se) (SeqAt.canLay_of_shaped sd) (room_in_shaped sd hu) ⟨.bl _, H, I, rfl, q⟩
section
variable {K : PySem.W.Frag} {σ : L2.St} {H : Hp} {ta tb te : TE}
theorem ev_ninDT {d : D} {ds : List D} (ha : EvD ta σ H d) (hb : EvD tb σ H (.tup ds)) (sd : SeqAt.shaped (pyD d) = true) (se : SeqAt.shaped (pyD (.tup ds)) = true) : Ev (tOp (rNinDT K) ta tb) σ H (.bl (!(pyDL ds).any fun z => PyData.eqv z (pyD d))) := fun H1 e1 Q q =>
  ha H1 e1 _ fun x H2 e2 r1 => hb H2 (e1.trans e2) _ fun y H3 e3 r2 => ⟨pyD d, pyDL ds, dp_of (r1.mono e3), by
    have := dp_of (K := K) r2
    rw [pyD] at this
    exact this, sd, by rw [pyD] at se; exact se, q H3 (e2.trans e3)⟩
theorem ev_neDD {d e : D} (ha : EvD ta σ H d) (hb : EvD tb σ H e) (sd : SeqAt.shaped (pyD d) = true) (se : SeqAt.shaped (pyD e) = true) : Ev (tOp (rNeD K) ta tb) σ H (.bl (!PyData.eqv (pyD d) (pyD e))) := fun H1 e1 Q q =>
  ha H1 e1 _ fun v H2 e2 r2 => hb H2 (e1.trans e2) _ fun u H3 e3 r3 => ⟨_, _, dp_of (r2.mono e3), dp_of r3, sd, se, q H3 (e2.trans e3)⟩
theorem ev_notB {a b : Bool} (h : Ev te σ H (.bl a)) : Ev (tOp rNotB te (tC (.bl b))) σ H (.bl (!decide (a = b))) := fun H1 e Q q => h H1 e _ fun H2 e2 => ⟨a, b, rfl, rfl, q H2 e2⟩
theorem ev_notN {v : V} (h : Ev te σ H v) : Ev (tOp (fun x y H Q => y = .non ∧ Q (.bl (!decide (x = .non))) H) te (tC .non)) σ H (.bl (!decide (v = .non))) := fun H1 e Q q => h H1 e _ fun H2 e2 => ⟨rfl, q H2 e2⟩
theorem ev_ixNL {j : Nat} {v : V} {xs : List V} (ha : EvL ta σ H xs) (hb : Ev tb σ H (.int (j : Int))) (hx : xs[j]? = some v) : Ev (tOp (rIxL K) ta tb) σ H v := fun H1 e Q q => ha H1 e _ fun p H2 hp e2 h2 => hb H2 (e.trans e2) _ fun H3 e3 => rv_ixLn (sq_of (e3 _ _ h2)) hx H3 (Ex.refl _) _ fun H4 e4 => q H4 ((e2.trans e3).trans e4)
theorem r_notT {tt : TT} {B : Bool → Hp → Prop} (h : tt σ H fun b H1 => B (!b) H1) : tNot tt σ H B := h
end
section
variable {K : PySem.W.Frag} {σ : L2.St} {H : Hp} {p sc : Addr} {ns : List Int} {D : Ends} {tu tz : TS} {ta : TA}
/-- a loop as often as is drawn, at least lo times -/
theorem q_forGl {j : Nat} (lo M : Nat) (hM : M ≤ 1000) (ht : ∀ R : List V → Hp → Prop, (∀ (m : Nat) H1, lo ≤ m → m ≤ M → G K p sc ns H H1 → R [.int (m : Int)] H1) → ta σ H R) (Pv : Nat → L2.St → Hp → Prop) (h0 : ∀ H1, G K p sc ns H H1 → Pv 0 σ H1)
    (hs : ∀ (i : Nat) σ' H', i < M → Pv i σ' H' → tu { D with nx := Pv (i + 1), ct := Pv (i + 1), bk := tz D } (σ'.set j (some (.int (i : Int)))) H') (hd : ∀ i σ' H', lo ≤ i → i ≤ M → Pv i σ' H' → tz D σ' H') : tSeq (tFor (iRng1 ta) (gName j) tu) tz D σ H :=
  ht _ fun m H1 hlo hm g => ⟨m, rfl, by omega, by omega, by
    rw [Int.toNat_natCast]
    exact for_range (n := m) (D := { D with nx := tz D }) Pv (h0 H1 g) (fun i σ' H' hi p => by
      have e0 : (0 : Int) + (i : Int) = (i : Int) := Int.zero_add _
      show tu _ (σ'.set j (some (.int ((0 : Int) + (i : Int))))) H'
      rw [e0]
      exact hs i σ' H' (by omega) p) fun σ' H' p => hd m σ' H' hlo hm p⟩
end
section
variable {K : PySem.W.Frag} {H : Hp} {n : Nat} {a0 a1 a2 a3 a5 a6 a7 a8 a9 a10 a11 a12 a13 a14 a15 a16 : Option V}
theorem ed_firstF (hn : n ≤ 8) : EvD (tCB (rTupS K) (tCons (tLc (iRng1 (tCons (tVar 4) tNil)) (gName 9) tYes (tOp (rI CPow fun i j => .int (i * 2 ^ j.toNat)) (tC (.int 1)) (tVar 9)) [9]) tNil)) [a0, a1, a2, a3, some (.int (n : Int)), a5, a6, a7, a8, a9, a10, a11, a12, a13, a14, a15, a16] H (rndD (firstF n)) := by
  refine ed_nats (eu_tupL (el_is (el_lcR1 (n := (n : Int)) (fun _ => true) (fun k => .int ((1 <<< k : Nat) : Int)) (ea_cons (ev_v rfl) ea_nil) (by omega) (fun _ => rfl) (fun k H2 e2 hk => et_yes) fun k H2 e2 hk _ => ev_op (ev_cn 1) (ev_v rfl) (rv_shlN (by decide) (by omega))) ?_))
  rw [Int.toNat_natCast, given_all]
  unfold firstF nats
  rw [List.map_map]
  rfl
theorem ed_wholeF (hn : n ≤ 8) : EvD (tCB (rTupS K) (tCons (tLc (iRng1 (tCons (tVar 4) tNil)) (gName 9) tYes (tOp (rI0 fun i j => .int (i - j)) (tOp (rI CPow fun i j => .int (i * 2 ^ j.toNat)) (tC (.int 1)) (tVar 4)) (tC (.int 1))) [9]) tNil)) [a0, a1, a2, a3, some (.int (n : Int)), a5, a6, a7, a8, a9, a10, a11, a12, a13, a14, a15, a16] H (rndD (wholeF n)) := by
  refine ed_nats (eu_tupL (el_is (el_lcR1 (n := (n : Int)) (fun _ => true) (fun k => .int ((1 <<< n - 1 : Nat) : Int)) (ea_cons (ev_v rfl) ea_nil) (by omega) (fun _ => rfl) (fun k H2 e2 hk => et_yes) fun k H2 e2 hk _ => ev_op (ev_op (ev_cn 1) (ev_v rfl) (rv_shlN (by decide) (by omega))) (ev_cn 1) (rv_subN ?_)) ?_))
  · rw [Nat.shiftLeft_eq, Nat.one_mul]
    exact Nat.pow_pos (by decide)
  · rw [Int.toNat_natCast, given_all]
    unfold wholeF nats
    rw [List.map_map]
    rfl
end
theorem wid_ints : ∀ xs : List Nat, WidL (xs.map fun (x : Nat) => D.int (x : Int)) ∧ heightL (xs.map fun (x : Nat) => D.int (x : Int)) = 0
  | [] => ⟨by rw [List.map_nil, WidL]; trivial, by rw [List.map_nil, heightL]⟩
  | x :: xs => by
    obtain ⟨h1, h2⟩ := wid_ints xs
    rw [List.map_cons]
    simp [WidL, heightL, Wid, height, h1, h2]
theorem wid_rnd {xs : List Nat} (h : xs.length ≤ 10000) : Wid (rndD xs) ∧ height (rndD xs) < 3 := by
  obtain ⟨h1, h2⟩ := wid_ints xs
  unfold rndD
  rw [Wid, height, h2, List.length_map]
  exact ⟨⟨h, h1⟩, by omega⟩
theorem wid_bl (b : Bool) : Wid (.bl b) ∧ height (.bl b) < 3 := by simp [Wid, height]
theorem rnd_len {ws : List Pr} {r : List Nat} (h : IsRnd ws r) : r.length ≤ 4 := by
  rcases h with ⟨rfl, _⟩ | ⟨a, b, c, d, rfl, _⟩
  · exact Nat.zero_le _
  · exact Nat.le_refl 4
theorem run_len_n {n : Nat} (ts : List Pr) : (runF (firstF n) ts).length = n := by rw [run_len, first_len]
section
variable {K : PySem.W.Frag} {σ : L2.St} {H : Hp} {te : TE} {n : Nat} {ws : List Pr} {r : List Nat}
theorem ed_rnd {i : Nat} {v : V} (hv : σ[i]? = some (some v)) (hR : Rep H v (netD n ws)) (hn : NetOk n ws) (hr : IsRnd ws r) : EvD (tCall (sp_rnd K) [] E0 (tCons (tVar i) tNil)) σ H (rndD r) := fun H1 e Q q =>
  r_call (r_cons (r_var hv (r_nil ⟨v, n, ws, rfl, hR.mono e, hn, fun r' u H' hr' e' rep => by
    rw [rnd_unique hr' hr] at rep
    exact q u H' e' rep⟩)))
end
section
variable {P : Program} {w : World} {K : PySem.W.Frag} {mg : Str → Option Value} {base : Heap}
abbrev s_law : Stmt := topS 21
theorem sc_law : FnScope ["script", "pool", "trial", "net", "n", "joined", "told", "few", "first", "k", "whole", "here", "i", "j", "talks", "known", "right"] ["script"] (defScope s_law) := ⟨rfl, rfl, rfl, by decide +kernel, rfl, by decide +kernel, by decide +kernel⟩
/- 0 script, 1 pool, 2 trial, 3 net, 4 n*, 5 joined, 6 told, 7 few, 8 first, 9 k, 10 whole, 11 here, 12 i, 13 j, 14 talks, 15 known, 16 right -/
def sp_law (K : PySem.W.Frag) : Sp := fun vs H Q _ => ∃ (sc : Addr) (ns : List Int), vs = [.ref sc] ∧ SqL K H sc (ns.map V.int) ∧ ∀ H', Q (.bl true) H'
theorem fn_law {f : Addr} {fd : FuncData} {k : Nat} (F : Fun K "law" "law" s_law f fd) (N : Nb mg) (C_law_pool : Cal P w K mg base k "_law_pool" ["script"] (spL (ok_pool_ K))) (C_law_draw : Cal P w K mg base k "_law_draw" ["pool", "limit"] (sp_draw K)) (C_law_pick : Cal P w K mg base k "_law_pick" ["pool", "options"] (sp_pick K))
    (C_law_net : Cal P w K mg base k "_law_net" ["pool", "most"] (sp_net K)) (C_law_joined : Cal P w K mg base k "_law_joined" ["net"] (sp_joined K)) (C_law_same : Cal P w K mg base k "_law_same" ["due", "answer"] (spV (ok_same 3))) (C_connected : Cal P w K mg base k "connected" ["net"] (sp_conn K)) (C_law_round : Cal P w K mg base k "_law_round" ["net"] (sp_rnd K)) (C_round_of_four : Cal P w K mg base k "round_of_four" ["net"] (sp_rnd K))
    (C_talks_for : Cal P w K mg base k "talks_for" ["net"] (sp_talks K)) (C_informs : Cal P w K mg base k "informs" ["net", "talks"] (spV ok_inf)) (C_law_spread : Cal P w K mg base k "_law_spread" ["known", "i", "j"] (spD ok_spread)) (C_law_shortest : Cal P w K mg base k "_law_shortest" ["net", "first", "whole"] (sp_short K)) : FnOk P w K mg base CX0 (k + 1) f fd ["script"] (sp_law K) := by
  refine F.ok sc_law (fun vs H Q E h => ?_) (fun cdv A outer s H vs Q E hr h => ?_)
  · obtain ⟨_, _, rfl, _⟩ := h
    rfl
  · obtain ⟨sc, ns, rfl, hS, q⟩ := h
    refine ⟨_, (pss_cons (ps_set (i := 1) sc_law.nd rfl (Or.inl rfl) (pe_cal C_law_pool hr (pa_cons (pv 0) pa_nil)))
      (pss_cons (ps_for PassesOwn.never rfl (pi_range1 rfl N.range (pa_cons pe_int pa_nil)) (pg_name (i := 2) sc_law.nd rfl (Or.inl rfl)) (pss_cons (ps_set (i := 3) sc_law.nd rfl (Or.inl rfl) (pe_cal C_law_net hr (pa_cons (pv 1) (pa_cons (pe_ifExp (pt_cmpR op_lt (pv 2) pe_int (nomark _)) pe_int pe_int) pa_nil))))
      (pss_cons (ps_set (i := 4) sc_law.nd rfl (Or.inr rfl) (pe_ix ix_tup (pv 3) pe_int (fun _ _ => rfl)))
      (pss_cons (ps_set (i := 5) sc_law.nd rfl (Or.inl rfl) (pe_cal C_law_joined hr (pa_cons (pv 3) pa_nil)))
      (pss_cons (ps_if (PW.pt (pw_or (pt_not (pt_val (pe_cal C_law_same hr (pa_cons (pv 5) (pa_cons (pe_cal C_connected hr (pa_cons (pv 3) pa_nil)) pa_nil))))) (pw_or1 (pt_not (pt_val (pe_cal C_law_same hr (pa_cons (pe_cal C_law_round hr (pa_cons (pv 3) pa_nil)) (pa_cons (pe_cal C_round_of_four hr (pa_cons (pv 3) pa_nil)) pa_nil)))))))) (pss_one (ps_ret pe_bl)) pss_nil)
      (pss_cons (ps_set (i := 6) sc_law.nd rfl (Or.inl rfl) (pe_cal C_talks_for hr (pa_cons (pv 3) pa_nil)))
      (pss_cut (ps_if (pt_not (pt_val (pv 5))) (pss_one (ps_if (pt_cmpR op_notN (pv 6) pe_non (nomark _)) (pss_one (ps_ret pe_bl)) pss_nil)) (pss_cons (ps_set (i := 7) sc_law.nd rfl (Or.inl rfl) (pe_ifExp (pt_cmpR op_lt (pv 4) pe_int (nomark _)) (pe_ix ix_list (pe_lst (pa_cons pe_int (pa_cons pe_int (pa_cons pe_int pa_nil)))) (pe_op op_sub (pv 4) pe_int) (fun _ _ => rfl)) (pe_ifExp (pt_cmpR (op_neT hr.units) (pe_cal C_law_round hr (pa_cons (pv 3) pa_nil)) (pe_tup pa_nil) (nomark _)) (pe_op op_sub (pe_op op_mul pe_int (pv 4)) pe_int) (pe_op op_sub (pe_op op_mul pe_int (pv 4)) pe_int))))
      (pss_cons (ps_if (PW.pt (pw_or (pt_cmpR op_ne (pe_callB call_len_seq (by rfl) N.len PySem.boot_len (pa_cons (pv 6) pa_nil)) (pv 7) (nomark _)) (pw_or1 (pt_cmpR op_notBl (pe_cal C_informs hr (pa_cons (pv 3) (pa_cons (pv 6) pa_nil))) pe_bl (nomark _))))) (pss_one (ps_ret pe_bl)) pss_nil)
      (pss_cons (ps_set (i := 8) sc_law.nd rfl (Or.inl rfl) (pe_callTy call_tuple_of (by rfl) N.tuple PyProof.Rows.boot_tuple (pa_cons (pe_lc (own := [("k", 9)]) (by rfl) sc_law.nd (pi_range1 rfl N.range (pa_cons (pv 4) pa_nil)) (blkOk_by (own := [("k", 9)]) (N := ["script", "pool", "trial", "net", "n", "joined", "told", "few", "first", "k", "whole", "here", "i", "j", "talks", "known", "right"]) (sc := defScope s_law) (by decide +kernel)) (fun _ _ _ _ _ => (pg_name (i := 9) sc_law.nd rfl (Or.inl rfl))) (fun _ _ _ _ _ => pts_nil) (fun _ _ _ _ _ => (pe_op op_shl pe_int (pv 9)))) pa_nil)))
      (pss_cons (ps_set (i := 10) sc_law.nd rfl (Or.inl rfl) (pe_callTy call_tuple_of (by rfl) N.tuple PyProof.Rows.boot_tuple (pa_cons (pe_lc (own := [("k", 9)]) (by rfl) sc_law.nd (pi_range1 rfl N.range (pa_cons (pv 4) pa_nil)) (blkOk_by (own := [("k", 9)]) (N := ["script", "pool", "trial", "net", "n", "joined", "told", "few", "first", "k", "whole", "here", "i", "j", "talks", "known", "right"]) (sc := defScope s_law) (by decide +kernel)) (fun _ _ _ _ _ => (pg_name (i := 9) sc_law.nd rfl (Or.inl rfl))) (fun _ _ _ _ _ => pts_nil) (fun _ _ _ _ _ => (pe_op op_sub (pe_op op_shl pe_int (pv 4)) pe_int))) pa_nil)))
      (pss_cons (ps_set (i := 11) sc_law.nd rfl (Or.inl rfl) (pv 8))
      (pss_cons (ps_for PassesOwn.never rfl (pi_tup (pv 6)) (pg_tup rfl (pgs_cons (pg_name (i := 12) sc_law.nd rfl (Or.inl rfl)) (pgs_cons (pg_name (i := 13) sc_law.nd rfl (Or.inl rfl)) pgs_nil))) (pss_cons (ps_if (pt_cmpR (op_ninDT (un65 hr)) (pe_tup (pa_cons (pe_callB (call_min2 rfl) (by rfl) N.min PyProof.Rows.boot_min (pa_cons (pv 12) (pa_cons (pv 13) pa_nil))) (pa_cons (pe_callB (call_max2 rfl) (by rfl) N.max PyProof.Rows.boot_max (pa_cons (pv 12) (pa_cons (pv 13) pa_nil))) pa_nil))) (pe_ix ix_tup (pv 3) pe_int (fun _ _ => rfl)) rfl) (pss_one (ps_ret pe_bl)) pss_nil)
      (pss_one (ps_set (i := 11) sc_law.nd rfl (Or.inl rfl) (pe_cal C_law_spread hr (pa_cons (pv 11) (pa_cons (pv 12) (pa_cons (pv 13) pa_nil))))))))
      (pss_cons (ps_if (pt_cmpR (op_neD hr.units) (pv 11) (pv 10) (nomark _)) (pss_one (ps_ret pe_bl)) pss_nil)
      (pss_one (ps_if (PW.pt (pw_and (pt_cmpR op_lt (pv 4) pe_int (nomark _)) (pw_and (pt_cmpR op_lt (pe_callB call_len_seq (by rfl) N.len PySem.boot_len (pa_cons (pe_ix ix_tup (pv 3) pe_int (fun _ _ => rfl)) pa_nil)) pe_int (nomark _)) (pw_and1 (pt_cmpR op_ne (pe_callB call_len_seq (by rfl) N.len PySem.boot_len (pa_cons (pe_cal C_law_shortest hr (pa_cons (pv 3) (pa_cons (pv 8) (pa_cons (pv 10) pa_nil)))) pa_nil)) (pv 7) (nomark _)))))) (pss_one (ps_ret pe_bl)) pss_nil))))))))))
      (pss_cons (ps_set (i := 14) sc_law.nd rfl (Or.inl rfl) (pe_lst pa_nil))
      (pss_cons (ps_set (i := 15) sc_law.nd rfl (Or.inl rfl) (pe_callTy call_tuple_of (by rfl) N.tuple PyProof.Rows.boot_tuple (pa_cons (pe_lc (own := [("k", 9)]) (by rfl) sc_law.nd (pi_range1 rfl N.range (pa_cons (pv 4) pa_nil)) (blkOk_by (own := [("k", 9)]) (N := ["script", "pool", "trial", "net", "n", "joined", "told", "few", "first", "k", "whole", "here", "i", "j", "talks", "known", "right"]) (sc := defScope s_law) (by decide +kernel)) (fun _ _ _ _ _ => (pg_name (i := 9) sc_law.nd rfl (Or.inl rfl))) (fun _ _ _ _ _ => pts_nil) (fun _ _ _ _ _ => (pe_op op_shl pe_int (pv 9)))) pa_nil)))
      (pss_cons (ps_for PassesOwn.never rfl (pi_range1 rfl N.range (pa_cons (pe_cal C_law_draw hr (pa_cons (pv 1) (pa_cons pe_int pa_nil))) pa_nil)) (pg_name (i := 9) sc_law.nd rfl (Or.inl rfl)) (pss_one (ps_if (pt_cmpR (op_neT hr.units) (pe_ix ix_tup (pv 3) pe_int (fun _ _ => rfl)) (pe_tup pa_nil) (nomark _)) (pss_cons (ps_asg (pe_cal C_law_pick hr (pa_cons (pv 1) (pa_cons (pe_callTy call_list_of (by rfl) N.list PyProof.Rows.boot_list (pa_cons (pe_ix ix_tup (pv 3) pe_int (fun _ _ => rfl)) pa_nil)) pa_nil))) (pg_tup rfl (pgs_cons (pg_name (i := 12) sc_law.nd rfl (Or.inl rfl)) (pgs_cons (pg_name (i := 13) sc_law.nd rfl (Or.inl rfl)) pgs_nil))))
      (pss_cons (ps_expr (pe_bm PySem.F.plainAttrs_list PySem.F.slot_list_append PySem.F.type_list_append mt_append (pv 14) (pa_cons (pe_ifExp (pt_cmpR op_eq (pe_cal C_law_draw hr (pa_cons (pv 1) (pa_cons pe_int pa_nil))) pe_int (nomark _)) (pe_tup (pa_cons (pv 12) (pa_cons (pv 13) pa_nil))) (pe_tup (pa_cons (pv 13) (pa_cons (pv 12) pa_nil)))) pa_nil)))
      (pss_one (ps_set (i := 15) sc_law.nd rfl (Or.inl rfl) (pe_cal C_law_spread hr (pa_cons (pv 15) (pa_cons (pv 12) (pa_cons (pv 13) pa_nil)))))))) pss_nil)))
      (pss_cons (ps_set (i := 16) sc_law.nd rfl (Or.inl rfl) (pe_cmpR (op_eqD hr.units) (pv 15) (pe_callTy call_tuple_of (by rfl) N.tuple PyProof.Rows.boot_tuple (pa_cons (pe_lc (own := [("k", 9)]) (by rfl) sc_law.nd (pi_range1 rfl N.range (pa_cons (pv 4) pa_nil)) (blkOk_by (own := [("k", 9)]) (N := ["script", "pool", "trial", "net", "n", "joined", "told", "few", "first", "k", "whole", "here", "i", "j", "talks", "known", "right"]) (sc := defScope s_law) (by decide +kernel)) (fun _ _ _ _ _ => (pg_name (i := 9) sc_law.nd rfl (Or.inl rfl))) (fun _ _ _ _ _ => pts_nil) (fun _ _ _ _ _ => (pe_op op_sub (pe_op op_shl pe_int (pv 4)) pe_int))) pa_nil)) (nomark _)))
      (pss_cons (ps_if (pt_not (pt_val (pe_cal C_law_same hr (pa_cons (pv 16) (pa_cons (pe_cal C_informs hr (pa_cons (pv 3) (pa_cons (pe_callTy call_tuple_of (by rfl) N.tuple PyProof.Rows.boot_tuple (pa_cons (pv 14) pa_nil)) pa_nil))) pa_nil))))) (pss_one (ps_ret pe_bl)) pss_nil)
      (pss_one (ps_if (PW.pt (pw_or (pt_cmpR op_notBl (pe_cal C_informs hr (pa_cons (pv 3) (pa_cons (pe_op op_catA (pe_callTy call_tuple_of (by rfl) N.tuple PyProof.Rows.boot_tuple (pa_cons (pv 14) pa_nil)) (pe_tup (pa_cons (pe_tup (pa_cons (pe_op op_sub (pv 4) pe_int) (pa_cons (pv 4) pa_nil))) pa_nil))) pa_nil))) pe_bl (nomark _)) (pw_or1 (pt_cmpR op_notBl (pe_cal C_informs hr (pa_cons (pv 3) (pa_cons (pe_op op_catA (pe_tup (pa_cons (pe_tup (pa_cons pe_int (pa_cons pe_int pa_nil))) pa_nil)) (pe_callTy call_tuple_of (by rfl) N.tuple PyProof.Rows.boot_tuple (pa_cons (pv 14) pa_nil))) pa_nil))) pe_bl (nomark _))))) (pss_one (ps_ret pe_bl)) pss_nil))))))))))))))
      (pss_one (ps_ret pe_bl)))), ?_⟩
    have neE : ∀ {x y : Nat}, decide (V.int (x : Int) = V.int (y : Int)) = decide (x = y) := fun {x y} => decide_eq_decide.mpr ⟨fun h => by have := V.int.inj h; omega, fun h => by rw [h]⟩
    refine q_asgL (el_cal (ea_cons (ev_v rfl) ea_nil) fun H1 e1 => ⟨sc, ns, rfl, ex_l e1 hS, rfl⟩) fun p H1 hp e1 h1 => ?_
    have hP1 : Pool K H1 p sc ns := ⟨0, _, 0, h1, ex_l e1 hS⟩
    refine q_forR1 (n := ((4 : Nat) : Int)) (ea_cons (ev_cn 4) ea_nil) (by omega) (fun i σ' H' => G K p sc ns H1 H' ∧ ∃ a2 a3 a4 a5 a6 a7 a8 a9 a10 a11 a12 a13 a14 a15 a16 : Option V, σ' = [some (.ref sc), some (.ref p), a2, a3, a4, a5, a6, a7, a8, a9, a10, a11, a12, a13, a14, a15, a16]) (fun H2 e2 => ⟨G.ex e2 hP1, _, _, _, _, _, _, _, _, _, _, _, _, _, _, _, rfl⟩) ?_ ?_
    · rintro trial σ' H' htr ⟨g, a2, a3, a4, a5, a6, a7, a8, a9, a10, a11, a12, a13, a14, a15, a16, rfl⟩
      obtain ⟨most, hm1, hm8, hmost⟩ : ∃ most : Nat, 1 ≤ most ∧ most ≤ 8 ∧ most = (if trial < 3 then 5 else 8) := ⟨_, by split <;> omega, by split <;> omega, rfl⟩
      refine r_asg (r_call (r_cons (r_var rfl (r_cons (r_ev (v := .int (most : Int)) (ev_if (b := decide (trial < 3)) (et_is (et_test (ev_op (ev_v rfl) (ev_cn 3) rv_I0)) (decide_eq_decide.mpr (by omega))) (fun hb => ev_is (ev_cn 5) (by rw [hmost, if_pos (of_decide_eq_true hb)])) fun hb => ev_is (ev_cn 8) (by rw [hmost, if_neg (of_decide_eq_false hb)])) (Ex.refl _) fun H2 e2 => r_nil ⟨p, sc, ns, most, rfl, g.2.ex e2, hm1, hm8, fun n ws nv H3 hn hnm hR g3 => ?_⟩)))))
      have G3 : G K p sc ns H1 H3 := (g.exR e2).trans g3
      clear g3 g e2 hmost
      have hn8 := hn.n8
      have hn1 := hn.n1
      obtain ⟨na, nb, wus, rfl, hna, hnb, hwus⟩ := net_at hR
      refine q_asg (v := .int (n : Int)) (ev_ixT (j := 0) (ev_v rfl) (ev_cn 0) (st_of hna) rfl) fun H4 e4 => ?_
      refine r_asg (r_call (r_cons (r_var rfl (r_nil ⟨_, n, ws, rfl, hR.mono e4, hn, fun jf H5 hjf e5 => ?_⟩))))
      have E5 := e4.trans e5
      refine r_when (r_or (r_notT (r_test (r_call (r_cons (r_var rfl (r_cons (r_call (r_cons (r_var rfl (r_nil ⟨_, n, ws, rfl, hR.mono E5, hn, fun tq H6 htq e6 => r_nil ⟨.bl true, ⟨_, _, .bl (decide (jf.length = n)), rfl, .bl _, ?_, (wid_bl _).1, (wid_bl _).2, rfl⟩, fun H7 e7 => ⟨true, rfl, ?_⟩⟩⟩)))))))))))
      · rw [show decide (tq.length = n) = decide (jf.length = n) from decide_eq_decide.mpr (join_same hn hjf htq).symm]
        exact .bl _
      have E7 := (E5.trans e6).trans e7
      rw [if_neg (show ¬ (!true) = true by decide)]
      refine r_notT (r_test (r_call (r_cons (r_call (r_cons (r_var rfl (r_nil ⟨_, n, ws, rfl, hR.mono E7, hn, fun r u1 H8 hr1 e8 rep1 => r_cons (r_call (r_cons (r_var rfl (r_nil ⟨_, n, ws, rfl, hR.mono (E7.trans e8), hn, fun r2 u2 H9 hr2 e9 rep2 => r_nil ⟨.bl true, ⟨u1, u2, rndD r, rfl, rep1.mono e9, by rw [rnd_unique hr1 hr2]; exact rep2, (wid_rnd (by have := rnd_len hr1; omega)).1, (wid_rnd (by have := rnd_len hr1; omega)).2, rfl⟩, fun H10 e10 => ⟨true, rfl, ?_⟩⟩⟩))))⟩)))))))
      have E10 := ((E7.trans e8).trans e9).trans e10
      rw [if_neg (show ¬ (!true) = true by decide)]
      refine r_asg (r_call (r_cons (r_var rfl (r_nil ⟨_, n, ws, rfl, hR.mono E10, hn, fun tq2 tv H11 htq2 e11 hcase => ?_⟩))))
      have E11 := E10.trans e11
      clear e4 e5 e6 e7 e8 e9 e10 e11 rep1 rep2 E5 E7 E10
      refine q_cut (M := fun σ' H' => Ex H3 H' ∧ ∃ a2 a5 a6 a7 a8 a9 a10 a11 a12 a13 a14 a15 a16 : Option V, σ' = [some (.ref sc), some (.ref p), a2, some (.ref na), some (.int (n : Int)), a5, a6, a7, a8, a9, a10, a11, a12, a13, a14, a15, a16]) ?_ ?_
      · refine s_if (b := !decide (jf.length = n)) (et_not (et_B (ev_v rfl))) (fun hb H12 e12 => ?_) fun hb H12 e12 => ?_
        · rw [Bool.not_eq_true'] at hb
          have hb := of_decide_eq_false hb
          rcases hcase with ⟨_, rfl⟩ | ⟨hc, _⟩
          · refine s_when (b := false) (et_test (ev_is (ev_notN (ev_v rfl)) rfl)) (fun z => nomatch z) fun _ H13 e13 => ⟨(E11.trans e12).trans e13, _, _, _, _, _, _, _, _, _, _, _, _, _, rfl⟩
          · exact absurd ((join_same hn hjf htq2).mpr hc) hb
        · rw [Bool.not_eq_false'] at hb
          have hb := of_decide_eq_true hb
          rcases hcase with ⟨hc, _⟩ | ⟨_, ts, hts, hadj, hrun, r', hr', hlen⟩
          · exact absurd ((join_same hn hjf htq2).mp hb) hc
          have hrr := rnd_unique hr' hr1
          subst hrr
          have hlen : ts.length = fewT n r' := hlen
          have hts16 : ts.length ≤ 16 := by
            rw [hlen]
            unfold fewT
            split
            · omega
            · split <;> omega
          have four : n < 4 → r' = [] := fun h4 => by
            rcases hr1 with ⟨h, _⟩ | ⟨a, b, c, d, _, h, _⟩
            · exact h
            · have := cand_four hn h
              omega
          have E12 := E11.trans e12
          have hts := hts.mono e12
          cases hts with
          | @tup ta tus _ hta htus =>
            have htul := htus.len
            rw [List.length_map] at htul
            refine q_asg (v := .int ((fewT n r' : Nat) : Int)) (ev_if (b := decide (n < 4)) (et_is (et_test (ev_op (ev_v rfl) (ev_cn 4) rv_I0)) (decide_eq_decide.mpr (by omega))) (fun hb4 => ?_) fun hb4 => ?_) fun H13 e13 => ?_
            · have h4 := of_decide_eq_true hb4
              refine ev_ixNL (j := n - 1) (xs := [.int ((0 : Nat) : Int), .int ((1 : Nat) : Int), .int ((3 : Nat) : Int)]) (el_lst (ea_cons (ev_cn 0) (ea_cons (ev_cn 1) (ea_cons (ev_cn 3) ea_nil))) (by show 3 ≤ 100000; decide)) (ev_op (ev_v rfl) (ev_cn 1) (rv_subN hn1)) ?_
              have : n = 1 ∨ n = 2 ∨ n = 3 := by omega
              rw [four h4]
              rcases this with e | e | e <;> rw [e] <;> rfl
            · have h4 := of_decide_eq_false hb4
              have hl0 : decide ((nats r').length = 0) = decide (r' = []) := by rw [nats_len]; cases r' <;> rfl
              refine ev_if (b := !decide (r' = [])) (et_is (et_test (ev_neT (xs := nats r') (fun H1 e Q q => ed_rnd rfl (hR.mono E12) hn hr1 H1 e _ fun v H2 e2 rep => by
                obtain ⟨ra, rfl, hra⟩ := rnd_at rep
                exact q _ H2 e2 ⟨ra, rfl, st_of hra⟩) (eu_tup ea_nil (by show 0 ≤ 100000; decide)))) (by rw [hl0])) (fun hb5 => ?_) fun hb5 => ?_
              · rw [Bool.not_eq_true'] at hb5
                refine ev_is (ev_op (ev_op (ev_cn 2) (ev_v rfl) (rv_mulN (.inl (by decide)))) (ev_cn 4) (rv_subN (by omega))) ?_
                unfold fewT
                rw [if_neg (by omega), if_neg (of_decide_eq_false hb5)]
              · rw [Bool.not_eq_false'] at hb5
                refine ev_is (ev_op (ev_op (ev_cn 2) (ev_v rfl) (rv_mulN (.inl (by decide)))) (ev_cn 3) (rv_subN (by omega))) ?_
                unfold fewT
                rw [if_neg (by omega), if_pos (of_decide_eq_true hb5)]
            have E13 := E12.trans e13
            have hinf : infB n ws ts = true := by
              unfold infB
              rw [decide_eq_true hrun, Bool.and_true, List.all_eq_true]
              exact hadj
            refine q_when (b := false) (et_is (et_or (et_test (ev_op (ev_lenT (ev_v rfl) (st_of (e13 _ _ hta))) (ev_v rfl) (rv_ne rfl))) fun _ => et_test (ev_notB (ev_cal (z := .bl true) (ea_cons (ev_v rfl) (ea_cons (ev_v rfl) ea_nil)) fun H14 e14 => ⟨_, _, n, ws, ts, rfl, hR.mono (E13.trans e14), hn, .tup ((e13.trans e14) _ _ hta) (htus.mono (e13.trans e14)), by omega, by rw [hinf]⟩))) (by rw [neE, htul, hlen, decide_eq_true rfl]; rfl)) (fun z => nomatch z) fun _ H14 e14 => ?_
            refine q_asgD (ed_firstF hn8) fun fv H15 e15 rf => ?_
            refine q_asgD (ed_wholeF hn8) fun wv H16 e16 rw_ => ?_
            refine q_asg (ev_v rfl) fun H17 e17 => ?_
            have e1317 := ((e13.trans e14).trans e15).trans (e16.trans e17)
            have E17 := E12.trans e1317
            refine q_forT (a := ta) (xs := tus) (ev_v rfl) (st_of (e1317 _ _ hta)) (fun j σ2 H2 => Ex H17 H2 ∧ ∃ (hv : V) (y12 y13 : Option V), Rep H2 hv (rndD (runF (firstF n) (ts.take j))) ∧ σ2 = [some (.ref sc), some (.ref p), _, some (.ref na), some (.int (n : Int)), _, some (.ref ta), some (.int ((fewT n r' : Nat) : Int)), some fv, _, some wv, some hv, y12, y13, _, _, _]) (fun H18 e18 => ⟨e18, fv, _, _, by rw [List.take_zero]; exact rf.mono ((e16.trans e17).trans e18), rfl⟩) (fun j σ2 H2 _ hh => st_of ((e1317.trans hh.1) _ _ hta)) ?_ ?_
            · rintro j x σ2 H2 hx ⟨g2, hv, y12, y13, rh, rfl⟩
              obtain ⟨dp, hdp, hrp⟩ := htus.get' hx
              rw [List.getElem?_map] at hdp
              obtain ⟨t0, ht0, rfl⟩ := Option.map_eq_some_iff.mp hdp
              obtain ⟨pa, rfl, hpa⟩ := prd_at hrp
              have ht0m := hadj _ (List.mem_of_getElem? ht0)
              have hlt := adj_lt hn ht0m
              have E2 := E17.trans g2
              refine ⟨_, _, rfl, st_of ((e1317.trans g2) _ _ hpa), rfl, _, _, rfl, _, _, rfl, rfl, ?_⟩
              refine q_when (b := false) (et_is (et_test (ev_ninDT (d := prD (min t0.1 t0.2, max t0.1 t0.2)) (ds := ws.map prD) (ed_tup (er_cons (evd_v (ev_minN (ev_v rfl) (ev_v rfl)) (.int _)) (er_cons (evd_v (ev_maxN (ev_v rfl) (ev_v rfl)) (.int _)) er_nil)) (by show 2 ≤ 100000; decide)) (evd_v (ev_ixT (j := 1) (v := .ref nb) (ev_v rfl) (ev_cn 1) (st_of (E2 _ _ hna)) rfl) (.tup (E2 _ _ hnb) (hwus.mono E2))) (shp_pr _) (shp_ws _))) ?_) (fun z => nomatch z) fun _ H18 e18 => ?_
              · rw [any_pr]
                have : decide ((min t0.1 t0.2, max t0.1 t0.2) ∈ ws) = true := ht0m
                rw [this]
                rfl
              refine r_asgE ((ed_cal (d := rndD (spreadF (runF (firstF n) (ts.take j)) t0.1 t0.2)) (ea_cons (ev_v rfl) (ea_cons (ev_v rfl) (ea_cons (ev_v rfl) ea_nil))) fun H19 e19 => ⟨hv, _, t0.1, t0.2, rfl, rh.mono (e18.trans e19), by rw [run_len_n]; omega, by rw [run_len_n]; omega, by rw [run_len_n]; omega, rfl⟩) H18 (Ex.refl _) _ fun v H19 e19 r19 => ⟨(g2.trans e18).trans e19, v, _, _, ?_, rfl⟩)
              rw [List.take_add_one, ht0, run_app]
              exact r19
            · rintro σ2 H2 ⟨g2, hv, y12, y13, rh, rfl⟩
              rw [List.take_of_length_le (by omega), hrun] at rh
              have E2 := E17.trans g2
              refine q_when (b := false) (et_is (et_test (ev_neDD (evd_v (ev_v rfl) rh) (evd_v (ev_v rfl) (rw_.mono (e17.trans g2))) (shp_rnd _) (shp_rnd _))) (by rw [eqv_rnd, decide_eq_true rfl]; rfl)) (fun z => nomatch z) fun _ H18 e18 => ?_
              refine s_when (b := false) (et_is (a := decide (n < 6) && (decide (ws.length < 7) && false)) (et_and (et_is (et_test (ev_op (ev_v rfl) (ev_cn 6) rv_I0)) (decide_eq_decide.mpr (by omega))) fun h6 => et_and (et_is (et_test (ev_op (ev_lenT (xs := wus) (ev_ixT (j := 1) (v := .ref nb) (ev_v rfl) (ev_cn 1) (st_of ((E2.trans e18) _ _ hna)) rfl) (st_of ((E2.trans e18) _ _ hnb))) (ev_cn 7) rv_I0)) (decide_eq_decide.mpr (by have := hwus.len; rw [List.length_map] at this; omega))) fun _ H19 e19 B hB => ?_) (by rw [Bool.and_false, Bool.and_false])) (fun z => nomatch z) fun _ H19 e19 => ⟨(E2.trans e18).trans e19, _, _, _, _, _, _, _, _, _, _, _, _, _, rfl⟩
              have h6 := of_decide_eq_true h6
              have E19 := (E2.trans e18).trans e19
              have g19 := (g2.trans e18).trans e19
              refine r_test (r_op (r_cb (r_cons (r_call (r_cons (r_var rfl (r_cons (r_var rfl (r_cons (r_var rfl (r_nil ⟨_, _, _, n, ws, rfl, hR.mono E19, hn, by omega, rf.mono ((e16.trans e17).trans g19), rw_.mono (e17.trans g19), ⟨ts, hadj, hrun⟩, fun t z H20 hinf hmin e20 r20 => ?_⟩)))))))))))
              have hle := hmin ts ⟨hadj, hrun⟩
              have hge := few_low hn (by omega) hr1 hinf.1 hinf.2
              cases r20 with
              | @tup za zus _ hza hzr =>
                have hzl := hzr.len
                rw [List.length_map] at hzl
                have : t.length = fewT n r' := by omega
                refine r_nil ⟨za, zus, rfl, .inr (st_of hza), r_var rfl ?_⟩
                refine ⟨rfl, _, rfl, ?_⟩
                rw [neE, decide_eq_true (show zus.length = fewT n r' by omega)]
                exact hB H20 e20
      · rintro σ' H' ⟨g3, a2, a5, a6, a7, a8, a9, a10, a11, a12, a13, a14, a15, a16, rfl⟩
        have G0 := G3.exR g3
        have hR0 := hR.mono g3
        refine q_asgL (xs := []) (el_lst ea_nil (by decide)) fun l H4 hl0 e4 h4 => ?_
        have hl1 := G.back G0 hl0
        refine q_asgD (ed_firstF hn8) fun kv H5 e5 rk => ?_
        have G5 := G.ex (e4.trans e5) G0.2
        have hlp : l ≠ p := hP1.ne hl1
        have hwul := hwus.len
        rw [List.length_map] at hwul
        have hfew := hn.few
        let Pv : Nat → L2.St → Hp → Prop := fun i σ2 H2 => G K p sc ns H' H2 ∧ ∃ (ts : List Pr) (us : List V) (kv : V) (y9 y12 y13 : Option V), H2 l = some (.lst us) ∧ Reps H2 us (ts.map prD) ∧ ts.length ≤ i ∧ (∀ q ∈ ts, adj ws q.1 q.2 = true) ∧ Rep H2 kv (rndD (runF (firstF n) ts)) ∧ σ2 = [some (.ref sc), some (.ref p), a2, some (.ref na), some (.int (n : Int)), a5, a6, a7, a8, y9, a10, a11, y12, y13, some (.ref l), some kv, a16]
        refine q_forGl (K := K) (p := p) (sc := sc) (ns := ns) 0 8 (by decide) (fun R r => r_cons (r_draw G5.2 (ea_cons (ev_v rfl) (ea_cons (ev_cn 9) ea_nil)) (by decide) (by decide) fun v H6 hv g6 => r_nil (r v H6 (Nat.zero_le _) (by omega) g6))) Pv (fun H6 g6 => ⟨G5.trans g6, [], [], kv, _, _, _, g6.1 _ _ hlp (e5 _ _ h4), .nil, Nat.le_refl _, (fun q hq => nomatch hq), Rep.keepT (G.kt G5.2 g6) (nol_rnd _) rk, rfl⟩) ?_ ?_
        · rintro i σ2 H2 hi ⟨g, ts, us, kv, y9, y12, y13, hl, hr, hlen, hadj, rk, rfl⟩
          have kt := G.kt G0.2 g
          have hna2 := kt _ _ (g3 _ _ hna)
          have hnb2 := kt _ _ (g3 _ _ hnb)
          have hwus2 : Reps H2 wus (ws.map prD) := Reps.keepT kt (nol_prs ws) (hwus.mono g3)
          refine s_when (b := !decide (wus.length = 0)) (et_test (ev_neT (xs := wus) (fun H1 e Q q => ev_ixT (K := K) (j := 1) (v := .ref nb) (ev_v rfl) (ev_cn 1) (st_of hna2) rfl H1 e _ fun H2 e2 => q _ H2 e2 ⟨nb, rfl, st_of ((e.trans e2) _ _ hnb2)⟩) (eu_tup ea_nil (by show 0 ≤ 100000; decide)))) (fun hb H6 e6 => ?_) fun hb H6 e6 => ⟨g.exR e6, ts, us, kv, _, _, _, e6 _ _ hl, hr.mono e6, by omega, hadj, rk.mono e6, rfl⟩
          rw [Bool.not_eq_true'] at hb
          have hb := of_decide_eq_false hb
          have G6 := g.exR e6
          have hne : wus ≠ [] := fun z => hb (by rw [z]; rfl)
          refine r_asgG (D0 := { nx := _, rt := _, ct := _, bk := _ }) (r_pick G6.2 (ev_v rfl) (el_listT (ev_ixT (j := 1) (v := .ref nb) (ev_v rfl) (ev_cn 1) (st_of (e6 _ _ hna2)) rfl) (st_of (e6 _ _ hnb2))) hne (by omega) fun v H7 hv g7 => ?_)
          obtain ⟨j, hj⟩ := List.getElem?_of_mem hv
          obtain ⟨dp, hdp, hrp⟩ := hwus2.get' hj
          rw [List.getElem?_map] at hdp
          obtain ⟨p0, hp0, rfl⟩ := Option.map_eq_some_iff.mp hdp
          have hpm := List.mem_of_getElem? hp0
          have hpl := hn.lt p0 hpm
          have hpa : adj ws p0.1 p0.2 = true := (adj_or hn).mpr (.inl hpm)
          have G7 := G6.trans g7
          obtain ⟨pa, rfl, hpa7⟩ := prd_at (Rep.keepT (G.kt G6.2 g7) (nol_pr _) (hrp.mono e6))
          refine ⟨_, _, rfl, st_of hpa7, rfl, _, _, rfl, _, _, rfl, rfl, ?_⟩
          have hl7 := g7.1 _ _ hlp (e6 _ _ hl)
          have hr7 : Reps H7 us (ts.map prD) := Reps.keepT (G.kt G6.2 g7) (nol_prs ts) (hr.mono e6)
          have rk7 : Rep H7 kv (rndD (runF (firstF n) ts)) := Rep.keepT (G.kt G6.2 g7) (nol_rnd _) (rk.mono e6)
          have hul := hr.len
          rw [List.length_map] at hul
          have tail : ∀ {D : Ends} {q0 : Pr} {rv : V} {H8 H9 : Hp} {y9 : Option V}, (q0 = p0 ∨ q0 = (p0.2, p0.1)) → G K p sc ns H7 H8 → Ex H8 H9 → Rep H9 rv (prD q0) → (∀ σ H, Pv (i + 1) σ H → D.nx σ H) → tAsg (tCall (spD ok_spread) [] E0 (tCons (tVar 15) (tCons (tVar 12) (tCons (tVar 13) tNil)))) (gName 15) D [some (.ref sc), some (.ref p), a2, some (.ref na), some (.int (n : Int)), a5, a6, a7, a8, y9, a10, a11, some (.int (p0.1 : Int)), some (.int (p0.2 : Int)), some (.ref l), some kv, a16] (upd H9 l (.lst (us ++ [rv]))) := fun {D q0 rv H8 H9 y9} hq0 g8 e9 rR k => by
            have G9 := g8.exR e9
            have hl9 := G9.1 _ _ hlp hl7
            have kt9 : ∀ c us', H7 c = some (.tup us') → (upd H9 l (.lst (us ++ [rv]))) c = some (.tup us') := fun c us' hc => by
              have h9 := G.kt G7.2 G9 c us' hc
              rw [upd_ne (ne_kind h9 hl9 (fun z => nomatch z))]
              exact h9
            have kt10 : ∀ c us', H9 c = some (.tup us') → (upd H9 l (.lst (us ++ [rv]))) c = some (.tup us') := fun c us' h9 => by
              rw [upd_ne (ne_kind h9 hl9 (fun z => nomatch z))]
              exact h9
            have rk9 := Rep.keepT kt9 (nol_rnd _) rk7
            refine r_asgE ((ed_cal (d := rndD (spreadF (runF (firstF n) ts) p0.1 p0.2)) (ea_cons (ev_v rfl) (ea_cons (ev_v rfl) (ea_cons (ev_v rfl) ea_nil))) fun H19 e19 => ⟨kv, _, p0.1, p0.2, rfl, rk9.mono e19, by rw [run_len_n]; omega, by rw [run_len_n]; omega, by rw [run_len_n]; omega, rfl⟩) _ (Ex.refl _) _ fun v H19 e19 r19 => k _ _ ⟨(G.new G0.2 (G7.trans G9) hl0).exR e19, ts ++ [q0], us ++ [rv], v, _, _, _, e19 _ _ upd_same, ?_, by rw [List.length_append]; exact Nat.succ_le_succ hlen, fun z hz => ?_, ?_, rfl⟩)
            · rw [List.map_append]
              exact ((Reps.keepT kt9 (nol_prs ts) hr7).append (.cons (Rep.keepT kt10 (nol_pr q0) rR) .nil)).mono e19
            · rcases List.mem_append.mp hz with hz | hz
              · exact hadj z hz
              · rw [List.mem_singleton.mp hz]
                rcases hq0 with rfl | rfl
                · exact hpa
                · rw [adj_comm]; exact hpa
            · rw [run_app]
              rcases hq0 with rfl | rfl
              · exact r19
              · show Rep H19 v (rndD (spreadF _ p0.2 p0.1))
                rw [spread_comm]
                exact r19
          refine r_dropE (r_bm (r_var (v := .ref l) rfl ⟨.inl ⟨rfl, _, sq_of hl7⟩, r_cons (r_if (r_test (r_op (r_draw G7.2 (ea_cons (ev_v rfl) (ea_cons (ev_cn 2) ea_nil)) (by decide) (by decide) fun d H8 hd g8 => r_c ⟨rfl, _, rfl, ?_⟩))))⟩))
          have hl8 := g8.1 _ _ hlp hl7
          split
          · exact (ed_tup (er_cons (evd_v (ev_v rfl) (.int _)) (er_cons (evd_v (ev_v rfl) (.int _)) er_nil)) (by show 2 ≤ 100000; decide) : EvD _ _ H8 (prD p0)) H8 (Ex.refl _) _ fun rv H9 e9 rR => r_nil ⟨l, us, rv, rfl, rfl, e9 _ _ hl8, sz_lt (by omega), tail (.inl rfl) g8 e9 rR fun σ H h => h⟩
          · exact (ed_tup (er_cons (evd_v (ev_v rfl) (.int _)) (er_cons (evd_v (ev_v rfl) (.int _)) er_nil)) (by show 2 ≤ 100000; decide) : EvD _ _ H8 (prD (p0.2, p0.1))) H8 (Ex.refl _) _ fun rv H9 e9 rR => r_nil ⟨l, us, rv, rfl, rfl, e9 _ _ hl8, sz_lt (by omega), tail (.inr rfl) g8 e9 rR fun σ H h => h⟩
        · rintro i σ2 H2 _ hi ⟨g, ts, us, kv, y9, y12, y13, hl, hr, hlen, hadj, rk, rfl⟩
          have kt := G.kt G0.2 g
          have hR2 : Rep H2 (.ref na) (netD n ws) := Rep.keepT kt (nol_net n ws) hR0
          have infs : ∀ {σ : L2.St} {H6 : Hp} {te : TE} {ts2 : List Pr}, σ[3]? = some (some (.ref na)) → Ex H2 H6 → EvD te σ H6 (.tup (ts2.map prD)) → ts2.length ≤ 100 → Ev (tCall (spV ok_inf) [] E0 (tCons (tVar 3) (tCons te tNil))) σ H6 (.bl (infB n ws ts2)) := fun {σ H6 te ts2} hv e6 hte hl2 H7 e7 Q q =>
            r_call (r_cons (r_var hv (r_cons (hte H7 e7 _ fun u H8 e8 ru => r_nil ⟨_, ⟨_, u, n, ws, ts2, rfl, hR2.mono ((e6.trans e7).trans e8), hn, ru, hl2, rfl⟩, fun H9 e9 => q H9 (e8.trans e9)⟩))))
          have infb : infB n ws ts = decide (runF (firstF n) ts = wholeF n) := by
            unfold infB
            rw [List.all_eq_true.mpr hadj, Bool.true_and]
          refine q_asg (v := .bl (decide (runF (firstF n) ts = wholeF n))) (ev_is (ev_eqDD (evd_v (ev_v rfl) rk) (ed_wholeF hn8) (shp_rnd _) (shp_rnd _)) (by rw [eqv_rnd])) fun H6 e6 => ?_
          have tups : ∀ {σ : L2.St} {H7 : Hp}, σ[14]? = some (some (.ref l)) → Ex H2 H7 → EvD (tCB (rTupS K) (tCons (tVar 14) tNil)) σ H7 (.tup (ts.map prD)) := fun hv e7 => ed_tupL (evd_v (ev_v hv) (.lst (e7 _ _ hl) (hr.mono e7))) (nol_prs ts)
          refine q_when (b := false) (et_not (a := true) (et_test (ev_cal (z := .bl true) (ea_cons (ev_v rfl) (ea_cons (infs rfl e6 (tups rfl e6) (by omega)) ea_nil)) fun H7 e7 => ⟨_, _, .bl (decide (runF (firstF n) ts = wholeF n)), rfl, .bl _, by rw [infb]; exact .bl _, (wid_bl _).1, (wid_bl _).2, rfl⟩))) (fun z => nomatch z) fun _ H7 e7 => ?_
          have E7 := e6.trans e7
          have f1 : infB n ws (ts ++ [(n - 1, n)]) = false := by
            unfold infB
            rw [Bool.and_eq_false_iff]
            left
            rw [List.all_append, Bool.and_eq_false_iff]
            right
            rw [List.all_cons, List.all_nil, Bool.and_true]
            cases hc : adj ws (n - 1) n with
            | false => rfl
            | true => have := adj_lt hn hc; omega
          have f2 : infB n ws ((0, 0) :: ts) = false := by
            unfold infB
            rw [Bool.and_eq_false_iff]
            left
            rw [List.all_cons, Bool.and_eq_false_iff]
            left
            cases hc : adj ws 0 0 with
            | false => rfl
            | true => have := adj_lt hn hc; omega
          refine s_when (b := false) (et_is (a := (!decide (infB n ws (ts ++ [(n - 1, n)]) = false)) || (!decide (infB n ws ((0, 0) :: ts) = false))) (et_or (et_test (ev_notB (infs rfl E7 (ts2 := ts ++ [(n - 1, n)]) ?_ (by rw [List.length_append]; show ts.length + 1 ≤ 100; omega)))) fun _ => et_test (ev_notB (infs rfl E7 (ts2 := (0, 0) :: ts) ?_ (by rw [List.length_cons]; omega)))) (by rw [f1, f2]; rfl)) (fun z => nomatch z) fun _ H8 e8 => ⟨(G0.trans g).exR (E7.trans e8), _, _, _, _, _, _, _, _, _, _, _, _, _, _, _, rfl⟩
          · rw [List.map_append]
            exact ed_catU (tups rfl E7) (ed_tup (er_cons (ed_tup (er_cons (evd_v (ev_op (ev_v rfl) (ev_cn 1) (rv_subN hn1)) (.int _)) (er_cons (evd_v (ev_v rfl) (.int _)) er_nil)) (by show 2 ≤ 100000; decide)) er_nil) (by show 1 ≤ 100000; decide)) (by rw [List.length_map]; show ts.length + 1 ≤ 100000; omega)
          · rw [List.map_cons]
            exact ed_catU (ds := [prD (0, 0)]) (ed_tup (er_cons (ed_tup (er_cons (evd_v (ev_cn 0) (.int _)) (er_cons (evd_v (ev_cn 0) (.int _)) er_nil)) (by show 2 ≤ 100000; decide)) er_nil) (by show 1 ≤ 100000; decide)) (tups rfl E7) (by rw [List.length_map]; show 1 + ts.length ≤ 100000; omega)
    · rintro σ' H' ⟨g, a2, a3, a4, a5, a6, a7, a8, a9, a10, a11, a12, a13, a14, a15, a16, rfl⟩
      exact s_ret ev_c fun H2 e2 => q H2
end
end K96

set_option Elab.async false
set_option linter.all false
set_option maxRecDepth 100000
set_option maxHeartbeats 4000000
namespace K96
open PySem PySem.Spec PyProof.Rows L2 Evl My
theorem all_mk {l : PySem.W.OpenLaw} {w : World} {K : PySem.W.Frag} {h : Heap} {mg : Str → Option Value} {fa : Addr} (X : K.In h) (G : h.Ns mainGlobals mg) (hfa : mg "law" = some (.ref fa))
    (h_law_mixed : HasF K "_law_mixed" s_law_mixed)
    (h_law_rest : HasF K "_law_rest" s_law_rest)
    (h_law_pool : HasF K "_law_pool" s_law_pool)
    (h_law_draw : HasF K "_law_draw" s_law_draw)
    (h_law_pick : HasF K "_law_pick" s_law_pick)
    (h_law_net : HasF K "_law_net" s_law_net)
    (h_law_joined : HasF K "_law_joined" s_law_joined)
    (h_law_same : HasF K "_law_same" s_law_same)
    (h_near : HasF K "near" s_near)
    (h_tree_from : HasF K "tree_from" s_tree_from)
    (h_connected : HasF K "connected" s_connected)
    (h_law_round : HasF K "_law_round" s_law_round)
    (h_is_way : HasF K "is_way" s_is_way)
    (h_round_of_four : HasF K "round_of_four" s_round_of_four)
    (h_middle_talks : HasF K "middle_talks" s_middle_talks)
    (h_talks_for : HasF K "talks_for" s_talks_for)
    (h_informs : HasF K "informs" s_informs)
    (h_law_spread : HasF K "_law_spread" s_law_spread)
    (h_law_shortest : HasF K "_law_shortest" s_law_shortest)
    (h_law : HasF K "law" s_law)
    (z_len : PySem.W.nsIn K mainGlobals "len" = some none)
    (z_list : PySem.W.nsIn K mainGlobals "list" = some none)
    (z_int : PySem.W.nsIn K mainGlobals "int" = some none)
    (z_isinstance : PySem.W.nsIn K mainGlobals "isinstance" = some none)
    (z_range : PySem.W.nsIn K mainGlobals "range" = some none)
    (z_zip : PySem.W.nsIn K mainGlobals "zip" = some none)
    (z_all : PySem.W.nsIn K mainGlobals "all" = some none)
    (z_any : PySem.W.nsIn K mainGlobals "any" = some none)
    (z_tuple : PySem.W.nsIn K mainGlobals "tuple" = some none)
    (z_str : PySem.W.nsIn K mainGlobals "str" = some none)
    (z_dict : PySem.W.nsIn K mainGlobals "dict" = some none)
    (z_bool : PySem.W.nsIn K mainGlobals "bool" = some none)
    (z_sorted : PySem.W.nsIn K mainGlobals "sorted" = some none)
    (z_min : PySem.W.nsIn K mainGlobals "min" = some none)
    (z_max : PySem.W.nsIn K mainGlobals "max" = some none)
    (z_set : PySem.W.nsIn K mainGlobals "set" = some none)
    (z_enumerate : PySem.W.nsIn K mainGlobals "enumerate" = some none)
    (z_sum : PySem.W.nsIn K mainGlobals "sum" = some none) :
    ∃ fd : FuncData, (∀ (s : Shared) (v : Value), BindsTo s fd ⟨[v], []⟩ [("script", v)]) ∧ ∀ base : Heap, K.In base → base.Ns mainGlobals mg → FnOk l.prog w K mg base CX0 5 fa fd ["script"] (sp_law K) := by
  have N : Nb mg := ⟨PySem.W.mg_none_of X G z_len, PySem.W.mg_none_of X G z_list, PySem.W.mg_none_of X G z_int, PySem.W.mg_none_of X G z_isinstance, PySem.W.mg_none_of X G z_range, PySem.W.mg_none_of X G z_zip, PySem.W.mg_none_of X G z_all, PySem.W.mg_none_of X G z_any, PySem.W.mg_none_of X G z_tuple, PySem.W.mg_none_of X G z_str, PySem.W.mg_none_of X G z_dict, PySem.W.mg_none_of X G z_bool, PySem.W.mg_none_of X G z_sorted, PySem.W.mg_none_of X G z_min, PySem.W.mg_none_of X G z_max, PySem.W.mg_none_of X G z_set, PySem.W.mg_none_of X G z_enumerate, PySem.W.mg_none_of X G z_sum⟩
  obtain ⟨f_law_mixed, fd_law_mixed, F_law_mixed, m_law_mixed⟩ := h_law_mixed.get X G
  obtain ⟨f_law_rest, fd_law_rest, F_law_rest, m_law_rest⟩ := h_law_rest.get X G
  obtain ⟨f_law_pool, fd_law_pool, F_law_pool, m_law_pool⟩ := h_law_pool.get X G
  obtain ⟨f_law_draw, fd_law_draw, F_law_draw, m_law_draw⟩ := h_law_draw.get X G
  obtain ⟨f_law_pick, fd_law_pick, F_law_pick, m_law_pick⟩ := h_law_pick.get X G
  obtain ⟨f_law_net, fd_law_net, F_law_net, m_law_net⟩ := h_law_net.get X G
  obtain ⟨f_law_joined, fd_law_joined, F_law_joined, m_law_joined⟩ := h_law_joined.get X G
  obtain ⟨f_law_same, fd_law_same, F_law_same, m_law_same⟩ := h_law_same.get X G
  obtain ⟨f_near, fd_near, F_near, m_near⟩ := h_near.get X G
  obtain ⟨f_tree_from, fd_tree_from, F_tree_from, m_tree_from⟩ := h_tree_from.get X G
  obtain ⟨f_connected, fd_connected, F_connected, m_connected⟩ := h_connected.get X G
  obtain ⟨f_law_round, fd_law_round, F_law_round, m_law_round⟩ := h_law_round.get X G
  obtain ⟨f_is_way, fd_is_way, F_is_way, m_is_way⟩ := h_is_way.get X G
  obtain ⟨f_round_of_four, fd_round_of_four, F_round_of_four, m_round_of_four⟩ := h_round_of_four.get X G
  obtain ⟨f_middle_talks, fd_middle_talks, F_middle_talks, m_middle_talks⟩ := h_middle_talks.get X G
  obtain ⟨f_talks_for, fd_talks_for, F_talks_for, m_talks_for⟩ := h_talks_for.get X G
  obtain ⟨f_informs, fd_informs, F_informs, m_informs⟩ := h_informs.get X G
  obtain ⟨f_law_spread, fd_law_spread, F_law_spread, m_law_spread⟩ := h_law_spread.get X G
  obtain ⟨f_law_shortest, fd_law_shortest, F_law_shortest, m_law_shortest⟩ := h_law_shortest.get X G
  obtain ⟨f0, oc, od, kV, dc, pm, an, cd, ct, sl, a0, l0, c0, k0⟩ := h_law
  have e := hfa.symm.trans (PySem.W.mg_of X G a0)
  cases e
  have F_law := fun_mk (st := s_law) l0 c0 k0
  refine ⟨PySem.W.fnOf "law" "law" (defArgs s_law) (defBody s_law) (defScope s_law) .none kV dc pm an cd ct, fun s v => .of_eq rfl, fun base _ _ => ?_⟩
  have C_law_mixed : Cal l.prog w K mg base 1 "_law_mixed" ["number", "place"] (spV ok_mixed_) := ⟨f_law_mixed, fd_law_mixed, fn_mixed_ (k := 0) F_law_mixed N, F_law_mixed.binds (ps := ["number", "place"]) (fun _ _ _ _ _ _ us hl => match us, hl with | [_, _], _ => rfl), F_law_mixed.kp, m_law_mixed⟩
  have C_law_rest : Cal l.prog w K mg base 2 "_law_rest" ["script", "place", "fills"] (spV (ok_rest_ K)) := ⟨f_law_rest, fd_law_rest, fn_rest_ (k := 1) F_law_rest N C_law_mixed, F_law_rest.binds (ps := ["script", "place", "fills"]) (fun _ _ _ _ _ _ us hl => match us, hl with | [_, _, _], _ => rfl), F_law_rest.kp, m_law_rest⟩
  have C_law_pool : Cal l.prog w K mg base 3 "_law_pool" ["script"] (spL (ok_pool_ K)) := ⟨f_law_pool, fd_law_pool, fn_pool_ (k := 2) F_law_pool N C_law_rest, F_law_pool.binds (ps := ["script"]) (fun _ _ _ _ _ _ us hl => match us, hl with | [_], _ => rfl), F_law_pool.kp, m_law_pool⟩
  have C_law_draw : Cal l.prog w K mg base 3 "_law_draw" ["pool", "limit"] (sp_draw K) := ⟨f_law_draw, fd_law_draw, fn_draw (k := 2) F_law_draw N C_law_rest, F_law_draw.binds (ps := ["pool", "limit"]) (fun _ _ _ _ _ _ us hl => match us, hl with | [_, _], _ => rfl), F_law_draw.kp, m_law_draw⟩
  have C_law_pick : Cal l.prog w K mg base 4 "_law_pick" ["pool", "options"] (sp_pick K) := ⟨f_law_pick, fd_law_pick, fn_pick (k := 3) F_law_pick N C_law_draw, F_law_pick.binds (ps := ["pool", "options"]) (fun _ _ _ _ _ _ us hl => match us, hl with | [_, _], _ => rfl), F_law_pick.kp, m_law_pick⟩
  have C_law_net : Cal l.prog w K mg base 4 "_law_net" ["pool", "most"] (sp_net K) := ⟨f_law_net, fd_law_net, fn_net (k := 3) F_law_net N C_law_draw, F_law_net.binds (ps := ["pool", "most"]) (fun _ _ _ _ _ _ us hl => match us, hl with | [_, _], _ => rfl), F_law_net.kp, m_law_net⟩
  have C_law_joined : Cal l.prog w K mg base 1 "_law_joined" ["net"] (sp_joined K) := ⟨f_law_joined, fd_law_joined, fn_joined (k := 0) F_law_joined N, F_law_joined.binds (ps := ["net"]) (fun _ _ _ _ _ _ us hl => match us, hl with | [_], _ => rfl), F_law_joined.kp, m_law_joined⟩
  have C_law_same := cal_same (P := l.prog) (w := w) (base := base) (k := 0) F_law_same (F_law_same.binds (ps := ["due", "answer"]) (fun _ _ _ _ _ _ us hl => match us, hl with | [_, _], _ => rfl)) F_law_same.kp m_law_same N 3
  have C_near : Cal l.prog w K mg base 1 "near" ["net", "house"] (spL ok_near) := ⟨f_near, fd_near, fn_near (k := 0) F_near N, F_near.binds (ps := ["net", "house"]) (fun _ _ _ _ _ _ us hl => match us, hl with | [_, _], _ => rfl), F_near.kp, m_near⟩
  have C_tree_from : Cal l.prog w K mg base 2 "tree_from" ["net", "roots"] (sp_tree K) := ⟨f_tree_from, fd_tree_from, fn_tree_from (k := 1) F_tree_from N C_near, F_tree_from.binds (ps := ["net", "roots"]) (fun _ _ _ _ _ _ us hl => match us, hl with | [_, _], _ => rfl), F_tree_from.kp, m_tree_from⟩
  have C_connected : Cal l.prog w K mg base 3 "connected" ["net"] (sp_conn K) := ⟨f_connected, fd_connected, fn_connected (k := 2) F_connected N C_tree_from, F_connected.binds (ps := ["net"]) (fun _ _ _ _ _ _ us hl => match us, hl with | [_], _ => rfl), F_connected.kp, m_connected⟩
  have C_law_round : Cal l.prog w K mg base 1 "_law_round" ["net"] (sp_rnd K) := ⟨f_law_round, fd_law_round, fn_lrnd (k := 0) F_law_round N, F_law_round.binds (ps := ["net"]) (fun _ _ _ _ _ _ us hl => match us, hl with | [_], _ => rfl), F_law_round.kp, m_law_round⟩
  have C_is_way : Cal l.prog w K mg base 1 "is_way" ["net", "i", "j"] (spV ok_way) := ⟨f_is_way, fd_is_way, fn_is_way (k := 0) F_is_way N, F_is_way.binds (ps := ["net", "i", "j"]) (fun _ _ _ _ _ _ us hl => match us, hl with | [_, _, _], _ => rfl), F_is_way.kp, m_is_way⟩
  have C_round_of_four : Cal l.prog w K mg base 2 "round_of_four" ["net"] (sp_rnd K) := ⟨f_round_of_four, fd_round_of_four, fn_rnd (k := 1) F_round_of_four N C_near C_is_way, F_round_of_four.binds (ps := ["net"]) (fun _ _ _ _ _ _ us hl => match us, hl with | [_], _ => rfl), F_round_of_four.kp, m_round_of_four⟩
  have C_middle_talks : Cal l.prog w K mg base 1 "middle_talks" ["four"] (spD ok_mid) := ⟨f_middle_talks, fd_middle_talks, fn_mid (k := 0) F_middle_talks N, F_middle_talks.binds (ps := ["four"]) (fun _ _ _ _ _ _ us hl => match us, hl with | [_], _ => rfl), F_middle_talks.kp, m_middle_talks⟩
  have C_talks_for : Cal l.prog w K mg base 4 "talks_for" ["net"] (sp_talks K) := ⟨f_talks_for, fd_talks_for, fn_talks (k := 3) F_talks_for N C_connected (C_round_of_four.mono (by decide)) (C_tree_from.mono (by decide)) (C_middle_talks.mono (by decide)), F_talks_for.binds (ps := ["net"]) (fun _ _ _ _ _ _ us hl => match us, hl with | [_], _ => rfl), F_talks_for.kp, m_talks_for⟩
  have C_informs : Cal l.prog w K mg base 2 "informs" ["net", "talks"] (spV ok_inf) := ⟨f_informs, fd_informs, fn_informs (k := 1) F_informs N C_is_way, F_informs.binds (ps := ["net", "talks"]) (fun _ _ _ _ _ _ us hl => match us, hl with | [_, _], _ => rfl), F_informs.kp, m_informs⟩
  have C_law_spread : Cal l.prog w K mg base 1 "_law_spread" ["known", "i", "j"] (spD ok_spread) := ⟨f_law_spread, fd_law_spread, fn_spread (k := 0) F_law_spread N, F_law_spread.binds (ps := ["known", "i", "j"]) (fun _ _ _ _ _ _ us hl => match us, hl with | [_, _, _], _ => rfl), F_law_spread.kp, m_law_spread⟩
  have C_law_shortest : Cal l.prog w K mg base 2 "_law_shortest" ["net", "first", "whole"] (sp_short K) := ⟨f_law_shortest, fd_law_shortest, fn_short (k := 1) F_law_shortest N C_law_spread, F_law_shortest.binds (ps := ["net", "first", "whole"]) (fun _ _ _ _ _ _ us hl => match us, hl with | [_, _, _], _ => rfl), F_law_shortest.kp, m_law_shortest⟩
  exact fn_law (k := 4) F_law N (C_law_pool.mono (by decide)) (C_law_draw.mono (by decide)) C_law_pick C_law_net (C_law_joined.mono (by decide)) (C_law_same.mono (by decide)) (C_connected.mono (by decide)) (C_law_round.mono (by decide)) (C_round_of_four.mono (by decide)) C_talks_for (C_informs.mono (by decide)) (C_law_spread.mono (by decide)) (C_law_shortest.mono (by decide))
end K96
open PySem PySem.W PyProof.Rows
set_option maxHeartbeats 0 in
theorem PySem.Challenge.cw_lineage_k96_whole_nets_informed_holds : PySem.Challenge.rw_lineage_k96_whole_nets_informed.Holds := by
  w_on; o_law; k_head; (case hw => w_witness2)
  k_fill
  refine L2.walk_of (l := PySem.Challenge.rw_lineage_k96_whole_nets_informed) (n := 63) (k := 5) (x := "script") (CX := fun _ => L2.CX0) (sp := fun w => K96.sp_law _) rfl (by decide) rfl ⟨rfl, by decide, by decide⟩ (fun w h Y => PySem.W.kIn_of Y) ?F (fun _ _ a ns hl _ hS => ⟨a, ns, rfl, hS, fun _ => rfl⟩) (fun _ _ _ _ _ h => h)
  case F =>
    intro w mg fa h KX G hmg
    refine' K96.all_mk KX G hmg ?q0 ?q1 ?q2 ?q3 ?q4 ?q5 ?q6 ?q7 ?q8 ?q9 ?q10 ?q11 ?q12 ?q13 ?q14 ?q15 ?q16 ?q17 ?q18 ?q19 ?q20 ?q21 ?q22 ?q23 ?q24 ?q25 ?q26 ?q27 ?q28 ?q29 ?q30 ?q31 ?q32 ?q33 ?q34 ?q35 ?q36 ?q37
    case q0 => (refine' My.HasF.mk' ?a ?l ?c ?k; (case a => k_is); (case l => k_is); (case c => k_is); (case k => k_is))
    case q1 => (refine' My.HasF.mk' ?a ?l ?c ?k; (case a => k_is); (case l => k_is); (case c => k_is); (case k => k_is))
    case q2 => (refine' My.HasF.mk' ?a ?l ?c ?k; (case a => k_is); (case l => k_is); (case c => k_is); (case k => k_is))
    case q3 => (refine' My.HasF.mk' ?a ?l ?c ?k; (case a => k_is); (case l => k_is); (case c => k_is); (case k => k_is))
    case q4 => (refine' My.HasF.mk' ?a ?l ?c ?k; (case a => k_is); (case l => k_is); (case c => k_is); (case k => k_is))
    case q5 => (refine' My.HasF.mk' ?a ?l ?c ?k; (case a => k_is); (case l => k_is); (case c => k_is); (case k => k_is))
    case q6 => (refine' My.HasF.mk' ?a ?l ?c ?k; (case a => k_is); (case l => k_is); (case c => k_is); (case k => k_is))
    case q7 => (refine' My.HasF.mk' ?a ?l ?c ?k; (case a => k_is); (case l => k_is); (case c => k_is); (case k => k_is))
    case q8 => (refine' My.HasF.mk' ?a ?l ?c ?k; (case a => k_is); (case l => k_is); (case c => k_is); (case k => k_is))
    case q9 => (refine' My.HasF.mk' ?a ?l ?c ?k; (case a => k_is); (case l => k_is); (case c => k_is); (case k => k_is))
    case q10 => (refine' My.HasF.mk' ?a ?l ?c ?k; (case a => k_is); (case l => k_is); (case c => k_is); (case k => k_is))
    case q11 => (refine' My.HasF.mk' ?a ?l ?c ?k; (case a => k_is); (case l => k_is); (case c => k_is); (case k => k_is))
    case q12 => (refine' My.HasF.mk' ?a ?l ?c ?k; (case a => k_is); (case l => k_is); (case c => k_is); (case k => k_is))
    case q13 => (refine' My.HasF.mk' ?a ?l ?c ?k; (case a => k_is); (case l => k_is); (case c => k_is); (case k => k_is))
    case q14 => (refine' My.HasF.mk' ?a ?l ?c ?k; (case a => k_is); (case l => k_is); (case c => k_is); (case k => k_is))
    case q15 => (refine' My.HasF.mk' ?a ?l ?c ?k; (case a => k_is); (case l => k_is); (case c => k_is); (case k => k_is))
    case q16 => (refine' My.HasF.mk' ?a ?l ?c ?k; (case a => k_is); (case l => k_is); (case c => k_is); (case k => k_is))
    case q17 => (refine' My.HasF.mk' ?a ?l ?c ?k; (case a => k_is); (case l => k_is); (case c => k_is); (case k => k_is))
    case q18 => (refine' My.HasF.mk' ?a ?l ?c ?k; (case a => k_is); (case l => k_is); (case c => k_is); (case k => k_is))
    case q19 => (refine' My.HasF.mk' ?a ?l ?c ?k; (case a => k_is); (case l => k_is); (case c => k_is); (case k => k_is))
    case q20 => k_is
    case q21 => k_is
    case q22 => k_is
    case q23 => k_is
    case q24 => k_is
    case q25 => k_is
    case q26 => k_is
    case q27 => k_is
    case q28 => k_is
    case q29 => k_is
    case q30 => k_is
    case q31 => k_is
    case q32 => k_is
    case q33 => k_is
    case q34 => k_is
    case q35 => k_is
    case q36 => k_is
    case q37 => k_is

