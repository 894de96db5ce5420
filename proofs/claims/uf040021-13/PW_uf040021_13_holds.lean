import PyProof.Rows.All
import Wide.All
import Open.Line
import Wide.FinOn
import PyProof.Rows.SortShell
import PyProof.Rows.Top
import PyProof.P3Statements
import PyProof.Rows.TopObj
import PyProof.Cells
import PyProof.RangeIter
import PyProof.ListOps
import PyProof.Rows.Tup
import PyProof.Rows.Globals
import PyProof.DictRoads
import PyProof.DictKinds
import PyProof.WalksMore
import PyProof.EvalArms
import PyProof.PureInt
import PyProof.P3In
import PyProof.NoPylong
import PyProof.SliceMore
import PyProof.TupleOps
import PyProof.Rows.RuleB_floordiv
import PyProof.Rows.RuleB_mod
import PyProof.Rows.RuleB_mul
import PyProof.Rows.IntRules
import PyProof.Rows.RuleC_int
import PyProof.Rows.EqDataRows
import PyProof.Rows.TupAdd
import PyProof.Rows.Lst
import PyProof.Rows.ListMul
import PyProof.DictStraight
import PyProof.IsRules
import PyProof.ListIndexNeg
import PyProof.Rows.TupMore
import PyProof.StrOps
import PyProof.ListCopy
import PyProof.ConsumeWalk
import PyProof.SumWalk
import PyProof.Rows.SortWalk
import PyProof.ListRange
import PyProof.DictWalks
import PyProof.DictTruth
import PyProof.WalkInts
import PyProof.TupleOfSeq
import PyProof.RangeFor
import PyProof.Conv_int_bool
import PyProof.IsInstanceT
import PyProof.IsiTupleOf
import PyProof.IsiFacts
import PyProof.IsiFacts2
import PyProof.FactsAll.subtypes
import PyProof.AutoListH
import PyProof.MeetsSeq
import PyProof.AutoSeq1
import PyProof.Rows.SeqMore
import PyProof.Rows.Method
import PyProof.Rows.StrInSeq3
import PyProof.Rows.TupAssign
import PyProof.Rows.StrTemp
import PyProof.Rows.PlainObj
import PyProof.CallType
import PyProof.CompFree
import PyProof.PlainList
import PyProof.CompUse
import PyProof.ForAny
import PyProof.Rows.Catch
import PySem.Challenge.RW_uf040021_13
set_option autoImplicit false
set_option tactic.hygienic false
set_option linter.all false
set_option Elab.async false
set_option bootstrap.genMatcherCode false
set_option genInjectivity false
set_option genSizeOfSpec false
set_option genSizeOf false
section
set_option maxRecDepth 100000
set_option maxHeartbeats 8000000
noncomputable def Mine.Internal.notA (s : PySem.Stmt) : Bool := match s with
 | .Assign .. => false
 | _ => true
noncomputable def Mine.Internal.viewQ : PySem.Program := { PySem.Challenge.pw_uf040021_13 with main := { PySem.Challenge.pw_uf040021_13.main with body := PySem.Challenge.pw_uf040021_13.main.body.filter Mine.Internal.notA } }
theorem Mine.Internal.said1 : PySem.Challenge.rw_uf040021_13.row.wellSaid = true := by
 delta PySem.W.OpenRow.wellSaid PySem.W.OpenRow.partSaid PySem.W.looksOpen
 repeat' with_reducible refine PySem.W.look_both ?_ ?_
 all_goals kernel_rfl
theorem Mine.Internal.said : PySem.Challenge.rw_uf040021_13.wellSaid = true := by
 delta PySem.W.OpenLaw.wellSaid
 repeat' with_reducible refine PySem.W.look_both ?_ ?_
 all_goals first | with_reducible exact Mine.Internal.said1 | kernel_rfl
theorem Mine.Internal.left0 : PySem.W.LeftO PySem.Challenge.rw_uf040021_13.row.prog Mine.Internal.viewQ [] (fun s => PySem.W.xlAt Mine.Internal.viewQ [] s && PySem.W.recOk (PySem.W.RowW.records (PySem.W.OpenRow.toRowW PySem.Challenge.rw_uf040021_13.row)) s) (PySem.W.Hook.obs PySem.W.Hook.none) (PySem.W.Hook.val PySem.W.Hook.none) 3992 := fun w => by kernel_rfl
end
noncomputable section
namespace Mine.Internal
abbrev Id := @if_pos
abbrev IO := @Nat.le_refl
abbrev IU := @if_neg
abbrev IV := @PySem.wpAny_bind
abbrev IW := @PyProof.Rows.wpS_bind
abbrev IX := @List.getElem?_eq_some_iff
abbrev IY := @PyProof.Rows.wpS_pure
abbrev IZ := @List.length_map
abbrev I0 := @List.mem_singleton
abbrev I1 := @Nat.sub_add_cancel
abbrev I2 := @List.length_append
abbrev I3 := @List.getElem?_eq_getElem
abbrev I4 := @Bool.and_eq_true_iff
abbrev I5 := @List.append_assoc
abbrev I6 := @Nat.le_add_of_sub_le
abbrev I7 := @Int.toNat_of_nonneg
abbrev I8 := @PySem.wpAny_pure
abbrev I9 := @Int.le_refl
abbrev Je := @Nat.le_trans
abbrev Jf := @decide_eq_true
abbrev Jj := @List.mem_cons_self
abbrev Jl := @List.length_cons
abbrev Jm := @List.mem_map
abbrev Jp := @Int.le_trans
abbrev Jq := @List.getElem?_set_ne
abbrev Jr := @of_decide_eq_true
abbrev Js := @PySem.Heap.get?_push_of_some
abbrev Jt := @Int.toNat_natCast
abbrev Ju := @Int.self_le_toNat
abbrev Jw := @List.mem_append_right
abbrev Jx := @List.mem_cons
abbrev Jy := @Array.length_toList
abbrev Jz := @List.size_toArray
abbrev JA := @List.append_nil
abbrev JB := @List.mem_cons_of_mem
abbrev JC := @List.getElem?_map
abbrev JD := @List.getElem?_set_self
abbrev JE := @PySem.Heap.get?_push_size
abbrev JF := @List.getElem?_set
abbrev JG := @Array.getElem?_toList
abbrev JH := @List.mem_append_left
abbrev JI := @List.getD_eq_getElem?_getD
abbrev JJ := @Option.map_eq_some_iff
theorem Ja {α β : Type} {f : α -> β} {a : α} {l : List α} : (a :: l).map f = f a :: l.map f := rfl
theorem Jb {α β : Type} {f : α -> β} : ([] : List α).map f = [] := rfl
theorem Jc {α : Type} {a : α} {l : List α} : (a :: l).length = l.length + 1 := rfl
theorem Jd {α : Type} : ([] : List α).length = 0 := rfl
theorem Jg : (!true) = false := rfl
theorem Jh : (!false) = true := rfl
theorem Ji {α β : Type} {f : α -> β} {a : α} : (some a).map f = some (f a) := rfl
theorem Jk {α β : Type} {f : α -> Option β} {a : α} : (some a).bind f = f a := rfl
theorem Jn (b : Bool) : (true && b) = b := rfl
theorem Jo (b : Bool) : (false && b) = false := rfl
set_option genCtorIdx false in
inductive lnE where
 | k (n : Nat) | v (i : Nat) | add (a b : lnE) | sub (a b : lnE) | mul (n : Nat) (a : lnE) | cast (a : lnE)
inductive lnR where
 | le | lt | eq | nle | nlt | ne | no
structure lnQ where
 z : Bool
 r : lnR
 a : lnE
 b : lnE
noncomputable abbrev oE (l : List Nat) : Nat -> Nat := List.rec (motive := fun O => Nat -> Nat) (fun O => 0) (fun x O h i => Nat.casesOn i x h) l
noncomputable abbrev kq (l : List Int) : Nat -> Int := List.rec (motive := fun O => Nat -> Int) (fun O => 0) (fun x O h i => Nat.casesOn i x h) l
abbrev jp (ns : List Nat) (e : lnE) : Nat := lnE.rec (motive := fun O => Nat) (fun n => n) (oE ns) (fun O O a b => a + b) (fun O O O O => 0) (fun n O a => n * a) (fun O O => 0) e
abbrev kr (ns : List Nat) (zs : List Int) (e : lnE) : Int := lnE.rec (motive := fun O => Int) Int.ofNat (kq zs) (fun O O a b => a + b) (fun O O a b => a - b) (fun n O a => Int.ofNat n * a) (fun a O => ((jp ns a : Nat) : Int)) e
noncomputable def ig (e : lnE) : Nat -> Nat := lnE.rec (motive := fun O => Nat -> Nat) (fun n j => cond (Nat.beq j 0) n 0) (fun i j => cond (Nat.beq j (1 + 2 * i)) 1 0) (fun O O a b j => a j + b j) (fun O O O O O => 0) (fun n O a j => n * a j) (fun O O O => 0) e
def dH (e : lnE) : Bool -> Nat -> Nat := lnE.rec (motive := fun O => Bool -> Nat -> Nat) (fun n s j => cond s (cond (Nat.beq j 0) n 0) 0) (fun i s j => cond s (cond (Nat.beq j (2 + 2 * i)) 1 0) 0) (fun O O a b s j => a s j + b s j) (fun O O a b s j => a s j + b (!s) j) (fun n O a s j => n * a s j) (fun a O s j => cond s (ig a j) 0) e
noncomputable def cR (p : Nat) (l : List Int) : (Nat -> Nat) -> Int := List.rec (motive := fun O => (Nat -> Nat) -> Int) (fun O => 0) (fun x O h f => (f p : Int) * x + h fun j => f (j + 2)) l
noncomputable def ii (ns : List Nat) : List Int := @List.rec Nat (fun O => List Int) [] (fun x O l => (x : Int) :: l) ns
def b9 (ns : List Nat) (zs : List Int) (f : Nat -> Nat) : Int := f 0 + (cR 1 (ii ns) f + cR 2 zs f)
theorem kx (a b c d : Int) : a + b + (c + d) = a + c + (b + d) := by rw [Int.add_assoc, Int.add_left_comm b, <- Int.add_assoc]
theorem AM {a b c d x : Nat} {y z u v : Int} (h : u = y + z) : ((a + b : Nat) : Int) * v + u = (a * v + y) + (b * v + z) := by rw [h, Int.natCast_add, Int.add_mul, kx]
variable {p : Nat}
theorem tf (l : List Int) : ∀ f g : Nat -> Nat, cR p l (fun j => f j + g j) = cR p l f + cR p l g := by
 induction l with
 | nil => exact fun O O => rfl
 | cons x l h => exact fun f g => AM (c := 0) (d := 0) (x := 0) (h (fun j => f (j + 2)) fun j => g (j + 2))
theorem AN {n a : Nat} {u v y : Int} (h : u = n * y) : ((n * a : Nat) : Int) * v + u = n * (a * v + y) := by rw [h, Int.natCast_mul, Int.mul_add, Int.mul_assoc]
theorem tg (n : Nat) (l : List Int) : ∀ f : Nat -> Nat, cR p l (fun j => n * f j) = n * cR p l f := by
 induction l with
 | nil => exact fun O => (Int.mul_zero _).symm
 | cons x l h => exact fun f => AN (h fun j => f (j + 2))
theorem AO {a : Nat} {x b : Int} (h : a = 0) (h' : b = 0) : (a : Int) * x + b = 0 := by rw [h, h']; exact (Int.add_zero _).trans (Int.zero_mul x)
theorem gy (l : List Int) : ∀ f : Nat -> Nat, (∀ j, f (p + 2 * j) = 0) -> cR p l f = 0 := by
 induction l with
 | nil => exact fun O O => rfl
 | cons x l h => exact fun f q => AO (q 0) (h (fun j => f (j + 2)) fun j => q (j + 1))
theorem kA {a b : Nat} (h : a ≠ b) : Nat.beq a b = false := Bool.eq_false_iff.mpr fun q => h (Nat.eq_of_beq_eq_true q)
theorem ti {i j : Nat} (h : 2 + 2 * j = 1 + 2 * i) : False := by
 have := congrArg (· % 2) h
 rw [Nat.add_mul_mod_self_left, Nat.add_mul_mod_self_left] at this; cases this
theorem AP {a : Nat} {x b c : Int} (h : a = 1) (h' : b = 0) : (a : Int) * x + b = x := by rw [h, h']; exact (Int.add_zero _).trans (Int.one_mul x)
theorem AQ {a : Nat} {x b c : Int} (h : a = 0) (h' : b = c) : (a : Int) * x + b = c := by rw [h, h']; exact (congrArg (· + c) (Int.zero_mul x)).trans (Int.zero_add c)
theorem AR {a i : Nat} : Nat.beq (a + 2 * i + 2) a = false := kA (Nat.ne_of_gt (Nat.lt_of_le_of_lt (Nat.le_add_right a (2 * i)) (Nat.lt_add_of_pos_right (Nat.succ_pos 1))))
theorem AS {a i : Nat} : Nat.beq a (a + 2 * i + 2) = false := kA (Nat.ne_of_lt (Nat.lt_of_le_of_lt (Nat.le_add_right a (2 * i)) (Nat.lt_add_of_pos_right (Nat.succ_pos 1))))
theorem AT (a : Nat) : Nat.beq a a = true := Nat.beq_refl a
theorem tj (l : List Int) : ∀ i : Nat, cR p l (fun j => cond (Nat.beq j (p + 2 * i)) 1 0) = kq l i := by
 induction l with
 | nil => exact fun O => rfl
 | cons x l h =>
  intro i
  cases i with
  | zero => exact AP (c := 0) (congrArg (cond · 1 0) (AT p)) (gy _ _ fun j => congrArg (cond · 1 0) AR)
  | succ i => exact AQ (congrArg (cond · 1 0) AS) (h i)
theorem AU (l : List Nat) : ∀ i : Nat, ((oE l i : Nat) : Int) = kq (ii l) i := by
 induction l with
 | nil => exact fun O => rfl
 | cons x l h =>
  intro i
  cases i with
  | zero => rfl
  | succ i => exact h i
variable {ns : List Nat} {zs : List Int}
theorem ed (f g : Nat -> Nat) : b9 ns zs (fun j => f j + g j) = b9 ns zs f + b9 ns zs g := by
 unfold b9; rw [tf, tf, kx, Int.natCast_add, kx]
theorem jq (n : Nat) (f : Nat -> Nat) : b9 ns zs (fun j => n * f j) = n * b9 ns zs f := by
 unfold b9; rw [tg, tg, Int.mul_add, Int.mul_add, Int.natCast_mul]
theorem oF (n : Nat) : b9 ns zs (fun j => cond (Nat.beq j 0) n 0) = n := by
 unfold b9
 rw [gy _ _ fun j => by rw [Nat.add_comm]; rfl, gy _ _ fun j => by rw [Nat.add_comm]; rfl]
 exact Int.add_zero _
theorem lnDot_zero : b9 ns zs (fun O => 0) = 0 := by
 unfold b9; rw [gy _ _ fun O => rfl, gy _ _ fun O => rfl]; rfl
theorem tm (q i : Nat) : cond (Nat.beq 0 (q + 1 + 2 * i)) 1 0 = 0 := by rw [Nat.add_right_comm]; rfl
theorem tn (e : lnE) : (jp ns e : Int) = b9 ns zs (ig e) := by
 induction e with
 | k n => exact (oF n).symm
 | v i =>
  show ((oE ns i : Nat) : Int) = ((cond (Nat.beq 0 (0 + 1 + 2 * i)) 1 0 : Nat) : Int) + (cR 1 (ii ns) (fun j => cond (Nat.beq j (1 + 2 * i)) 1 0) + cR 2 zs fun j => cond (Nat.beq j (1 + 2 * i)) 1 0)
  rw [tm, tj, gy zs _ fun j => congrArg (cond · 1 0) (kA fun h => ti h), AU, Int.add_zero]
  exact (Int.zero_add _).symm
 | add a b h h' => exact (Int.natCast_add _ _).trans (h ▸ h' ▸ (ed (ig a) (ig b)).symm)
 | mul n a h => exact (Int.natCast_mul _ _).trans (h ▸ (jq n (ig a)).symm)
 | sub _ _ _ _ => exact lnDot_zero.symm
 | cast _ _ => exact lnDot_zero.symm
theorem tp {a b c d x y : Int} (h : x = a - b) (h' : y = c - d) : x + y = a + c - (b + d) := by rw [h, h', Int.sub_eq_add_neg, Int.sub_eq_add_neg, Int.sub_eq_add_neg, Int.neg_add, kx]
theorem kB {a b x y : Int} (h : y = 0) (h' : x = a) : x = a - y := by rw [h, h', Int.sub_zero]
theorem AW (e : lnE) : kr ns zs e = b9 ns zs (dH e true) - b9 ns zs (dH e false) := by
 induction e with
 | k n => exact kB (b := 0) lnDot_zero (oF n).symm
 | v i =>
  refine kB (b := 0) lnDot_zero ?_
  show kq zs i = ((cond (Nat.beq 0 (1 + 1 + 2 * i)) 1 0 : Nat) : Int) + (cR 1 (ii ns) (fun j => cond (Nat.beq j (2 + 2 * i)) 1 0) + cR 2 zs fun j => cond (Nat.beq j (2 + 2 * i)) 1 0)
  rw [tm, tj, gy _ _ fun j => congrArg (cond · 1 0) (kA fun h => ti h.symm), Int.zero_add]
  exact (Int.zero_add _).symm
 | add a b h h' => exact (tp h h').trans (congr (congrArg HSub.hSub (ed (dH a true) (dH b true)).symm) (ed (dH a false) (dH b false)).symm)
 | mul n a h => exact (congrArg (Int.ofNat n * ·) h).trans ((Int.mul_sub _ _ _).trans (congr (congrArg HSub.hSub (jq n (dH a true)).symm) (jq n (dH a false)).symm))
 | sub a b h h' => exact (Int.sub_eq_add_neg.trans (tp h ((congrArg Neg.neg h').trans (Int.neg_sub _ _)))).trans (congr (congrArg HSub.hSub (ed (dH a true) (dH b false)).symm) (ed (dH a false) (dH b true)).symm)
 | cast a _ => exact kB (b := 0) lnDot_zero (tn a)
noncomputable abbrev kE (a b : Nat) (r : lnR) : Prop := lnR.casesOn r (a <= b) (a < b) (a = b) (¬ a <= b) (¬ a < b) (a ≠ b) False
noncomputable abbrev ij (a b : Int) (r : lnR) : Prop := lnR.casesOn r (a <= b) (a < b) (a = b) (¬ a <= b) (¬ a < b) (a ≠ b) False
noncomputable abbrev lnQ.den (ns : List Nat) (zs : List Int) (q : lnQ) : Prop := cond q.z (ij (kr ns zs q.a) (kr ns zs q.b) q.r) (kE (jp ns q.a) (jp ns q.b) q.r)
def lnQ.val (ns : List Nat) (zs : List Int) (q : lnQ) (s : Bool) : Int := cond q.z (kr ns zs (cond s q.a q.b)) (jp ns (cond s q.a q.b) : Int)
def lnQ.cf (q : lnQ) (s t : Bool) : Nat -> Nat := cond q.z (dH (cond s q.a q.b) t) (cond t (ig (cond s q.a q.b)) fun O => 0)
theorem tq (q : lnQ) (s : Bool) : q.val ns zs s = b9 ns zs (q.cf s true) - b9 ns zs (q.cf s false) := by
 obtain ⟨z, r, a, b⟩ := q
 cases z
 ·exact kB (b := 0) lnDot_zero (tn (cond s a b))
 ·exact AW _
theorem AX {a b : Nat} {r : lnR} (h : kE a b r) : ij a b r := by
 cases r
 ·exact Int.ofNat_le.mpr h
 ·exact Int.ofNat_lt.mpr h
 ·exact congrArg Nat.cast h
 ·exact fun g => h (Int.ofNat_le.mp g)
 ·exact fun g => h (Int.ofNat_lt.mp g)
 ·exact fun g => h (Int.ofNat_inj.mp g)
 ·exact h
theorem AY (q : lnQ) (h : q.den ns zs) : ij (q.val ns zs true) (q.val ns zs false) q.r := by
 obtain ⟨z, r, a, b⟩ := q
 cases z
 ·exact AX h
 ·exact h
noncomputable def fH (m : Nat) (r : lnR) : Bool := lnR.casesOn r false false (Nat.ble 8 m) true true false false
noncomputable def oG (r : lnR) : Nat := lnR.casesOn r 0 1 0 1 0 0 0
noncomputable def kF (m : Nat) (r : lnR) : Nat := lnR.casesOn r m m (m % 8) m m 0 0
def jr (q : lnQ) (m : Nat) (s : Bool) (j : Nat) : Nat :=
 kF m q.r * (q.cf (xor s (fH m q.r)) true j + (q.cf (xor (!s) (fH m q.r)) false j + cond s (cond (Nat.beq j 0) (oG q.r) 0) 0))
theorem AZ (r : lnR) (m : Nat) (V : Bool -> Int) (h : ij (V true) (V false) r) : kF m r = 0 ∨ V (xor true (fH m r)) + oG r <= V (xor false (fH m r)) := by
 cases r
 ·exact .inr (Int.add_zero _ ▸ h)
 ·exact .inr h
 ·refine .inr ?_
  show V (xor true (Nat.ble 8 m)) + 0 <= V (xor false (Nat.ble 8 m))
  rw [Int.add_zero]
  cases Nat.ble 8 m
  ·exact Int.le_of_eq h
  ·exact Int.le_of_eq (Eq.symm h)
 ·exact .inr (Int.not_le.mp h)
 ·exact .inr (Int.add_zero _ ▸ Int.not_lt.mp h)
 ·exact .inl rfl
 ·exact .inl rfl
theorem A0 {p q s t k : Int} (h : p - s + k <= q - t) : p + (t + k) <= q + (s + 0) := by lia
theorem A5 (q : lnQ) (m : Nat) (h : q.den ns zs) : b9 ns zs (jr q m true) <= b9 ns zs (jr q m false) := by
 have aI := AZ q.r m (q.val ns zs) (AY q h)
 show b9 ns zs (fun j => kF m q.r * (q.cf (xor true (fH m q.r)) true j + (q.cf (xor false (fH m q.r)) false j + cond (Nat.beq j 0) (oG q.r) 0))) <= b9 ns zs (fun j => kF m q.r * (q.cf (xor false (fH m q.r)) true j + (q.cf (xor true (fH m q.r)) false j + 0)))
 rw [jq, jq]
 rcases aI with e | e
 ·rw [e]; exact Int.le_of_eq ((Int.zero_mul _).trans (Int.zero_mul _).symm)
 refine Int.mul_le_mul_of_nonneg_left ?_ (Int.natCast_nonneg _)
 rw [ed, ed, ed, ed, oF, lnDot_zero]
 rw [tq, tq] at e
 exact A0 e
def fI (l : List lnQ) : Nat -> Bool -> Nat -> Nat := @List.rec lnQ (fun O => Nat -> Bool -> Nat -> Nat) (fun O O O => 0) (fun q O h w s j => jr q (w % 16) s j + h (w / 16) s j) l
noncomputable def kG (ns : List Nat) (zs : List Int) (l : List lnQ) : Prop := @List.rec lnQ (fun O => Prop) True (fun q O h => q.den ns zs /\ h) l
theorem A6 (l : List lnQ) : ∀ w : Nat, kG ns zs l -> b9 ns zs (fI l w true) <= b9 ns zs (fI l w false) := by
 induction l with
 | nil => exact fun O O => I9 _
 | cons q l k => exact fun w h => (Jp (Int.le_of_eq (ed (jr q (w % 16) true) _)) (Jp (Int.add_le_add (A5 q _ h.1) (k _ h.2)) (Int.le_of_eq (ed (jr q (w % 16) false) _).symm)))
noncomputable def tv (l : List Nat) : (Nat -> Nat) -> (Nat -> Nat) -> Bool := @List.rec Nat (fun O => (Nat -> Nat) -> (Nat -> Nat) -> Bool) (fun O O => true) (fun O O h f g => Nat.ble (f 1) (g 1) && h (fun j => f (j + 2)) fun j => g (j + 2)) l
noncomputable def tw (l : List Int) : (Nat -> Nat) -> (Nat -> Nat) -> Bool := @List.rec Int (fun O => (Nat -> Nat) -> (Nat -> Nat) -> Bool) (fun O O => true) (fun O O h f g => Nat.beq (f 2) (g 2) && h (fun j => f (j + 2)) fun j => g (j + 2)) l
theorem A7 (l : List Nat) : ∀ f g : Nat -> Nat, tv l f g = true -> cR 1 (ii l) f <= cR 1 (ii l) g := by
 induction l with
 | nil => exact fun O O O => I9 _
 | cons x l k => exact fun f g h => Int.add_le_add (Int.mul_le_mul_of_nonneg_right (Int.ofNat_le.mpr (Nat.le_of_ble_eq_true (I4.mp h).1)) (Int.natCast_nonneg _)) (k _ _ (I4.mp h).2)
theorem A8 (l : List Int) : ∀ f g : Nat -> Nat, tw l f g = true -> cR 2 l f <= cR 2 l g := by
 induction l with
 | nil => exact fun O O O => I9 _
 | cons x l k => exact fun f g h => Int.add_le_add (Int.le_of_eq (congrArg (fun n : Nat => (n : Int) * x) (Nat.eq_of_beq_eq_true (I4.mp h).1))) (k _ _ (I4.mp h).2)
def kH (ns : List Nat) (zs : List Int) (l : List lnQ) (w : Nat) : Bool := Nat.ble (fI l w false 0 + 1) (fI l w true 0) && (tv ns (fI l w false) (fI l w true) && tw zs (fI l w false) (fI l w true))
theorem oH {l : List lnQ} {w : Nat} (h : kH ns zs l w = true) (a : kG ns zs l) : False :=
 Int.not_lt.mpr (A6 l w a) (Int.add_lt_add_of_lt_of_le (Int.ofNat_lt.mpr (Nat.le_of_ble_eq_true (I4.mp h).1)) (Int.add_le_add (A7 _ _ _ (I4.mp (I4.mp h).2).1) (A8 _ _ _ (I4.mp (I4.mp h).2).2)))
noncomputable def kJ (r : lnR) : lnR := lnR.casesOn r .nle .nlt .lt .le .lt .eq .ne
noncomputable def kK (r : lnR) : Bool := lnR.casesOn r false false false false false false true
noncomputable def kM (r : lnR) : Bool := lnR.casesOn r false false true false false false false
theorem A9 {a b : Nat} {r : lnR} (e : kK r = false) (k : kM r = true -> b < a -> False) (h : kE a b (kJ r) -> False) : kE a b r := by
 cases r
 ·exact Nat.le_of_not_lt fun g => h (Nat.not_le.mpr g)
 ·exact Nat.lt_of_not_le fun g => h (Nat.not_lt.mpr g)
 ·exact Nat.le_antisymm (Nat.le_of_not_lt (k rfl)) (Nat.le_of_not_lt h)
 ·exact h
 ·exact h
 ·exact h
 ·exact Bool.noConfusion e
theorem Ba {a b : Int} {r : lnR} (e : kK r = false) (k : kM r = true -> b < a -> False) (h : ij a b (kJ r) -> False) : ij a b r := by
 cases r
 ·exact Int.not_lt.mp fun g => h (Int.not_le.mpr g)
 ·exact Int.not_le.mp fun g => h (Int.not_lt.mpr g)
 ·exact Int.le_antisymm (Int.not_lt.mp (k rfl)) (Int.not_lt.mp h)
 ·exact h
 ·exact h
 ·exact h
 ·exact Bool.noConfusion e
def kN (ns : List Nat) (zs : List Int) (g : lnQ) (l : List lnQ) (w : Nat) : Bool :=
 cond (kK g.r) (kH ns zs l w) (kH ns zs (⟨g.z, kJ g.r, g.a, g.b⟩ :: l) w && (!kM g.r || kH ns zs (⟨g.z, .lt, g.b, g.a⟩ :: l) (w / 16 ^ (l.length + 1))))
theorem Bb {g : lnQ} {l : List lnQ} {w : Nat} (h : kN ns zs g l w = true) (a : kG ns zs l) : g.den ns zs := by
 unfold kN at h
 cases q : kK g.r with
 | true => rw [q] at h; exact (oH h a).elim
 | false =>
  rw [q] at h
  have k1 : lnQ.den ns zs ⟨g.z, kJ g.r, g.a, g.b⟩ -> False := fun d => oH (I4.mp h).1 ⟨d, a⟩
  have k2 : kM g.r = true -> lnQ.den ns zs ⟨g.z, .lt, g.b, g.a⟩ -> False := fun e d => oH ((Bool.or_eq_true_iff.mp (I4.mp h).2).resolve_left fun n => Bool.noConfusion (n.symm.trans (congrArg Bool.not e))) ⟨d, a⟩
  clear h
  obtain ⟨z, r, x, y⟩ := g
  cases z
  ·exact A9 q k2 k1
  ·exact Ba q k2 k1
noncomputable abbrev tx (ns : List Nat) (zs : List Int) (P : Prop) (l : List lnQ) : Prop := @List.rec lnQ (fun O => Prop) P (fun q O h => q.den ns zs -> h) l
theorem Bc {P : Prop} (l : List lnQ) : (kG ns zs l -> P) -> tx ns zs P l := by
 induction l with
 | nil => exact fun h => h trivial
 | cons q l k => exact fun h d => k fun a => h ⟨d, a⟩
noncomputable abbrev kO (n : Nat) : Nat := @Nat.casesOn (fun O => Nat) n 0 Nat.succ
noncomputable def oK (f : Nat) : Nat -> (lnE -> Nat -> Prop) -> Prop := @Nat.rec (fun O => Nat -> (lnE -> Nat -> Prop) -> Prop) (fun n K => K (.k 0) n) (fun O rd n K => @Nat.casesOn (fun O => Prop) n (K (.k 0) 0) fun k =>
  cond (Nat.ble 8 (k % 16)) (K (.v (k % 16 - 8)) (k / 16))
  (cond (Nat.beq (k % 16) 0) (K (.k (kO (k / 16 % 16))) (k / 256))
  (cond (Nat.beq (k % 16) 1) (K (.k (kO (k / 16 % 256))) (k / 4096))
  (cond (Nat.beq (k % 16) 2) (rd (k / 16) fun a m => rd m fun b m => K (.add a b) m)
  (cond (Nat.beq (k % 16) 3) (rd (k / 16) fun a m => rd m fun b m => K (.sub a b) m)
  (cond (Nat.beq (k % 16) 4) (rd (k / 16) fun a m => K (.cast a) m)
  (cond (Nat.beq (k % 16) 5) (rd (k / 256) fun a m => K (.mul (kO (k / 16 % 16)) a) m)
  (cond (Nat.beq (k % 16) 6) (K (.k (kO (k / 256 % 256 ^ (k / 16 % 16)))) (k / 256 / 256 ^ (k / 16 % 16)))
  (K (.v (k / 16 % 16 + 8)) (k / 256)))))))))) f
noncomputable def Bd (n : Nat) : lnR :=
 cond (Nat.beq n 0) .le (cond (Nat.beq n 1) .lt (cond (Nat.beq n 2) .eq (cond (Nat.beq n 3) .nle (cond (Nat.beq n 4) .nlt (cond (Nat.beq n 5) .ne .no)))))
noncomputable def oL (n : Nat) (K : lnQ -> Nat -> Prop) : Prop := @Nat.casesOn (fun O => Prop) n (K ⟨false, .no, .k 0, .k 0⟩ 0) fun k =>
 cond (Nat.beq (k % 8) 6) (K ⟨false, .no, .k 0, .k 0⟩ (k / 16))
 (oK 12 (k / 16) fun a m => oK 12 m fun b m => K ⟨Nat.ble 8 (k % 16), Bd (k % 8), a, b⟩ m)
noncomputable def ty (m : Nat) : Nat -> (List lnQ -> Nat -> Prop) -> Prop := @Nat.rec (fun O => Nat -> (List lnQ -> Nat -> Prop) -> Prop) (fun n K => K [] n) (fun O rd n K => oL n fun q n => rd n fun l n => K (q :: l) n) m
noncomputable def bQ (ns : List Nat) (zs : List Int) (n : Nat) : Prop :=
 oL (n / 16) fun g r => ty (n % 16) r fun l w => cond (kN ns zs g l w) (tx ns zs (g.den ns zs) l) True
theorem eR {c : Bool} {P Q : Prop} (p : P) (q : Q) : cond c P Q := by cases c; exact q; exact p
theorem tA (f : Nat) : ∀ (n : Nat) (K : lnE -> Nat -> Prop), (∀ e n, K e n) -> oK f n K := by
 induction f with
 | zero => exact fun O O h => h _ _
 | succ f i =>
  intro n K h
  cases n with
  | zero => exact h _ _
  | succ k => exact eR (h _ _) (eR (h _ _) (eR (h _ _) (eR (i _ _ fun O O => i _ _ fun O O => h _ _) (eR (i _ _ fun O O => i _ _ fun O O => h _ _) (eR (i _ _ fun O O => h _ _) (eR (i _ _ fun O O => h _ _) (eR (h _ _) (h _ _))))))))
theorem tB (n : Nat) (K : lnQ -> Nat -> Prop) (h : ∀ e n, K e n) : oL n K := by
 cases n with
 | zero => exact h _ _
 | succ k => exact eR (h _ _) (tA _ _ _ fun O O => tA _ _ _ fun O O => h _ _)
theorem Be (m : Nat) : ∀ (n : Nat) (K : List lnQ -> Nat -> Prop), (∀ e n, K e n) -> ty m n K := by
 induction m with
 | zero => exact fun O O h => h _ _
 | succ m i => exact fun n K h => tB n _ fun q n => i n (fun l n => K (q :: l) n) fun O O => h _ _
theorem bV (ns : List Nat) (zs : List Int) (n : Nat) : bQ ns zs n := tB _ _ fun g r => Be _ _ _ fun l w => by
 cases h : kN ns zs g l w with
 | true => exact Bc _ (Bb h)
 | false => trivial
end Mine.Internal
namespace Mine.Internal
theorem bt (A : Nat) : bQ [] [] A := bV _ _ A
theorem az {a : Nat} (A : Nat) : bQ [a] [] A := bV _ _ A
theorem am {a b : Nat} (A : Nat) : bQ [a, b] [] A := bV _ _ A
theorem ay {a b c : Nat} (A : Nat) : bQ [a, b, c] [] A := bV _ _ A
theorem aN {a b c d : Nat} (A : Nat) : bQ [a, b, c, d] [] A := bV _ _ A
theorem a7 {a b c d e : Nat} (A : Nat) : bQ [a, b, c, d, e] [] A := bV _ _ A
theorem dI {a b c d e f : Nat} (A : Nat) : bQ [a, b, c, d, e, f] [] A := bV _ _ A
theorem eT {a b c d e f g : Nat} (A : Nat) : bQ [a, b, c, d, e, f, g] [] A := bV _ _ A
theorem kQ {a b c d e f g h : Nat} (A : Nat) : bQ [a, b, c, d, e, f, g, h] [] A := bV _ _ A
theorem Bf {a b c d e f g h i : Nat} (A : Nat) : bQ [a, b, c, d, e, f, g, h, i] [] A := bV _ _ A
theorem tC {a b c d e f g h i j : Nat} (A : Nat) : bQ [a, b, c, d, e, f, g, h, i, j] [] A := bV _ _ A
theorem Bg {a b c d e f g h i j k l : Nat} (A : Nat) : bQ [a, b, c, d, e, f, g, h, i, j, k, l] [] A := bV _ _ A
theorem Bh {a b c d e f g h i j k l m : Nat} (A : Nat) : bQ [a, b, c, d, e, f, g, h, i, j, k, l, m] [] A := bV _ _ A
theorem aG {a : Int} (A : Nat) : bQ [] [a] A := bV _ _ A
theorem bj {a b : Int} (A : Nat) : bQ [] [a, b] A := bV _ _ A
theorem eF {a b c : Int} (A : Nat) : bQ [] [a, b, c] A := bV _ _ A
theorem aV {a : Nat} {b : Int} (A : Nat) : bQ [a] [b] A := bV _ _ A
theorem dQ {a : Nat} {b c : Int} (A : Nat) : bQ [a] [b, c] A := bV _ _ A
theorem Bi {a : Nat} {b c d : Int} (A : Nat) : bQ [a] [b, c, d] A := bV _ _ A
theorem Bj {a : Nat} {b c d e : Int} (A : Nat) : bQ [a] [b, c, d, e] A := bV _ _ A
theorem aZ {a b : Nat} {c : Int} (A : Nat) : bQ [a, b] [c] A := bV _ _ A
theorem fJ {a b : Nat} {c d : Int} (A : Nat) : bQ [a, b] [c, d] A := bV _ _ A
theorem il {a b c : Nat} {d : Int} (A : Nat) : bQ [a, b, c] [d] A := bV _ _ A
theorem tD {a b c : Nat} {d e : Int} (A : Nat) : bQ [a, b, c] [d, e] A := bV _ _ A
theorem Bk {a b c d e f g : Nat} {h : Int} (A : Nat) : bQ [a, b, c, d, e, f, g] [h] A := bV _ _ A
end Mine.Internal
namespace Mine.Internal
open PySem PyProof.Rows
noncomputable abbrev SM (α : Type) : Type := StateT SortSt Sem α
noncomputable abbrev AK : Type := Array Keyed
noncomputable def aI (e : Keyed) : Int := numOf e.1
noncomputable def eU (e : Keyed) : Prop := ∃ n t, e.1 = .int n t
noncomputable def Ik (l : List Keyed) : Prop := ∀ e ∈ l, eU e
noncomputable def Sd (l : List Keyed) : Prop := l.Pairwise fun a b => aI a <= aI b
noncomputable def eW : Bool -> Keyed -> AK -> Nat -> Nat -> Nat -> SM (Option Nat) := sortPriv% PySem.Builtin.gallop
noncomputable def oM : AK -> AK -> SM AK := sortPriv% PySem.Builtin.mergeLo
noncomputable def oN : AK -> AK -> SM AK := sortPriv% PySem.Builtin.mergeHi
noncomputable def gz (left : Bool) (kk : Keyed) (arr : AK) (af i : Nat) : SM (Option Bool) := do
 let x <- elem' arr (af + i)
 if left then lt' x kk else return (<- lt' kk x).map (!·)
def kR (left : Bool) (kk : Keyed) (arr : AK) (af n lo hi : Nat) : SM (Option Nat) := do
 let mut lo := lo
 let mut hi := hi
 for _ in [0:n] do
  if lo ≥ hi then break
  let m := lo + (hi - lo) / 2
  let some more <- gz left kk arr af m | return none
  if more then lo := m + 1 else hi := m
 return some hi
theorem Bl (left : Bool) (kk : Keyed) (arr : AK) (af n hint : Nat) : eW left kk arr af n hint = (do
 let some right <- gz left kk arr af hint | return none
 if right then
  let mut lastofs := 0
  let mut ofs := 1
  for _ in [0:n] do
   if ofs ≥ n - hint then break
   let some more <- gz left kk arr af (hint + ofs) | return none
   if !more then break
   lastofs := ofs
   ofs := 2 * ofs + 1
  kR left kk arr af n (hint + lastofs + 1) (hint + min ofs (n - hint))
 else
  let mut lastofs := 0
  let mut ofs := 1
  for _ in [0:n] do
   if ofs ≥ hint + 1 then break
   let some found <- gz left kk arr af (hint - ofs) | return none
   if found then break
   lastofs := ofs
   ofs := 2 * ofs + 1
  kR left kk arr af n (hint + 1 - min ofs (hint + 1)) (hint - lastofs)) := rfl
def di (left : Bool) (kk e : Keyed) : Bool := if left then decide (aI e < aI kk) else !decide (aI kk < aI e)
section
variable {prog : Program} {w : World} {A : Around} {E : Value -> Shared -> Prop} {s : Shared} {st : SortSt}
theorem js {x y : Keyed} {Q : Option Bool -> SortSt -> Prop} (hk : kindOf st = oneType') (hx : eU x) (hy : eU y) (h : Q (some (decide (aI x < aI y))) st) : wpS (model prog w) A E s (lt' x y) Q st := by
 obtain ⟨a, t, e1⟩ := hx
 obtain ⟨b, u, e2⟩ := hy
 rw [lt'_eq]
 refine IW (wpS_get ?_)
 rw [hk, e1, e2, keyLt'_oneType]
 refine IW (wpS_lift (wpAny_attempt (oneLt_int ⟨rfl, ?_⟩)))
 unfold aI at h
 rw [e1, e2] at h
 exact IY h
theorem b5 {arr : AK} {i : Nat} {x : Keyed} {Q : Keyed -> SortSt -> Prop} (hi : arr[i]? = some x) (h : Q x st) : wpS (model prog w) A E s (elem' arr i) Q st := by
 rw [elem'_eq, hi]; exact IY h
theorem Bm {left : Bool} {kk x : Keyed} {arr : AK} {af i : Nat} {Q : Option Bool -> SortSt -> Prop} (hk : kindOf st = oneType') (hkk : eU kk) (hi : arr[af + i]? = some x) (hx : eU x) (h : Q (some (di left kk x)) st) : wpS (model prog w) A E s (gz left kk arr af i) Q st := by
 unfold gz
 refine IW (b5 hi ?_)
 cases left
 ·exact IW (js hk hkk hx (IY h))
 ·exact js hk hx hkk h
structure Gal (left : Bool) (kk : Keyed) (arr : AK) (af n : Nat) (B : Nat -> Bool) : Prop where
 ik : eU kk
 at' : ∀ i, i < n -> ∃ x, arr[af + i]? = some x /\ eU x /\ di left kk x = B i
 mono : ∀ i j, i <= j -> j < n -> B j = true -> B i = true
theorem Gal.no {left : Bool} {kk : Keyed} {arr : AK} {af n : Nat} {B : Nat -> Bool} (g : Gal left kk arr af n B) {i j : Nat} (hi : i <= j) (hj : j < n) (h : B i = false) : B j = false := by
 cases q : B j with
 | false => rfl
 | true => rw [g.mono i j hi hj q] at h; cases h
theorem Gal.be {left : Bool} {kk : Keyed} {arr : AK} {af n i : Nat} {B : Nat -> Bool} {Q : Option Bool -> SortSt -> Prop} (g : Gal left kk arr af n B) (hk : kindOf st = oneType') (hi : i < n) (h : ∀ b, B i = b -> Q (some b) st) : wpS (model prog w) A E s (gz left kk arr af i) Q st := by
 obtain ⟨x, h1, h2, h3⟩ := g.at' i hi
 exact Bm hk g.ik h1 h2 (h3 ▸ h _ rfl)
theorem ip {left : Bool} {kk : Keyed} {arr : AK} {af n lo hi : Nat} {B : Nat -> Bool} {Q : Option Nat -> SortSt -> Prop} (g : Gal left kk arr af n B) (hk : kindOf st = oneType') (hh : hi <= n) (h1 : ∀ i, i < lo -> i < n -> B i = true) (h2 : ∀ i, hi <= i -> i < n -> B i = false)
  (h : ∀ k, k <= n -> (∀ i, i < k -> B i = true) -> (∀ i, k <= i -> i < n -> B i = false) -> Q (some k) st) : wpS (model prog w) A E s (kR left kk arr af n lo hi) Q st := by
 unfold kR
 refine IW (wpS_forRange (I := fun j (c : Option (Option Nat) × Nat × Nat) st' => st' = st /\ c.1 = none /\ c.2.2 <= n /\ (∀ i, i < c.2.1 -> i < n -> B i = true) /\ (∀ i, c.2.2 <= i -> i < n -> B i = false) /\ c.2.2 + j <= c.2.1 + n) ?_ ?_ ⟨rfl, rfl, hh, h1, h2, by dsimp only; exact ay 0x11b91ba3019311 hh⟩)
 ·rintro j ⟨r, lo, hi⟩ st' _ hj ⟨e, hr, a1, a2, a3, a4⟩
  subst e
  dsimp only at hr a1 a2 a3 a4 ⊢
  subst hr
  by_cases q : lo ≥ hi
  ·rw [Id q]
   exact IY (IY (h hi a1 (fun i l => a2 i (ay 0x111b92ab1a922 q l) (ay 0x111b92ab1a922 a1 l)) a3))
  ·rw [IU q]
   have hm : lo <= lo + (hi - lo) / 2 /\ lo + (hi - lo) / 2 < hi := by lia
   generalize lo + (hi - lo) / 2 = m at hm
   refine IW (g.be hk (ay 0x111b92ab1a922 a1 hm.2) fun b hb => ?_)
   cases b
   ·exact IY ⟨rfl, rfl, by dsimp only; exact ay 0x111b92ab1a912 a1 hm.2, a2, fun i l l' => g.no l l' hb, by dsimp only; exact a7 0x111d92cb3ad31cb311a39312 a4 hm.2⟩
   ·exact IY ⟨rfl, rfl, a1, fun i l l' => g.mono i m (by dsimp only at l; exact am 0x1111a392a911 l) (ay 0x111b92ab1a922 a1 hm.2) hb, a3, by dsimp only; exact a7 0x111bd1cd3a931c11b3311a39312 a4 hm.1⟩
 ·rintro ⟨r, lo, hi⟩ st' ⟨e, hr, a1, a2, a3, a4⟩
  subst e
  dsimp only at hr a1 a2 a3 a4 ⊢
  subst hr
  exact IY (h hi a1 (fun i l => a2 i (by exact a7 0x1111cd1b92da3cb31a923 a4 l (Nat.le_max_right _ _)) (ay 0x111b92ab1a922 a1 l)) a3)
theorem Bn {left : Bool} {kk : Keyed} {arr : AK} {af n hint : Nat} {B : Nat -> Bool} {Q : Option Nat -> SortSt -> Prop} (g : Gal left kk arr af n B) (hk : kindOf st = oneType') (hh : hint < n)
  (h : ∀ k, k <= n -> (∀ i, i < k -> B i = true) -> (∀ i, k <= i -> i < n -> B i = false) -> Q (some k) st) : wpS (model prog w) A E s (eW left kk arr af n hint) Q st := by
 rw [Bl]
 refine IW (g.be hk hh fun b hb => ?_)
 cases b
 ·simp only [Bool.false_eq_true, if_false]
  refine IW (wpS_forRange (I := fun j (c : Option (Option Nat) × Nat × Nat) st' => st' = st /\ c.1 = none /\ c.2.1 <= hint /\ B (hint - c.2.1) = false /\ c.2.1 < c.2.2 /\ j + 1 <= c.2.2) ?_ ?_ ⟨rfl, rfl, Nat.zero_le _, hb, Nat.one_pos, IO _⟩)
  ·rintro j ⟨r, la, o⟩ st' _ hj ⟨e, hr, a1, a2, a3, a4⟩
   subst e
   dsimp only at hr a1 a2 a3 a4 ⊢
   subst hr
   by_cases q : o ≥ hint + 1
   ·rw [Id q]
    exact IY (ip (lo := hint + 1 - min o (hint + 1)) (hi := hint - la) g hk (by exact ay 0x111b91ab2a912 hh (Nat.sub_le _ _)) (fun i l O => by exact False.elim (aN 0x19111c3ba3311c3b3a9273 l (Nat.min_eq_right (am 0x11a11931a119311 q)) (I1 (am 0x1111a39111a3911 (Nat.min_le_right _ _))))) (fun i l l' => g.no l l' a2) h)
   ·rw [IU q]
    refine IW (g.be hk (by exact ay 0x111b91ab2a922 hh (Nat.sub_le _ _)) fun b hb => ?_)
    cases b
    ·exact IY ⟨rfl, rfl, by dsimp only; exact am 0x11911a34a911 q, hb, by dsimp only; exact az 73436379424, by dsimp only; exact ay 0x111a11931ab211a263111193312 a3 a4⟩
    ·exact IY (ip (lo := hint + 1 - min o (hint + 1)) (hi := hint - la) g hk (by exact ay 0x111b91ab2a912 hh (Nat.sub_le _ _)) (fun i l l' => g.mono i _ (by exact dI 0x1911111c3eb33de3da3c1b92a914 l (I6 (IO _)) (Nat.min_eq_left (am 0x11911a3411a3911 q)) (I1 (ay 0x111b91b11a3411a3912 q (Nat.min_le_left _ _)))) (by exact ay 0x111b91ab2a922 hh (Nat.sub_le _ _)) hb) (fun i l l' => g.no l l' a2) h)
  ·rintro ⟨r, la, o⟩ st' ⟨e, hr, a1, a2, a3, a4⟩
   subst e
   dsimp only at hr a1 a2 a3 a4 ⊢
   subst hr
   exact ip (lo := hint + 1 - min o (hint + 1)) (hi := hint - la) g hk (by exact ay 0x111b91ab2a912 hh (Nat.sub_le _ _)) (fun i l O => by exact False.elim (aN 0x19111c3ba3311c3b3a9273 l (Nat.min_eq_right (aN 0x1111cb1a11c31b92a119313 hh a4 (Nat.le_max_right _ _))) (I1 (am 0x1111a39111a3911 (Nat.min_le_right _ _))))) (fun i l l' => g.no l l' a2) h
 ·simp only [if_true]
  refine IW (wpS_forRange (I := fun j (c : Option (Option Nat) × Nat × Nat) st' => st' = st /\ c.1 = none /\ hint + c.2.1 < n /\ B (hint + c.2.1) = true /\ c.2.1 < c.2.2 /\ j + 1 <= c.2.2) ?_ ?_ ⟨rfl, rfl, hh, hb, Nat.one_pos, IO _⟩)
  ·rintro j ⟨r, la, o⟩ st' _ hj ⟨e, hr, a1, a2, a3, a4⟩
   subst e
   dsimp only at hr a1 a2 a3 a4 ⊢
   subst hr
   by_cases q : o ≥ n - hint
   ·rw [Id q]
    exact IY (ip (lo := hint + la + 1) (hi := hint + min o (n - hint)) g hk (by exact aN 0x111b9c33ca1ba9312 (Nat.min_le_right _ _) (I1 (am 4740786449 hh))) (fun i l l' => g.mono i _ (ay 0x1111ba3392ba3911 l) a1 a2) (fun i l l' => by exact False.elim (a7 0x9111da39d3c1cb2ba93174 l l' (I6 (IO _)) (Nat.min_eq_right (am 4740720913 q)))) h)
   ·rw [IU q]
    refine IW (g.be hk (by exact aN 0x111b9c33ac4ba9322 q (I1 (am 4740786449 hh))) fun b hb => ?_)
    cases b
    ·exact IY (ip (lo := hint + la + 1) (hi := hint + min o (n - hint)) g hk (by exact a7 0x1111b9c33da1dc4ba9313 q (Nat.min_le_left _ _) (I1 (am 4740786449 hh))) (fun i l l' => g.mono i _ (ay 0x1111ba3392ba3911 l) a1 a2) (fun i l l' => g.no (by exact aN 0x911ac3bc931ba9312 l (Nat.min_eq_left (am 4725188881 q))) l' hb) h)
    ·exact IY ⟨rfl, rfl, by dsimp only; exact aN 0x111b9c33ac4ba9322 q (I1 (am 4740786449 hh)), hb, by dsimp only; exact az 73436379424, by dsimp only; exact ay 0x111a11931ab211a263111193312 a3 a4⟩
  ·rintro ⟨r, la, o⟩ st' ⟨e, hr, a1, a2, a3, a4⟩
   subst e
   dsimp only at hr a1 a2 a3 a4 ⊢
   subst hr
   exact ip (lo := hint + la + 1) (hi := hint + min o (n - hint)) g hk (by exact aN 0x111b9c33ca1ba9312 (Nat.min_le_right _ _) (I1 (am 4740786449 hh))) (fun i l l' => g.mono i _ (ay 0x1111ba3392ba3911 l) a1 a2) (fun i l l' => by exact False.elim (a7 0x9111da39d3c1cb2ba93174 l l' (I6 (IO _)) (Nat.min_eq_right (aN 0x1111c91bc1a11b31a913 a4 (Nat.le_max_right _ _) (Nat.sub_le _ _))))) h
theorem Bo {left : Bool} {kk a b : Keyed} (h : aI a <= aI b) (hb : di left kk b = true) : di left kk a = true := by
 cases left
 ·have : ¬ aI kk < aI b := by simpa [di] using hb
  show (!decide (aI kk < aI a)) = true
  rw [decide_eq_false (by exact eF 0x111b9dba9a9d2 h this)]; rfl
 ·have : aI b < aI kk := by simpa [di] using hb
  exact Jf (eF 0x111abab99a9a2 h this)
theorem iq {left : Bool} {kk : Keyed} {arr : AK} {af hint : Nat} {L : List Keyed} {n : Nat} {Q : Option Nat -> SortSt -> Prop} (hk : kindOf st = oneType') (hkk : eU kk) (hL : (arr.toList.drop af).take n = L) (hn : L.length = n) (hI : Ik L) (sd : Sd L) (hh : hint < n)
  (h : ∀ k, k <= n -> (∀ e ∈ L.take k, di left kk e = true) -> (∀ e ∈ L.drop k, di left kk e = false) -> Q (some k) st) : wpS (model prog w) A E s (eW left kk arr af n hint) Q st := by
 have at' : ∀ i (hi : i < L.length), arr[af + i]? = some L[i] := fun i hi => by
  have : L[i]? = some L[i] := I3 hi
  rw [<- this, <- hL, List.getElem?_take, Id (by exact ay 0x111b92ab3a922 hn hi), List.getElem?_drop, JG]
 refine Bn (B := fun i => match L[i]? with | some e => di left kk e | none => false) ⟨hkk, fun i hi => ⟨_, at' i (by exact ay 0x191b92ba3a922 hn hi), hI _ (List.getElem_mem _), by rw [I3 (by exact ay 0x191b92ba3a922 hn hi)]⟩, fun i j l l' => ?_⟩ hk hh fun k hkn h1 h2 => h k hkn (fun e m => ?_) fun e m => ?_
 ·rw [I3 (by exact ay 0x191b92ba3a922 hn l'), I3 (by exact aN 0x1191bc2c91ba3a923 hn l l')]
  rcases Nat.lt_or_eq_of_le l with q | rfl
  ·exact Bo (List.pairwise_iff_getElem.mp sd i j _ _ q)
  ·exact id
 ·obtain ⟨i, hi, rfl⟩ := List.mem_iff_getElem.mp m
  rw [List.length_take] at hi
  have := h1 i (by exact ay 0x111ab1b92a922 hi (Nat.min_le_left _ _))
  rw [I3 (by exact ay 0x111ab1b92a922 hi (Nat.min_le_right _ _))] at this
  rw [List.getElem_take]; exact this
 ·obtain ⟨i, hi, rfl⟩ := List.mem_iff_getElem.mp m
  rw [List.length_drop] at hi
  have := h2 (k + i) (am 27867408) (by exact a7 0x1111c9d33da2bc3ba9323 hn hi (I1 (ay 0x191b91ba3a912 hn hkn)))
  rw [I3 (by exact aN 0x111b9c33ca2ba9322 hi (I1 (ay 0x191b91ba3a912 hn hkn)))] at this
  rw [List.getElem_drop]; exact this
end
end Mine.Internal
namespace Mine.Internal
open PySem PyProof.Rows
noncomputable def jt : Nat -> SM Unit := sortPriv% PySem.Builtin.setMinGallop
noncomputable abbrev RT (τ : Type) : Type := Option AK × AK × τ
noncomputable def ee (a b out : AK) (ia ib : Nat) : AK := out ++ a.extract ia a.size ++ b.extract ib b.size
noncomputable def gA (a b out : AK) (ia ib : Nat) : AK := out ++ b.extract ib b.size ++ a.extract ia a.size
def oO (a b : AK) (mg : Nat) (out : AK) (ia ib ac bc : Nat) : SM (ForInStep (RT (Nat × Nat × Nat × Nat))) := do
 let x <- elem' b ib
 let y <- elem' a ia
 let t <- lt' x y
 match t with
 | some w =>
  if w = true then do
   let x <- elem' b ib
   if (ib + 1 == b.size) = true then pure (.done (some (ee a b (out.push x) ia (ib + 1)), out.push x, ia, ib + 1, 0, bc + 1))
   else if bc + 1 ≥ mg then pure (.done (none, out.push x, ia, ib + 1, 0, bc + 1)) else pure (.yield (none, out.push x, ia, ib + 1, 0, bc + 1))
  else do
   let x <- elem' a ia
   if (ia + 1 + 1 == a.size) = true then pure (.done (some (gA a b (out.push x) (ia + 1) ib), out.push x, ia + 1, ib, ac + 1, 0))
   else if ac + 1 ≥ mg then pure (.done (none, out.push x, ia + 1, ib, ac + 1, 0)) else pure (.yield (none, out.push x, ia + 1, ib, ac + 1, 0))
 | _ => pure (.done (some (ee a b out ia ib), out, ia, ib, ac, bc))
def kS (a b out : AK) (ia ib mg ac bc : Nat) : SM (ForInStep (RT (Nat × Nat × Nat × Nat × Nat))) := do
 let x <- elem' a ia
 if (ia + 1 + 1 == a.size) = true then pure (.done (some (gA a b (out.push x) (ia + 1) ib), out.push x, ia + 1, ib, mg, ac, bc))
 else if (decide (ac < 7) && decide (bc < 7)) = true then pure (.done (none, out.push x, ia + 1, ib, mg, ac, bc)) else pure (.yield (none, out.push x, ia + 1, ib, mg, ac, bc))
def kT (a b out : AK) (ia ib mg ac bc : Nat) : SM (ForInStep (RT (Nat × Nat × Nat × Nat × Nat))) := do
 let x <- elem' b ib
 if (ib + 1 == b.size) = true then pure (.done (some (ee a b (out.push x) ia (ib + 1)), out.push x, ia, ib + 1, mg, ac, bc))
 else do
  let y <- elem' a ia
  let t <- eW true y b (ib + 1) (b.size - (ib + 1)) 0
  match t with
  | some k =>
   if k > 0 then
    (if (ib + 1 + k == b.size) = true then pure (.done (some (ee a b (out.push x ++ b.extract (ib + 1) (ib + 1 + k)) ia (ib + 1 + k)), out.push x ++ b.extract (ib + 1) (ib + 1 + k), ia, ib + 1 + k, mg, ac, k))
    else kS a b (out.push x ++ b.extract (ib + 1) (ib + 1 + k)) ia (ib + 1 + k) mg ac k)
   else kS a b (out.push x) ia (ib + 1) mg ac k
  | _ => pure (.done (some (ee a b (out.push x) ia (ib + 1)), out.push x, ia, ib + 1, mg, ac, bc))
def kU (a b out : AK) (ia ib mg ac bc : Nat) : SM (ForInStep (RT (Nat × Nat × Nat × Nat × Nat))) := do
 jt mg
 let x <- elem' b ib
 let t <- eW false x a ia (a.size - ia) 0
 match t with
 | some k =>
  if k > 0 then
   (if (ia + k + 1 == a.size) = true then pure (.done (some (gA a b (out ++ a.extract ia (ia + k)) (ia + k) ib), out ++ a.extract ia (ia + k), ia + k, ib, mg, k, bc))
   else if (ia + k == a.size) = true then pure (.done (some (ee a b (out ++ a.extract ia (ia + k)) (ia + k) ib), out ++ a.extract ia (ia + k), ia + k, ib, mg, k, bc))
   else kT a b (out ++ a.extract ia (ia + k)) (ia + k) ib mg k bc)
  else kT a b out ia ib mg k bc
 | _ => pure (.done (some (ee a b out ia ib), out, ia, ib, mg, ac, bc))
def oP (a b out : AK) (ia ib mg : Nat) : SM (ForInStep (RT (Nat × Nat × Nat))) := do
 let t <- forIn [0:a.size + b.size] ((none, out, ia, ib, 0, 0) : RT (Nat × Nat × Nat × Nat)) fun O t => oO a b mg t.2.1 t.2.2.1 t.2.2.2.1 t.2.2.2.2.1 t.2.2.2.2.2
 match t.1 with
 | some r => pure (.done (some r, t.2.1, t.2.2.1, t.2.2.2.1, mg))
 | none => do
  rule "list.sort.gallop"
  let u <- forIn [0:a.size + b.size] ((none, t.2.1, t.2.2.1, t.2.2.2.1, mg + 1, t.2.2.2.2.1, t.2.2.2.2.2) : RT (Nat × Nat × Nat × Nat × Nat)) fun O u =>
   if u.2.2.2.2.1 > 1 then kU a b u.2.1 u.2.2.1 u.2.2.2.1 (u.2.2.2.2.1 - 1) u.2.2.2.2.2.1 u.2.2.2.2.2.2 else kU a b u.2.1 u.2.2.1 u.2.2.2.1 u.2.2.2.2.1 u.2.2.2.2.2.1 u.2.2.2.2.2.2
  match u.1 with
  | some r => pure (.done (some r, u.2.1, u.2.2.1, u.2.2.2.1, u.2.2.2.2.1))
  | none => do
   jt (u.2.2.2.2.1 + 1)
   pure (.yield (none, u.2.1, u.2.2.1, u.2.2.2.1, u.2.2.2.2.1 + 1))
set_option maxRecDepth 10000 in
theorem Bp (a b : AK) : oM a b = (do
 rule "list.sort.merge-lo"
 let x <- elem' b 0
 if (1 == b.size) = true then pure (ee a b #[x] 0 1)
 else if (0 + 1 == a.size) = true then pure (gA a b #[x] 0 1)
 else do
  let st <- get
  let t <- forIn [0:a.size + b.size] ((none, #[x], 0, 1, gallopOf st) : RT (Nat × Nat × Nat)) fun O t => oP a b t.2.1 t.2.2.1 t.2.2.2.1 t.2.2.2.2
  match t.1 with
  | some r => pure r
  | none => unsupported "internal:list.sort.merge-bound") := by kernel_rfl
structure Sm (st0 st : SortSt) : Prop where
 a : arrOf st = arrOf st0
 p : pendingOf st = pendingOf st0
 k : kindOf st = oneType'
 f : failedOf st = none
theorem fK {l r : List Keyed} {x : Keyed} {i : Nat} (h : l.drop i = x :: r) : l[i]? = some x /\ l.drop (i + 1) = r /\ l.length = i + 1 + r.length := by
 have h1 : l[i]? = some x := by rw [<- List.head?_drop, h]; rfl
 have h2 : l.drop (i + 1) = r := by rw [<- List.tail_drop, h]; rfl
 have hl := (IX.mp h1).1
 have := congrArg List.length h2
 rw [List.length_drop] at this
 exact ⟨h1, h2, by exact aN 0x1111091911a3c3311a3c391bc3b11a33933 this (I6 (IO _)) (I1 (am 0x11a92a119311 hl))⟩
theorem Sd.sub {l l' : List Keyed} (h : Sd l) (s : l'.Sublist l) : Sd l' := List.Pairwise.sublist s h
theorem Sd.le {l l' : List Keyed} (h : Sd (l ++ l')) : ∀ x ∈ l, ∀ y ∈ l', aI x <= aI y := (List.pairwise_append.mp h).2.2
theorem Sd.app {l l' : List Keyed} (h : Sd l) (h' : Sd l') (q : ∀ x ∈ l, ∀ y ∈ l', aI x <= aI y) : Sd (l ++ l') := List.pairwise_append.mpr ⟨h, h', q⟩
theorem Sd.mid {o c r : List Keyed} (h : Sd (o ++ r)) (h' : Sd (o ++ c)) (q : ∀ x ∈ c, ∀ y ∈ r, aI x <= aI y) : Sd (o ++ c ++ r) :=
 Sd.app h' (h.sub (List.sublist_append_right _ _)) fun x m y m' => (List.mem_append.mp m).elim (fun m => h.le x m y m') fun m => q x m y m'
noncomputable def eX (Z : List Keyed) (γ : AK) : Prop := Sd γ.toList /\ γ.toList.Perm Z
noncomputable def iu {τ : Type} (Z : List Keyed) (J : AK -> τ -> Prop) (c : RT τ) : Prop := match c.1 with
 | some γ => eX Z γ
 | none => J c.2.1 c.2.2
structure LoI (a b : AK) (Z : List Keyed) (out : AK) (ia ib : Nat) (A B : List Keyed) : Prop where
 ea : a.toList.drop ia = A
 eb : b.toList.drop ib = B
 pa : Sd (out.toList ++ A)
 pb : Sd (out.toList ++ B)
 pm : (out.toList ++ (A ++ B)).Perm Z
 la : ∀ x, A.getLast? = some x -> ∀ y ∈ B, aI y <= aI x
section
variable {a b out : AK} {Z A B C : List Keyed} {ia ib : Nat}
theorem LoI.mvB (h : LoI a b Z out ia ib A (C ++ B)) (q : ∀ x ∈ C, ∀ y ∈ A, aI x <= aI y) {out' : AK} (e : out'.toList = out.toList ++ C) : LoI a b Z out' ia (ib + C.length) A B where
 ea := h.ea
 eb := by rw [<- List.drop_drop, h.eb, List.drop_left]
 pa := by rw [e]; exact Sd.mid h.pa (h.pb.sub (by rw [<- I5]; exact List.sublist_append_left _ _)) q
 pb := by rw [e, I5]; exact h.pb
 pm := by
  refine List.Perm.trans ?_ h.pm
  rw [e, I5]
  refine List.Perm.append_left _ ?_
  rw [<- I5, <- I5]
  exact List.Perm.append_right _ List.perm_append_comm
 la := fun x hx y m => h.la x hx y (Jw _ m)
theorem LoI.mvA (h : LoI a b Z out ia ib (C ++ A) B) (q : ∀ x ∈ C, ∀ y ∈ B, aI x <= aI y) {out' : AK} (e : out'.toList = out.toList ++ C) : LoI a b Z out' (ia + C.length) ib A B where
 ea := by rw [<- List.drop_drop, h.ea, List.drop_left]
 eb := h.eb
 pa := by rw [e, I5]; exact h.pa
 pb := by rw [e]; exact Sd.mid h.pb (h.pa.sub (by rw [<- I5]; exact List.sublist_append_left _ _)) q
 pm := by rw [e, I5, <- I5 C]; exact h.pm
 la := fun x hx => h.la x (by rw [List.getLast?_append, hx]; rfl)
theorem kW (x : AK) (i : Nat) : (x.extract i x.size).toList = x.toList.drop i := by
 rw [Array.toList_extract, List.extract_eq_drop_take]
 exact List.take_of_length_le (by simp)
theorem oQ (x : AK) (i k : Nat) : (x.extract i (i + k)).toList = (x.toList.drop i).take k := by
 rw [Array.toList_extract, List.extract_eq_drop_take, Nat.add_sub_cancel_left]
theorem LoI.done (h : LoI a b Z out ia ib A B) (q : A = [] ∨ B = []) : eX Z (ee a b out ia ib) := by
 have e : (ee a b out ia ib).toList = out.toList ++ (A ++ B) := by
  unfold ee
  rw [Array.toList_append, Array.toList_append, kW, kW, h.ea, h.eb, I5]
 refine ⟨?_, e ▸ h.pm⟩
 rw [e]
 rcases q with rfl | rfl
 ·exact h.pb
 ·rw [JA]; exact h.pa
theorem LoI.last {x : Keyed} (h : LoI a b Z out ia ib [x] B) : eX Z (gA a b out ia ib) := by
 have e : (gA a b out ia ib).toList = out.toList ++ B ++ [x] := by
  unfold gA
  rw [Array.toList_append, Array.toList_append, kW, kW, h.ea, h.eb]
 refine ⟨?_, ?_⟩
 ·rw [e]
  exact Sd.mid h.pa h.pb fun y m z m' => by rw [I0.mp m']; exact h.la x rfl y m
 ·rw [e, I5]
  exact (List.Perm.append_left _ List.perm_append_comm).trans h.pm
end
end Mine.Internal
namespace Mine.Internal
open PySem PyProof.Rows
noncomputable def LoJ (a b : AK) (Z : List Keyed) (k : Nat) (out : AK) (ia ib : Nat) : Prop := ∃ a0 a1 A b0 B, LoI a b Z out ia ib (a0 :: a1 :: A) (b0 :: B) /\ k + A.length + B.length <= a.size + b.size
theorem LoJ.down {a b : AK} {Z : List Keyed} {k k' : Nat} {out : AK} {ia ib : Nat} (h : LoJ a b Z k out ia ib) (q : k' <= k) : LoJ a b Z k' out ia ib := by
 obtain ⟨a0, a1, A, b0, B, h, l⟩ := h
 exact ⟨a0, a1, A, b0, B, h, by exact dI 0x111dc3bae331e91dc3ba93312 q l⟩
noncomputable def oR {τ : Type} (st0 : SortSt) (D Y : RT τ -> Prop) (r : ForInStep (RT τ)) (st : SortSt) : Prop := Sm st0 st /\ match r with
 | .done c => D c
 | .yield c => Y c
theorem oS {a b : Nat} (h : ¬ (a == b) = true) : a ≠ b := fun e => h (by rw [e]; exact beq_self_eq_true b)
section
variable {prog : Program} {w : World} {Ar : Around} {E : Value -> Shared -> Prop} {s : Shared} {st st0 : SortSt} {a b out : AK} {Z A B : List Keyed} {ia ib : Nat}
theorem LoI.inA (h : LoI a b Z out ia ib A B) (hZ : Ik Z) : Ik A := fun e m => hZ e (h.pm.mem_iff.mp (Jw _ (JH _ m)))
theorem LoI.inB (h : LoI a b Z out ia ib A B) (hZ : Ik Z) : Ik B := fun e m => hZ e (h.pm.mem_iff.mp (Jw _ (Jw _ m)))
theorem LoI.sdA (h : LoI a b Z out ia ib A B) : Sd A := h.pa.sub (List.sublist_append_right _ _)
theorem LoI.sdB (h : LoI a b Z out ia ib A B) : Sd B := h.pb.sub (List.sublist_append_right _ _)
theorem Sd.head {x : Keyed} {l : List Keyed} (h : Sd (x :: l)) : ∀ y ∈ x :: l, aI x <= aI y := fun y m => (Jx.mp m).elim (fun e => by rw [e]; exact I9 _) ((List.pairwise_cons.mp h).1 y)
theorem Bq {mg ac bc k : Nat} {a0 a1 b0 : Keyed} (hZ : Ik Z) (sm : Sm st0 st) (ok : LoI a b Z out ia ib (a0 :: a1 :: A) (b0 :: B)) (hk : k + A.length + B.length <= a.size + b.size) :
  wpS (model prog w) Ar E s (oO a b mg out ia ib ac bc) (oR st0 (iu Z fun o x => LoJ a b Z (k + 1) o x.1 x.2.1) fun c => c.1 = none /\ LoJ a b Z (k + 1) c.2.1 c.2.2.1 c.2.2.2.1) st := by
 obtain ⟨ga, _, la⟩ := fK ok.ea
 obtain ⟨gb, _, lb⟩ := fK ok.eb
 rw [JG] at ga gb
 rw [Jy] at la lb
 have ia0 := ok.inA hZ a0 Jj
 have ib0 := ok.inB hZ b0 Jj
 unfold oO
 refine IW (b5 gb (IW (b5 ga (IW (js sm.k ib0 ia0 ?_)))))
 by_cases q : aI b0 < aI a0
 ·rw [Jf q]
  have ok' := LoI.mvB (C := [b0]) ok (fun x m y m' => by rw [I0.mp m]; exact Jp (Int.le_of_lt q) (ok.sdA.head y m')) (out' := out.push b0) Array.toList_push
  refine IW (b5 gb ?_)
  cases B with
  | nil =>
   rw [Id (by rw [lb]; exact beq_self_eq_true _)]
   exact IY ⟨sm, ok'.done (.inr rfl)⟩
  | cons b1 B =>
   have j : LoJ a b Z (k + 1) (out.push b0) ia (ib + 1) := ⟨_, _, _, _, _, ok', by rw [Jl] at hk; exact a7 0x11dc311b3a9331dc3ba11933311 hk⟩
   rw [IU (by rw [lb, Jl]; simp)]
   by_cases q2 : bc + 1 ≥ mg
   ·rw [Id q2]; exact IY ⟨sm, j⟩
   ·rw [IU q2]; exact IY ⟨sm, rfl, j⟩
 ·rw [decide_eq_false q]
  have ok' := LoI.mvA (C := [a0]) ok (fun x m y m' => by rw [I0.mp m]; exact Jp (Int.not_lt.mp q) (ok.sdB.head y m')) (out' := out.push a0) Array.toList_push
  refine IW (b5 ga ?_)
  cases A with
  | nil =>
   rw [Id (by rw [la]; exact beq_self_eq_true _)]
   exact IY ⟨sm, ok'.last⟩
  | cons a2 A =>
   have j : LoJ a b Z (k + 1) (out.push a0) (ia + 1) ib := ⟨_, _, _, _, _, ok', by rw [Jl] at hk; exact a7 0x11dc3b11a39331dc3ba11933311 hk⟩
   rw [IU (by rw [la, Jl, Jl]; simp)]
   by_cases q2 : ac + 1 ≥ mg
   ·rw [Id q2]; exact IY ⟨sm, j⟩
   ·rw [IU q2]; exact IY ⟨sm, rfl, j⟩
noncomputable abbrev T5 : Type := Nat × Nat × Nat × Nat × Nat
noncomputable def kX (a b : AK) (Z : List Keyed) (k : Nat) (st0 : SortSt) : ForInStep (RT T5) -> SortSt -> Prop := oR st0 (iu Z fun o x => LoJ a b Z k o x.1 x.2.1) fun c => c.1 = none /\ LoJ a b Z k c.2.1 c.2.2.1 c.2.2.2.1
theorem tE {mg ac bc k : Nat} {a0 a1 b0 : Keyed} (sm : Sm st0 st) (ok : LoI a b Z out ia ib (a0 :: a1 :: A) (b0 :: B)) (hk : k + A.length + B.length <= a.size + b.size) (hl : ∀ y ∈ b0 :: B, aI a0 <= aI y) :
  wpS (model prog w) Ar E s (kS a b out ia ib mg ac bc) (kX a b Z k st0) st := by
 obtain ⟨ga, _, la⟩ := fK ok.ea
 rw [JG] at ga
 rw [Jy] at la
 have ok' := LoI.mvA (C := [a0]) ok (fun x m => by rw [I0.mp m]; exact hl) (out' := out.push a0) Array.toList_push
 unfold kS
 refine IW (b5 ga ?_)
 cases A with
 | nil =>
  rw [Id (by rw [la]; exact beq_self_eq_true _)]
  exact IY ⟨sm, ok'.last⟩
 | cons a2 A =>
  have j : LoJ a b Z k (out.push a0) (ia + 1) ib := ⟨_, _, _, _, _, ok', by rw [Jl] at hk; exact a7 0x11dc3b11a39331dc3ba93311 hk⟩
  rw [IU (by rw [la, Jl, Jl]; simp)]
  by_cases q2 : (decide (ac < 7) && decide (bc < 7)) = true
  ·rw [Id q2]; exact IY ⟨sm, j⟩
  ·rw [IU q2]; exact IY ⟨sm, rfl, j⟩
theorem kY {kk e : Keyed} (h : di true kk e = true) : aI e < aI kk := Jr h
theorem oT {kk e : Keyed} (h : di true kk e = false) : aI kk <= aI e := Int.not_lt.mp (of_decide_eq_false h)
theorem kZ {kk e : Keyed} (h : di false kk e = true) : aI e <= aI kk := Int.not_lt.mp (of_decide_eq_false (by simpa [di] using h))
theorem k4 {kk e : Keyed} (h : di false kk e = false) : aI kk < aI e := Jr (by simpa [di] using h)
theorem oU {x : AK} {i : Nat} {L : List Keyed} (h : x.toList.drop i = L) : (x.toList.drop i).take (x.size - i) = L /\ L.length = x.size - i := by
 have : L.length = x.size - i := by rw [<- h, List.length_drop, Jy]
 exact ⟨by rw [h]; exact List.take_of_length_le (am 4740851985 this), this⟩
theorem tF {mg ac bc k : Nat} {a0 a1 b0 : Keyed} (hZ : Ik Z) (sm : Sm st0 st) (ok : LoI a b Z out ia ib (a0 :: a1 :: A) (b0 :: B)) (hk : k + A.length + B.length <= a.size + b.size) (hl : ∀ y ∈ a0 :: a1 :: A, aI b0 <= aI y) :
  wpS (model prog w) Ar E s (kT a b out ia ib mg ac bc) (kX a b Z k st0) st := by
 obtain ⟨ga, _, la⟩ := fK ok.ea
 obtain ⟨gb, eb, lb⟩ := fK ok.eb
 rw [JG] at ga gb
 rw [Jy] at la lb
 have ok' := LoI.mvB (C := [b0]) ok (fun x m => by rw [I0.mp m]; exact hl) (out' := out.push b0) Array.toList_push
 unfold kT
 refine IW (b5 gb ?_)
 cases B with
 | nil =>
  rw [Id (by rw [lb]; exact beq_self_eq_true _)]
  exact IY ⟨sm, ok'.done (.inr rfl)⟩
 | cons b1 B =>
  rw [IU (by rw [lb, Jl]; simp)]
  obtain ⟨r1, r2⟩ := oU eb
  refine IW (b5 ga (IW (iq sm.k (ok.inA hZ a0 Jj) r1 r2 (ok'.inB hZ) ok'.sdB (by rw [<- r2]; exact Nat.succ_pos _) fun n hn h1 h2 => ?_)))
  dsimp only
  have ok2 := ok'
  rw [<- List.take_append_drop n (b1 :: B)] at ok2
  have hC : ((b1 :: B).take n).length = n := by rw [List.length_take, r2]; exact Nat.min_eq_left hn
  have ok2 := LoI.mvB ok2 (fun x m y m' => Jp (Int.le_of_lt (kY (h1 x m))) (ok.sdA.head y m')) (out' := out.push b0 ++ b.extract (ib + 1) (ib + 1 + n)) (by rw [Array.toList_append, oQ, eb])
  rw [hC] at ok2
  have hs : ∀ c B', (b1 :: B).drop n = c :: B' -> k + A.length + B'.length <= a.size + b.size /\ ∀ y ∈ c :: B', aI a0 <= aI y := fun c B' e => by
   refine ⟨?_, fun y m => oT (h2 y (by rw [e]; exact m))⟩
   have := congrArg List.length e
   rw [List.length_drop, Jl, Jl] at this
   rw [Jl] at hk
   exact eT 0x191111e3f111b3f3dc311e3a9331dc3ba93313 hk this (Nat.sub_le _ _)
  by_cases q : n > 0
  ·rw [Id q]
   cases e : (b1 :: B).drop n with
   | nil =>
    have hl : b.size <= ib + 1 + n := by
     have := List.drop_eq_nil_iff.mp e
     exact aN 0x111bc1c11a3393b11a33912 lb this
    rw [Id (by rw [beq_iff_eq]; exact a7 0x199110001a11933b1da1dc3c11933b3ba1193334 lb r2 hn hl)]
    rw [e] at ok2
    exact IY ⟨sm, ok2.done (.inr rfl)⟩
   | cons c B' =>
    rw [e] at ok2
    have l2 : b.toList.length = ib + 1 + n + 1 + B'.length := (fK ok2.eb).2.2
    rw [Jy] at l2
    rw [IU (by rw [beq_iff_eq, l2]; exact ay 0x9b11a1193333a1193360)]
    exact tE sm ok2 (hs c B' e).1 (hs c B' e).2
  ·rw [IU q]
   obtain rfl : n = 0 := by exact az 0x1101901501931 q
   exact tE sm ok' (hs b1 B rfl).1 (hs b1 B rfl).2
theorem Sm.g (sm : Sm st0 st) (m : Nat) : Sm st0 (SortSt.mk' (kindOf st) (arrOf st) (pendingOf st) m (failedOf st)) := ⟨sm.a, sm.p, sm.k, sm.f⟩
theorem lc {m : Nat} {Q : Unit -> SortSt -> Prop} (h : Q () (SortSt.mk' (kindOf st) (arrOf st) (pendingOf st) m (failedOf st))) : wpS (model prog w) Ar E s (jt m) Q st :=
 wpS_modify (f := fun st => SortSt.mk' (kindOf st) (arrOf st) (pendingOf st) m (failedOf st)) h
theorem tG {mg ac bc k : Nat} (hZ : Ik Z) (sm : Sm st0 st) (j : LoJ a b Z k out ia ib) : wpS (model prog w) Ar E s (kU a b out ia ib mg ac bc) (kX a b Z k st0) st := by
 obtain ⟨a0, a1, A, b0, B, ok, hk⟩ := j
 obtain ⟨gb, _, lb⟩ := fK ok.eb
 rw [JG] at gb
 unfold kU
 have sm := sm.g mg
 obtain ⟨r1, r2⟩ := oU ok.ea
 refine IW (lc (IW (b5 gb (IW (iq sm.k (ok.inB hZ b0 Jj) r1 r2 (ok.inA hZ) ok.sdA (by rw [<- r2]; exact Nat.succ_pos _) fun n hn h1 h2 => ?_)))))
 dsimp only
 have ok2 := ok
 rw [<- List.take_append_drop n (a0 :: a1 :: A)] at ok2
 have hC : ((a0 :: a1 :: A).take n).length = n := by rw [List.length_take, r2]; exact Nat.min_eq_left hn
 have ok2 := LoI.mvA ok2 (fun x m y m' => Jp (kZ (h1 x m)) (ok.sdB.head y m')) (out' := out ++ a.extract ia (ia + n)) (by rw [Array.toList_append, oQ, ok.ea])
 rw [hC] at ok2
 by_cases q : n > 0
 ·rw [Id q]
  obtain ⟨_, q2⟩ := oU ok2.ea
  cases e : (a0 :: a1 :: A).drop n with
  | nil =>
   rw [e] at ok2 q2
   have q2 : 0 = a.size - (ia + n) := q2
   rw [IU (by rw [beq_iff_eq]; exact aN 0x191a93c3b1c013b11a93362 q2 (I6 (IO _))), Id (by rw [beq_iff_eq]; exact (Nat.le_total _ _).elim (fun q0 => aN 0x101100110101c39b1a012ca1ba9334 hn q q0 (Nat.sub_eq_zero_of_le (am 4740720913 q0))) fun q0 => a7 0x1001101901b9c33a93d3b1d013ca1ba9334 hn q2 (I6 (IO _)) (I1 (am 4740720913 q0)))]
   exact IY ⟨sm, ok2.done (.inl rfl)⟩
  | cons c A' =>
   rw [e] at ok2 q2
   rw [Jl] at q2
   cases A' with
   | nil =>
    have q2 : 0 + 1 = a.size - (ia + n) := q2
    rw [Id (by rw [beq_iff_eq]; exact (Nat.le_total _ _).elim (fun q0 => aN 0x101100100101c39b1a012ca1b11a93334 hn q q0 (Nat.sub_eq_zero_of_le (am 4740720913 q0))) fun q0 => (Nat.le_total _ _).elim (fun q1 => aN 0x1010010101c3a93b1c110133b11a93333 q2 q1 (Nat.sub_eq_zero_of_le (ay 0x11ba391ba3911 q1))) fun q1 => aN 0x10110191ba93c33a93c3b1c110133b11a93333 q2 (I6 (IO _)) (I1 (ay 0x11ba931ba9311 q1)))]
    exact IY ⟨sm, ok2.last⟩
   | cons c' A' =>
    rw [Jl] at q2
    rw [IU (by rw [beq_iff_eq]; exact (Nat.le_total _ _).elim (fun q0 => ay 0x1119b1a012b11a93362 q q0) fun q0 => (Nat.le_total _ _).elim (fun q1 => ay 0x11a93b1b11a93361 q1) fun q1 => a7 0x119ba93d33d1111c333b11a93362 q2 (I1 (ay 0x11ba931ba9311 q1))), IU (by rw [beq_iff_eq]; exact (Nat.le_total _ _).elim (fun q0 => ay 0x1119b1a012ba9362 q q0) fun q0 => (Nat.le_total _ _).elim (fun q1 => a7 0x11001d3d1111c333ba9362 q2 (Nat.sub_eq_zero_of_le (ay 0x11ba391ba3911 q1))) fun q1 => a7 0x119ba93d33d1111c333ba9362 q2 (I1 (ay 0x11ba931ba9311 q1)))]
    have := congrArg List.length e
    rw [List.length_drop, Jl, Jl, Jl, Jl] at this
    exact tF hZ sm ok2 (by exact eT 0x19111111e33f11111a33f3dc3be9331dc3ba93313 hk this (Nat.sub_le _ _)) fun y m => Int.le_of_lt (k4 (h2 y (by rw [e]; exact m)))
 ·rw [IU q]
  obtain rfl : n = 0 := by exact az 0x1101901501931 q
  exact tF hZ sm ok hk fun y m => Int.le_of_lt (k4 (h2 y m))
noncomputable abbrev tH : Type := Nat × Nat × Nat
theorem Br {mg k : Nat} (hZ : Ik Z) (sm : Sm st0 st) (j : LoJ a b Z k out ia ib) :
  wpS (model prog w) Ar E s (oP a b out ia ib mg) (oR (τ := tH) st0 (iu Z fun O O => False) fun c => c.1 = none /\ LoJ a b Z (k + 1) c.2.1 c.2.2.1 c.2.2.2.1) st := by
 unfold oP
 have hT : 1 <= a.size + b.size := by
  obtain ⟨_, _, _, _, _, ok, _⟩ := j
  have := (fK ok.ea).2.2
  rw [Jy] at this
  exact aN 0x91c11b3393a931111 this
 refine IW (wpS_mono (wpS_forRange (I := fun j (c : RT (Nat × Nat × Nat × Nat)) st' => Sm st0 st' /\ c.1 = none /\ LoJ a b Z (k + j) c.2.1 c.2.2.1 c.2.2.2.1) (Q := fun c st' => Sm st0 st' /\ iu Z (fun o x => LoJ a b Z (k + 1) o x.1 x.2.1) c) ?_ ?_ ⟨sm, rfl, j⟩) ?_)
 ·rintro j ⟨r, out, ia, ib, ac, bc⟩ st' _ hj ⟨sm, hr, a0, a1, A, b0, B, ok, hk⟩
  refine wpS_mono (Bq (mg := mg) (ac := ac) (bc := bc) hZ sm ok hk) fun r st2 h => ?_
  cases r with
  | yield c => exact h
  | done c =>
   refine ⟨h.1, ?_⟩
   obtain ⟨r, c⟩ := c
   cases r with
   | some γ => exact h.2
   | none => exact LoJ.down h.2 (am 0x111a933119310)
 ·rintro ⟨r, out, ia, ib, ac, bc⟩ st' ⟨sm, hr, j⟩
  dsimp only at hr
  subst hr
  exact ⟨sm, LoJ.down j (by exact aN 0x111acb31cb3111a93119312 hT (Nat.le_max_right _ _))⟩
 rintro ⟨r, out, ia, ib, ac, bc⟩ st' ⟨sm, h⟩
 cases r with
 | some γ => exact IY ⟨sm, h⟩
 | none =>
  refine IW (wpS_lift (wpAny_rule ⟨rfl, ?_⟩))
  refine IW (wpS_mono (wpS_forRange (I := fun _ (c : RT T5) st' => Sm st0 st' /\ c.1 = none /\ LoJ a b Z (k + 1) c.2.1 c.2.2.1 c.2.2.2.1) (Q := fun c st' => Sm st0 st' /\ iu Z (fun o x => LoJ a b Z (k + 1) o x.1 x.2.1) c) ?_ ?_ ⟨sm, rfl, h⟩) ?_)
  ·rintro j ⟨r, out, ia, ib, mg, ac, bc⟩ st' _ hj ⟨sm, hr, j⟩
   refine wpS_mono (Q := kX a b Z (k + 1) st0) ?_ fun r st2 h => by cases r <;> exact h
   dsimp only
   by_cases q : mg > 1
   ·rw [Id q]; exact tG hZ sm j
   ·rw [IU q]; exact tG hZ sm j
  ·rintro ⟨r, out, ia, ib, mg, ac, bc⟩ st' ⟨sm, hr, j⟩
   dsimp only at hr
   subst hr
   exact ⟨sm, j⟩
  ·rintro ⟨r, out, ia, ib, mg, ac, bc⟩ st' ⟨sm, h⟩
   cases r with
   | some γ => exact IY ⟨sm, h⟩
   | none => exact IW (lc (IY ⟨sm.g _, rfl, h⟩))
structure Mg (a b : AK) (Z : List Keyed) : Prop where
 pm : (a.toList ++ b.toList).Perm Z
 ik : Ik Z
 sa : Sd a.toList
 sb : Sd b.toList
 fi : ∀ x, b.toList.head? = some x -> ∀ y ∈ a.toList, aI x <= aI y
 la : ∀ x, a.toList.getLast? = some x -> ∀ y ∈ b.toList, aI y <= aI x
 ha : 1 <= a.size
 hb : 1 <= b.size
theorem Bs {Q : AK -> SortSt -> Prop} (m : Mg a b Z) (sm : Sm st0 st) (h : ∀ γ st', eX Z γ -> Sm st0 st' -> Q γ st') : wpS (model prog w) Ar E s (oM a b) Q st := by
 rw [Bp]
 obtain ⟨b0, B, eb⟩ : ∃ b0 B, b.toList = b0 :: B := by
  cases e : b.toList with
  | nil => have := m.hb; rw [<- Jy, e] at this; cases this
  | cons b0 B => exact ⟨b0, B, rfl⟩
 have gb : b[0]? = some b0 := by rw [<- JG, eb]; rfl
 have lb : b.size = B.length + 1 := by rw [<- Jy, eb]; rfl
 have sb := m.sb
 rw [eb] at sb
 have ok : LoI a b Z #[b0] 0 1 a.toList B := ⟨rfl, by rw [eb]; rfl, List.pairwise_cons.mpr ⟨m.fi b0 (by rw [eb]; rfl), m.sa⟩, sb, by
  refine List.Perm.trans ?_ m.pm
  rw [eb]
  exact (List.perm_middle (a := b0) (l₁ := a.toList) (l₂ := B)).symm, fun x hx y my => m.la x hx y (by rw [eb]; exact JB _ my)⟩
 refine IW (wpS_lift (wpAny_rule ⟨rfl, IW (b5 gb ?_)⟩))
 cases B with
 | nil =>
  rw [Id (by rw [lb]; rfl)]
  exact IY (h _ _ (ok.done (.inr rfl)) sm)
 | cons b1 B =>
  rw [IU (by rw [lb, Jl, beq_iff_eq]; exact az 0x911119331160)]
  have la : a.size = a.toList.length := Jy.symm
  generalize a.toList = A at ok la
  match A, la, ok with
  | [], la, _ => have := m.ha; rw [la] at this; cases this
  | [x], la, ok =>
   rw [Id (by rw [la]; rfl)]
   exact IY (h _ _ ok.last sm)
  | a0 :: a1 :: A, la, ok =>
   rw [IU (by rw [la, Jl, Jl, beq_iff_eq]; exact az 0x911119331101360)]
   refine IW (wpS_get (IW (wpS_mono (wpS_forRange (I := fun j (c : RT tH) st' => Sm st0 st' /\ c.1 = none /\ LoJ a b Z (1 + j) c.2.1 c.2.2.1 c.2.2.2.1) (Q := fun c st' => Sm st0 st' /\ iu Z (fun O O => False) c) ?_ ?_ ⟨sm, rfl, _, _, _, _, _, ok, ?_⟩) ?_)))
   ·rintro j ⟨r, out, ia, ib, mg⟩ st' _ hj ⟨sm, hr, j⟩
    refine wpS_mono (Br (mg := mg) m.ik sm j) fun r st2 h => by cases r <;> exact h
   ·rintro ⟨r, out, ia, ib, mg⟩ st' ⟨sm, hr, a0, a1, A, b0, B, ok, hk⟩
    exfalso
    exact a7 0x119dc31dc3ba911333172 hk (Nat.le_max_right _ _)
   ·rw [la, lb, Jl, Jl, Jl]; exact am 0x11111a3311119333a9011133310
   ·rintro ⟨r, out, ia, ib, mg⟩ st' ⟨sm, h'⟩
    cases r with
    | some γ => exact IY (h _ _ h' sm)
    | none => exact h'.elim
end
end Mine.Internal
namespace Mine.Internal
open PySem PyProof.Rows
noncomputable abbrev HT (τ : Type) : Type := Option AK × Nat × Nat × AK × τ
noncomputable def dR (a b out : AK) (na nb : Nat) : AK := a.extract 0 na ++ b.extract 0 nb ++ out.reverse
noncomputable def fL (a b out : AK) (na nb : Nat) : AK := b.extract 0 nb ++ a.extract 0 na ++ out.reverse
def oW (a b : AK) (mg na nb : Nat) (out : AK) (ac bc : Nat) : SM (ForInStep (HT (Nat × Nat))) := do
 let x <- elem' b (nb - 1)
 let y <- elem' a (na - 1)
 let t <- lt' x y
 match t with
 | some w =>
  if w = true then do
   let x <- elem' a (na - 1)
   if (na - 1 == 0) = true then pure (.done (some (dR a b (out.push x) (na - 1) nb), na - 1, nb, out.push x, ac + 1, 0))
   else if ac + 1 ≥ mg then pure (.done (none, na - 1, nb, out.push x, ac + 1, 0)) else pure (.yield (none, na - 1, nb, out.push x, ac + 1, 0))
  else do
   let x <- elem' b (nb - 1)
   if (nb - 1 == 1) = true then pure (.done (some (fL a b (out.push x) na (nb - 1)), na, nb - 1, out.push x, 0, bc + 1))
   else if bc + 1 ≥ mg then pure (.done (none, na, nb - 1, out.push x, 0, bc + 1)) else pure (.yield (none, na, nb - 1, out.push x, 0, bc + 1))
 | _ => pure (.done (some (dR a b out na nb), na, nb, out, ac, bc))
def ld (a b : AK) (na nb : Nat) (out : AK) (mg ac bc : Nat) : SM (ForInStep (HT (Nat × Nat × Nat))) := do
 let x <- elem' a (na - 1)
 if (na - 1 == 0) = true then pure (.done (some (dR a b (out.push x) (na - 1) nb), na - 1, nb, out.push x, mg, ac, bc))
 else if (decide (ac < 7) && decide (bc < 7)) = true then pure (.done (none, na - 1, nb, out.push x, mg, ac, bc)) else pure (.yield (none, na - 1, nb, out.push x, mg, ac, bc))
def lg (a b : AK) (na nb : Nat) (out : AK) (mg ac bc : Nat) : SM (ForInStep (HT (Nat × Nat × Nat))) := do
 let x <- elem' b (nb - 1)
 if (nb - 1 == 1) = true then pure (.done (some (fL a b (out.push x) na (nb - 1)), na, nb - 1, out.push x, mg, ac, bc))
 else do
  let y <- elem' a (na - 1)
  let t <- eW true y b 0 (nb - 1) (nb - 1 - 1)
  match t with
  | some k =>
   if nb - 1 - k > 0 then
    (if (k == 1) = true then pure (.done (some (fL a b (out.push x ++ (b.extract k (nb - 1)).reverse) na k), na, k, out.push x ++ (b.extract k (nb - 1)).reverse, mg, ac, nb - 1 - k))
    else if (k == 0) = true then pure (.done (some (dR a b (out.push x ++ (b.extract k (nb - 1)).reverse) na k), na, k, out.push x ++ (b.extract k (nb - 1)).reverse, mg, ac, nb - 1 - k))
    else ld a b na k (out.push x ++ (b.extract k (nb - 1)).reverse) mg ac (nb - 1 - k))
   else ld a b na (nb - 1) (out.push x) mg ac (nb - 1 - k)
  | _ => pure (.done (some (dR a b (out.push x) na (nb - 1)), na, nb - 1, out.push x, mg, ac, bc))
def lj (a b : AK) (na nb : Nat) (out : AK) (mg ac bc : Nat) : SM (ForInStep (HT (Nat × Nat × Nat))) := do
 jt mg
 let x <- elem' b (nb - 1)
 let t <- eW false x a 0 na (na - 1)
 match t with
 | some k =>
  if na - k > 0 then
   (if (k == 0) = true then pure (.done (some (dR a b (out ++ (a.extract k na).reverse) k nb), k, nb, out ++ (a.extract k na).reverse, mg, na - k, bc))
   else lg a b k nb (out ++ (a.extract k na).reverse) mg (na - k) bc)
  else lg a b na nb out mg (na - k) bc
 | _ => pure (.done (some (dR a b out na nb), na, nb, out, mg, ac, bc))
def oX (a b : AK) (na nb : Nat) (out : AK) (mg : Nat) : SM (ForInStep (HT Nat)) := do
 let t <- forIn [0:a.size + b.size] ((none, na, nb, out, 0, 0) : HT (Nat × Nat)) fun O t => oW a b mg t.2.1 t.2.2.1 t.2.2.2.1 t.2.2.2.2.1 t.2.2.2.2.2
 match t.1 with
 | some r => pure (.done (some r, t.2.1, t.2.2.1, t.2.2.2.1, mg))
 | none => do
  rule "list.sort.gallop"
  let u <- forIn [0:a.size + b.size] ((none, t.2.1, t.2.2.1, t.2.2.2.1, mg + 1, t.2.2.2.2.1, t.2.2.2.2.2) : HT (Nat × Nat × Nat)) fun O u =>
   if u.2.2.2.2.1 > 1 then lj a b u.2.1 u.2.2.1 u.2.2.2.1 (u.2.2.2.2.1 - 1) u.2.2.2.2.2.1 u.2.2.2.2.2.2 else lj a b u.2.1 u.2.2.1 u.2.2.2.1 u.2.2.2.2.1 u.2.2.2.2.2.1 u.2.2.2.2.2.2
  match u.1 with
  | some r => pure (.done (some r, u.2.1, u.2.2.1, u.2.2.2.1, u.2.2.2.2.1))
  | none => do
   jt (u.2.2.2.2.1 + 1)
   pure (.yield (none, u.2.1, u.2.2.1, u.2.2.2.1, u.2.2.2.2.1 + 1))
theorem Bt (a b : AK) : oN a b = (do
 rule "list.sort.merge-hi"
 let x <- elem' a (a.size - 1)
 if (a.size - 1 == 0) = true then pure (dR a b #[x] (a.size - 1) b.size)
 else if (b.size == 1) = true then pure (fL a b #[x] (a.size - 1) b.size)
 else do
  let st <- get
  let t <- forIn [0:a.size + b.size] ((none, a.size - 1, b.size, #[x], gallopOf st) : HT Nat) fun O t => oX a b t.2.1 t.2.2.1 t.2.2.2.1 t.2.2.2.2
  match t.1 with
  | some r => pure r
  | none => unsupported "internal:list.sort.merge-bound") := by kernel_rfl
structure HiI (a b : AK) (Z : List Keyed) (out : AK) (A B : List Keyed) : Prop where
 ea : a.toList.take A.length = A
 eb : b.toList.take B.length = B
 pa : Sd (A ++ out.toList.reverse)
 pb : Sd (B ++ out.toList.reverse)
 pm : (A ++ (B ++ out.toList.reverse)).Perm Z
 fi : ∀ x, B.head? = some x -> ∀ y ∈ A, aI x <= aI y
theorem oY {l r : List Keyed} {x : Keyed} (h : l.take (r ++ [x]).length = r ++ [x]) : l[r.length]? = some x /\ r.length < l.length := by
 have h1 : l[r.length]? = some x := by
  have := congrArg (fun l => l[r.length]?) h
  rw [List.getElem?_take, Id (by simp)] at this
  rw [this]; simp
 exact ⟨h1, (IX.mp h1).1⟩
theorem tI {l r c : List Keyed} (h : l.take (r ++ c).length = r ++ c) : l.take r.length = r := by
 have := congrArg (List.take r.length) h
 rwa [List.take_take, List.take_left, Nat.min_eq_left (by simp)] at this
section
variable {a b out : AK} {Z A B C : List Keyed}
theorem HiI.mvA (h : HiI a b Z out (A ++ C) B) (q : ∀ x ∈ B, ∀ y ∈ C, aI x <= aI y) {out' : AK} (e : out'.toList.reverse = C ++ out.toList.reverse) : HiI a b Z out' A B where
 ea := tI h.ea
 eb := h.eb
 pa := by rw [e, <- I5]; exact h.pa
 pb := by
  rw [e, <- I5]
  exact Sd.app (Sd.app (h.pb.sub (List.sublist_append_left _ _)) (h.pa.sub ((List.sublist_append_right A C).trans (List.sublist_append_left _ _))) q) (h.pb.sub (List.sublist_append_right _ _)) fun x m y m' => (List.mem_append.mp m).elim (fun m => h.pb.le x m y m') fun m => h.pa.le x (Jw _ m) y m'
 pm := by
  refine List.Perm.trans ?_ h.pm
  rw [e, I5]
  refine List.Perm.append_left _ ?_
  rw [<- I5, <- I5]
  exact List.Perm.append_right _ List.perm_append_comm
 fi := fun x hx y m => h.fi x hx y (JH _ m)
theorem HiI.mvB (h : HiI a b Z out A (B ++ C)) (q : ∀ x ∈ A, ∀ y ∈ C, aI x <= aI y) {out' : AK} (e : out'.toList.reverse = C ++ out.toList.reverse) : HiI a b Z out' A B where
 ea := h.ea
 eb := tI h.eb
 pb := by rw [e, <- I5]; exact h.pb
 pa := by
  rw [e, <- I5]
  exact Sd.app (Sd.app (h.pa.sub (List.sublist_append_left _ _)) (h.pb.sub ((List.sublist_append_right B C).trans (List.sublist_append_left _ _))) q) (h.pa.sub (List.sublist_append_right _ _)) fun x m y m' => (List.mem_append.mp m).elim (fun m => h.pa.le x m y m') fun m => h.pb.le x (Jw _ m) y m'
 pm := by rw [e, <- I5 B]; exact h.pm
 fi := fun x hx => h.fi x (by rw [List.head?_append, hx]; rfl)
theorem ll (x : AK) (k : Nat) : (x.extract 0 k).toList = x.toList.take k := by
 rw [Array.toList_extract, List.extract_eq_drop_take]; rfl
theorem HiI.done (h : HiI a b Z out A B) (q : A = [] ∨ B = []) : eX Z (dR a b out A.length B.length) := by
 have e : (dR a b out A.length B.length).toList = A ++ (B ++ out.toList.reverse) := by
  unfold dR
  rw [Array.toList_append, Array.toList_append, ll, ll, Array.toList_reverse, h.ea, h.eb, I5]
 refine ⟨?_, e ▸ h.pm⟩
 rw [e]
 rcases q with rfl | rfl
 ·exact h.pb
 ·exact h.pa
theorem HiI.first {x : Keyed} (h : HiI a b Z out A [x]) : eX Z (fL a b out A.length 1) := by
 have e : (fL a b out A.length 1).toList = [x] ++ (A ++ out.toList.reverse) := by
  unfold fL
  rw [Array.toList_append, Array.toList_append, ll, ll, Array.toList_reverse, h.ea, show b.toList.take 1 = [x] from h.eb, I5]
 refine ⟨?_, ?_⟩
 ·rw [e]
  exact Sd.app (List.pairwise_singleton _ _) h.pa fun y m z m' => by
   rw [I0.mp m]
   exact (List.mem_append.mp m').elim (h.fi x rfl z) fun m' => h.pb.le x Jj z m'
 ·rw [e]
  refine List.Perm.trans ?_ h.pm
  rw [<- I5, <- I5]
  exact List.Perm.append_right _ List.perm_append_comm
theorem HiI.inA (h : HiI a b Z out A B) (hZ : Ik Z) : Ik A := fun e m => hZ e (h.pm.mem_iff.mp (JH _ m))
theorem HiI.inB (h : HiI a b Z out A B) (hZ : Ik Z) : Ik B := fun e m => hZ e (h.pm.mem_iff.mp (Jw _ (JH _ m)))
theorem HiI.sdA (h : HiI a b Z out A B) : Sd A := h.pa.sub (List.sublist_append_left _ _)
theorem HiI.sdB (h : HiI a b Z out A B) : Sd B := h.pb.sub (List.sublist_append_left _ _)
theorem Sd.end {x : Keyed} {l : List Keyed} (h : Sd (l ++ [x])) : ∀ y ∈ l ++ [x], aI y <= aI x := fun y m => (List.mem_append.mp m).elim (fun m => h.le y m x Jj) fun m => by rw [I0.mp m]; exact I9 _
theorem lq (out : AK) (x : Keyed) : (out.push x).toList.reverse = [x] ++ out.toList.reverse := by rw [Array.toList_push, List.reverse_append]; rfl
end
end Mine.Internal
namespace Mine.Internal
open PySem PyProof.Rows
structure lu (a b : AK) (Z : List Keyed) (k : Nat) (out : AK) (na nb : Nat) (A B : List Keyed) (a0 b1 b0 : Keyed) : Prop where
 ok : HiI a b Z out (A ++ [a0]) (B ++ [b1] ++ [b0])
 na : na = A.length + 1
 nb : nb = B.length + 2
 hk : k + A.length + B.length <= a.size + b.size
noncomputable def HiJ (a b : AK) (Z : List Keyed) (k : Nat) (out : AK) (na nb : Nat) : Prop := ∃ A B a0 b1 b0, lu a b Z k out na nb A B a0 b1 b0
theorem HiJ.down {a b : AK} {Z : List Keyed} {k k' : Nat} {out : AK} {na nb : Nat} (h : HiJ a b Z k out na nb) (q : k' <= k) : HiJ a b Z k' out na nb := by
 obtain ⟨A, B, a0, b1, b0, h⟩ := h
 exact ⟨A, B, a0, b1, b0, h.ok, h.na, h.nb, by have := h.hk; exact dI 0x111dc3bae331e91dc3ba93312 q this⟩
noncomputable def ju {τ : Type} (Z : List Keyed) (J : Nat -> Nat -> AK -> Prop) (c : HT τ) : Prop := match c.1 with
 | some γ => eX Z γ
 | none => J c.2.1 c.2.2.1 c.2.2.2.1
noncomputable def jv {τ : Type} (st0 : SortSt) (Z : List Keyed) (J : Nat -> Nat -> AK -> Prop) (r : ForInStep (HT τ)) (st : SortSt) : Prop := Sm st0 st /\ match r with
 | .done c => ju Z J c
 | .yield c => c.1 = none /\ J c.2.1 c.2.2.1 c.2.2.2.1
section
variable {prog : Program} {w : World} {Ar : Around} {E : Value -> Shared -> Prop} {s : Shared} {st st0 : SortSt} {a b out : AK} {Z A B : List Keyed} {na nb : Nat} {a0 b1 b0 : Keyed}
theorem oZ (ok : HiI a b Z out (A ++ [a0]) B) : a[A.length]? = some a0 := by rw [<- JG]; exact (oY ok.ea).1
theorem o0 (ok : HiI a b Z out A (B ++ [b0])) : b[B.length]? = some b0 := by rw [<- JG]; exact (oY ok.eb).1
theorem dT (l : List Keyed) : l = [] ∨ ∃ r x, l = r ++ [x] := by
 rcases List.eq_nil_or_concat l with h | ⟨r, x, h⟩
 ·exact .inl h
 ·exact .inr ⟨r, x, by rw [h, List.concat_eq_append]⟩
theorem Bu {mg ac bc k : Nat} (hZ : Ik Z) (sm : Sm st0 st) (j : lu a b Z k out na nb A B a0 b1 b0) :
  wpS (model prog w) Ar E s (oW a b mg na nb out ac bc) (jv st0 Z fun na nb o => HiJ a b Z (k + 1) o na nb) st := by
 obtain ⟨ok, rfl, rfl, hk⟩ := j
 have ga := oZ ok
 have gb := o0 ok
 have lB : (B ++ [b1]).length = B.length + 1 := by simp
 rw [lB] at gb
 have ia0 := ok.inA hZ a0 (by simp)
 have ib0 := ok.inB hZ b0 (by simp)
 unfold oW
 refine IW (b5 gb (IW (b5 ga (IW (js sm.k ib0 ia0 ?_)))))
 by_cases q : aI b0 < aI a0
 ·rw [Jf q]
  have ok' := HiI.mvA ok (fun x m y m' => by rw [I0.mp m']; exact Jp (ok.sdB.end x m) (Int.le_of_lt q)) (lq out a0)
  refine IW (b5 ga ?_)
  show wpS _ _ _ _ (if (A.length == 0) = true then _ else _) _ _
  rcases dT A with rfl | ⟨A, a1, rfl⟩
  ·rw [Id (by rfl)]
   have := ok'.done (.inl rfl)
   simp only [List.length_append, List.length_cons, List.length_nil] at this
   exact IY ⟨sm, this⟩
  ·have j : HiJ a b Z (k + 1) (out.push a0) (A ++ [a1]).length (B.length + 2) := ⟨A, B, a1, b1, b0, ok', by simp, rfl, by rw [List.length_append] at hk; simp at hk; exact a7 0x11dc3b11a39331dc3ba11933311 hk⟩
   rw [IU (by simp)]
   by_cases q2 : ac + 1 ≥ mg
   ·rw [Id q2]; exact IY ⟨sm, j⟩
   ·rw [IU q2]; exact IY ⟨sm, rfl, j⟩
 ·rw [decide_eq_false q]
  have ok' := HiI.mvB ok (fun x m y m' => by rw [I0.mp m']; exact Jp (ok.sdA.end x m) (Int.not_lt.mp q)) (lq out b0)
  refine IW (b5 gb ?_)
  show wpS _ _ _ _ (if (B.length + 1 == 1) = true then _ else _) _ _
  rcases dT B with rfl | ⟨B, b2, rfl⟩
  ·rw [Id (by rfl)]
   have := ok'.first
   rw [I2] at this
   exact IY ⟨sm, this⟩
  ·have j : HiJ a b Z (k + 1) (out.push b0) (A.length + 1) ((B ++ [b2]).length + 1) := ⟨A, B, a0, b2, b1, ok', rfl, by simp, by rw [List.length_append] at hk; simp at hk; exact a7 0x11dc311b3a9331dc3ba11933311 hk⟩
   rw [IU (by simp)]
   by_cases q2 : bc + 1 ≥ mg
   ·rw [Id q2]; exact IY ⟨sm, j⟩
   ·rw [IU q2]; exact IY ⟨sm, rfl, j⟩
theorem tJ {mg ac bc k : Nat} (sm : Sm st0 st) (j : lu a b Z k out na nb A B a0 b1 b0) (hl : ∀ x ∈ B ++ [b1] ++ [b0], aI x <= aI a0) :
  wpS (model prog w) Ar E s (ld a b na nb out mg ac bc) (jv st0 Z fun na nb o => HiJ a b Z k o na nb) st := by
 obtain ⟨ok, rfl, rfl, hk⟩ := j
 have ga := oZ ok
 have ok' := HiI.mvA ok (fun x m y m' => by rw [I0.mp m']; exact hl x m) (lq out a0)
 unfold ld
 refine IW (b5 ga ?_)
 show wpS _ _ _ _ (if (A.length == 0) = true then _ else _) _ _
 rcases dT A with rfl | ⟨A, a1, rfl⟩
 ·rw [Id (by rfl)]
  have := ok'.done (.inl rfl)
  simp only [List.length_append, List.length_cons, List.length_nil] at this
  exact IY ⟨sm, this⟩
 ·have j : HiJ a b Z k (out.push a0) (A ++ [a1]).length (B.length + 2) := ⟨A, B, a1, b1, b0, ok', by simp, rfl, by rw [List.length_append] at hk; simp at hk; exact a7 0x11dc3b11a39331dc3ba93311 hk⟩
  rw [IU (by simp)]
  by_cases q2 : (decide (ac < 7) && decide (bc < 7)) = true
  ·rw [Id q2]; exact IY ⟨sm, j⟩
  ·rw [IU q2]; exact IY ⟨sm, rfl, j⟩
theorem tK {x : AK} {L : List Keyed} (h : x.toList.take L.length = L) : (x.toList.drop 0).take L.length = L := h
theorem tL {x out : AK} {L : List Keyed} {n : Nat} (h : x.toList.take L.length = L) : (out ++ (x.extract n L.length).reverse).toList.reverse = L.drop n ++ out.toList.reverse := by
 rw [Array.toList_append, Array.toList_reverse, List.reverse_append, List.reverse_reverse, Array.toList_extract, List.extract_eq_drop_take, <- List.drop_take, h]
theorem tM {L : List Keyed} {n : Nat} (h : n <= L.length) : (L.take n).length = n := by rw [List.length_take]; exact Nat.min_eq_left h
theorem tN {mg ac bc k : Nat} (hZ : Ik Z) (sm : Sm st0 st) (j : lu a b Z k out na nb A B a0 b1 b0) (hl : ∀ x ∈ A ++ [a0], aI x <= aI b0) :
  wpS (model prog w) Ar E s (lg a b na nb out mg ac bc) (jv st0 Z fun na nb o => HiJ a b Z k o na nb) st := by
 obtain ⟨ok, rfl, rfl, hk⟩ := j
 have ga := oZ ok
 have gb := o0 ok
 have lB : (B ++ [b1]).length = B.length + 1 := by simp
 rw [lB] at gb
 have ok' := HiI.mvB ok (fun x m y m' => by rw [I0.mp m']; exact hl x m) (lq out b0)
 unfold lg
 refine IW (b5 gb ?_)
 show wpS _ _ _ _ (if (B.length + 1 == 1) = true then _ else _) _ _
 rcases dT B with rfl | ⟨B, b2, rfl⟩
 ·rw [Id (by rfl)]
  have := ok'.first
  rw [I2] at this
  exact IY ⟨sm, this⟩
 ·rw [IU (by simp)]
  generalize hL : B ++ [b2] ++ [b1] = L at ok'
  have hn : (B ++ [b2]).length + 2 - 1 = L.length := by rw [<- hL]; simp
  rw [hn]
  refine IW (b5 ga (IW (iq sm.k (ok.inA hZ a0 (by simp)) (tK ok'.eb) rfl (ok'.inB hZ) ok'.sdB (by rw [<- hL]; simp) fun n hn h1 h2 => ?_)))
  dsimp only
  have hlen : L.length = B.length + 2 := by rw [<- hL]; simp
  by_cases q : L.length - n > 0
  ·rw [Id q]
   have ok2 := ok'
   rw [<- List.take_append_drop n L] at ok2
   have ok2 := HiI.mvB ok2 (fun x m y m' => Jp (ok.sdA.end x m) (oT (h2 y m'))) (tL ok'.eb)
   have ht := tM hn
   rcases dT (L.take n) with e | ⟨B', c, e⟩
   ·rw [e] at ok2 ht
    have ht : 0 = n := ht
    subst ht
    rw [IU (by simp), Id (by rfl)]
    have := ok2.done (.inr rfl)
    rw [I2] at this
    exact IY ⟨sm, this⟩
   ·rcases dT B' with rfl | ⟨B', d, rfl⟩
    ·rw [e] at ok2 ht
     have ht : 1 = n := ht
     subst ht
     rw [Id (by rfl)]
     have := ok2.first
     rw [I2] at this
     exact IY ⟨sm, this⟩
    ·rw [e] at ok2 ht
     simp only [List.length_append, List.length_cons, List.length_nil] at ht hk
     rw [IU (by rw [beq_iff_eq]; exact am 0x1191101311013a33311961 ht), IU (by rw [beq_iff_eq]; exact am 0x1191101311013a33301961 ht)]
     exact tJ sm ⟨ok2, rfl, by exact am 0x911191101311013a33321a3931 ht, by exact kQ 0x11111dc31101403a9331e1101311013b3332203f3fe1dc3ba93314 hn hlen ht hk⟩ fun x m => Int.le_of_lt (kY (h1 x (by rw [e]; exact m)))
  ·rw [IU q]
   have : n = L.length := by exact ay 0x1111019b3a1b015a91a933 hn q (I6 (IO _))
   subst this
   rw [List.take_length] at h1
   subst hL
   simp only [List.length_append, List.length_cons, List.length_nil] at hk
   exact tJ sm ⟨ok', rfl, by simp, by exact a7 0x11dc311013b3a9331dc3ba93311 hk⟩ fun x m => Int.le_of_lt (kY (h1 x m))
theorem tO {mg ac bc k : Nat} (hZ : Ik Z) (sm : Sm st0 st) (j : HiJ a b Z k out na nb) : wpS (model prog w) Ar E s (lj a b na nb out mg ac bc) (jv st0 Z fun na nb o => HiJ a b Z k o na nb) st := by
 obtain ⟨A, B, a0, b1, b0, ok, rfl, rfl, hk⟩ := j
 have gb := o0 ok
 have lB : (B ++ [b1]).length = B.length + 1 := by simp
 rw [lB] at gb
 unfold lj
 have sm := sm.g mg
 refine IW (lc (IW (b5 gb ?_)))
 generalize hL : A ++ [a0] = L at ok
 have hlen : A.length + 1 = L.length := by rw [<- hL]; simp
 rw [hlen]
 refine IW (iq sm.k (ok.inB hZ b0 (by simp)) (tK ok.ea) rfl (ok.inA hZ) ok.sdA (by rw [<- hlen]; simp) fun n hn h1 h2 => ?_)
 dsimp only
 by_cases q : L.length - n > 0
 ·rw [Id q]
  have ok2 := ok
  rw [<- List.take_append_drop n L] at ok2
  have ok2 := HiI.mvA ok2 (fun x m y m' => Jp (ok.sdB.end x m) (Int.le_of_lt (k4 (h2 y m')))) (tL ok.ea)
  have ht := tM hn
  rcases dT (L.take n) with e | ⟨A', c, e⟩
  ·rw [e] at ok2 ht
   have ht : 0 = n := ht
   subst ht
   rw [Id (by rfl)]
   have := ok2.done (.inl rfl)
   simp only [List.length_append, List.length_cons, List.length_nil] at this
   exact IY ⟨sm, this⟩
  ·rw [e] at ok2 ht
   simp only [List.length_append, List.length_cons, List.length_nil] at ht
   rw [IU (by rw [beq_iff_eq]; exact am 0x11911013a3301961 ht)]
   exact tN hZ sm ⟨ok2, by exact am 0x9111911013a3311a3931 ht, rfl, by exact kQ 0x11912011013a34001f11e33dc3be9331dc3ba93314 hk hlen hn ht⟩ fun x m => kZ (h1 x (by rw [e]; exact m))
 ·rw [IU q]
  have : n = L.length := by exact ay 0x1111019b3a1b015a91a933 hn q (I6 (IO _))
  subst this
  rw [List.take_length] at h1
  subst hL
  exact tN hZ sm ⟨ok, by simp, rfl, hk⟩ fun x m => kZ (h1 x m)
theorem Bv {mg k : Nat} (hZ : Ik Z) (sm : Sm st0 st) (j : HiJ a b Z k out na nb) :
  wpS (model prog w) Ar E s (oX a b na nb out mg) (fun (r : ForInStep (HT Nat)) st => Sm st0 st /\ match r with | .done c => ju Z (fun O O O => False) c | .yield c => c.1 = none /\ HiJ a b Z (k + 1) c.2.2.2.1 c.2.1 c.2.2.1) st := by
 unfold oX
 have hT : 1 <= a.size + b.size := by
  obtain ⟨A, B, a0, b1, b0, ok, _⟩ := j
  have : A.length < a.size := by rw [<- Jy]; exact (oY ok.ea).2
  exact ay 0x119b2a931111 this
 refine IW (wpS_mono (wpS_forRange (I := fun j (c : HT (Nat × Nat)) st' => Sm st0 st' /\ c.1 = none /\ HiJ a b Z (k + j) c.2.2.2.1 c.2.1 c.2.2.1) (Q := fun c st' => Sm st0 st' /\ ju Z (fun na nb o => HiJ a b Z (k + 1) o na nb) c) ?_ ?_ ⟨sm, rfl, j⟩) ?_)
 ·rintro j ⟨r, na, nb, out, ac, bc⟩ st' _ hj ⟨sm, hr, A, B, a0, b1, b0, j⟩
  refine wpS_mono (Bu (mg := mg) (ac := ac) (bc := bc) hZ sm j) fun r st2 h => ?_
  cases r with
  | yield c => exact h
  | done c =>
   refine ⟨h.1, ?_⟩
   obtain ⟨r, c⟩ := c
   cases r with
   | some γ => exact h.2
   | none => exact HiJ.down h.2 (am 0x111a933119310)
 ·rintro ⟨r, na, nb, out, ac, bc⟩ st' ⟨sm, hr, j⟩
  dsimp only at hr
  subst hr
  exact ⟨sm, HiJ.down j (by exact aN 0x111acb31cb3111a93119312 hT (Nat.le_max_right _ _))⟩
 rintro ⟨r, na, nb, out, ac, bc⟩ st' ⟨sm, h⟩
 cases r with
 | some γ => exact IY ⟨sm, h⟩
 | none =>
  refine IW (wpS_lift (wpAny_rule ⟨rfl, ?_⟩))
  refine IW (wpS_mono (wpS_forRange (I := fun _ (c : HT (Nat × Nat × Nat)) st' => Sm st0 st' /\ c.1 = none /\ HiJ a b Z (k + 1) c.2.2.2.1 c.2.1 c.2.2.1) (Q := fun c st' => Sm st0 st' /\ ju Z (fun na nb o => HiJ a b Z (k + 1) o na nb) c) ?_ ?_ ⟨sm, rfl, h⟩) ?_)
  ·rintro j ⟨r, na, nb, out, mg, ac, bc⟩ st' _ hj ⟨sm, hr, j⟩
   refine wpS_mono (Q := jv st0 Z fun na nb o => HiJ a b Z (k + 1) o na nb) ?_ fun r st2 h => by cases r <;> exact h
   dsimp only
   by_cases q : mg > 1
   ·rw [Id q]; exact tO hZ sm j
   ·rw [IU q]; exact tO hZ sm j
  ·rintro ⟨r, na, nb, out, mg, ac, bc⟩ st' ⟨sm, hr, j⟩
   dsimp only at hr
   subst hr
   exact ⟨sm, j⟩
  ·rintro ⟨r, na, nb, out, mg, ac, bc⟩ st' ⟨sm, h⟩
   cases r with
   | some γ => exact IY ⟨sm, h⟩
   | none => exact IW (lc (IY ⟨sm.g _, rfl, h⟩))
theorem Bw {Q : AK -> SortSt -> Prop} (m : Mg a b Z) (sm : Sm st0 st) (h : ∀ γ st', eX Z γ -> Sm st0 st' -> Q γ st') : wpS (model prog w) Ar E s (oN a b) Q st := by
 rw [Bt]
 obtain ⟨A, a0, ea⟩ : ∃ A a0, a.toList = A ++ [a0] := by
  rcases dT a.toList with e | e
  ·have := m.ha; rw [<- Jy, e] at this; cases this
  ·exact e
 have la : a.size = A.length + 1 := by rw [<- Jy, ea]; simp
 have ga : a[A.length]? = some a0 := by rw [<- JG, ea]; simp
 have hl := m.la a0 (by rw [ea]; simp)
 have lb : b.size = b.toList.length := Jy.symm
 have ok : HiI a b Z #[a0] A b.toList := ⟨by rw [ea, List.take_left], by rw [List.take_length], by show Sd (A ++ [a0]); rw [<- ea]; exact m.sa, Sd.app m.sb (List.pairwise_singleton _ _) fun x mx y my => by rw [I0.mp my]; exact hl x mx, by
  refine List.Perm.trans ?_ m.pm
  rw [ea, I5]
  exact List.Perm.append_left _ List.perm_append_comm, fun x hx y my => m.fi x hx y (by rw [ea]; exact JH _ my)⟩
 refine IW (wpS_lift (wpAny_rule ⟨rfl, ?_⟩))
 rw [la]
 refine IW (b5 ga ?_)
 show wpS _ _ _ _ (if (A.length == 0) = true then pure (dR a b #[a0] A.length b.size) else _) _ _
 rcases dT A with rfl | ⟨A, a1, rfl⟩
 ·rw [Id (by rfl), lb]
  exact IY (h _ _ (ok.done (.inl rfl)) sm)
 rw [IU (by simp)]
 rw [lb]
 generalize hB : b.toList = B at ok lb
 rcases dT B with rfl | ⟨B, b0, rfl⟩
 ·have := m.hb; rw [lb] at this; cases this
 rcases dT B with rfl | ⟨B, b1, rfl⟩
 ·show wpS _ _ _ _ (if _ then pure (fL a b #[a0] (A ++ [a1]).length 1) else _) _ _
  rw [Id (by rfl)]
  exact IY (h _ _ ok.first sm)
 rw [IU (by simp)]
 refine IW (wpS_get (IW (wpS_mono (wpS_forRange (I := fun j (c : HT Nat) st' => Sm st0 st' /\ c.1 = none /\ HiJ a b Z (1 + j) c.2.2.2.1 c.2.1 c.2.2.1) (Q := fun c st' => Sm st0 st' /\ ju Z (fun O O O => False) c) ?_ ?_ ⟨sm, rfl, A, B, a1, b1, b0, ok, by simp, by simp, ?_⟩) ?_)))
 ·rintro j ⟨r, na, nb, out, mg⟩ st' _ hj ⟨sm, hr, j⟩
  refine wpS_mono (Bv (mg := mg) m.ik sm j) fun r st2 h => by cases r <;> exact h
 ·rintro ⟨r, na, nb, out, mg⟩ st' ⟨sm, hr, A', B', a0', b1', b0', j⟩
  exfalso
  have := j.hk
  simp only [List.length_append, List.length_cons, List.length_nil] at this la lb
  exact eT 0x111191101311013f331111013e33311101311013f33d31111013e33c3dc3ba911333174 this la lb (Nat.le_max_right _ _)
 ·simp only [List.length_append, List.length_cons, List.length_nil] at la lb; exact aN 0x9911101311013a33c31111013933b3cb3a9011133312 la lb
 ·rintro ⟨r, na, nb, out, mg⟩ st' ⟨sm, h'⟩
  cases r with
  | some γ => exact IY (h _ _ h' sm)
  | none => exact h'.elim
end
end Mine.Internal
namespace Mine.Internal
open PySem PyProof.Rows
noncomputable abbrev OO : Type := Option (Option Nat)
def lv (lo a nrem : Nat) : SM (OO × Nat) := forIn [a:nrem] ((none, a) : OO × Nat) fun O s => do
 let x <- ltAt' (lo + s.2) (lo + s.2 - 1)
 match x with
 | some sm => if sm = true then pure (.done (none, s.2)) else pure (.yield (none, s.2 + 1))
 | _ => pure (.done (some none, s.2))
def iy (lo n nrem : Nat) : SM (Option Nat) := do
 reverseSlice' lo (lo + n)
 let s <- lv lo n nrem
 match s.1 with
 | some r => pure r
 | none => pure (some s.2)
noncomputable def o3 (lo n neq : Nat) : SM (ForInStep (OO × Nat × Nat)) := do
 let x <- ltAt' (lo + n) (lo + n - 1)
 match x with
 | some sm =>
  if sm = true then
   (if neq > 0 then do
    reverseSlice' (lo + n - (neq + 1)) (lo + n)
    pure (.yield (none, n + 1, 0))
   else pure (.yield (none, n + 1, 0)))
  else do
   let y <- ltAt' (lo + n - 1) (lo + n)
   match y with
   | some l => if l = true then pure (.done (none, n, neq)) else pure (.yield (none, n + 1, neq + 1))
   | _ => pure (.done (some none, n, neq))
 | _ => pure (.done (some none, n, neq))
def jw (lo n nrem : Nat) : SM (Option Nat) := do
 rule "list.sort.descending-run"
 let s <- forIn [n + 1:nrem] ((none, n + 1, 0) : OO × Nat × Nat) fun O s => o3 lo s.2.1 s.2.2
 match s.1 with
 | some r => pure r
 | none =>
  if s.2.2 > 0 then do
   reverseSlice' (lo + s.2.1 - (s.2.2 + 1)) (lo + s.2.1)
   iy lo s.2.1 nrem
  else iy lo s.2.1 nrem
theorem Bx (lo nrem : Nat) : countRun' lo nrem = (do
 let s <- lv lo 1 nrem
 match s.1 with
 | some r => pure r
 | none =>
  if (s.2 == nrem) = true then pure (some s.2)
  else if s.2 > 1 then do
   let x <- ltAt' lo (lo + s.2 - 1)
   match x with
   | some rose =>
    if rose = true then pure (some s.2)
    else do
     reverseSlice' lo (lo + s.2)
     jw lo s.2 nrem
   | _ => pure none
  else jw lo s.2 nrem) := by kernel_rfl
noncomputable def o5 (lo k l r : Nat) : SM (ForInStep (Option Bool × Nat × Nat)) :=
 if l ≥ r then pure (.done (none, l, r))
 else do
  let x <- ltAt' (lo + k) (lo + (l + r) / 2)
  match x with
  | some less => if less = true then pure (.yield (none, l, (l + r) / 2)) else pure (.yield (none, (l + r) / 2 + 1, r))
  | _ => pure (.done (some false, l, r))
theorem By (lo n ok : Nat) : binarySort' lo n ok = (do
 let s <- forIn [max ok 1 : n] ((none, ()) : Option Bool × Unit) fun k O => do
  let t <- forIn [0:k] ((none, 0, k) : Option Bool × Nat × Nat) fun O t => o5 lo k t.2.1 t.2.2
  match t.1 with
  | some r => pure (.done (some r, ()))
  | none => do
   moveDown' (lo + k) (lo + t.2.1)
   pure (.yield (none, ()))
 match s.1 with
 | some r => pure r
 | none => pure true) := by kernel_rfl
structure Ch (lo hi : Nat) (st0 st : SortSt) : Prop where
 pm : (arrOf st).Perm (arrOf st0)
 out : ∀ i, (i < lo ∨ hi <= i) -> (arrOf st)[i]? = (arrOf st0)[i]?
 p : pendingOf st = pendingOf st0
 k : kindOf st = oneType'
 f : failedOf st = none
noncomputable def Up (x : AK) (l r : Nat) : Prop := ∀ i j, l <= i -> i <= j -> j < r -> K x i <= K x j
noncomputable def Dn (x : AK) (l r : Nat) : Prop := ∀ i j, l <= i -> i <= j -> j < r -> K x j <= K x i
theorem Up.one (x : AK) (l : Nat) : Up x l (l + 1) := fun i j h1 h2 h3 => by
 have : i = j := by exact ay 0x101101111b3a2a919b1a933 h1 h2 h3
 subst this; exact I9 _
theorem Up.step {x : AK} {l r : Nat} (h : Up x l r) (hl : l < r) (q : K x (r - 1) <= K x r) : Up x l (r + 1) := fun i j h1 h2 h3 => by
 by_cases e : j = r
 ·subst e
  by_cases e2 : i = j
  ·subst e2; exact I9 _
  ·exact Jp (h i (j - 1) h1 (by exact (Nat.lt_or_gt_of_ne e2).elim (fun q8 => ay 0x11111a3b1b92a912 q8 (I6 (IO _))) fun q8 => ay 0x1109b2b91a912 h2 q8) (by exact am 0x11a11933a921 (I1 (am 75600826641 hl)))) q
 ·exact h i j h1 h2 (by exact (Nat.lt_or_gt_of_ne e).elim (fun q8 => am 4740786465 q8) fun q8 => am 0x1109a211a392a922 h3 q8)
theorem Dn.step {x : AK} {l r : Nat} (h : Dn x l r) (hl : l < r) (q : K x r <= K x (r - 1)) : Dn x l (r + 1) := fun i j h1 h2 h3 => by
 by_cases e : j = r
 ·subst e
  by_cases e2 : i = j
  ·subst e2; exact I9 _
  ·exact Jp q (h i (j - 1) h1 (by exact (Nat.lt_or_gt_of_ne e2).elim (fun q8 => ay 0x11111a3b1b92a912 q8 (I6 (IO _))) fun q8 => ay 0x1109b2b91a912 h2 q8) (by exact am 0x11a11933a921 (I1 (am 75600826641 hl))))
 ·exact h i j h1 h2 (by exact (Nat.lt_or_gt_of_ne e).elim (fun q8 => am 4740786465 q8) fun q8 => am 0x1109a211a392a922 h3 q8)
section
variable {prog : Program} {w : World} {A : Around} {E : Value -> Shared -> Prop} {s : Shared} {st st0 : SortSt} {lo hi : Nat}
theorem Ch.size (c : Ch lo hi st0 st) : (arrOf st).size = (arrOf st0).size := c.pm.size_eq
theorem Ch.ik (c : Ch lo hi st0 st) (h : Ik (arrOf st0).toList) : Ik (arrOf st).toList := fun e m => h e ((Array.perm_iff_toList_perm.mp c.pm).mem_iff.mp m)
theorem jx {i j : Nat} {Q : Option Bool -> SortSt -> Prop} (c : Ch lo hi st0 st) (h0 : Ik (arrOf st0).toList) (hi : i < (arrOf st0).size) (hj : j < (arrOf st0).size) (h : Q (some (decide (K (arrOf st) i < K (arrOf st) j))) st) : wpS (model prog w) A E s (ltAt' i j) Q st := by
 rw [ltAt'_eq]
 refine IW (wpS_get ?_)
 have at' : ∀ i, i < (arrOf st0).size -> ∃ x, (arrOf st)[i]? = some x /\ eU x /\ K (arrOf st) i = aI x := fun i hi => by
  have hi : i < (arrOf st).size := by rw [c.size]; exact hi
  have e := getElem?_pos (arrOf st) i hi
  exact ⟨_, e, c.ik h0 _ (by simp), by unfold K; rw [e]; rfl⟩
 obtain ⟨x, e1, i1, k1⟩ := at' i hi
 obtain ⟨y, e2, i2, k2⟩ := at' j hj
 rw [k1, k2] at h
 exact IW (b5 e1 (IW (b5 e2 (js c.k i1 i2 h))))
theorem Ch.mirror (c : Ch lo hi st0 st) {i j : Nat} (q1 : lo <= i) (q2 : j <= hi) (hs : hi <= (arrOf st0).size) : Ch lo hi st0 (setArr st (mirror (arrOf st) i j ((j - i) / 2))) :=
 ⟨(mirror_perm _ _ _ _).trans c.pm, fun k hk => by
  show (PyProof.Rows.mirror (arrOf st) i j ((j - i) / 2))[k]? = _
  rw [getElem?_mirror_all (by rw [c.size]; exact ay 0x111ab1b91a912 q2 hs), IU (by lia)]; exact c.out k hk, c.p, c.k, c.f⟩
theorem Ch.bubble (c : Ch lo hi st0 st) {i d : Nat} (q1 : i < hi) (q2 : lo + d <= i) (hs : hi <= (arrOf st0).size) : Ch lo hi st0 (setArr st (bubble (arrOf st) i d)) :=
 ⟨(bubble_perm _ _ _).trans c.pm, fun k hk => by
  show (PyProof.Rows.bubble (arrOf st) i d)[k]? = _
  rw [getElem?_bubble (by rw [c.size]; exact ay 0x111ab1b92a922 q1 hs) d (by exact ay 0x11a9b31a911 q2), IU (by lia), IU (by lia)]; exact c.out k hk, c.p, c.k, c.f⟩
theorem lw {i j : Nat} {Q : Unit -> SortSt -> Prop} (h : Q () (setArr st (mirror (arrOf st) i j ((j - i) / 2)))) : wpS (model prog w) A E s (reverseSlice' i j) Q st := wpS_modify h
theorem tP {a nrem : Nat} {Q : OO × Nat -> SortSt -> Prop} (c : Ch lo hi st0 st) (h0 : Ik (arrOf st0).toList) (h1 : 1 <= a) (h2 : a <= nrem) (hs : lo + nrem <= (arrOf st0).size) (up : Up (arrOf st) lo (lo + a))
  (h : ∀ n, a <= n -> n <= nrem -> Up (arrOf st) lo (lo + n) -> (n < nrem -> K (arrOf st) (lo + n) < K (arrOf st) (lo + n - 1)) -> Q (none, n) st) : wpS (model prog w) A E s (lv lo a nrem) Q st := by
 unfold lv
 refine wpS_forRange (I := fun i (c : OO × Nat) st' => st' = st /\ c = (none, i) /\ Up (arrOf st) lo (lo + i)) ?_ ?_ ⟨rfl, rfl, up⟩
 ·rintro i x st' ha hi ⟨e1, e2, up⟩
  subst e1 e2
  refine IW (jx c h0 (by dsimp only; exact aN 0x111ca2bc931ba9322 hs hi) (by dsimp only; exact a7 0x1111db391cd2acb31a923 hs hi (Nat.sub_le _ _)) ?_)
  dsimp only
  by_cases q : K (arrOf st') (lo + i) < K (arrOf st') (lo + i - 1)
  ·rw [Jf q]
   exact IY (h i ha (am 4740786449 hi) up fun O => q)
  ·rw [decide_eq_false q]
   exact IY ⟨rfl, rfl, Up.step (r := lo + i) up (Nat.lt_add_of_pos_right (Nat.lt_of_lt_of_le Nat.one_pos (Je h1 ha))) (Int.not_lt.mp q)⟩
 ·rintro x st' ⟨e1, e2, up⟩
  subst e1 e2
  rw [Nat.max_eq_right h2] at up ⊢
  exact h nrem h2 (IO _) up fun q => absurd q (Nat.lt_irrefl _)
noncomputable def o6 (lo nrem : Nat) (st0 : SortSt) (r : Option Nat) (st : SortSt) : Prop := ∃ m, r = some m /\ 1 <= m /\ m <= nrem /\ Up (arrOf st) lo (lo + m) /\ Ch lo (lo + nrem) st0 st
theorem tQ {n nrem : Nat} (c : Ch lo (lo + nrem) st0 st) (h0 : Ik (arrOf st0).toList) (h1 : 1 <= n) (h2 : n <= nrem) (hs : lo + nrem <= (arrOf st0).size) (dn : Dn (arrOf st) lo (lo + n)) : wpS (model prog w) A E s (iy lo n nrem) (o6 lo nrem st0) st := by
 unfold iy
 have c' := c.mirror (i := lo) (j := lo + n) (IO _) (ay 0x11ba1b93a9311 h2) hs
 have hz := c.size
 refine IW (lw (IW (tP c' h0 h1 h2 hs (fun i j q1 q2 q3 => ?_) fun m q1 q2 q3 O => IY ⟨m, rfl, by exact am 0x1119a1a11191112 h1 q1, q2, q3, c'⟩)))
 show K (mirror (arrOf st) lo (lo + n) ((lo + n - lo) / 2)) i <= K (mirror (arrOf st) lo (lo + n) ((lo + n - lo) / 2)) j
 rw [K_mirror (by exact a7 0x9111db3dc931ca1ba9313 h2 hs hz), K_mirror (by exact a7 0x9111db3dc931ca1ba9313 h2 hs hz), Id (by exact ⟨am 4740720913 q1, aN 0x111ba3c2c91ba3922 q2 q3⟩), Id (by exact ⟨ay 0x111ab1b91a912 q1 q2, ay 0x11ba392ba3921 q3⟩)]
 exact dn _ _ (by exact a7 0x1111ba3d111d3c93931c93b2a913 q3 (I6 (IO _)) (I6 (IO _))) (by exact a7 0x1111dc933ba3d1cb1a913 q2 (I6 (IO _)) (I1 (aN 0x11111a3cb3b31cb392a912 q3 (I6 (IO _))))) (by exact a7 0x1111dc933ba3a311d33ca1ba3923 q1 (I1 (am 0x11a111a93931111 h1)) (I1 (a7 0x111111a3dc3c31dc3b2b91a913 q2 q3 (I6 (IO _)))))
theorem o7 {x : AK} {i j : Nat} (hj : j <= x.size) (heq : ∀ k, i <= k -> k < j -> K x k = K x (j - 1)) : K (mirror x i j ((j - i) / 2)) = K x := funext (K_mirror_equal hj heq)
theorem Dn.congr {x y : AK} {l r : Nat} (h : Dn x l r) (e : K y = K x) : Dn y l r := fun i j h1 h2 h3 => by rw [e]; exact h i j h1 h2 h3
structure tR (lo nrem : Nat) (st0 st : SortSt) (n q : Nat) : Prop where
 c : Ch lo (lo + nrem) st0 st
 dn : Dn (arrOf st) lo (lo + n)
 qn : q + 1 <= n
 nr : n <= nrem
 eq : ∀ k, lo + n - (q + 1) <= k -> k < lo + n -> K (arrOf st) k = K (arrOf st) (lo + n - 1)
theorem tS {n nrem : Nat} (c : Ch lo (lo + nrem) st0 st) (h0 : Ik (arrOf st0).toList) (h1 : 1 <= n) (h2 : n + 1 <= nrem) (hs : lo + nrem <= (arrOf st0).size) (dn : Dn (arrOf st) lo (lo + (n + 1))) : wpS (model prog w) A E s (jw lo n nrem) (o6 lo nrem st0) st := by
 unfold jw
 refine IW (wpS_lift (wpAny_rule ⟨rfl, ?_⟩))
 refine IW (wpS_mono (wpS_forRange (I := fun i (x : OO × Nat × Nat) st' => ∃ q, x = (none, i, q) /\ tR lo nrem st0 st' i q) (Q := fun x st' => ∃ i q, x = (none, i, q) /\ tR lo nrem st0 st' i q) ?_ ?_ ⟨0, rfl, c, dn, by exact az 0x111931101310, h2, fun k q1 q2 => by congr 1; exact a7 0x110111001111d3c311a3311013b311d3c3111a311d3c3111d3c3929b1a935 q1 q2 (I6 (IO _)) (I6 (IO _)) (I1 (am 0x111a3931110))⟩) ?_)
 ·rintro i x st' ha hi ⟨q, rfl, d⟩
  have hz := d.c.size
  have hq := d.qn
  show wpS _ _ _ _ (o3 lo i q) _ _
  unfold o3
  refine IW (jx d.c h0 (aN 0x111ca2bc931ba9322 hs hi) (by exact a7 0x1111db391cd2acb31a923 hs hi (Nat.sub_le _ _)) ?_)
  by_cases q1 : K (arrOf st') (lo + i) < K (arrOf st') (lo + i - 1)
  ·rw [Jf q1]
   have dn' := d.dn.step (ay 0x111a11b31b111a93922 h1 ha) (Int.le_of_lt q1)
   show wpS _ _ _ _ (if q > 0 then _ else _) _ _
   by_cases q2 : q > 0
   ·rw [Id q2]
    have ek := o7 (x := arrOf st') (i := lo + i - (q + 1)) (j := lo + i) (a7 0x9111db3ca2dc931ba9313 hs hi hz) d.eq
    exact IW (lw (IY ⟨0, rfl, d.c.mirror (by exact aN 0x11111b3a3c931c11b31a912 hq (I6 (IO _))) (ay 0x11ba2b93a9311 hi) hs, dn'.congr ek, by exact az 0x111931101310, hi, fun k q1 q2 => by congr 1; exact a7 0x110111001111d3c311a3311013b311d3c3111a311d3c3111d3c3929b1a935 q1 q2 (I6 (IO _)) (I6 (IO _)) (I1 (am 0x111a3931110))⟩))
   ·rw [IU q2]
    exact IY ⟨0, rfl, d.c, dn', by exact az 0x111931101310, hi, fun k q1 q2 => by congr 1; exact a7 0x110111001111d3c311a3311013b311d3c3111a311d3c3111d3c3929b1a935 q1 q2 (I6 (IO _)) (I6 (IO _)) (I1 (am 0x111a3931110))⟩
  ·rw [decide_eq_false q1]
   refine IW (jx d.c h0 (by exact a7 0x1111db391cd2acb31a923 hs hi (Nat.sub_le _ _)) (aN 0x111ca2bc931ba9322 hs hi) ?_)
   by_cases q2 : K (arrOf st') (lo + i - 1) < K (arrOf st') (lo + i)
   ·rw [Jf q2]
    exact IY ⟨i, q, rfl, d⟩
   ·rw [decide_eq_false q2]
    have e : K (arrOf st') (lo + i) = K (arrOf st') (lo + i - 1) := by exact bj 0x1010119ada9da9b2 q1 q2
    refine IY ⟨q + 1, rfl, d.c, d.dn.step (ay 0x111a11b31b111a93922 h1 ha) (Int.le_of_eq e), by exact am 0x11a1193111a3111193311 hq, hi, fun k k1 k2 => ?_⟩
    show K (arrOf st') k = K (arrOf st') (lo + i)
    by_cases q3 : k = lo + i
    ·rw [q3]
    ·rw [e]; exact d.eq k (by exact dI 0x1111dc311e39331111e33b311d3c31ab1a913 k1 (I6 (IO _)) (I1 (ay 0x11b11931ba3119311 hq))) (by exact (Nat.lt_or_gt_of_ne q3).elim (fun q8 => ay 0x11ba392ba3921 q8) fun q8 => ay 0x1109ba3211b3a392ba3922 k2 q8)
 ·rintro x st' ⟨q, rfl, d⟩
  exact ⟨_, q, rfl, d⟩
 ·rintro x st' ⟨i, q, rfl, d⟩
  have hz := d.c.size
  have hq := d.qn
  have hn := d.nr
  show wpS _ _ _ _ (if q > 0 then do reverseSlice' (lo + i - (q + 1)) (lo + i); iy lo i nrem else iy lo i nrem) _ _
  by_cases q2 : q > 0
  ·rw [Id q2]
   have ek := o7 (x := arrOf st') (i := lo + i - (q + 1)) (j := lo + i) (a7 0x1911ca1db3dc931ba9313 hs hz hn) d.eq
   exact IW (lw (tQ (d.c.mirror (by exact aN 0x11111b3a3c931c11b31a912 hq (I6 (IO _))) (ay 0x11ba1b93a9311 hn) hs) h0 (am 0x111a012911a3191112 hq q2) d.nr hs (d.dn.congr ek)))
  ·rw [IU q2]
   exact tQ d.c h0 (am 0x11911a3191111 hq) d.nr hs d.dn
theorem Bz {nrem : Nat} (c : Ch lo (lo + nrem) st0 st) (h0 : Ik (arrOf st0).toList) (h2 : 1 <= nrem) (hs : lo + nrem <= (arrOf st0).size) : wpS (model prog w) A E s (countRun' lo nrem) (o6 lo nrem st0) st := by
 rw [Bx]
 have hz := c.size
 refine IW (tP c h0 (IO 1) h2 hs (Up.one _ _) fun n q1 q2 up lt => ?_)
 show wpS _ _ _ _ (if (n == nrem) = true then pure (some n) else if n > 1 then _ else jw lo n nrem) _ _
 by_cases e : (n == nrem) = true
 ·rw [Id e]; exact IY ⟨n, rfl, q1, q2, up, c⟩
 ·rw [IU e]
  have hn : n + 1 <= nrem := by have := oS e; exact (Nat.lt_or_gt_of_ne this).elim (fun q8 => am 0x11a92a119311 q8) fun q8 => am 0x1109a2a91a119312 q2 q8
  have lt := lt hn
  by_cases q3 : n > 1
  ·rw [Id q3]
   refine IW (jx c h0 (aN 0x1111c112b11c31ab931a923 hs hn q3) (by lia) ?_)
   by_cases q4 : K (arrOf st) lo < K (arrOf st) (lo + n - 1)
   ·rw [Jf q4]
    exact IY ⟨n, rfl, q1, q2, up, c⟩
   ·rw [decide_eq_false q4]
    have eq : ∀ k, lo <= k -> k < lo + n -> K (arrOf st) k = K (arrOf st) (lo + n - 1) := fun k k1 k2 => by
     have h1 := up lo k (IO _) k1 k2
     have h2 := up k (lo + n - 1) k1 (by exact aN 0x11111a3cb31cb392a912 k2 (I6 (IO _))) (by exact ay 0x11ba311933ba3921 (I1 (am 0x11a112a931111 q3)))
     exact eF 0x10010111a999b9abda9b3 q4 h1 h2
    have ek := o7 (x := arrOf st) (i := lo) (j := lo + n) (a7 0x1911c11a31db3dc931ba9313 hs hz hn) eq
    have dn : Dn (arrOf st) lo (lo + n) := fun i j k1 k2 k3 => by rw [eq i k1 (aN 0x111ba3c2c91ba3922 k2 k3), eq j (ay 0x111ab1b91a912 k1 k2) k3]; exact I9 _
    exact IW (lw (tS (c.mirror (IO _) (by lia) hs) h0 q1 hn hs ((dn.step (am 0x11a112a93921 q3) (Int.le_of_lt lt)).congr ek)))
  ·rw [IU q3]
   have : n = 1 := by exact az 0x1010119115911111932 q1 q3
   subst this
   refine tS c h0 q1 hn hs (Dn.step (fun i j k1 k2 k3 => ?_) (az 286865696) (Int.le_of_lt lt))
   have : i = j := by exact ay 0x101101111b3a2a919b1a933 k1 k2 k3
   subst this; exact I9 _
theorem BA {n ok : Nat} {Q : Bool -> SortSt -> Prop} (c : Ch lo (lo + n) st0 st) (h0 : Ik (arrOf st0).toList) (hn : 1 <= n) (hok : ok <= n) (hs : lo + n <= (arrOf st0).size) (up : Up (arrOf st) lo (lo + ok)) (h : ∀ st', Ch lo (lo + n) st0 st' -> Up (arrOf st') lo (lo + n) -> Q true st') : wpS (model prog w) A E s (binarySort' lo n ok) Q st := by
 rw [By]
 have up1 : Up (arrOf st) lo (lo + max ok 1) := by
  by_cases q : ok <= 1
  ·rw [Nat.max_eq_right q]; exact Up.one _ _
  ·rw [Nat.max_eq_left (by exact az 0x11119491111 q)]; exact up
 refine IW (wpS_mono (wpS_forRange (I := fun k (x : Option Bool × Unit) st' => x = (none, ()) /\ Ch lo (lo + n) st0 st' /\ Up (arrOf st') lo (lo + k)) (Q := fun x st' => x = (none, ()) /\ Ch lo (lo + n) st0 st' /\ Up (arrOf st') lo (lo + n)) ?_ ?_ ⟨rfl, c, up1⟩) ?_)
 ·rintro k x st' ha hk ⟨rfl, c, up⟩
  have hz := c.size
  refine IW (wpS_mono (wpS_forRange (I := fun j (x : Option Bool × Nat × Nat) st2 => st2 = st' /\ ∃ l r, x = (none, l, r) /\ l <= r /\ r <= k /\ r + j <= l + k /\ (∀ i, lo <= i -> i < lo + l -> K (arrOf st') i <= K (arrOf st') (lo + k)) /\ ∀ i, lo + r <= i -> i < lo + k -> K (arrOf st') (lo + k) <= K (arrOf st') i) (Q := fun x st2 => st2 = st' /\ ∃ l, x = (none, l, l) /\ l <= k /\ (∀ i, lo <= i -> i < lo + l -> K (arrOf st') i <= K (arrOf st') (lo + k)) /\ ∀ i, lo + l <= i -> i < lo + k -> K (arrOf st') (lo + k) <= K (arrOf st') i) ?_ ?_ ⟨rfl, 0, k, rfl, Nat.zero_le _, IO _, by exact az 0x19013019310, fun i h1 h2 => by exact fJ 0x1100193a2a91a992 h1 h2, fun i h1 h2 => by exact tD 0x110a93b2ba931a992 h1 h2⟩) ?_)
  ·rintro j x st2 _ hj ⟨e, l, r, rfl, a1, a2, a3, a4, a5⟩
   subst e
   show wpS _ _ _ _ (o5 lo k l r) _ _
   unfold o5
   by_cases q : l ≥ r
   ·rw [Id q]
    have : l = r := by exact am 0x111019a1a91a932 a1 q
    subst this
    exact IY ⟨rfl, l, rfl, a2, a4, a5⟩
   ·rw [IU q]
    have hm : l <= (l + r) / 2 /\ (l + r) / 2 < r := by lia
    generalize (l + r) / 2 = m at hm
    refine IW (jx c h0 (aN 0x111ca2bc931ba9322 hs hk) (dI 0x11111ea2de1cd2bc931ba9324 hs hk a2 hm.2) ?_)
    by_cases q2 : K (arrOf st2) (lo + k) < K (arrOf st2) (lo + m)
    ·rw [Jf q2]
     exact IY ⟨rfl, l, m, rfl, hm.1, by exact ay 0x111b92ab1a912 a2 hm.2, by exact a7 0x111d92cb3ad31cb311a39312 a3 hm.2, a4, fun i h1 h2 => Jp (Int.le_of_lt q2) (up (lo + m) i (am 27867408) h1 h2)⟩
    ·rw [decide_eq_false q2]
     exact IY ⟨rfl, m + 1, r, rfl, hm.2, a2, by exact a7 0x111bd1cd3a931c11b3311a39312 a3 hm.1, fun i h1 h2 => Jp (up i (lo + m) h1 (ay 0x1111b3a392ba3911 h2) (aN 0x111ca2bc1b93a9322 a2 hm.2)) (Int.not_lt.mp q2), a5⟩
  ·rintro x st2 ⟨e, l, r, rfl, a1, a2, a3, a4, a5⟩
   have : l = r := by exact aN 0x111101bc1c93ba31a91a933 a1 a3 (Nat.le_max_right _ _)
   subst this
   exact ⟨e, l, rfl, a2, a4, a5⟩
  ·rintro x st2 ⟨e, l, rfl, a2, a4, a5⟩
   subst e
   refine IW (wpS_modify (IY ⟨rfl, c.bubble (ay 0x11ba2b93a9321 hk) (by exact (Nat.le_total _ _).elim (fun q0 => aN 0x111101a3c111bc1b93a9313 ha (Nat.le_max_right _ _) (Nat.sub_eq_zero_of_le (ay 0x11b93a931b93a9311 q0))) fun q0 => aN 0x11b93c93a33b93a9311 (I1 (ay 0x11b93a931b93a9311 q0))) hs, fun i j h1 h2 h3 => ?_⟩))
   show K (bubble (arrOf st2) (lo + k) (lo + k - (lo + l))) i <= K (bubble (arrOf st2) (lo + k) (lo + k - (lo + l))) j
   rw [K_bubble (by exact a7 0x9111db3ca2dc931ba9323 hs hk hz) (by exact ay 0x11ba391ba3911 (Nat.sub_le _ _)), K_bubble (by exact a7 0x9111db3ca2dc931ba9323 hs hk hz) (by exact ay 0x11ba391ba3911 (Nat.sub_le _ _))]
   have e : lo + k - (lo + k - (lo + l)) = lo + l := by exact a7 0x1001101101ca3d933ca3ba3d33d93ca31ba3d3ca31ba3934 (I6 (IO _)) (I6 (IO _)) (I1 (ay 0x11ba1b93a9311 a2)) (I1 (ay 0x11ba391ba3911 (Nat.sub_le _ _)))
   rw [e]
   by_cases i1 : i = lo + l
   ·rw [Id i1]
    by_cases j1 : j = lo + l
    ·rw [Id j1]; exact I9 _
    ·rw [IU j1, Id (by exact ⟨(Nat.lt_or_gt_of_ne j1).elim (fun q8 => aN 0x1910a93b2a93c3bc1ba9323 h2 i1 q8) fun q8 => ay 0x11ba932ba9321 q8, ay 0x1111b3a392ba3911 h3⟩)]; exact a5 _ (by exact (Nat.lt_or_gt_of_ne j1).elim (fun q8 => a7 0x1910a93d2a93c3dc1ba9313 h2 i1 q8) fun q8 => aN 0x11111b3c1ca932ba9312 q8 (I6 (IO _))) (by exact (Nat.le_total _ _).elim (fun q0 => aN 0x11110193c111bc1ba3923 ha (Nat.le_max_right _ _) (Nat.sub_eq_zero_of_le (az 0x11119111911 q0))) fun q0 => aN 0x111c1193311b3a3c2ba3922 h3 (I1 (az 0x11911191111 q0)))
   ·rw [IU i1]
    by_cases j1 : j = lo + l
    ·rw [Id j1, IU (by exact fun q9 => aN 0x1119cb32cb3a3a9173 h2 j1 q9.1)]; exact a4 _ h1 (by exact (Nat.lt_or_gt_of_ne i1).elim (fun q8 => ay 0x11ba392ba3921 q8) fun q8 => aN 0x11109ba32ba3c3c91ba3923 h2 j1 q8)
    ·rw [IU j1]
     by_cases j2 : lo + l < j /\ j <= lo + k
     ·rw [Id j2]
      by_cases i2 : lo + l < i /\ i <= lo + k
      ·rw [Id i2]; exact up _ _ (by exact aN 0x11111a3c1cb932a912 i2.1 (I6 (IO _))) (by exact aN 0x1111b1193311a3c1cb1a913 h2 (I6 (IO _)) (I1 (ay 0x119ba3291111 i2.1))) (by exact aN 0x111c1193311b3a3c2ba3922 h3 (I1 (ay 0x119ba3291111 j2.1)))
      ·rw [IU i2]; exact up _ _ h1 (by lia) (by exact aN 0x111c1193311b3a3c2ba3922 h3 (I1 (ay 0x119ba3291111 j2.1)))
     ·rw [IU j2, IU (by lia)]; exact up _ _ h1 h2 (by lia)
 ·rintro x st' ⟨rfl, c, up⟩
  exact ⟨rfl, c, by rw [Nat.max_eq_right (by exact (Nat.le_total _ _).elim (fun q0 => am 0x1111193a111a912 hn (Nat.max_eq_right (az 0x11119111911 q0))) fun q0 => ay 0x111b93ab1a912 hok (Nat.max_eq_left (az 0x11911191111 q0)))] at up; exact up⟩
 ·rintro x st' ⟨rfl, c, up⟩
  exact IY (h st' c up)
end
end Mine.Internal
namespace Mine.Internal
open PySem PyProof.Rows
noncomputable def o8 (sa : Nat) (a : AK) (l : List (Keyed × Nat)) : AK := l.foldl (fun a x => match x with | (p, j) => a.setIfInBounds (sa + j) p) a
theorem tT {sa : Nat} : ∀ (γ : List Keyed) (k : Nat) (x : AK) (P Q S : List Keyed), x.toList = P ++ (Q ++ S) -> P.length = sa + k -> Q.length = γ.length -> (o8 sa x (γ.zipIdx k)).toList = P ++ (γ ++ S)
 | [], k, x, P, Q, S, hx, hp, hq => by
  rw [List.length_eq_zero_iff.mp hq] at hx
  exact hx
 | g :: γ, k, x, P, [], S, hx, hp, hq => nomatch hq
 | g :: γ, k, x, P, q :: Q, S, hx, hp, hq => by
  have e : (x.setIfInBounds (sa + k) g).toList = (P ++ [g]) ++ (Q ++ S) := by
   rw [Array.toList_setIfInBounds, hx, <- hp, List.set_append_right _ _ (IO _), Nat.sub_self, I5]; rfl
  have := tT γ (k + 1) (x.setIfInBounds (sa + k) g) (P ++ [g]) Q S e (by rw [I2, hp]; rfl) (Nat.succ.inj hq)
  rw [I5] at this
  exact this
def lx (sa : Nat) (merged : AK) : SM Bool := do
 modify fun s => setArr s (o8 sa (arrOf s) merged.toList.zipIdx)
 let s <- get
 pure (failedOf s).isNone
def o9 (arr : AK) (sa na sb nb : Nat) : SM Bool :=
 if (nb == 0) = true then pure true
 else if na <= nb then do
  let m <- oM (arr.extract sa sb) (arr.extract sb (sb + nb))
  lx sa m
 else do
  let m <- oN (arr.extract sa sb) (arr.extract sb (sb + nb))
  lx sa m
def tU (arr : AK) (sa na sb nb : Nat) : SM Bool :=
 if (na == 0) = true then pure true
 else do
  let y <- elem' arr (sa + na - 1)
  let t <- eW true y arr sb nb (nb - 1)
  match t with
  | some nb => o9 arr sa na sb nb
  | _ => pure false
theorem BB (i : Nat) : mergeAt' i = (do
 let s <- get
 match ((pendingOf s)[i]?, (pendingOf s)[i + 1]?) with
 | (some (sa, na, pw), some (sb, nb, _)) => do
  modify fun O => setPending s (((pendingOf s).setIfInBounds i (sa, na + nb, pw)).eraseIdxIfInBounds (i + 1))
  let x <- elem' (arrOf s) sb
  let t <- eW false x (arrOf s) sa na 0
  match t with
  | some k => tU (arrOf s) (sa + k) (na - k) sb nb
  | _ => pure false
 | _ => unsupported "internal:list.sort.pending") := by kernel_rfl
structure Two (st : SortSt) (P L1 L2 S : List Keyed) : Prop where
 x : (arrOf st).toList = P ++ (L1 ++ (L2 ++ S))
 i : Ik (arrOf st).toList
 s1 : Sd L1
 s2 : Sd L2
 k : kindOf st = oneType'
 f : failedOf st = none
structure ly (p : Array (Nat × Nat × Nat)) (P L1 L2 S : List Keyed) (st : SortSt) : Prop where
 ex : ∃ M, (arrOf st).toList = P ++ (M ++ S) /\ Sd M /\ M.Perm (L1 ++ L2)
 p : pendingOf st = p
 k : kindOf st = oneType'
 f : failedOf st = none
section
variable {prog : Program} {w : World} {A : Around} {E : Value -> Shared -> Prop} {s : Shared} {st : SortSt} {P L1 L2 S : List Keyed}
theorem Two.one (t : Two st P L1 L2 S) (h : ∀ x ∈ L1, ∀ y ∈ L2, aI x <= aI y) : ly (pendingOf st) P L1 L2 S st :=
 ⟨⟨L1 ++ L2, by rw [t.x, I5], Sd.app t.s1 t.s2 h, .rfl⟩, rfl, t.k, t.f⟩
theorem tV {x : AK} {P Q R : List Keyed} (h : x.toList = P ++ (Q ++ R)) {i j : Nat} (hi : i = P.length) (hj : j = P.length + Q.length) : (x.extract i j).toList = Q := by
 subst hi hj
 rw [oQ, h, List.drop_left, List.take_left]
theorem BC {L1a A1 B1 L2b : List Keyed} {arr : AK} {sa na sb nb : Nat} {Q : Bool -> SortSt -> Prop} (ha : arr = arrOf st) (t : Two st P (L1a ++ A1) (B1 ++ L2b) S) (hsa : sa = P.length + L1a.length) (hna : na = A1.length) (hsb : sb = P.length + L1a.length + A1.length) (hnb : nb = B1.length)
  (hA : A1 ≠ []) (q1 : ∀ x ∈ L1a, ∀ y ∈ B1 ++ L2b, aI x <= aI y) (q2 : ∀ x ∈ L1a ++ A1, ∀ y ∈ L2b, aI x <= aI y) (fi : ∀ x, B1.head? = some x -> ∀ y ∈ A1, aI x <= aI y) (la : ∀ x, A1.getLast? = some x -> ∀ y ∈ B1, aI y <= aI x)
  (h : ∀ st', ly (pendingOf st) P (L1a ++ A1) (B1 ++ L2b) S st' -> Q true st') : wpS (model prog w) A E s (o9 arr sa na sb nb) Q st := by
 subst ha
 unfold o9
 by_cases q : (nb == 0) = true
 ·rw [Id q]
  have e : B1 = [] := List.length_eq_zero_iff.mp (by rw [<- hnb]; exact eq_of_beq q)
  subst e
  exact IY (h st (t.one q2))
 ·rw [IU q]
  have hB : B1.length ≠ 0 := by rw [<- hnb]; exact oS q
  have x1 : (arrOf st).toList = (P ++ L1a) ++ (A1 ++ (B1 ++ (L2b ++ S))) := by rw [t.x]; simp only [List.append_assoc]
  have x2 : (arrOf st).toList = (P ++ L1a ++ A1) ++ (B1 ++ (L2b ++ S)) := by rw [x1]; simp only [List.append_assoc]
  have e1 : ((arrOf st).extract sa sb).toList = A1 := tV x1 (by rw [I2]; exact hsa) (by rw [I2]; exact hsb)
  have e2 : ((arrOf st).extract sb (sb + nb)).toList = B1 := tV x2 (by rw [I2, I2]; exact hsb) (by rw [I2, I2, hsb, hnb])
  have m : Mg ((arrOf st).extract sa sb) ((arrOf st).extract sb (sb + nb)) (A1 ++ B1) := ⟨by rw [e1, e2], fun e m => t.i e (by
    rw [x1]
    rw [<- I5 A1]
    exact Jw _ (JH _ m)), by rw [e1]; exact t.s1.sub (List.sublist_append_right _ _), by rw [e2]; exact t.s2.sub (List.sublist_append_left _ _), by rw [e1, e2]; exact fi, by rw [e1, e2]; exact la,
    by rw [<- Jy, e1]; exact List.length_pos_iff.mpr hA, by rw [<- Jy, e2]; exact Nat.one_le_iff_ne_zero.mpr hB⟩
  have sm : Sm st st := ⟨rfl, rfl, t.k, t.f⟩
  have fin : ∀ γ st', eX (A1 ++ B1) γ -> Sm st st' -> wpS (model prog w) A E s (lx sa γ) Q st' := fun γ st' r sm => by
   unfold lx
   refine IW (wpS_modify (IW (wpS_get (IY ?_))))
   show Q (failedOf st').isNone _
   rw [sm.f]
   have hl : (A1 ++ B1).length = γ.toList.length := r.2.length_eq.symm
   have e3 : (o8 sa (arrOf st') γ.toList.zipIdx).toList = (P ++ L1a) ++ (γ.toList ++ (L2b ++ S)) := tT γ.toList 0 _ (P ++ L1a) (A1 ++ B1) (L2b ++ S) (by rw [sm.a, x1, <- I5 A1]) (by rw [I2, hsa]; rfl) hl
   have inA : ∀ x ∈ γ.toList, x ∈ A1 ∨ x ∈ B1 := fun x m => List.mem_append.mp (r.2.mem_iff.mp m)
   refine h _ ⟨⟨L1a ++ (γ.toList ++ L2b), ?_, ?_, ?_⟩, sm.p, sm.k, sm.f⟩
   ·refine e3.trans ?_
    simp only [List.append_assoc]
   ·refine Sd.app (t.s1.sub (List.sublist_append_left _ _)) (Sd.app r.1 (t.s2.sub (List.sublist_append_right _ _)) fun x m y m' => ?_) fun x m y m' => ?_
    ·rcases inA x m with m | m
     ·exact q2 x (Jw _ m) y m'
     ·exact t.s2.le x m y m'
    ·rcases List.mem_append.mp m' with m' | m'
     ·rcases inA y m' with m' | m'
      ·exact t.s1.le x m y m'
      ·exact q1 x m y (JH _ m')
     ·exact q1 x m y (Jw _ m')
   ·rw [I5]
    refine List.Perm.append_left _ ?_
    rw [<- I5]
    exact List.Perm.append_right _ r.2
  by_cases q3 : na <= nb
  ·rw [Id q3]; exact IW (Bs m sm fin)
  ·rw [IU q3]; exact IW (Bw m sm fin)
theorem BD {i pw pw2 : Nat} {Q : Bool -> SortSt -> Prop} (t : Two st P L1 L2 S) (n1 : L1 ≠ []) (n2 : L2 ≠ []) (e1 : (pendingOf st)[i]? = some (P.length, L1.length, pw)) (e2 : (pendingOf st)[i + 1]? = some (P.length + L1.length, L2.length, pw2))
  (h : ∀ st', ly (((pendingOf st).setIfInBounds i (P.length, L1.length + L2.length, pw)).eraseIdxIfInBounds (i + 1)) P L1 L2 S st' -> Q true st') : wpS (model prog w) A E s (mergeAt' i) Q st := by
 rw [BB]
 refine IW (wpS_get ?_)
 rw [e1, e2]
 refine IW (wpS_modify ?_)
 have t' : Two (setPending st (((pendingOf st).setIfInBounds i (P.length, L1.length + L2.length, pw)).eraseIdxIfInBounds (i + 1))) P L1 L2 S := ⟨t.x, t.i, t.s1, t.s2, t.k, t.f⟩
 have ha : arrOf st = arrOf (setPending st (((pendingOf st).setIfInBounds i (P.length, L1.length + L2.length, pw)).eraseIdxIfInBounds (i + 1))) := rfl
 have h : ∀ st', ly (pendingOf (setPending st (((pendingOf st).setIfInBounds i (P.length, L1.length + L2.length, pw)).eraseIdxIfInBounds (i + 1)))) P L1 L2 S st' -> Q true st' := h
 show wpS _ _ _ _ _ _ (setPending st (((pendingOf st).setIfInBounds i (P.length, L1.length + L2.length, pw)).eraseIdxIfInBounds (i + 1)))
 generalize setPending st (((pendingOf st).setIfInBounds i (P.length, L1.length + L2.length, pw)).eraseIdxIfInBounds (i + 1)) = st1 at t' ha h ⊢
 rw [ha]
 obtain ⟨b0, B, rfl⟩ : ∃ b0 B, L2 = b0 :: B := by cases L2 with | nil => exact absurd rfl n2 | cons b B => exact ⟨b, B, rfl⟩
 have i1 : Ik L1 := fun e m => t'.i e (by rw [t'.x]; exact Jw _ (JH _ m))
 have i2 : Ik (b0 :: B) := fun e m => t'.i e (by rw [t'.x]; exact Jw _ (Jw _ (JH _ m)))
 have x2 : (arrOf st1).toList = (P ++ L1) ++ ((b0 :: B) ++ S) := by rw [t'.x, I5]
 have gb : (arrOf st1)[P.length + L1.length]? = some b0 := by
  rw [<- JG, x2, List.getElem?_append_right (by rw [I2]; exact IO _), I2, Nat.sub_self]; rfl
 refine IW (b5 gb (IW (iq t'.k (i2 b0 Jj) (by rw [t'.x, List.drop_left, List.take_left]) rfl i1 t'.s1 (List.length_pos_iff.mpr n1) fun k hk h1 h2 => ?_)))
 dsimp only
 have l1 := List.take_append_drop k L1
 have hlk : (L1.take k).length = k := by rw [List.length_take]; exact Nat.min_eq_left hk
 have hld : (L1.drop k).length = L1.length - k := List.length_drop
 have le1 : ∀ x ∈ L1.take k, ∀ y ∈ b0 :: B, aI x <= aI y := fun x m y m' => Jp (kZ (h1 x m)) (t'.s2.head y m')
 unfold tU
 by_cases q : (L1.length - k == 0) = true
 ·rw [Id q]
  have e : L1.drop k = [] := List.length_eq_zero_iff.mp (by rw [hld]; exact eq_of_beq q)
  rw [e, JA] at l1
  exact IY (h _ (t'.one (by rw [l1] at le1; exact le1)))
 ·rw [IU q]
  have q := oS q
  obtain ⟨A1, a0, ea⟩ : ∃ A1 a0, L1.drop k = A1 ++ [a0] := by
   rcases dT (L1.drop k) with e | e
   ·rw [e] at hld; exact absurd hld.symm q
   ·exact e
  have ga : (arrOf st1)[P.length + k + (L1.length - k) - 1]? = some a0 := by
   have x3 : (arrOf st1).toList = (P ++ L1.take k ++ A1) ++ (a0 :: ((b0 :: B) ++ S)) := by
    rw [x2]
    conv => lhs; rw [<- l1, ea]
    simp only [List.append_assoc, List.cons_append, List.nil_append]
   have hl : P.length + k + (L1.length - k) - 1 = (P ++ L1.take k ++ A1).length := by
    have : A1.length + 1 = L1.length - k := by rw [<- hld, ea, I2]; rfl
    rw [I2, I2, hlk, <- this]; rfl
   rw [<- JG, x3, hl, List.getElem?_append_right (IO _), Nat.sub_self]; rfl
  have ma : a0 ∈ L1 := by rw [<- l1, ea]; simp
  refine IW (b5 ga (IW (iq t'.k (i1 a0 ma) (by rw [x2, <- I2, List.drop_left, List.take_left]) rfl i2 t'.s2 (Nat.sub_lt (Nat.succ_pos _) Nat.one_pos) fun n hn g1 g2 => ?_)))
  dsimp only
  have l2 := List.take_append_drop n (b0 :: B)
  have sL := t'.s1
  rw [<- l1, ea, <- I5] at sL
  refine BC (L1a := L1.take k) (A1 := L1.drop k) (B1 := (b0 :: B).take n) (L2b := (b0 :: B).drop n) rfl (by rw [l1, l2]; exact t') (by rw [hlk]) (by rw [hld]) (by rw [hlk, hld]; exact aN 0x11101abc33bc3a1cb933a9332 (I6 (IO _)) (I1 (am 4740720913 hk))) (by rw [List.length_take]; exact (Nat.min_eq_left hn).symm) (by rw [ea]; simp) (by rw [l2]; exact le1) (fun x m y m' => ?_) (fun x hx y m => ?_) (fun x hx y m => ?_) (by rw [l1, l2]; exact h)
  ·rw [l1, <- l1, ea, <- I5] at m
   exact Jp (sL.end x m) (oT (g2 y m'))
  ·have : x = b0 := by
    cases n with
    | zero => cases hx
    | succ n => cases hx; rfl
   rw [this]; exact Int.le_of_lt (k4 (h2 y m))
  ·rw [ea, List.getLast?_concat] at hx
   cases hx
   exact Int.le_of_lt (kY (g1 y m))
end
end Mine.Internal
namespace Mine.Internal
open PySem PyProof.Rows
noncomputable abbrev eY : Type := Nat × Nat × Nat
noncomputable abbrev OU : Type := Option Unit × Unit
noncomputable def pd (pw : Nat) : SM (ForInStep OU) := do
 let s <- get
 match (if (pendingOf s).size > 1 then (pendingOf s)[(pendingOf s).size - 2]? else none) with
 | some (_, _, older) =>
  if older <= pw then pure (.done (none, ()))
  else do
   let ok <- mergeAt' ((pendingOf s).size - 2)
   if (!ok) = true then pure (.done (some (), ())) else pure (.yield (none, ()))
 | _ => pure (.done (none, ()))
noncomputable def lz (lo n : Nat) : SM (ForInStep (Option Unit × Nat)) := do
 modify fun s => setPending s ((pendingOf s).push (lo, n, 0))
 pure (.yield (none, lo + n))
def BE (pw lo n : Nat) : SM (ForInStep (Option Unit × Nat)) := do
 modify fun s => setPending s ((pendingOf s).modify ((pendingOf s).size - 1) fun x => match x with | (st, len, _) => (st, len, pw))
 lz lo n
def lA (size lo n : Nat) : SM (ForInStep (Option Unit × Nat)) := do
 let s <- get
 match (pendingOf s).back? with
 | some (s1, n1, _) => do
  let t <- forIn [0:size] ((none, ()) : OU) fun O O => pd (power' size (2 * s1 + n1) (2 * s1 + n1 + n1 + n) size)
  match t.1 with
  | some r => pure (.done (some r, lo))
  | none => BE (power' size (2 * s1 + n1) (2 * s1 + n1 + n1 + n) size) lo n
 | _ => lz lo n
def pe (size minrun lo : Nat) : SM (ForInStep (Option Unit × Nat)) :=
 if lo ≥ size then pure (.done (none, lo))
 else do
  let x <- countRun' lo (size - lo)
  match x with
  | some n =>
   if n < minrun then do
    rule "list.sort.binary-insertion"
    let ok <- binarySort' lo (min (size - lo) minrun) n
    if (!ok) = true then pure (.done (some (), lo)) else lA size lo (min (size - lo) minrun)
   else lA size lo n
  | _ => pure (.done (some (), lo))
noncomputable def tW (p : Array eY) : Nat := if Option.any (fun x => decide (x < (p[p.size - 2 + 1]?).elim 0 fun x => x.2.1)) (if p.size - 2 > 0 then Option.map (fun x => x.2.1) p[p.size - 2 - 1]? else none) = true then p.size - 2 - 1 else p.size - 2
def tX : SM (ForInStep OU) := do
 let s <- get
 if (pendingOf s).size <= 1 then pure (.done (none, ()))
 else do
  let ok <- mergeAt' (tW (pendingOf s))
  if (!ok) = true then pure (.done (some (), ())) else pure (.yield (none, ()))
def pf (size : Nat) : SM Unit := do
 let u <- forIn [0:size] ((none, ()) : OU) fun O O => tX
 match u.1 with
 | some r => pure r
 | none => pure ()
theorem BG : sortRuns' = (do
 let s <- get
 let t <- forIn [0:(arrOf s).size] ((none, 0) : Option Unit × Nat) fun O t => pe (arrOf s).size (minRun' (arrOf s).size (arrOf s).size 0) t.2
 match t.1 with
 | some r => pure r
 | none => pf (arrOf s).size) := by kernel_rfl
noncomputable def Pn : Nat -> List eY -> List (List Keyed) -> Prop
 | _, [], [] => True
 | s, x :: ps, L :: Ls => x.1 = s /\ x.2.1 = L.length /\ (L ≠ [] /\ Sd L) /\ Pn (s + L.length) ps Ls
 | _, [], _ :: _ => False
 | _, _ :: _, [] => False
theorem Pn.len : ∀ {ps : List eY} {s : Nat} {Ls : List (List Keyed)}, Pn s ps Ls -> ps.length = Ls.length
 | [], _, [], _ => rfl
 | _ :: _, _, _ :: _, h => congrArg Nat.succ h.2.2.2.len
theorem Pn.fl : ∀ {ps : List eY} {s : Nat} {Ls : List (List Keyed)}, Pn s ps Ls -> Ls.length <= Ls.flatten.length
 | [], _, [], _ => IO _
 | _ :: _, _, L :: Ls, h => by
  have h1 := h.2.2.2.fl
  have h2 := List.length_pos_iff.mpr h.2.2.1.1
  rw [List.flatten_cons, I2, Jl]; exact ay 0x111a012b91ba3119312 h1 h2
theorem Pn.push : ∀ {ps : List eY} {s : Nat} {Ls : List (List Keyed)} {L : List Keyed}, Pn s ps Ls -> L ≠ [] -> Sd L -> Pn s (ps ++ [(s + Ls.flatten.length, L.length, 0)]) (Ls ++ [L])
 | [], s, [], L, _, h1, h2 => ⟨rfl, rfl, ⟨h1, h2⟩, trivial⟩
 | x :: ps, s, L' :: Ls, L, h, h1, h2 => by
  have := h.2.2.2.push h1 h2
  rw [Nat.add_assoc, <- I2] at this
  exact ⟨h.1, h.2.1, h.2.2.1, this⟩
theorem Pn.mod {pw : Nat} : ∀ {ps : List eY} {i s : Nat} {Ls : List (List Keyed)}, Pn s ps Ls -> Pn s (ps.modify i fun x => match x with | (st, len, _) => (st, len, pw)) Ls
 | [], i, s, [], h => by simpa using h
 | (a, b, c) :: ps, 0, s, L :: Ls, h => h
 | x :: ps, i + 1, s, L :: Ls, h => ⟨h.1, h.2.1, h.2.2.1, h.2.2.2.mod⟩
structure Pt (ps : List eY) (i s : Nat) (Ls X1 : List (List Keyed)) (L1 L2 : List Keyed) (X2 : List (List Keyed)) (pw pw2 : Nat) : Prop where
 e : Ls = X1 ++ L1 :: L2 :: X2
 p1 : ps[i]? = some (s + X1.flatten.length, L1.length, pw)
 p2 : ps[i + 1]? = some (s + X1.flatten.length + L1.length, L2.length, pw2)
 n1 : L1 ≠ []
 n2 : L2 ≠ []
 s1 : Sd L1
 s2 : Sd L2
 m : ∀ M, M.length = L1.length + L2.length -> Sd M -> Pn s ((ps.set i (s + X1.flatten.length, L1.length + L2.length, pw)).eraseIdx (i + 1)) (X1 ++ M :: X2)
theorem Pn.two : ∀ {ps : List eY} {i s : Nat} {Ls : List (List Keyed)}, Pn s ps Ls -> i + 1 < ps.length -> ∃ X1 L1 L2 X2 pw pw2, Pt ps i s Ls X1 L1 L2 X2 pw pw2
 | [_], 0, _, _, _, hi => absurd hi (Nat.lt_irrefl _)
 | (a, b, c) :: (d, e, f) :: ps, 0, s, L1 :: L2 :: Ls, h, hi => by
  obtain ⟨h1, h2, ⟨h3, h4⟩, h5, h6, ⟨h7, h8⟩, h9⟩ := h
  dsimp only at h1 h2 h5 h6
  subst h1 h2 h5 h6
  exact ⟨[], L1, L2, Ls, c, f, rfl, rfl, rfl, h3, h7, h4, h8, fun M hM sM => ⟨rfl, hM.symm, ⟨fun q => by rw [q] at hM; exact h3 (List.length_eq_zero_iff.mp (Nat.eq_zero_of_add_eq_zero_right hM.symm)), sM⟩, by rw [hM, <- Nat.add_assoc]; exact h9⟩⟩
 | x :: ps, i + 1, s, L :: Ls, h, hi => by
  obtain ⟨X1, L1, L2, X2, pw, pw2, t⟩ := h.2.2.2.two (i := i) (Nat.lt_of_succ_lt_succ hi)
  have e : s + L.length + X1.flatten.length = s + (L :: X1).flatten.length := by rw [List.flatten_cons, I2, Nat.add_assoc]
  have p1 := t.p1
  have p2 := t.p2
  have m := t.m
  rw [e] at p1 p2 m
  exact ⟨L :: X1, L1, L2, X2, pw, pw2, by rw [t.e]; rfl, p1, p2, t.n1, t.n2, t.s1, t.s2, fun M hM sM => ⟨h.1, h.2.1, h.2.2.1, m M hM sM⟩⟩
structure Pd (Z : List Keyed) (lo : Nat) (st : SortSt) (Ls : List (List Keyed)) (R : List Keyed) : Prop where
 x : (arrOf st).toList = Ls.flatten ++ R
 l : lo = Ls.flatten.length
 pn : Pn 0 (pendingOf st).toList Ls
 pm : (arrOf st).toList.Perm Z
 k : kindOf st = oneType'
 f : failedOf st = none
section
variable {prog : Program} {w : World} {A : Around} {E : Value -> Shared -> Prop} {s : Shared} {st : SortSt} {Z R : List Keyed} {lo : Nat} {Ls : List (List Keyed)}
theorem Pd.ik (d : Pd Z lo st Ls R) (hZ : Ik Z) : Ik (arrOf st).toList := fun e m => hZ e (d.pm.mem_iff.mp m)
theorem Pd.sz (d : Pd Z lo st Ls R) : (arrOf st).size = Z.length := by rw [<- Jy]; exact d.pm.length_eq
theorem Pd.le (d : Pd Z lo st Ls R) : lo + R.length = Z.length := by rw [<- d.pm.length_eq, d.x, I2, <- d.l]
theorem tY {i : Nat} {Q : Bool -> SortSt -> Prop} (hZ : Ik Z) (d : Pd Z lo st Ls R) (hi : i + 1 < (pendingOf st).size) (h : ∀ st' Ls', Pd Z lo st' Ls' R -> Ls'.length + 1 = Ls.length -> Q true st') : wpS (model prog w) A E s (mergeAt' i) Q st := by
 obtain ⟨X1, L1, L2, X2, pw, pw2, t⟩ := d.pn.two (i := i) (by rw [Jy]; exact hi)
 have p1 := t.p1
 have p2 := t.p2
 have m := t.m
 rw [Nat.zero_add] at p1 p2 m
 rw [JG] at p1 p2
 have x : (arrOf st).toList = X1.flatten ++ (L1 ++ (L2 ++ (X2.flatten ++ R))) := by rw [d.x, t.e]; simp only [List.flatten_append, List.flatten_cons, List.append_assoc]
 refine BD ⟨x, d.ik hZ, t.s1, t.s2, d.k, d.f⟩ t.n1 t.n2 p1 p2 fun st' o => ?_
 obtain ⟨M, e1, e2, e3⟩ := o.ex
 have hl : M.length = L1.length + L2.length := by rw [e3.length_eq, I2]
 refine h st' (X1 ++ M :: X2) ⟨by rw [e1]; simp only [List.flatten_append, List.flatten_cons, List.append_assoc], ?_, ?_, ?_, o.k, o.f⟩ (by rw [t.e]; simp only [List.length_append, List.length_cons]; exact am 0x111111a33931111a393330)
 ·rw [d.l, t.e]; simp only [List.flatten_append, List.flatten_cons, List.length_append, hl, Nat.add_assoc]
 ·rw [o.p, Array.toList_eraseIdxIfInBounds, Array.toList_setIfInBounds]; exact m M hl e2
 ·refine List.Perm.trans ?_ d.pm
  rw [e1, x, <- I5 L1]
  exact List.Perm.append_left _ (List.Perm.append_right _ e3)
theorem BH {x : AK} {l n : Nat} (h : Up x l (l + n)) (hn : l + n <= x.size) : Sd ((x.toList.drop l).take n) := by
 have kk : ∀ i (hi : i < ((x.toList.drop l).take n).length), aI ((x.toList.drop l).take n)[i] = K x (l + i) := fun i hi => by
  rw [List.getElem_take, List.getElem_drop]
  unfold K
  rw [<- JG, I3]
  rfl
 refine List.pairwise_iff_getElem.mpr fun i j hi hj q => ?_
 rw [kk i hi, kk j hj]
 rw [List.length_take, List.length_drop] at hj
 exact h _ _ (Nat.le_add_right _ _) (ay 0x11ba2b93a9311 q) (by exact aN 0x111bc1ca2b93a9322 hj (Nat.min_le_left _ _))
theorem Pd.run {hi n : Nat} {st' : SortSt} (d : Pd Z lo st Ls R) (c : Ch lo hi st st') (up : Up (arrOf st') lo (lo + n)) (hn : lo + n <= Z.length) : ∃ R', Pd Z lo st' Ls R' /\ Sd (R'.take n) := by
 have pm : (arrOf st').toList.Perm (arrOf st).toList := Array.perm_iff_toList_perm.mp c.pm
 have e : (arrOf st').toList.take lo = Ls.flatten := by
  have : (arrOf st').toList.take lo = (arrOf st).toList.take lo := List.ext_getElem? fun i => by
   rw [List.getElem?_take, List.getElem?_take]
   by_cases q : i < lo
   ·rw [Id q, Id q, JG, JG]; exact c.out i (.inl q)
   ·rw [IU q, IU q]
  rw [this, d.x, d.l, List.take_left]
 have d' : Pd Z lo st' Ls ((arrOf st').toList.drop lo) := ⟨by rw [<- e, List.take_append_drop], d.l, by rw [c.p]; exact d.pn, pm.trans d.pm, c.k, c.f⟩
 exact ⟨_, d', BH up (by rw [d'.sz]; exact hn)⟩
noncomputable def pg (Z : List Keyed) (i : Nat) (r : ForInStep (Option Unit × Nat)) (st : SortSt) : Prop := match r with
 | .done c => c.1 = none /\ ∃ Ls R, Pd Z c.2 st Ls R /\ Z.length <= c.2
 | .yield c => c.1 = none /\ ∃ Ls R, Pd Z c.2 st Ls R /\ i + 1 <= c.2
theorem tZ {n i : Nat} (d : Pd Z lo st Ls R) (h1 : 1 <= n) (h2 : lo + n <= Z.length) (sd : Sd (R.take n)) (hi : i <= lo) : wpS (model prog w) A E s (lz lo n) (pg Z i) st := by
 unfold lz
 have hr : (R.take n).length = n := by rw [List.length_take]; have := d.le; exact am 0x11901a93a91a932 (Nat.min_le_left _ _) (Nat.min_eq_left (aN 0x911cab33c9b31a912 h2 this))
 refine IW (wpS_modify (IY ⟨rfl, Ls ++ [R.take n], R.drop n, ⟨?_, ?_, ?_, d.pm, d.k, d.f⟩, by show i + 1 <= lo + n; exact ay 0x111a91b111ba3119312 h1 hi⟩))
 ·show (arrOf st).toList = _
  rw [d.x, List.flatten_append, I5]
  simp
 ·show lo + n = _
  rw [List.flatten_append, I2, <- d.l]
  simp only [List.flatten_cons, List.flatten_nil, List.append_nil, hr]
 ·show Pn 0 ((pendingOf st).push (lo, n, 0)).toList _
  have := d.pn.push (L := R.take n) (fun q => by rw [q] at hr; simp at hr; exact az 0x919013911172 h1 hr) sd
  rw [Array.toList_push]
  rw [hr, Nat.zero_add, <- d.l] at this
  exact this
theorem BI {pw : Nat} (hZ : Ik Z) (d : Pd Z lo st Ls R) : wpS (model prog w) A E s (pd pw) (fun r st' => match r with | .done c => c = (none, ()) /\ ∃ Ls', Pd Z lo st' Ls' R | .yield c => c = (none, ()) /\ ∃ Ls', Pd Z lo st' Ls' R) st := by
 unfold pd
 refine IW (wpS_get ?_)
 by_cases q : (pendingOf st).size > 1
 ·obtain ⟨⟨a, b, c⟩, hv⟩ : ∃ v, (pendingOf st)[(pendingOf st).size - 2]? = some v := ⟨_, getElem?_pos (pendingOf st) _ (by exact am 0x11a21933a921 (I1 (az 0x11911292111 q)))⟩
  rw [Id q, hv]
  show wpS _ _ _ _ (if c <= pw then _ else _) _ _
  by_cases q2 : c <= pw
  ·rw [Id q2]; exact IY ⟨rfl, Ls, d⟩
  ·rw [IU q2]
   exact IW (tY hZ d (by exact am 0x11a21933a119321 (I1 (az 0x11911292111 q))) fun st' Ls' d' O => IY ⟨rfl, Ls', d'⟩)
 ·rw [IU q]; exact IY ⟨rfl, Ls, d⟩
theorem t5 {n i : Nat} (hZ : Ik Z) (d : Pd Z lo st Ls R) (h1 : 1 <= n) (h2 : lo + n <= Z.length) (sd : Sd (R.take n)) (hi : i <= lo) : wpS (model prog w) A E s (lA Z.length lo n) (pg Z i) st := by
 unfold lA
 refine IW (wpS_get ?_)
 cases hb : (pendingOf st).back? with
 | none => exact tZ d h1 h2 sd hi
 | some v =>
  obtain ⟨s1, n1, x⟩ := v
  refine IW (wpS_mono (wpS_forRange (I := fun _ (c : OU) st' => c = (none, ()) /\ ∃ Ls', Pd Z lo st' Ls' R) (Q := fun c st' => c = (none, ()) /\ ∃ Ls', Pd Z lo st' Ls' R) ?_ (fun c st' h => h) ⟨rfl, Ls, d⟩) ?_)
  ·rintro j c st' _ _ ⟨_, Ls', d'⟩
   exact wpS_mono (BI hZ d') fun r st2 h => by cases r <;> exact h
  ·rintro c st' ⟨rfl, Ls', d'⟩
   exact IW (wpS_modify (tZ ⟨d'.x, d'.l, by show Pn 0 ((pendingOf st').modify _ _).toList Ls'; rw [Array.toList_modify]; exact d'.pn.mod, d'.pm, d'.k, d'.f⟩ h1 h2 sd hi))
theorem BJ {mr i : Nat} (hZ : Ik Z) (d : Pd Z lo st Ls R) (hi : i <= lo) : wpS (model prog w) A E s (pe Z.length mr lo) (pg Z i) st := by
 unfold pe
 by_cases q : lo ≥ Z.length
 ·rw [Id q]; exact IY ⟨rfl, Ls, R, d, q⟩
 ·rw [IU q]
  have hz := d.sz
  refine IW (wpS_mono (Bz (st0 := st) (nrem := Z.length - lo) ⟨.refl _, fun O O => rfl, rfl, d.k, d.f⟩ (d.ik hZ) (by exact ay 0x111b93a1ba491112 q (I6 (IO _))) (by exact aN 0x191c9a33cb3ba9312 hz (I1 (am 4725188881 q)))) ?_)
  rintro r st1 ⟨m, rfl, m1, m2, up, c⟩
  obtain ⟨R1, d1, sd1⟩ := d.run c up (by exact aN 0x111b9c33ca1ba9312 m2 (I1 (am 4725188881 q)))
  show wpS _ _ _ _ (if m < mr then _ else _) _ _
  by_cases q2 : m < mr
  ·rw [Id q2]
   have hf : m <= min (Z.length - lo) mr /\ min (Z.length - lo) mr <= Z.length - lo := ⟨Nat.le_min.mpr ⟨m2, Nat.le_of_lt q2⟩, Nat.min_le_left _ _⟩
   generalize min (Z.length - lo) mr = fo at hf
   refine IW (wpS_lift (wpAny_rule ⟨rfl, ?_⟩))
   refine IW (BA (st0 := st1) (n := fo) ⟨.refl _, fun O O => rfl, rfl, d1.k, d1.f⟩ (d1.ik hZ) (am 0x1119a1a11191112 m1 hf.1) hf.1 (by rw [d1.sz]; exact aN 0x111b9c33ca1ba9312 hf.2 (I1 (am 4725188881 q))) up fun st2 c2 up2 => ?_)
   obtain ⟨R2, d2, sd2⟩ := d1.run c2 up2 (by exact aN 0x111b9c33ca1ba9312 hf.2 (I1 (am 4725188881 q)))
   exact t5 hZ d2 (am 0x1119a1a11191112 m1 hf.1) (by exact aN 0x111b9c33ca1ba9312 hf.2 (I1 (am 4725188881 q))) sd2 hi
  ·rw [IU q2]
   exact t5 hZ d1 m1 (by exact aN 0x111b9c33ca1ba9312 m2 (I1 (am 4725188881 q))) sd1 hi
theorem BK {p : Array eY} (h : ¬ p.size <= 1) : tW p + 1 < p.size := by
 have k : ∀ (b : Bool) (n : Nat), ¬ n <= 1 -> (if b = true then n - 2 - 1 else n - 2) + 1 < n := by intro b n h; cases b <;> simp <;> lia
 exact k _ _ h
theorem BL {Q : Unit -> SortSt -> Prop} (hZ : Ik (arrOf st).toList) (hp : pendingOf st = #[]) (hk : kindOf st = oneType') (hf : failedOf st = none) (h : ∀ st', (arrOf st').toList.Perm (arrOf st).toList -> Sd (arrOf st').toList -> failedOf st' = none -> Q () st') : wpS (model prog w) A E s sortRuns' Q st := by
 rw [BG]
 refine IW (wpS_get ?_)
 have d : Pd (arrOf st).toList 0 st [] (arrOf st).toList := ⟨rfl, rfl, by rw [hp]; exact trivial, .refl _, hk, hf⟩
 have hl : (arrOf st).size = (arrOf st).toList.length := Jy.symm
 rw [hl]
 generalize (arrOf st).toList = Z at *
 refine IW (wpS_mono (wpS_forRange (I := fun i (c : Option Unit × Nat) st' => c.1 = none /\ ∃ Ls R, Pd Z c.2 st' Ls R /\ i <= c.2) (Q := fun c st' => c.1 = none /\ ∃ Ls R, Pd Z c.2 st' Ls R /\ Z.length <= c.2) ?_ ?_ ⟨rfl, _, _, d, IO _⟩) ?_)
 ·rintro i ⟨r, lo⟩ st' _ _ ⟨_, Ls, R, d, hi⟩
  exact wpS_mono (BJ hZ d hi) fun r st2 h => by cases r <;> exact h
 ·rintro c st' ⟨hr, Ls, R, d, hi⟩
  rw [Nat.max_eq_right (Nat.zero_le _)] at hi
  exact ⟨hr, Ls, R, d, hi⟩
 ·rintro ⟨r, lo⟩ st' ⟨hr, Ls, R, d, hi⟩
  dsimp only at hr d hi
  subst hr
  have hR : R = [] := List.length_eq_zero_iff.mp (by have := d.le; exact ay 0x111001a9b33ba101932 hi this)
  subst hR
  have hls : Ls.length <= Z.length := by
   have := d.pn.fl
   have := d.le
   rw [<- d.l] at *
   simp only [List.length_nil] at *
   exact ay 0x111a01b33b91a912 (by assumption) this
  show wpS _ _ _ _ (pf Z.length) _ _
  unfold pf
  refine IW (wpS_mono (wpS_forRange (I := fun i (c : OU) st' => c = (none, ()) /\ ∃ Ls, Pd Z lo st' Ls [] /\ Ls.length + i <= Z.length + 1) (Q := fun c st' => c = (none, ()) /\ ∃ Ls, Pd Z lo st' Ls [] /\ Ls.length <= 1) ?_ ?_ ⟨rfl, Ls, d, by exact am 0x11a9111a3019311 hls⟩) ?_)
  ·rintro i c st' _ _ ⟨_, Ls, d, hl⟩
   unfold tX
   refine IW (wpS_get ?_)
   have pl := d.pn.len
   rw [Jy] at pl
   by_cases q : (pendingOf st').size <= 1
   ·rw [Id q]; exact IY ⟨rfl, Ls, d, by lia⟩
   ·rw [IU q]
    exact IW (tY hZ d (BK q) fun st2 Ls' d' hl' => IY ⟨rfl, Ls', d', by exact aN 0x111c1193311b3ac3111b311a39312 hl hl'⟩)
  ·rintro c st' ⟨hc, Ls, d, hl⟩
   rw [Nat.max_eq_right (Nat.zero_le _)] at hl
   exact ⟨hc, Ls, d, by exact am 0x1111a3a93111911 hl⟩
  ·rintro c st' ⟨rfl, Ls, d, hl⟩
   refine IY (h st' d.pm ?_ d.f)
   rw [d.x, JA]
   match Ls, hl, d.pn with
   | [], _, _ => exact List.Pairwise.nil
   | [L], _, pn =>
    rw [List.flatten_cons, List.flatten_nil, JA]
    generalize (pendingOf st').toList = ps at pn
    match ps, pn with
    | _ :: _, pn => exact pn.2.2.1.2
end
end Mine.Internal
namespace Mine.Internal
open PySem PyProof.Rows
section
variable {prog : Program} {w : World} {A : Around} {E : Value -> Shared -> Prop} {s : Shared}
theorem BM {x : AK} (h : Sd x.toList) {n : Nat} (hn : n <= x.size) : SortedTo x n := fun i j hij hj => by
 rcases Nat.lt_or_eq_of_le hij with q | rfl
 ·have := List.pairwise_iff_getElem.mp h i j (by rw [Jy]; exact aN 0x1111c92bc2ab1a923 hn hj q) (by rw [Jy]; exact ay 0x111b92ab1a922 hn hj) q
  unfold K
  rw [getElem?_pos x i (aN 0x1111c92bc2ab1a923 hn hj q), getElem?_pos x j (ay 0x111b92ab1a922 hn hj)]
  exact this
 ·exact I9 _
set_option maxRecDepth 100000 in
theorem BN {a : Addr} {vs : List Value} {ns : List Int} {n : Nat} {P : Fin -> Shared -> Prop} (ho : s.heap.get? a = some (seqObj "list" vs.toArray n)) (hI : IntsAre vs ns) (hL : vs.length <= 1048576)
  (h : ∀ (out : Array Value) (ns' : List Int), IntsAre out.toList ns' -> ns'.Perm ns -> ns'.Pairwise (· <= ·) -> P (.done (.ret .none)) { s with heap := sortedHeap s.heap a vs out }) : wpAny (model prog w) A (Builtin.«list.sort» ⟨[.ref a], []⟩) P E s := by
 have hs0 : vs.length <= sizeLine := by rw [sizeLine_eq]; exact az 0x1110000037910100000047911 hL
 rw [list_sort_plain]
 refine IV (listItems_at ho rfl (IV (listUpdate_at ho rfl ?_ (by simpa using hs0) (Nat.zero_le _))))
 have h1 := get?_update_seq ho fun O => #[]
 generalize (if (#[] : Array Value).size == vs.toArray.size then n else n + 1) = e1 at h1
 refine IV (seqEpoch_at h1 rfl (IV (wpAny_newTuple (IV (wpAny_newList (wpAny_holding ?_))))))
 have h2 : (((s.heap.update a (Obj.mapSeq fun O => #[])).push (seqObj "tuple" vs.toArray 0)).push (seqObj "list" #[] 0)).get? a = some (seqObj "list" #[] e1) :=
  Js _ (Js _ h1)
 show wpAny (model prog w) A _ P E { s with heap := ((s.heap.update a (Obj.mapSeq fun O => #[])).push (seqObj "tuple" vs.toArray 0)).push (seqObj "list" #[] 0) }
 have tail : ∀ st' : SortSt, failedOf st' = none -> (arrOf st').toList.Perm (pairsOf vs).toList -> Sd (arrOf st').toList ->
   wpAny (model prog w) A (do
    let touched := (<- seqEpoch a) != e1
    Builtin.List.listUpdate (.ref a) fun O => (arrOf st').map (·.2)
    if let some e := failedOf st' then rule "list.sort.comparison-raised"; throw e
    if touched then rule "list.sort.modified"; raiseError "ValueError" "list modified during sort"
    ret .none) P E { s with heap := ((s.heap.update a (Obj.mapSeq fun O => #[])).push (seqObj "tuple" vs.toArray 0)).push (seqObj "list" #[] 0) } := by
  intro st' hf hp hs
  have hz : (arrOf st').size = (pairsOf vs).size := by rw [<- Jy, <- Jy]; exact hp.length_eq
  obtain ⟨ns', q1, q2, q3⟩ := sorted_out hI (Array.perm_iff_toList_perm.mpr hp) (BM hs (Nat.le_of_eq hz.symm))
  refine IV (seqEpoch_at h2 rfl (IV (listUpdate_at h2 rfl ?_ (Nat.zero_le _) (by rw [Array.size_map, hz, pairsOf_size]; exact am 0x11a9111a3911 hs0))))
  rw [hf]
  simp only [bne_self_eq_false, Bool.false_eq_true, if_false]
  exact I8 (h _ ns' q1 q2 q3)
 dsimp only
 by_cases q : vs.toArray.size < 2
 ·rw [Id q, Id q]
  refine IV (I8 ?_)
  rw [StateT.run_pure]
  refine IV (I8 (tail (SortSt.mk' general' (vs.toArray.zip vs.toArray) #[] 7 none) rfl (.refl _) ?_))
  show Sd (pairsOf vs).toList
  rw [pairsOf_toList]
  match vs, q with
  | [], _ => exact List.Pairwise.nil
  | [v], _ => exact List.pairwise_singleton _ _
  | _ :: _ :: _, q => exact absurd q (by simp)
 ·rw [IU q, IU q]
  have hk : keyKind' vs.toArray = pure oneType' := by
   match vs, q, hI with
   | [], q, _ => simp at q
   | [_], q, _ => simp at q
   | v1 :: v2 :: r, _, hI => exact keyKind_ints hI
  rw [hk]
  refine IV (I8 (IV (wpAny_mono (BL (st := SortSt.mk' oneType' (vs.toArray.zip vs.toArray) #[] 7 none) (Q := fun O st' => failedOf st' = none /\ (arrOf st').toList.Perm (pairsOf vs).toList /\ Sd (arrOf st').toList) hI.intKeys rfl rfl rfl fun st' a1 a2 a3 => ⟨a3, a1, a2⟩) ?_ fun O O e => e)))
  rintro ⟨⟨⟩, st'⟩ s' ⟨rfl, a1, a2, a3⟩
  exact tail st' a1 a2 a3
end
end Mine.Internal
namespace Mine.Internal
open PySem
set_option genCtorIdx false in
inductive AV where
 | none
 | bool (b : Bool)
 | int (i : Int)
 | str (s : Str)
 | tup (xs : List AV)
 | list (xs : List AV)
 | range (a b : Int)
 | ref (k : Nat)
 | dct (k : Nat)
 | obj (k : Nat)
 | itm (k : Nat)
 | ins (k : Nat)
noncomputable def AV.ctorIdx (x : AV) : Nat := @AV.casesOn (fun O => Nat) x 0 (fun O => 1) (fun O => 2) (fun O => 3) (fun O => 4) (fun O => 5) (fun O O => 6) (fun O => 7) (fun O => 8) (fun O => 9) (fun O => 10) (fun O => 11)
noncomputable abbrev HP := List (List AV)
noncomputable abbrev an := Str -> Option AV
abbrev R (α : Type) := Option (α × HP)
noncomputable def av {α β : Type} (r : R α) (f : α -> HP -> Option β) : Option β :=
 match r with
 | some (a, H) => f a H
 | none => none
noncomputable def fM (a c : Nat) : Nat := if c < 256 then 2 * (a * 256 + c) + 1 else 2 * (2 ^ a * (2 * c + 1)) + 2
def aL (x : Str) : Nat := x.cps.toList.foldr (fun c a => fM a c) 0
theorem t6 : ∀ (a a' c c' : Nat), 2 ^ a * (2 * c + 1) = 2 ^ a' * (2 * c' + 1) -> a = a' /\ c = c'
 | 0, 0, c, c', h => ⟨rfl, by lia⟩
 | 0, a' + 1, c, c', h => by rw [Nat.pow_succ, Nat.mul_comm (2 ^ a') 2, Nat.mul_assoc] at h; lia
 | a + 1, 0, c, c', h => by rw [Nat.pow_succ, Nat.mul_comm (2 ^ a) 2, Nat.mul_assoc] at h; lia
 | a + 1, a' + 1, c, c', h => by
  rw [Nat.pow_succ, Nat.pow_succ, Nat.mul_comm (2 ^ a) 2, Nat.mul_comm (2 ^ a') 2, Nat.mul_assoc, Nat.mul_assoc] at h
  have := t6 a a' c c' (am 0x1292a269263a931 h)
  exact ⟨am 0x1191a9311a3119331 this.1, am 0x1191a93a931 this.2⟩
theorem BO {a a' c c' : Nat} (h : fM a c = fM a' c') : a = a' /\ c = c' := by
 unfold fM at h
 by_cases q : c < 256
 ·by_cases q' : c' < 256
  ·rw [Id q, Id q'] at h; lia
  ·rw [Id q, IU q'] at h; lia
 ·by_cases q' : c' < 256
  ·rw [IU q, Id q'] at h; lia
  ·rw [IU q, IU q'] at h; exact t6 _ _ _ _ (am 0x129221a2632192633a931 h)
theorem t7 (a c : Nat) : fM a c ≠ 0 := by unfold fM; split <;> lia
theorem t8 : ∀ {l l' : List Nat}, l.foldr (fun c a => fM a c) 0 = l'.foldr (fun c a => fM a c) 0 -> l = l'
 | [], [], _ => rfl
 | [], _ :: _, h => absurd h.symm (t7 _ _)
 | _ :: _, [], h => absurd h (t7 _ _)
 | a :: l, b :: l', h => by
  obtain ⟨h1, h2⟩ := BO h
  rw [h2, t8 h1]
theorem t9 {x y : Str} (h : aL x = aL y) : x = y := by
 cases x; cases y; congr; exact Array.toList_inj.mp (t8 h)
def upd (ρ : an) (x : Str) (v : AV) : an := fun y => cond (aL y == aL x) (some v) (ρ y)
theorem fN (ρ : an) (x y : Str) (v : AV) : upd ρ x v y = if y = x then some v else ρ y := by
 unfold upd
 by_cases h : y = x
 ·rw [Id h, h, beq_self_eq_true]; rfl
 ·rw [IU h, beq_eq_false_iff_ne.mpr fun q => h (t9 q)]; rfl
set_option genCtorIdx false in
inductive Fl where
 | next
 | ret (v : AV)
noncomputable abbrev RS := Option (Fl × an × HP)
structure Cfg where
 fns : List DefRec
 muts : List (Str × Str)
 frz : List Str
 loops : Nat
 cls : Option ClsRec
noncomputable def lC (c : ClsRec) (m : MethRec) : DefRec := ⟨c.name ++ "." ++ m.name, m.params, m.body, m.scope, default⟩
def BP (c : ClsRec) : List DefRec := c.meths.map (lC c)
def Cfg.mets (C : Cfg) : List DefRec := match C.cls with
 | some c => BP c
 | none => []
structure Fm where
 fn : Str
 sc : Scope
 af : Nat
noncomputable def cG (x : Str) : Bool := (x == ("__debug__" : Str)) || ((x == ("__classdict__" : Str)) || (x == (".0" : Str)))
def dz (sc : Scope) (x : Str) : Bool :=
 match sc.names.lookup x with
 | some .local => !cG x
 | some .cell => !cG x
 | some .free => !cG x
 | _ => false
def bW (sc : Scope) (x : Str) : Bool :=
 match sc.names.lookup x with
 | some .local => !cG x
 | some .cell => !cG x
 | _ => false
def fO (sc : Scope) (x : Str) : Bool :=
 match sc.names.lookup x with
 | some .globalImplicit => !cG x
 | _ => false
noncomputable def fP (sc : Scope) (x : Str) : Bool :=
 match sc.names.lookup x with
 | some .cell => true
 | some .free => true
 | _ => false
def ph (fsc sc : Scope) (x : Str) : Bool :=
 decide (sc.kind = .function) && decide (sc.names.lookup x = some .local) &&
 sc.names.all fun y => match y.2 with
  | .local => decide (sc.names.lookup y.1 = some .local) && (decide (y.1 = x) || cG y.1)
  | .cell => false
  | .free => fP fsc y.1 && !cG y.1
  | .globalExplicit => false
  | .globalImplicit => true
noncomputable section
mutual
noncomputable def cM : AV -> PyData
 | .none => .none
 | .bool b => .bool b
 | .int i => .int i
 | .str s => .str s
 | .tup xs => .tuple (c4 xs)
 | .list xs => .list (c4 xs)
 | .range _ _ => .none
 | .ref _ => .none
 | .dct _ => .none
 | .obj _ => .none
 | .itm _ => .none
 | .ins _ => .none
noncomputable def c4 : List AV -> List PyData
 | [] => []
 | x :: xs => cM x :: c4 xs
end
noncomputable def lD : AV -> Bool
 | .none => true
 | .bool _ => true
 | .int _ => true
 | .str s => PyData.strOk s
 | _ => false
def bR : Nat -> AV -> Bool
 | 0, v => lD v
 | n + 1, v => match v with
  | .tup xs => xs.all (bR n)
  | .list xs => xs.all (bR n)
  | v => lD v
noncomputable def cB : Nat := 12
mutual
noncomputable def AV.noRef : AV -> Bool
 | .tup a => dm a
 | .list a => dm a
 | .ref _ => false
 | .dct _ => false
 | .obj _ => false
 | .itm _ => false
 | .ins _ => false
 | _ => true
noncomputable def dm : List AV -> Bool
 | [] => true
 | a :: as => AV.noRef a && dm as
end
mutual
noncomputable def dp (g : Nat -> Option AV) : AV -> Option AV
 | .tup a => (bk g a).map AV.tup
 | .list a => (bk g a).map AV.list
 | .ref k => g k
 | .none => some .none
 | .bool b => some (.bool b)
 | .int i => some (.int i)
 | .str s => some (.str s)
 | .range a b => some (.range a b)
 | .dct _ => none
 | .obj _ => none
 | .itm _ => none
 | .ins _ => none
noncomputable def bk (g : Nat -> Option AV) : List AV -> Option (List AV)
 | [] => some []
 | a :: as => match dp g a with
  | some b => (bk g as).map (b :: ·)
  | none => none
end
def bu (H : HP) : Nat -> Nat -> Option AV
 | 0, _ => none
 | n + 1, k => match H[k]? with
  | some xs => (bk (bu H n) xs).map AV.list
  | none => none
def fz (H : HP) (v : AV) : Option AV := dp (bu H 4) v
noncomputable def dU : AV -> Option Bool
 | .bool b => some b
 | _ => none
noncomputable def asInt : AV -> Option Int
 | .int i => some i
 | _ => none
noncomputable def eG : AV -> Option Str
 | .str s => some s
 | _ => none
noncomputable def dq : AV -> Option (List AV)
 | .tup xs => some xs
 | _ => none
noncomputable def eZ : AV -> Option (List AV)
 | .list xs => some xs
 | _ => none
noncomputable def eH : AV -> Option Nat
 | .ref k => some k
 | _ => none
noncomputable def dA : AV -> Option Nat
 | .dct d => some d
 | _ => none
noncomputable def iz : AV -> Option Nat
 | .itm d => some d
 | _ => none
noncomputable def fQ : AV -> Option Nat
 | .ins d => some d
 | _ => none
noncomputable def fR? : AV -> Option (Int × Int)
 | .range a b => some (a, b)
 | _ => none
def bf (H : HP) (v : AV) : Option (List AV) := match eZ v with
 | some xs => some xs
 | none => (eH v).bind fun k => H[k]?
def bY (H : HP) (v : AV) : Option (List AV) := match dq v with
 | some xs => some xs
 | none => bf H v
noncomputable def bH (a b : Int) : List AV := (List.range (b - a).toNat).map fun (i : Nat) => AV.int (a + (i : Int))
def dr (v : AV) : Option (List AV) := match fR? v with
 | some p => some (bH p.1 p.2)
 | none => (match dq v with
  | some xs => some xs
  | none => eZ v)
noncomputable def pi (e : AV) : AV := match e with
 | .tup xs => (match xs with | _ :: r => (match r with | x :: _ => x | [] => .none) | [] => .none)
 | _ => .none
def eg (H : HP) (v : AV) : Option (List AV) := match eH v with
 | some k => H[k]?
 | none => (match iz v with
  | some k => (H[k]?).map fun es => es.map pi
  | none => dr v)
noncomputable def cq (v : AV) (xs : List AV) (H : HP) : Prop := match eH v with
 | some k => H[k]? = some xs
 | none => (match iz v with
  | some k => ((H[k]?).map fun es => es.map pi) = some xs
  | none => True)
noncomputable def aM : Nat := 1048576
noncomputable def lE : Int := 4611686018427387903
noncomputable def idx (n : Nat) (i : Int) : Option Nat :=
 if 0 <= i then (if i < (n : Int) then some i.toNat else none)
 else (if 0 <= i + (n : Int) then some (i + (n : Int)).toNat else none)
noncomputable def ds (n : Nat) (i : Int) : Nat :=
 if i < 0 then (i + (n : Int)).toNat else min i.toNat n
def cH (xs : List AV) (lo hi : Option Int) : List AV :=
 (xs.drop (lo.elim 0 (ds xs.length))).take (hi.elim xs.length (ds xs.length) - lo.elim 0 (ds xs.length))
noncomputable def e7 (xs : List AV) : Nat -> List AV
 | 0 => []
 | n + 1 => xs ++ e7 xs n
def bA (i : Int) : Bool := decide (-lE <= i /\ i <= lE)
noncomputable def pj (i : Int) : Bool := decide (i.natAbs < 1073741824)
def e8 {α : Type} (a b : AV) (f : Int -> Int -> Option α) : Option α := (asInt a).bind fun x => (asInt b).bind (f x)
def jy (x y : List AV) : Option AV := if x.length + y.length <= aM then some (.list (x ++ y)) else none
def ua (x y : List AV) : Option AV := if x.length + y.length <= aM then some (.tup (x ++ y)) else none
def lF (x : List AV) (y : Int) : Option AV := if bA y && decide (x.length * y.toNat <= aM) then some (.list (e7 x y.toNat)) else none
def pk (H : HP) (a b : AV) : Option AV := match asInt a with
 | some x => (asInt b).bind fun y => some (.int (x + y))
 | none => (match dq a with
  | some x => (dq b).bind (ua x)
  | none => (bf H a).bind fun x => (bf H b).bind (jy x))
def ub (H : HP) (a b : AV) : Option AV := (asInt b).bind fun y => match asInt a with
 | some x => if bA x && bA y then some (.int (x * y)) else none
 | none => (bf H a).bind fun x => lF x y
def ct (op : Operator) (a b : AV) (H : HP) : Option AV :=
 match op with
 | .Add => pk H a b
 | .Sub => e8 a b fun x y => some (.int (x - y))
 | .Mult => ub H a b
 | .FloorDiv => e8 a b fun x y => if y = 0 || !pj y then none else some (.int (x.fdiv y))
 | .Mod => e8 a b fun x y => if y = 0 then none else some (.int (x.fmod y))
 | _ => none
def BQ (x y : AV) : Option Bool := if bR cB x && bR cB y then some (PyData.eqv (cM x) (cM y)) else none
def fS (H : HP) (a b : AV) : Option Bool := (fz H b).bind fun y => (fz H a).bind fun x => BQ x y
def dW (H : HP) (a b : AV) : Option Bool := match asInt a with
 | some x => (match asInt b with | some y => some (decide (x = y)) | none => fS H a b)
 | none => (match eG a with
  | some x => (match eG b with | some y => some (aL x == aL y) | none => fS H a b)
  | none => fS H a b)
def pq (xs : List AV) (a : AV) : Option Bool := if bR cB (.list xs) && bR cB a then some ((c4 xs).any fun y => PyData.eqv y (cM a)) else none
noncomputable def jz (k : Int) (e : AV) : Bool := match e with
 | .tup xs => (match xs with | x :: _ => (match x with | .int j => decide (j = k) | _ => false) | [] => false)
 | _ => false
def dJ (i : Int) (es : List AV) : Bool := es.any (jz i)
noncomputable def eI (k : Int) (v : AV) : AV := .tup [.int k, v]
def ei (es : List AV) (k : Int) (v : AV) : List AV := if dJ k es then es.map (fun e => if jz k e then eI k v else e) else es ++ [eI k v]
def BR (H : HP) (a : AV) (d : Nat) : Option Bool := (asInt a).bind fun i => (H[d]?).map (dJ i)
def uc (H : HP) (a b : AV) : Option Bool := (bY H b).bind fun xs => pq xs a
def cN (H : HP) (a b : AV) : Option Bool := match dA b with
 | some d => BR H a d
 | none => uc H a b
noncomputable def cI : AV -> Bool
 | .none => true
 | _ => false
def lG (a b : AV) : Option Bool := if cI b then some (cI a) else (dU b).bind fun y => (dU a).map fun x => (x == y)
def cO (op : CmpOp) (a b : AV) (H : HP) : Option Bool :=
 match op with
 | .Lt => e8 a b fun x y => some (decide (x < y))
 | .LtE => e8 a b fun x y => some (decide (x <= y))
 | .Gt => e8 a b fun x y => some (decide (y < x))
 | .GtE => e8 a b fun x y => some (decide (y <= x))
 | .Eq => dW H a b
 | .NotEq => (dW H a b).map (!·)
 | .In => cN H a b
 | .NotIn => (cN H a b).map (!·)
 | .Is => lG a b
 | .IsNot => (lG a b).map (!·)
noncomputable def ud : Const -> Option AV
 | .none => some .none
 | .bool b => some (.bool b)
 | .int i => some (.int i)
 | .str s => some (.str s)
 | _ => none
def bI (H : HP) (v : AV) : Option AV := (bY H v).map fun xs => .int (xs.length : Int)
noncomputable def pt {α : Type} (T : List (Str × α)) (x : Str) : Option α := (T.find? fun p => decide (p.1 = x)).map (·.2)
def fT : List AV -> Option (List Bool)
 | [] => some []
 | a :: r => (dU a).bind fun b => (fT r).map (b :: ·)
inductive BF where
 | len | range | list | tuple | all | int | sum | sorted
noncomputable def BS : List (Str × BF) := [("len", .len), ("range", .range), ("list", .list), ("tuple", .tuple), ("all", .all), ("int", .int), ("sum", .sum), ("sorted", .sorted)]
def ue (f : Str) : Option BF := pt BS f
noncomputable def one (args : List AV) (k : AV -> Option AV) : Option AV := match args with
 | [v] => k v
 | _ => none
def uf (v : AV) : Option AV := (asInt v).bind fun b => if bA b then some (.range 0 b) else none
def ug (a b : AV) : Option AV := e8 a b fun x y => if bA x && bA y then some (.range x y) else none
def pz (args : List AV) : Option AV := match args with
 | [a, b] => ug a b
 | args => one args uf
def jA (a b : Int) : Option AV := if (bH a b).length <= aM then some (.list (bH a b)) else none
noncomputable def iA (e : AV) : AV := match e with
 | .tup xs => (match xs with | x :: _ => x | [] => .none)
 | _ => .none
def uh (H : HP) (d : Nat) : Option AV := (H[d]?).map fun es => .list (es.map iA)
def pA (H : HP) (v : AV) : Option AV := match fR? v with
 | some p => jA p.1 p.2
 | none => (match dA v with
  | some d => uh H d
  | none => (bY H v).map AV.list)
def ui (H : HP) (v : AV) : Option AV := (bf H v).map AV.tup
def uj (H : HP) (v : AV) : Option AV := (bf H v).bind fun xs => (fT xs).map fun bs => AV.bool (bs.all id)
def uk (v : AV) : Option AV := (dU v).map fun b => .int (if b then 1 else 0)
def jB (H : HP) : List AV -> Option (List AV)
 | [] => some []
 | a :: r => (bf H a).bind fun x => (jB H r).map (x ++ ·)
noncomputable def ul : AV -> Bool
 | .list xs => xs.isEmpty
 | _ => false
def pB (ys : List AV) : Option AV := if ys.length <= aM then some (.list ys) else none
def pC (H : HP) (xs : List AV) : Option AV := if xs.isEmpty then none else (jB H xs).bind pB
def pD (H : HP) (args : List AV) : Option AV := match args with
 | [v, z] => if ul z then (bf H v).bind (pC H) else none
 | _ => none
def iB : List AV -> Option (List Int)
 | [] => some []
 | a :: r => (asInt a).bind fun i => (iB r).map (i :: ·)
noncomputable def ce (ns : List Int) : List Int := ns.mergeSort fun a b => decide (a <= b)
def um (ns : List Int) : Option AV := if ns.length <= aM then some (.list ((ce ns).map AV.int)) else none
def iC (xs : List AV) : Option AV := (iB xs).bind um
def jC (H : HP) (v : AV) : Option AV := match dA v with
 | some k => (H[k]?).bind fun es => iC (es.map iA)
 | none => (bf H v).bind iC
def c7 (f : BF) (args : List AV) (H : HP) : Option AV :=
 match f with
 | .len => one args (bI H)
 | .range => pz args
 | .list => one args (pA H)
 | .tuple => one args (ui H)
 | .all => one args (uj H)
 | .int => one args uk
 | .sum => pD H args
 | .sorted => one args (jC H)
def BT (f : Str) (args : List AV) (H : HP) : Option AV := (ue f).bind fun f => c7 f args H
noncomputable def bF (H : HP) (k : Nat) (xs : List AV) : HP := H.set k xs
inductive LM where
 | append | insert | extend | pop | index
noncomputable def uo : List (Str × LM) := [("append", .append), ("insert", .insert), ("extend", .extend), ("pop", .pop), ("index", .index)]
def uq (f : Str) : Option LM := pt uo f
def gC (xs : List AV) (i : Int) : Option (AV × List AV) := (idx xs.length i).bind fun j => (xs[j]?).bind fun u => some (u, xs.eraseIdx j)
def dX (H : HP) (m : LM) (xs : List AV) (args : List AV) : Option (AV × List AV) :=
 match m with
 | .append => (match args with | [v] => if xs.length < aM then some (.none, xs ++ [v]) else none | _ => none)
 | .insert => (match args with
  | [i, v] => (asInt i).bind fun i => if decide (i = 0) && decide (xs.length < aM) then some (.none, v :: xs) else none
  | _ => none)
 | .extend => (match args with
  | [v] => (bf H v).bind fun ys => if xs.length + ys.length <= aM then some (.none, xs ++ ys) else none
  | _ => none)
 | .pop => (match args with
  | [] => gC xs (-1)
  | [i] => (asInt i).bind (gC xs)
  | _ => none)
 | .index => none
noncomputable def gD (p q w : Str) : Option AV := if p = w then some (.int 0) else if q = w then some (.int 1) else none
def BU (xs : List AV) (a : AV) : Option AV := match xs with
 | [x, y] => (eG x).bind fun p => (eG y).bind fun q => (eG a).bind (gD p q)
 | _ => none
def ur (m : LM) (xs : List AV) (args : List AV) : Option AV := match m with
 | .index => (match args with | [a] => BU xs a | _ => none)
 | _ => none
def iD (m : LM) (v : AV) (args : List AV) (H : HP) : R AV := match eH v with
 | some k => (H[k]?).bind fun xs => (dX H m xs args).bind fun p => some (p.1, bF H k p.2)
 | none => (eZ v).bind fun xs => (ur m xs args).bind fun u => some (u, H)
def BV (f : Str) (o : AV) (args : List AV) (H : HP) : R AV := (uq f).bind fun m => iD m o args H
def BW (H : HP) (k : Nat) (i : AV) (v : AV) : Option HP := (asInt i).bind fun i => (H[k]?).bind fun xs =>
 if decide (0 <= i) && decide (i < (xs.length : Int)) then some (bF H k (xs.set i.toNat v)) else none
noncomputable def iE : AV -> Bool
 | .none => true
 | .bool _ => true
 | .int _ => true
 | .str _ => true
 | _ => false
def BX (H : HP) (k : Nat) (i : AV) (v : AV) : Option HP := (asInt i).bind fun i => (H[k]?).bind fun es =>
 if iE v && (decide (es.length < aM) && !dJ i es) then some (bF H k (ei es i v)) else none
def setItem (H : HP) (o i v : AV) : Option HP := match dA o with
 | some k => BX H k i v
 | none => (eH o).bind fun k => BW H k i v
def aS (H : HP) (o i : AV) : Option AV := (asInt i).bind fun i => (bY H o).bind fun xs => (idx xs.length i).bind fun j => xs[j]?
def dt (H : HP) (o : AV) (lo hi : Option Int) : Option AV := match dq o with
 | some xs => some (.tup (cH xs lo hi))
 | none => (bf H o).map fun xs => .list (cH xs lo hi)
def et : AV -> Option (Option Int)
 | .none => some none
 | .int i => if bA i then some (some i) else none
 | _ => none
noncomputable def bS {α : Type} (o : Option α) (H : HP) : R α :=
 match o with
 | some a => some (a, H)
 | none => none
def ae (ρ : an) (x : Str) (H : HP) : R AV := bS (ρ x) H
set_option tactic.hygienic true in
noncomputable def sq (r : RS) (k : an -> HP -> RS) : RS :=
 match r with
 | some (.next, ρ, H) => k ρ H
 | some (.ret v, ρ, H) => some (.ret v, ρ, H)
 | none => none
set_option tactic.hygienic true in
noncomputable def aq (ρ : an) (H : HP) : RS := some (.next, ρ, H)
def aC (r : R AV) (ρ : an) : RS := av r fun v H => some (.ret v, ρ, H)
def aW (r : R Bool) (a b : HP -> RS) : RS := av r fun c H => match c with | true => a H | false => b H
set_option tactic.hygienic true in
noncomputable def ba (r : RS) : R AV :=
 match r with
 | some (.ret v, _, H) => some (v, H)
 | some (.next, _, H) => some (.none, H)
 | none => none
def cC (r : RS) : R AV :=
 match r with
 | some (.ret v, _, H) => (match fz H v with | some v => some (v, []) | none => none)
 | _ => none
def bo : List (HP -> R AV) -> HP -> R (List AV)
 | [], H => some ([], H)
 | e :: es, H => av (e H) fun v H => av (bo es H) fun vs H => some (v :: vs, H)
def aH (left : AV) (ops : List CmpOp) (rs : List (HP -> R AV)) (H : HP) : R AV := match ops with
 | [op] => (match rs with
  | [r] => av (r H) fun b H => av (bS (cO op left b H) H) fun c H => some (.bool c, H)
  | _ => none)
 | _ => none
def eu (left : AV) (ops : List CmpOp) (rs : List (HP -> R AV)) (H : HP) : R AV := match ops with
 | [op, op'] => (match rs with
  | [r, r'] => av (r H) fun b H => av (bS (cO op left b H) H) fun c H => (match c with
   | true => aH b [op'] [r'] H
   | false => some (.bool false, H))
  | _ => none)
 | ops => aH left ops rs H
def ew (op : BoolOp) : List (HP -> R AV) -> HP -> R AV
 | [], _ => none
 | [e], H => e H
 | e :: es, H => av (e H) fun v H => av (bS (dU v) H) fun b H => (match op, b with
   | .And, true => ew op es H
   | .And, false => some (.bool false, H)
   | .Or, true => some (.bool true, H)
   | .Or, false => ew op es H)
def bv (op : BoolOp) : List (HP -> R Bool) -> HP -> R Bool
 | [], H => some ((match op with | .And => true | .Or => false), H)
 | e :: es, H => av (e H) fun b H => (match op, b with
   | .And, true => bv op es H
   | .And, false => some (false, H)
   | .Or, true => some (true, H)
   | .Or, false => bv op es H)
def aw (r : R AV) : R Bool := av r fun v H => bS (dU v) H
def cD (r : R Bool) : R Bool := av r fun b H => some (!b, H)
def ut (r : R AV) : R AV := av r fun v H => av (bS (dU v) H) fun b H => some (.bool (!b), H)
def BY (v : AV) : Option AV := (asInt v).map fun i => .int (-i)
def fU (r : R AV) : R AV := av r fun v H => bS (BY v) H
def aB (op : Operator) (l r : HP -> R AV) (H : HP) : R AV := av (l H) fun a H => av (r H) fun b H => bS (ct op a b H) H
def au (o i : HP -> R AV) (H : HP) : R AV := av (o H) fun v H => av (i H) fun k H => bS (aS H v k) H
noncomputable def bZ (H : HP) : R AV := some (.none, H)
def bX (o lo hi : HP -> R AV) (H : HP) : R AV := av (o H) fun v H => av (lo H) fun a H => av (hi H) fun b H =>
 av (bS (et a) H) fun a H => av (bS (et b) H) fun b H => bS (dt H v a b) H
def a8 (es : List (HP -> R AV)) (H : HP) : R AV := if es.length <= aM then av (bo es H) fun vs H => some (.list vs, H) else none
def aT (es : List (HP -> R AV)) (H : HP) : R AV := if es.length <= aM then av (bo es H) fun vs H => some (.tup vs, H) else none
def aP (Φ : Nat -> Str -> List AV -> HP -> R AV) (af : Nat) (f : Str) (es : List (HP -> R AV)) (H : HP) : R AV := av (bo es H) fun vs H => Φ af f vs H
def uu (f : Str) (es : List (HP -> R AV)) (H : HP) : R AV := av (bo es H) fun vs H => bS (BT f vs H) H
def e9 (H : HP) (v : AV) : Bool := (bf H v).isSome
def uv (af : Nat) (f : Str) (o : HP -> R AV) (es : List (HP -> R AV)) (H : HP) : R AV := av (o H) fun v H => if e9 H v then av (bo es H) fun vs H => BV f v vs H else none
def pE (o : HP -> R AV) (es : List (HP -> R AV)) (H : HP) : R AV := av (o H) fun v H => (dA v).bind fun k => if es.isEmpty && (H[k]?).isSome then some (.itm k, H) else none
def pF (af : Nat) (f : Str) (o : HP -> R AV) (es : List (HP -> R AV)) (H : HP) : R AV := if f = "values" then pE o es H else uv af f o es H
def lH (x : Str) (e : AV) : Option AV := (dq e).bind fun l => match l with
 | [a, v] => (eG a).bind fun y => if y = x then some v else none
 | _ => none
def bp (es : List AV) (x : Str) : Option AV := es.findSome? (lH x)
noncomputable def lI (x : Str) : Bool := match PySem.fastLookup "object" x with
 | some none => true
 | _ => false
def gE (C : Cfg) (x : Str) : Bool := match C.cls with
 | some c => c.statics.contains x && lI x
 | none => false
def aY (x : Str) (r : R AV) : R AV := av r fun v H => (fQ v).bind fun k => (H[k]?).bind fun es => (bp es x).bind fun u => some (u, H)
def fc (H : HP) (o : AV) (x : Str) (v : AV) : Option HP := (fQ o).bind fun k => (H[k]?).bind fun es => if (bp es x).isNone && decide (es.length < 1000) then some (bF H k (es ++ [.tup [.str x, v]])) else none
def jD (Φ : Nat -> Str -> List AV -> HP -> R AV) (af : Nat) (f : Str) (es : List (HP -> R AV)) (H : HP) : R AV := av (bo es H) fun vs H => av (Φ af f (.ins H.length :: vs) (H ++ [[]])) fun r H' => if cI r then some (.ins H.length, H') else none
def cS (Φ : Nat -> Str -> List AV -> HP -> R AV) (af : Nat) (x f : Str) (o : HP -> R AV) (es : List (HP -> R AV)) (H : HP) : R AV := av (o H) fun v H => (fQ v).bind fun k => (H[k]?).bind fun as => if (bp as x).isNone then av (bo es H) fun vs H => Φ af f (v :: vs) H else none
def lJ (C : Cfg) (x : Str) : Option MethRec := C.cls.bind fun c => (c.meths.find? (fun m => decide (m.name = x))).bind fun m => if lI x then some m else none
noncomputable def lK (C : Cfg) : Str := match C.cls with
 | some c => c.name
 | none => ""
open Classical in
def dY {β : Type} (v : AV) (xs : List AV) (H : HP) (k : R β) : R β := if cq v xs H then k else none
def dZ (src : AV) (xs : List AV) (tst : an -> HP -> R Bool) (elt : an -> HP -> R AV) (x : Str) (ρ : an) : List AV -> HP -> R (List AV)
 | [], H => dY src xs H (some ([], H))
 | v :: vs, H => dY src xs H (av (tst (upd ρ x v) H) fun b H => (match b with
   | true => av (elt (upd ρ x v) H) fun y H => av (dZ src xs tst elt x ρ vs H) fun ys H => some (y :: ys, H)
   | false => dZ src xs tst elt x ρ vs H))
def bg (tst : an -> HP -> R Bool) (elt : an -> HP -> R AV) (x : Str) (ρ : an) (it : HP -> R AV) (H : HP) : R (List AV) :=
 av (it H) fun s H => av (bS (eg H s) H) fun xs H => if xs.length <= aM then dZ s xs tst elt x ρ xs H else none
def dB (r : R (List AV)) : R AV := av r fun ys H => some (.list ys, H)
def dC (r : R (List AV)) : R AV := av r fun ys H => some (.ref H.length, H ++ [ys])
noncomputable def pG : AV -> Bool
 | .none => true
 | .bool _ => true
 | .int _ => true
 | .str _ => true
 | _ => false
def jE (v : AV) : Bool := pG v || (match v with | .list ys => ys.all pG | .tup ys => ys.all pG | _ => false)
def pH (v : AV) (H : HP) : R AV := match eZ v with
 | some xs => if xs.all jE then some (.ref H.length, H ++ [xs]) else none
 | none => some (v, H)
def bG (fresh : Bool) (r : R AV) : R AV := match fresh with
 | true => av r pH
 | false => r
def bi (ρ : an) : List Str -> List AV -> Option an
 | [], [] => some ρ
 | x :: xs, v :: vs => bi (upd ρ x v) xs vs
 | _, _ => none
def bM (xs : List Str) (v : AV) (ρ : an) : Option an := (dq v).bind (bi ρ xs)
def bb (x : Str) (v : AV) (ρ : an) : Option an := some (upd ρ x v)
noncomputable def ff (_ : AV) (_ : an) : Option an := none
set_option tactic.hygienic true in
def bT (body : an -> HP -> RS) (tgt : AV -> an -> Option an) : List AV -> an -> HP -> RS
 | [], ρ, H => some (.next, ρ, H)
 | v :: vs, ρ, H => (tgt v ρ).bind fun ρ => sq (body ρ H) fun ρ H => bT body tgt vs ρ H
def bJ (body : an -> HP -> RS) (tgt : AV -> an -> Option an) (it : HP -> R AV) (ρ : an) (H : HP) : RS :=
 av (it H) fun s H => av (bS (dr s) H) fun xs H => bT body tgt xs ρ H
set_option tactic.hygienic true in
def c8 (test : an -> HP -> R Bool) (body : an -> HP -> RS) : Nat -> an -> HP -> RS
 | 0, _, _ => none
 | k + 1, ρ, H => av (test ρ H) fun b H => (match b with
   | true => sq (body ρ H) fun ρ H => c8 test body k ρ H
   | false => some (.next, ρ, H))
set_option tactic.hygienic true in
def cT (r : R AV) (ρ : an) : RS := av r fun v H => if iE v then some (.next, ρ, H) else none
set_option tactic.hygienic true in
def asgN (x : Str) (r : R AV) (ρ : an) : RS := av r fun v H => some (.next, upd ρ x v, H)
set_option tactic.hygienic true in
def asgI (o i e : HP -> R AV) (ρ : an) (H : HP) : RS := av (e H) fun v H => av (o H) fun ov H => av (i H) fun iv H =>
 (setItem H ov iv v).bind fun H => some (.next, ρ, H)
set_option tactic.hygienic true in
def asgA (x : Str) (o e : HP -> R AV) (ρ : an) (H : HP) : RS := av (e H) fun v H => av (o H) fun ov H => (fc H ov x v).bind fun H => some (.next, ρ, H)
set_option tactic.hygienic true in
def asgT (tgt : AV -> an -> Option an) (r : R AV) (ρ : an) : RS := av r fun v H => (tgt v ρ).bind fun ρ => some (.next, ρ, H)
set_option genCtorIdx false in
inductive VE : PySem.Expr -> Type
 | const (c : Const) (k : Nat) (pos : Pos) : VE (.Constant c k pos)
 | name (x : Str) (pos : Pos) : VE (.Name x pos)
 | bin (l : PySem.Expr) (op : Operator) (r : PySem.Expr) (pos : Pos) : VE (.BinOp l op r pos)
 | not (x : PySem.Expr) (pos : Pos) : VE (.UnaryOp .Not x pos)
 | neg (x : PySem.Expr) (pos : Pos) : VE (.UnaryOp .USub x pos)
 | bool (op : BoolOp) (es : List PySem.Expr) (pos : Pos) : VE (.BoolOp op es pos)
 | cmp (l : PySem.Expr) (op : CmpOp) (r : PySem.Expr) (pos : Pos) : VE (.Compare l [op] [r] pos)
 | cmp2 (l : PySem.Expr) (op : CmpOp) (r : PySem.Expr) (op' : CmpOp) (r' : PySem.Expr) (pos : Pos) : VE (.Compare l [op, op'] [r, r'] pos)
 | list (es : List PySem.Expr) (pos : Pos) : VE (.List es pos)
 | tup (es : List PySem.Expr) (k : Nat) (pos : Pos) : VE (.Tuple es k pos)
 | sli (o : PySem.Expr) (lo hi : Option PySem.Expr) (p pos : Pos) : VE (.Subscript o (.Slice lo hi none p) pos)
 | sub (o i : PySem.Expr) (pos : Pos) : VE (.Subscript o i pos)
 | comp (elt : PySem.Expr) (x : Str) (px : Pos) (iter : PySem.Expr) (ifs : List PySem.Expr) (sc : Scope) (pos : Pos) : VE (.ListComp elt [⟨.Name x px, iter, ifs, Int.ofNat 0⟩] sc pos)
 | call (g : Str) (gp : Pos) (args : List PySem.Expr) (pos : Pos) : VE (.Call (.Name g gp) args [] pos)
 | meth (o : PySem.Expr) (m : Str) (ap : Pos) (args : List PySem.Expr) (pos : Pos) : VE (.Call (.Attribute o m ap) args [] pos)
 | attr (o : PySem.Expr) (m : Str) (pos : Pos) : VE (.Attribute o m pos)
 | dict (pos : Pos) : VE (.Dict [] [] pos)
 | other (e : PySem.Expr) : VE e
noncomputable def ey (e : PySem.Expr) : VE e := match e with
 | .Constant c k pos => .const c k pos
 | .Name x pos => .name x pos
 | .BinOp l op r pos => .bin l op r pos
 | .UnaryOp .Not x pos => .not x pos
 | .UnaryOp .USub x pos => .neg x pos
 | .BoolOp op es pos => .bool op es pos
 | .Compare l [op] [r] pos => .cmp l op r pos
 | .Compare l [op, op'] [r, r'] pos => .cmp2 l op r op' r' pos
 | .List es pos => .list es pos
 | .Tuple es k pos => .tup es k pos
 | .Subscript o (.Slice lo hi none p) pos => .sli o lo hi p pos
 | .Subscript o i pos => .sub o i pos
 | .ListComp elt [⟨.Name x px, iter, ifs, .ofNat 0⟩] sc pos => .comp elt x px iter ifs sc pos
 | .Call (.Name g gp) args [] pos => .call g gp args pos
 | .Call (.Attribute o m ap) args [] pos => .meth o m ap args pos
 | .Attribute o m pos => .attr o m pos
 | .Dict [] [] pos => .dict pos
 | e => .other e
noncomputable def uw {e : PySem.Expr} (v : VE e) : Option Str := match v with
 | .name x _ => some x
 | _ => none
noncomputable def ux {e : PySem.Expr} (v : VE e) : Option (List PySem.Expr) := match v with
 | .tup es _ _ => some es
 | _ => none
def gF (e : PySem.Expr) : Option Str := uw (ey e)
def lL (e : PySem.Expr) : Option (List PySem.Expr) := ux (ey e)
def fV : List PySem.Expr -> Option (List Str)
 | [] => some []
 | e :: r => (gF e).bind fun x => (fV r).map (x :: ·)
def fg (sc : Scope) (t : PySem.Expr) : AV -> an -> Option an :=
 match gF t with
 | some x => if bW sc x then bb x else ff
 | none => (match (lL t).bind fV with
  | some xs => if xs.all (bW sc) then bM xs else ff
  | none => ff)
noncomputable def eJ {e : PySem.Expr} (v : VE e) : Nat := match v with
 | .const .. => 0
 | .name .. => 1
 | .bin .. => 2
 | .not .. => 11
 | .neg .. => 0
 | .bool .. => 12
 | .cmp .. => 13
 | .cmp2 .. => 14
 | .list .. => 3
 | .tup .. => 4
 | .sli .. => 5
 | .sub .. => 6
 | .comp .. => 7
 | .call .. => 0
 | .meth .. => 0
 | .attr .. => 8
 | .dict .. => 9
 | .other _ => 10
def kd (e : PySem.Expr) : Nat := eJ (ey e)
noncomputable def iF (g : Str) : Bool := decide (g = "list") || (decide (g = "sum") || decide (g = "sorted"))
def gG (e : PySem.Expr) : Bool := kd e == 7
def cg (e : PySem.Expr) : Bool := !(kd e == 10)
noncomputable def uy (sc : Scope) (args : List PySem.Expr) (ev : PySem.Expr -> HP -> R AV) (H : HP) : R AV := none
noncomputable def uz (n : Nat) : Bool := (n == 1) || ((n == 3) || ((n == 5) || ((n == 6) || (n == 8))))
def BZ (e : PySem.Expr) : Bool := uz (kd e)
def iG (o : PySem.Expr) (ap pos : Pos) (args : List PySem.Expr) : Bool := BZ o && (decide (ap.endLine = pos.line) && (decide (args.length < 20) && args.all cg))
def jF (fsc sc : Scope) (x : Str) (it : PySem.Expr) : Bool := ph fsc sc x && (cg it && !cG x)
noncomputable abbrev aR := Nat -> Str -> List AV -> HP -> R AV
noncomputable def gH (C : Cfg) (f : Str) : Option DefRec := C.fns.find? fun d => decide (d.name = f)
noncomputable def iH (C : Cfg) (f : Str) : Option DefRec := (C.fns ++ C.mets).find? fun d => decide (d.name = f)
noncomputable def jG (C : Cfg) (g : Str) : Bool := match C.cls with
 | some c => decide (c.name = g) && c.meths.any fun m => decide (m.name = "__init__")
 | none => false
def pI (ev : PySem.Expr -> HP -> R AV) (e : Option PySem.Expr) : HP -> R AV := match e with
 | some e => ev e
 | none => bZ
def pJ (C : Cfg) (Φ : aR) (fm : Fm) (g : Str) (args : List PySem.Expr) (ev : PySem.Expr -> HP -> R AV) (H : HP) : R AV := match gH C g with
 | some _ => aP Φ fm.af g (args.map ev) H
 | none => if jG C g && !args.isEmpty then jD Φ fm.af (g ++ "." ++ "__init__") (args.map ev) H else if g = "isinstance" then uy fm.sc args ev H else uu g (args.map ev) H
def pK (C : Cfg) (Φ : aR) (af : Nat) (x : Str) (o : HP -> R AV) (es : List (HP -> R AV)) (H : HP) : R AV := match lJ C x with
 | some m => cS Φ af x (lK C ++ "." ++ m.name) o es H
 | none => pF af x o es H
noncomputable def newD (H : HP) : R AV := some (.dct H.length, H ++ [[]])
abbrev cU (α : Type) := Fm -> PySem.Expr -> an -> HP -> R α
def pL (fm : Fm) (ev : cU AV) (evc : cU AV) (evb : cU Bool) (ρ : an) (H : HP) (elt : PySem.Expr) (x : Str) (iter : PySem.Expr) (ifs : List PySem.Expr) (sc : Scope) : R (List AV) :=
 bg (fun ρ H => bv .And (ifs.map fun e H => evb { fm with sc := sc } e ρ H) H) (fun ρ H => evc { fm with sc := sc } elt ρ H) x ρ (fun H => ev fm iter ρ H) H
def lM (m : Bool) (r : R (List AV)) : R AV := match m with
 | true => dC r
 | false => dB r
def uA (C : Cfg) (Φ : aR) (m : Bool) (fm : Fm) (ev : Bool -> cU AV) (evb : cU Bool) (ρ : an) (H : HP) {e : PySem.Expr} (v : VE e) : R AV := match v with
 | .const c _ _ => bS (ud c) H
 | .name x _ => if dz fm.sc x then ae ρ x H else none
 | .bin l op r _ => bG m (aB op (fun H => ev false fm l ρ H) (fun H => ev false fm r ρ H) H)
 | .not x _ => ut (ev false fm x ρ H)
 | .neg x _ => fU (ev false fm x ρ H)
 | .bool op es _ => ew op (es.map fun e H => ev false fm e ρ H) H
 | .cmp l op r _ => av (ev false fm l ρ H) fun a H => aH a [op] [fun H => ev false fm r ρ H] H
 | .cmp2 l op r op' r' _ => av (ev false fm l ρ H) fun a H => eu a [op, op'] [fun H => ev false fm r ρ H, fun H => ev false fm r' ρ H] H
 | .list es _ => bG m (a8 (es.map fun e H => ev false fm e ρ H) H)
 | .tup es _ _ => aT (es.map fun e H => ev m fm e ρ H) H
 | .sli o lo hi _ _ => bG m (bX (fun H => ev false fm o ρ H) (pI (fun e H => ev false fm e ρ H) lo) (pI (fun e H => ev false fm e ρ H) hi) H)
 | .sub o i _ => if cg i then au (fun H => ev false fm o ρ H) (fun H => ev false fm i ρ H) H else none
 | .comp elt x _ iter ifs sc _ => if jF fm.sc sc x iter then lM m (pL fm (ev false) (ev m) evb ρ H elt x iter ifs sc) else none
 | .call g _ args _ => if fO fm.sc g then bG (m && iF g) (pJ C Φ fm g args (fun e H => ev false fm e ρ H) H) else none
 | .meth o x ap args pos => if iG o ap pos args then pK C Φ fm.af x (fun H => ev false fm o ρ H) (args.map fun e H => ev false fm e ρ H) H else none
 | .attr o x _ => if (gF o).isSome && gE C x then aY x (ev false fm o ρ H) else none
 | .dict _ => newD H
 | .other _ => none
def uB (fm : Fm) (ev : cU AV) (evb : cU Bool) (ρ : an) (H : HP) {e : PySem.Expr} (v : VE e) : R Bool := match v with
 | .not x _ => cD (evb fm x ρ H)
 | .bool op es _ => bv op (es.map fun e H => evb fm e ρ H) H
 | .cmp l op r _ => aw (av (ev fm l ρ H) fun a H => aH a [op] [fun H => ev fm r ρ H] H)
 | .cmp2 l op r op' r' _ => aw (av (ev fm l ρ H) fun a H => eu a [op, op'] [fun H => ev fm r ρ H, fun H => ev fm r' ρ H] H)
 | v => if !(eJ v == 10) then aw (ev fm e ρ H) else none
mutual
noncomputable def ez (C : Cfg) (Φ : aR) : Nat -> Bool -> Fm -> PySem.Expr -> an -> HP -> R AV
 | 0, _, _, _, _, _ => none
 | d + 1, m, fm, e, ρ, H => uA C Φ m fm (ez C Φ d) (iI C Φ d) ρ H (ey e)
noncomputable def iI (C : Cfg) (Φ : aR) : Nat -> Fm -> PySem.Expr -> an -> HP -> R Bool
 | 0, _, _, _, _ => none
 | d + 1, fm, e, ρ, H => uB fm (ez C Φ d false) (iI C Φ d) ρ H (ey e)
end
set_option genCtorIdx false in
inductive VS : PySem.Stmt -> Type
 | pass (pos : Pos) : VS (.Pass pos)
 | expr (e : PySem.Expr) (pos : Pos) : VS (.Expr e pos)
 | ret (e : PySem.Expr) (pos : Pos) : VS (.Return (some e) pos)
 | ret0 (pos : Pos) : VS (.Return none pos)
 | asgN (x : Str) (q : Pos) (e : PySem.Expr) (pos : Pos) : VS (.Assign [.Name x q] e pos)
 | asgT (es : List PySem.Expr) (k : Nat) (q : Pos) (e : PySem.Expr) (pos : Pos) : VS (.Assign [.Tuple es k q] e pos)
 | asgA (o : PySem.Expr) (x : Str) (q : Pos) (e : PySem.Expr) (pos : Pos) : VS (.Assign [.Attribute o x q] e pos)
 | asgI (o i : PySem.Expr) (q : Pos) (e : PySem.Expr) (pos : Pos) : VS (.Assign [.Subscript o i q] e pos)
 | cond (t : PySem.Expr) (b o : List PySem.Stmt) (pos : Pos) : VS (.If t b o pos)
 | loop (t it : PySem.Expr) (b : List PySem.Stmt) (pos : Pos) : VS (.For t it b [] pos)
 | whil (t : PySem.Expr) (b : List PySem.Stmt) (pos : Pos) : VS (.While t b [] pos)
 | other (st : PySem.Stmt) : VS st
noncomputable def uC (st : PySem.Stmt) : VS st := match st with
 | .Pass pos => .pass pos
 | .Expr e pos => .expr e pos
 | .Return (some e) pos => .ret e pos
 | .Return none pos => .ret0 pos
 | .Assign [.Name x q] e pos => .asgN x q e pos
 | .Assign [.Tuple es k q] e pos => .asgT es k q e pos
 | .Assign [.Attribute o x q] e pos => .asgA o x q e pos
 | .Assign [.Subscript o i q] e pos => .asgI o i q e pos
 | .If t b o pos => .cond t b o pos
 | .For t it b [] pos => .loop t it b pos
 | .While t b [] pos => .whil t b pos
 | st => .other st
abbrev pM (α : Type) := Fm -> α -> an -> HP -> RS
def uD (C : Cfg) (fm : Fm) (ev : Bool -> cU AV) (evb : cU Bool) (exs : pM (List PySem.Stmt)) (ρ : an) (H : HP) {st : PySem.Stmt} (v : VS st) : RS := match v with
 | .pass _ => aq ρ H
 | .expr e _ => if cg e && !gG e then cT (ev false fm e ρ H) ρ else none
 | .ret e _ => aC (ev (C.muts.contains (fm.fn, "return")) fm e ρ H) ρ
 | .ret0 _ => aC (bZ H) ρ
 | .asgN x _ e _ => if bW fm.sc x && cg e then asgN x (ev (C.muts.contains (fm.fn, x)) fm e ρ H) ρ else none
 | .asgT es k q e _ => if cg e && (!(kd e == 4) && !gG e) then asgT (fg fm.sc (.Tuple es k q)) (ev false fm e ρ H) ρ else none
 | .asgA o x _ e _ => if cg e && gE C x then asgA x (fun H => ev false fm o ρ H) (fun H => ev (C.muts.contains (fm.fn, x)) fm e ρ H) ρ H else none
 | .asgI o i _ e _ => if cg e && !gG e then asgI (fun H => ev false fm o ρ H) (fun H => ev false fm i ρ H) (fun H => ev false fm e ρ H) ρ H else none
 | .cond t b o _ => aW (evb fm t ρ H) (fun H => exs fm b ρ H) (fun H => exs fm o ρ H)
 | .loop t it b _ => if cg it then bJ (fun ρ H => exs fm b ρ H) (fg fm.sc t) (fun H => ev false fm it ρ H) ρ H else none
 | .whil t b _ => c8 (fun ρ H => evb fm t ρ H) (fun ρ H => exs fm b ρ H) C.loops ρ H
 | .other _ => none
mutual
noncomputable def uE (C : Cfg) (Φ : aR) : Nat -> Fm -> PySem.Stmt -> an -> HP -> RS
 | 0, _, _, _, _ => none
 | d + 1, fm, st, ρ, H => uD C fm (ez C Φ d) (iI C Φ d) (iJ C Φ d) ρ H (uC st)
noncomputable def iJ (C : Cfg) (Φ : aR) : Nat -> Fm -> List PySem.Stmt -> an -> HP -> RS
 | 0, _, _, _, _ => none
 | d + 1, fm, sts, ρ, H => match sts with
  | [] => aq ρ H
  | st :: rest => sq (uE C Φ d fm st ρ H) fun ρ H => iJ C Φ d fm rest ρ H
end
noncomputable def aF : an := fun O => none
noncomputable def uF (a : Arguments) : Bool := a.posonlyargs.isEmpty && (a.vararg.isNone && (a.kwonlyargs.isEmpty && (a.kw_defaults.isEmpty && (a.kwarg.isNone && a.defaults.isEmpty))))
def jH (a : Arguments) : Option (List Str) := if uF a then some (a.args.map (·.arg)) else none
noncomputable def lN : Nat := 60
def uG (C : Cfg) (f : Str) (H : HP) (b0 b : Nat -> RS) (af : Nat) : R AV := match C.frz.contains f with
 | true => (match H with
  | [] => cC (b0 0)
  | _ :: _ => none)
 | false => ba (b af)
def ai (C : Cfg) : Nat -> aR
 | 0, _, _, _, _ => none
 | n + 1, af, f, args, H => (iH C f).bind fun d => (jH d.params).bind fun xs => (bi aF xs args).bind fun ρ =>
   uG C f H (fun b => iJ C (ai C n) lN ⟨f, d.scope, b⟩ d.body ρ []) (fun b => iJ C (ai C n) lN ⟨f, d.scope, b⟩ d.body ρ H) af
end
end Mine.Internal
namespace Mine.Internal
open PySem PyProof.Rows
noncomputable abbrev bB (T : String) (vs : List Value) (n : Nat) : Obj := { cls := .type T, data := .seq vs.toArray n }
noncomputable abbrev Wd := Addr -> Option AV
noncomputable def isH : AV -> Bool
 | .none => false
 | .bool _ => false
 | .int _ => false
 | .str _ => false
 | _ => true
noncomputable def cell : AV -> Option Nat
 | .ref k => some k
 | .dct k => some k
 | .obj k => some k
 | _ => none
inductive Cv (ω : Wd) : AV -> Value -> Prop
 | none : Cv ω .none .none
 | bool (b : Bool) : Cv ω (.bool b) (.bool b)
 | int (i : Int) (t : Tok) : Cv ω (.int i) (.int i t)
 | str (s : Str) (t : Tok) : Cv ω (.str s) (.str s t)
 | at {a : Addr} {v : AV} : ω a = some v -> isH v = true -> Cv ω v (.ref a)
inductive CvL (ω : Wd) : List AV -> List Value -> Prop
 | nil : CvL ω [] []
 | cons {x : AV} {xs : List AV} {v : Value} {vs : List Value} : Cv ω x v -> CvL ω xs vs -> CvL ω (x :: xs) (v :: vs)
theorem aJ {α : Type} {o : Option α} {x : α} {P : Prop} (n : o = none) (e : o = some x) : P := nomatch n.symm.trans e
theorem iK {a : Addr} {P : Prop} (m : a ∈ ([] : List Addr)) : P := nomatch m
@[elab_as_elim] theorem someV {α : Type} {a v : α} {P : α -> Prop} (e : some a = some v) (k : P a) : P v := Option.some.inj e ▸ k
@[elab_as_elim] theorem ifV {α : Type} {p : Prop} [Decidable p] {a v : α} {P : α -> Prop} (e : (if p then some a else none) = some v) (k : p -> P a) : P v := by
 by_cases h : p
 ·rw [Id h] at e; exact someV e (k h)
 ·rw [IU h] at e; exact aJ rfl e
theorem cV {α : Type} {p : Prop} [Decidable p] {x : Option α} {v : α} {P : Prop} (e : (if p then x else none) = some v) (k : p -> x = some v -> P) : P := by
 by_cases h : p
 ·rw [Id h] at e; exact k h e
 ·rw [IU h] at e; exact aJ rfl e
theorem pN {α : Type} {p : Prop} [Decidable p] {x : Option α} {v : α} {P : Prop} (e : (if p then none else x) = some v) (k : ¬p -> x = some v -> P) : P := by
 by_cases h : p
 ·rw [Id h] at e; exact aJ rfl e
 ·rw [IU h] at e; exact k h e
theorem bd {α β : Type} {o : Option α} {f : α -> Option β} {r : β} {P : Prop} (e : o.bind f = some r) (k : ∀ x, o = some x -> f x = some r -> P) : P :=
 let ⟨x, h1, h2⟩ := Option.bind_eq_some_iff.mp e; k x h1 h2
@[elab_as_elim] theorem mpV {α β : Type} {o : Option α} {f : α -> β} {r : β} {P : β -> Prop} (e : o.map f = some r) (k : ∀ x, o = some x -> P (f x)) : P r :=
 let ⟨x, h1, h2⟩ := JJ.mp e; h2 ▸ k x h1
section
variable {v : AV} {P : AV -> Prop}
@[elab_as_elim] theorem asInt_el {x : Int} (e : asInt v = some x) (k : P (.int x)) : P v := by
 cases v <;> first | exact (Option.some.inj e).symm ▸ k | exact aJ rfl e
@[elab_as_elim] theorem asBool_el {x : Bool} (e : dU v = some x) (k : P (.bool x)) : P v := by
 cases v <;> first | exact (Option.some.inj e).symm ▸ k | exact aJ rfl e
@[elab_as_elim] theorem asStr_el {x : Str} (e : eG v = some x) (k : P (.str x)) : P v := by
 cases v <;> first | exact (Option.some.inj e).symm ▸ k | exact aJ rfl e
@[elab_as_elim] theorem asTup_el {x : List AV} (e : dq v = some x) (k : P (.tup x)) : P v := by
 cases v <;> first | exact (Option.some.inj e).symm ▸ k | exact aJ rfl e
@[elab_as_elim] theorem asLst_el {x : List AV} (e : eZ v = some x) (k : P (.list x)) : P v := by
 cases v <;> first | exact (Option.some.inj e).symm ▸ k | exact aJ rfl e
@[elab_as_elim] theorem asRef_el {x : Nat} (e : eH v = some x) (k : P (.ref x)) : P v := by
 cases v <;> first | exact (Option.some.inj e).symm ▸ k | exact aJ rfl e
@[elab_as_elim] theorem dctO_el {x : Nat} (e : dA v = some x) (k : P (.dct x)) : P v := by
 cases v <;> first | exact (Option.some.inj e).symm ▸ k | exact aJ rfl e
@[elab_as_elim] theorem itmO_el {x : Nat} (e : iz v = some x) (k : P (.itm x)) : P v := by
 cases v <;> first | exact (Option.some.inj e).symm ▸ k | exact aJ rfl e
@[elab_as_elim] theorem insO_el {x : Nat} (e : fQ v = some x) (k : P (.ins x)) : P v := by
 cases v <;> first | exact (Option.some.inj e).symm ▸ k | exact aJ rfl e
@[elab_as_elim] theorem rngO_el {x : Int × Int} (e : fR? v = some x) (k : P (.range x.1 x.2)) : P v := by
 cases v <;> first | (cases e; exact k) | exact aJ rfl e
end
section
variable {ω ω' : Wd} {v : AV} {c : Value}
theorem Cv.mono (le : ∀ a v, ω a = some v -> ω' a = some v) (x : Cv ω v c) : Cv ω' v c :=
 Cv.rec (motive := fun v c O => Cv ω' v c) .none .bool .int .str (fun e h => .at (le _ _ e) h) x
theorem CvL.mono (le : ∀ a v, ω a = some v -> ω' a = some v) {xs : List AV} {vs : List Value} (x : CvL ω xs vs) : CvL ω' xs vs :=
 CvL.rec (motive := fun xs vs O => CvL ω' xs vs) .nil (fun a O r => .cons (a.mono le) r) x
@[elab_as_elim] theorem Cv.int_el {i : Int} {P : Value -> Prop} (x : Cv ω (.int i) c) (h : ∀ t, P (.int i t)) : P c := by
 cases x with
 | int _ t => exact h t
 | «at» _ h => exact Bool.noConfusion h
@[elab_as_elim] theorem Cv.bool_el {b : Bool} {P : Value -> Prop} (x : Cv ω (.bool b) c) (h : P (.bool b)) : P c := by
 cases x with
 | bool _ => exact h
 | «at» _ h => exact Bool.noConfusion h
@[elab_as_elim] theorem Cv.none_el {P : Value -> Prop} (x : Cv ω .none c) (h : P .none) : P c := by
 cases x with
 | none => exact h
 | «at» _ h => exact Bool.noConfusion h
@[elab_as_elim] theorem Cv.str_el {s : Str} {P : Value -> Prop} (x : Cv ω (.str s) c) (h : ∀ t, P (.str s t)) : P c := by
 cases x with
 | str _ t => exact h t
 | «at» _ h => exact Bool.noConfusion h
@[elab_as_elim] theorem Cv.at_el {P : Value -> Prop} (hv : isH v = true) (x : Cv ω v c) (h : ∀ a, ω a = some v -> P (.ref a)) : P c := by
 cases x with
 | «at» e _ => exact h _ e
 | _ => exact Bool.noConfusion hv
@[elab_as_elim] theorem CvL.nil_el {cs : List Value} {P : List Value -> Prop} (x : CvL ω [] cs) (h : P []) : P cs := by cases x; exact h
@[elab_as_elim] theorem CvL.cons_el {xs : List AV} {cs : List Value} {P : List Value -> Prop} (x : CvL ω (v :: xs) cs) (h : ∀ c r, Cv ω v c -> CvL ω xs r -> P (c :: r)) : P cs := by cases x with | cons a r => exact h _ _ a r
theorem CvL.length {xs : List AV} {vs : List Value} (x : CvL ω xs vs) : vs.length = xs.length :=
 CvL.rec (motive := fun xs vs O => vs.length = xs.length) rfl (fun O O e => congrArg Nat.succ e) x
theorem CvL.append {xs ys : List AV} {vs ws : List Value} (x : CvL ω xs vs) (y : CvL ω ys ws) : CvL ω (xs ++ ys) (vs ++ ws) :=
 CvL.rec (motive := fun xs vs O => CvL ω (xs ++ ys) (vs ++ ws)) y (fun a O r => .cons a r) x
theorem CvL.get {xs : List AV} {vs : List Value} (x : CvL ω xs vs) {k : Nat} {a : AV} (e : xs[k]? = some a) : ∃ v, vs[k]? = some v /\ Cv ω a v := by
 induction x generalizing k with
 | nil => cases e
 | cons q _ ih => cases k with
  | zero => cases e; exact ⟨_, rfl, q⟩
  | succ k => exact ih e
theorem CvL.drop {xs : List AV} {vs : List Value} (x : CvL ω xs vs) (k : Nat) : CvL ω (xs.drop k) (vs.drop k) := by
 induction k generalizing xs vs with
 | zero => exact x
 | succ k ih => cases x with
  | nil => exact .nil
  | cons q r => exact ih r
theorem CvL.take {xs : List AV} {vs : List Value} (x : CvL ω xs vs) (k : Nat) : CvL ω (xs.take k) (vs.take k) := by
 induction k generalizing xs vs with
 | zero => exact .nil
 | succ k ih => cases x with
  | nil => exact .nil
  | cons q r => exact .cons q (ih r)
theorem CvL.eraseIdx {xs : List AV} {vs : List Value} (x : CvL ω xs vs) (k : Nat) : CvL ω (xs.eraseIdx k) (vs.eraseIdx k) := by
 rw [List.eraseIdx_eq_take_drop_succ, List.eraseIdx_eq_take_drop_succ]
 exact (x.take k).append (x.drop (k + 1))
theorem CvL.set {xs : List AV} {vs : List Value} (x : CvL ω xs vs) (k : Nat) {a : AV} {v : Value} (c : Cv ω a v) : CvL ω (xs.set k a) (vs.set k v) := by
 induction k generalizing xs vs with
 | zero => cases x with
  | nil => exact .nil
  | cons q r => exact .cons c r
 | succ k ih => cases x with
  | nil => exact .nil
  | cons q r => exact .cons q (ih r)
end
inductive Cs : AV -> Value -> Prop
 | none : Cs .none .none
 | bool (b : Bool) : Cs (.bool b) (.bool b)
 | int (i : Int) (t : Tok) : Cs (.int i) (.int i t)
 | str (s : Str) (t : Tok) : Cs (.str s) (.str s t)
theorem Cs.of {ω : Wd} {v : AV} {c : Value} (x : Cv ω v c) (e : iE v = true) : Cs v c := by
 cases x with
 | none => exact .none
 | bool b => exact .bool b
 | int i t => exact .int i t
 | str s t => exact .str s t
 | «at» _ h => cases v <;> first | exact Bool.noConfusion h | exact Bool.noConfusion e
theorem Cs.cv {ω : Wd} {v : AV} {c : Value} (x : Cs v c) : Cv ω v c := Cs.rec (motive := fun v c O => Cv ω v c) .none .bool .int .str x
inductive DRel : List AV -> List (Int × Value) -> Prop
 | nil : DRel [] []
 | cons {k : Int} {v : AV} {c : Value} {es : List AV} {kvs : List (Int × Value)} : Cs v c -> DRel es kvs -> DRel (eI k v :: es) ((k, c) :: kvs)
theorem DRel.has {es : List AV} {kvs : List (Int × Value)} (r : DRel es kvs) (i : Int) : (kvs.any fun kv => decide (kv.1 = i)) = dJ i es :=
 DRel.rec (motive := fun es kvs O => (kvs.any fun kv => decide (kv.1 = i)) = dJ i es) rfl (fun {k _ _ _ _} _ _ ih => congrArg (decide (k = i) || ·) ih) r
theorem DRel.at {es : List AV} {kvs : List (Int × Value)} (r : DRel es kvs) (i : Int) : (valueAt kvs i).isSome = dJ i es := by
 rw [<- r.has i, valueAt, Option.isSome_map, Bool.eq_iff_iff, List.find?_isSome, List.any_eq_true]
theorem DRel.len {es : List AV} {kvs : List (Int × Value)} (r : DRel es kvs) : kvs.length = es.length :=
 DRel.rec (motive := fun es kvs O => kvs.length = es.length) rfl (fun O O e => congrArg Nat.succ e) r
theorem DRel.store {es : List AV} {kvs : List (Int × Value)} (r : DRel es kvs) {i : Int} {v : AV} {c : Value} (hc : Cs v c) : DRel (ei es i v) (stored kvs i c) := by
 have m : DRel (es.map fun e => if jz i e then eI i v else e) (kvs.map fun kv => if kv.1 = i then (kv.1, c) else kv) :=
  DRel.rec (motive := fun es kvs O => DRel (es.map fun e => if jz i e then eI i v else e) (kvs.map fun kv => if kv.1 = i then (kv.1, c) else kv)) .nil (fun {k _ _ _ _} h1 _ ih => by
   rw [List.map_cons, List.map_cons, show jz i (eI k _) = decide (k = i) from rfl]
   by_cases q : k = i
   ·subst q; rw [Id rfl, Id (Jf rfl)]; exact .cons hc ih
   ·rw [IU (fun e => q (Jr e)), IU q]; exact .cons h1 ih) r
 have n : DRel (es ++ [eI i v]) (kvs ++ [(i, c)]) := DRel.rec (motive := fun es kvs O => DRel (es ++ [eI i v]) (kvs ++ [(i, c)])) (.cons hc .nil) (fun h1 O ih => .cons h1 ih) r
 unfold ei stored
 rw [r.has i]
 split
 ·exact m
 ·exact n
theorem B0 (es : List AV) (i : Int) (v : AV) : (ei es i v).length <= es.length + 1 := by
 unfold ei
 split
 ·rw [IZ]; exact Nat.le_succ _
 ·rw [I2]; exact IO _
noncomputable def Dc (a : Addr) (o : Obj) (es : List AV) : Prop :=
 es.length <= aM /\ (a == sysModules) = false /\ ∃ kvs, DRel es kvs /\ ∀ (p : Program) (w : World) (h : Heap), h.get? a = some o -> h.DictOf (intKind p w) a kvs
theorem B2 {p p' : Program} {w w' : World} {es : List DictEntry} {kvs : List (Int × Value)} (x : Pairs (intKind p w) es kvs) : Pairs (intKind p' w') es kvs := by
 induction x with
 | nil => exact .nil
 | cons h1 h2 _ ih => exact .cons h1 h2 ih
theorem Dc.mk' {p : Program} {w : World} {h : Heap} {a : Addr} {es : List AV} {kvs : List (Int × Value)} (hl : es.length <= aM) (m : (a == sysModules) = false) (r : DRel es kvs) (d : h.DictOf (intKind p w) a kvs) : ∃ o, h.get? a = some o /\ Dc a o es := by
 obtain ⟨ob, es, ep, ho, ex, hd, hk, hp, hn⟩ := d
 exact ⟨ob, ho, hl, m, kvs, r, fun O O O e => ⟨ob, es, ep, e, ex, hd, hk, B2 hp, hn⟩⟩
inductive Sq (T : String) (ω : Wd) (xs : List AV) : Obj -> Prop
 | mk (vs : List Value) (n : Nat) : xs.length <= aM -> CvL ω xs vs -> Sq T ω xs (bB T vs n)
noncomputable abbrev fR (lo hi : Int) (t u v : Tok) : Obj := { cls := .type "range", dict := none, data := .fields #[.int lo t, .int hi u, .int 1 v], slots := #[] }
inductive Ao (ω : Wd) (a : Addr) (es : List AV) (o : Obj) : Prop
 | mk (m : Str -> Option Value) (ns : List Str) : (∀ h : Heap, h.get? a = some o -> h.Ns1 a m) -> (∀ x v, bp es x = some v -> ∃ cv, m x = some cv /\ Cv ω v cv) -> (∀ x, bp es x = none -> m x = none) -> Within m ns -> ns.length = es.length -> es.length <= 1000 -> Ao ω a es o
inductive Io (κ : Addr) (ω : Wd) (k : Nat) (o : Obj) : Prop
 | mk (dx : Addr) : ω dx = some (.obj k) -> o.cls = .ref κ -> o.dict = some dx -> (∀ c, o.data ≠ .cls c) -> Io κ ω k o
noncomputable def Ob (κ : Addr) (ω : Wd) (H : HP) (a : Addr) (o : Obj) : AV -> Prop
 | .list xs => Sq "list" ω xs o
 | .tup xs => Sq "tuple" ω xs o
 | .range lo hi => bA lo = true /\ bA hi = true /\ ∃ t u v, o = fR lo hi t u v
 | .ref k => ∃ xs, H[k]? = some xs /\ Sq "list" ω xs o
 | .dct k => ∃ es, H[k]? = some es /\ Dc a o es
 | .itm k => ∃ d, ω d = some (.dct k) /\ o = { cls := .type "dict_values", data := .fields #[.ref d] }
 | .obj k => ∃ es, H[k]? = some es /\ Ao ω a es o
 | .ins k => Io κ ω k o
 | _ => False
theorem Sq.mono {T : String} {ω ω' : Wd} {xs : List AV} {o : Obj} (le : ∀ a v, ω a = some v -> ω' a = some v) (x : Sq T ω xs o) : Sq T ω' xs o := let ⟨vs, n, hl, r⟩ := x; ⟨vs, n, hl, r.mono le⟩
theorem Ao.mono {ω ω' : Wd} {a : Addr} {es : List AV} {o : Obj} (le : ∀ a v, ω a = some v -> ω' a = some v) (x : Ao ω a es o) : Ao ω' a es o :=
 let ⟨m, ns, h1, h2, h3, h4, h5, h6⟩ := x; ⟨m, ns, h1, fun x v e => let ⟨cv, e1, e2⟩ := h2 x v e; ⟨cv, e1, e2.mono le⟩, h3, h4, h5, h6⟩
theorem Ob.mono {κ : Addr} {ω ω' : Wd} {H H' : HP} {a : Addr} {o : Obj} {v : AV} (le : ∀ a v, ω a = some v -> ω' a = some v) (hH : ∀ k xs, cell v = some k -> H[k]? = some xs -> H'[k]? = some xs) (x : Ob κ ω H a o v) : Ob κ ω' H' a o v := by
 cases v with
 | list xs => exact Sq.mono le x
 | tup xs => exact Sq.mono le x
 | range lo hi => exact x
 | ref k => obtain ⟨xs, h1, h2⟩ := x; exact ⟨xs, hH k xs rfl h1, h2.mono le⟩
 | dct k => obtain ⟨xs, h1, h2⟩ := x; exact ⟨xs, hH k xs rfl h1, h2⟩
 | itm k => obtain ⟨d, h1, h2⟩ := x; exact ⟨d, le _ _ h1, h2⟩
 | obj k => obtain ⟨xs, h1, h2⟩ := x; exact ⟨xs, hH k xs rfl h1, h2.mono le⟩
 | ins k => exact let ⟨d, h1, h2, h3, h4⟩ := x; ⟨d, le _ _ h1, h2, h3, h4⟩
 | _ => exact x.elim
theorem Ob.lt {κ : Addr} {ω : Wd} {H : HP} {a : Addr} {o : Obj} {v : AV} {k : Nat} (x : Ob κ ω H a o v) (e : cell v = some k) : k < H.length := by
 cases v with
 | ref j => obtain ⟨xs, h1, _⟩ := x; cases e; exact (IX.mp h1).1
 | dct j => obtain ⟨xs, h1, _⟩ := x; cases e; exact (IX.mp h1).1
 | obj j => obtain ⟨xs, h1, _⟩ := x; cases e; exact (IX.mp h1).1
 | _ => cases e
structure B3 (h₀ : Heap) (κ : Addr) (ω : Wd) (H : HP) (h : Heap) : Prop where
 keep : ∀ b o, h₀.get? b = some o -> h.get? b = some o
 obj : ∀ a v, ω a = some v -> ∃ o, h.get? a = some o /\ Ob κ ω H a o v
 low : ∀ a v k, ω a = some v -> cell v = some k -> h₀.get? a = none
 inj : ∀ a b v u k, ω a = some v -> ω b = some u -> cell v = some k -> cell u = some k -> a = b
noncomputable def bltNames : List Str := ["len", "range", "list", "tuple", "all", "int", "isinstance", "str", "bool", "dict", "sorted", "sum", "max"]
def lO (d : DefRec) : Bool :=
 decide (d.scope.kind = .function) && (!d.scope.isCoroutine && (!d.scope.isGenerator && ((d.params.args.all fun a => bW d.scope a.arg) && ((d.scope.names.all fun y => decide (y.2 ≠ .free)) &&
  (decide ((d.scope.names.map (·.1)).Nodup) && decide ((d.params.args.map (·.arg)).Nodup))))))
structure uH (C : Cfg) (κ : Addr) (p : Program) (loose : List Str) (mean : ExcName -> Option Value) (mg mb : Str -> Option Value) (h₀ : Heap) : Prop where
 top : Top p loose mean mg mb h₀
 fns : ∀ d ∈ C.fns, d ∈ recsOf p
 fok : ∀ d ∈ C.fns ++ C.mets, lO d = true
 cls : ∀ r, C.cls = some r -> mg r.name = some (.ref κ) /\ ∃ N mN, PlainAt h₀ r κ N mN
 blt : ∀ x ∈ bltNames, mg x = none
 nd : ((C.fns ++ C.mets).map (·.name)).Nodup
structure Cx where
 prog : Program
 w : World
 s₀ : Shared
 C : Cfg
 p : Program
 loose : List Str
 mean : ExcName -> Option Value
 mg : Str -> Option Value
 mb : Str -> Option Value
 κ : Addr
 glb : uH C κ p loose mean mg mb s₀.heap
structure G (c : Cx) (H : HP) where
 h : Heap
 tk : Nat
 ω : Wd
 inv : B3 c.s₀.heap c.κ ω H h
noncomputable abbrev G.s {c : Cx} {H : HP} (g : G c H) : Shared := { c.s₀ with heap := g.h, toks := g.tk }
structure Le {c : Cx} {H H' : HP} (own : List Addr) (g : G c H) (g' : G c H') : Prop where
 le : ∀ a v, g.ω a = some v -> g'.ω a = some v
 keep : ∀ b o, g.h.get? b = some o -> g.ω b = none -> g'.ω b = none /\ (b ∉ own -> g'.h.get? b = some o)
 live : ∀ b o, g.h.get? b = some o -> b ∈ own -> ∃ o', g'.h.get? b = some o'
 dk : ∀ b k es, g.ω b = some (.dct k) -> H[k]? = some es -> ∃ es', H'[k]? = some es' /\ es.length <= es'.length /\ (es'.length = es.length -> g'.h.get? b = g.h.get? b)
section
variable {c : Cx} {H H' H'' : HP} {own own' : List Addr} {g : G c H} {g' : G c H'} {g'' : G c H''}
theorem Le.refl : Le own g g := ⟨fun O O e => e, fun O O e n => ⟨n, fun O => e⟩, fun O o e O => ⟨o, e⟩, fun O O es O e => ⟨es, e, IO _, fun O => rfl⟩⟩
theorem Le.there (x : Le own g g') {b : Addr} {o : Obj} (e : g.h.get? b = some o) : ∃ o', g'.h.get? b = some o' := by
 cases n : g.ω b with
 | some v => obtain ⟨o, e, _⟩ := g'.inv.obj b v (x.le b v n); exact ⟨o, e⟩
 | none =>
  by_cases q : b ∈ own
  ·exact x.live b o e q
  ·exact ⟨o, (x.keep b o e n).2 q⟩
theorem Le.trans (x : Le own g g') (y : Le own g' g'') : Le own g g'' where
 le := fun a v e => y.le a v (x.le a v e)
 keep := fun b o e n => let ⟨o', e'⟩ := x.there e; ⟨(y.keep b o' e' (x.keep b o e n).1).1, fun q => (y.keep b o ((x.keep b o e n).2 q) (x.keep b o e n).1).2 q⟩
 live := fun b o e q => let ⟨o', e'⟩ := x.live b o e q; y.live b o' e' q
 dk := fun b k es q e => let ⟨es', e', l, h⟩ := x.dk b k es q e; let ⟨es2, e2, l2, h2⟩ := y.dk b k es' (x.le _ _ q) e'
  ⟨es2, e2, Je l l2, fun z => have z' : es'.length = es.length := Nat.le_antisymm (z ▸ l2) l; (h2 (z.trans z'.symm)).trans (h z')⟩
theorem Le.wide (x : Le own g g') (hs : ∀ a ∈ own, a ∈ own') : Le own' g g' :=
 ⟨x.le, fun b o e n => ⟨(x.keep b o e n).1, fun q => (x.keep b o e n).2 fun m => q (hs b m)⟩, fun O O e O => x.there e, x.dk⟩
theorem Le.up (x : Le [] g g') : Le own g g' := x.wide fun O m => iK m
theorem Le.drop (x : Le own g g') (hs : ∀ a ∈ own, a ∈ own' ∨ g.h.get? a = none) : Le own' g g' :=
 ⟨x.le, fun b o e n => ⟨(x.keep b o e n).1, fun q => (x.keep b o e n).2 fun m => (hs b m).elim q fun r => aJ r e⟩, fun O O e O => x.there e, x.dk⟩
theorem Le.back (x : Le own g g') {a : Addr} (n : g'.h.get? a = none) : g.h.get? a = none := by
 cases e : g.h.get? a with
 | none => rfl
 | some o => obtain ⟨o', e'⟩ := x.there e; exact aJ n e'
theorem Le.cv {v : AV} {cv : Value} (x : Le own g g') (q : Cv g.ω v cv) : Cv g'.ω v cv := q.mono x.le
theorem Le.cvs {v : List AV} {cv : List Value} (x : Le own g g') (q : CvL g.ω v cv) : CvL g'.ω v cv := q.mono x.le
theorem G.out (g : G c H) {a : Addr} (n : g.h.get? a = none) : g.ω a = none := by
 cases e : g.ω a with
 | none => rfl
 | some v => obtain ⟨o, h, _⟩ := g.inv.obj a v e; exact aJ n h
theorem G.low (g : G c H) {a : Addr} (n : g.h.get? a = none) : c.s₀.heap.get? a = none := by
 cases e : c.s₀.heap.get? a with
 | none => rfl
 | some v => exact aJ n (g.inv.keep a v e)
noncomputable def G.mv (g : G c H) (own : List Addr) {h' : Heap} (tk : Nat) (k : ∀ b o, b ∉ own -> g.h.get? b = some o -> h'.get? b = some o) (n : ∀ a ∈ own, g.ω a = none /\ c.s₀.heap.get? a = none) : G c H :=
 ⟨h', tk, g.ω, ⟨fun b o e => k b o (fun m => aJ (n b m).2 e) (g.inv.keep b o e), fun a v e => let ⟨o, h1, h2⟩ := g.inv.obj a v e; ⟨o, k a o (fun m => aJ (n a m).1 e) h1, h2⟩, g.inv.low, g.inv.inj⟩⟩
theorem G.mv_le {h' : Heap} {tk : Nat} {k : ∀ b o, b ∉ own -> g.h.get? b = some o -> h'.get? b = some o} {n : ∀ a ∈ own, g.ω a = none /\ c.s₀.heap.get? a = none} (l : ∀ a ∈ own, ∃ o, h'.get? a = some o) : Le own g (g.mv own tk k n) :=
 ⟨fun O O e => e, fun b o e n => ⟨n, fun q => k b o q e⟩, fun b O O q => l b q, fun b j es q e => ⟨es, e, IO _, fun O => let ⟨o, h1, _⟩ := g.inv.obj b _ q; (k b o (fun m => aJ (n b m).1 q) h1).trans h1.symm⟩⟩
theorem Le.mv {dead : List Addr} {h' : Heap} {tk : Nat} {k : ∀ b o, b ∉ dead -> g'.h.get? b = some o -> h'.get? b = some o} {n : ∀ a ∈ dead, g'.ω a = none /\ c.s₀.heap.get? a = none} (x : Le own g g') (d : ∀ a ∈ dead, g.h.get? a = none) : Le own g (g'.mv dead tk k n) :=
 ⟨x.le, fun b o e n => ⟨(x.keep b o e n).1, fun q => k b o (fun m => aJ (d b m) e) ((x.keep b o e n).2 q)⟩, fun b o e q => let ⟨o', e'⟩ := x.live b o e q; ⟨o', k b o' (fun m => aJ (d b m) e) e'⟩,
  fun b j es q e => let ⟨es', e', l, h⟩ := x.dk b j es q e; ⟨es', e', l, fun z => let ⟨o, h1, _⟩ := g.inv.obj b _ q; (k b o (fun m => aJ (d b m) h1) ((h z).trans h1)).trans h1.symm⟩⟩
noncomputable def G.ks (g : G c H) {h' : Heap} (tk : Nat) (k : ∀ b o, g.h.get? b = some o -> h'.get? b = some o) : G c H := g.mv [] tk (fun b o O e => k b o e) fun O m => iK m
theorem G.ks_le {h' : Heap} {tk : Nat} {k : ∀ b o, g.h.get? b = some o -> h'.get? b = some o} : Le own g (g.ks tk k) := (G.mv_le (fun O m => iK m)).up
noncomputable def reg (ω : Wd) (a : Addr) (v : AV) : Wd := fun b => if b = a then some v else ω b
theorem iM (ω : Wd) (a : Addr) (v : AV) : reg ω a v a = some v := Id rfl
theorem iN (ω : Wd) {a b : Addr} (v : AV) (h : b ≠ a) : reg ω a v b = ω b := IU h
theorem pO {ω : Wd} {a : Addr} {v : AV} (n : ω a = none) : ∀ b u, ω b = some u -> reg ω a v b = some u := fun b u e => (iN ω v fun q => aJ n (q ▸ e)).trans e
theorem lP {ω : Wd} {a b : Addr} {v u : AV} (e : reg ω a v b = some u) : (b = a /\ u = v) ∨ ω b = some u := by
 by_cases q : b = a
 ·subst q; rw [iM] at e; exact .inl ⟨rfl, (Option.some.inj e).symm⟩
 ·rw [iN ω v q] at e; exact .inr e
def G.reg (g : G c H) {a : Addr} {v : AV} {o : Obj} {H' : HP} (n : g.ω a = none) (e : g.h.get? a = some o) (hH : ∀ (k : Nat) xs, H[k]? = some xs -> H'[k]? = some xs) (ob : Ob c.κ g.ω H' a o v) (lo : ∀ k, cell v = some k -> c.s₀.heap.get? a = none /\ H.length <= k) : G c H' where
 h := g.h
 tk := g.tk
 ω := Mine.Internal.reg g.ω a v
 inv := {
  keep := g.inv.keep
  obj := fun b u q => (lP q).elim (fun ⟨q1, q2⟩ => by subst q1 q2; exact ⟨o, e, ob.mono (pO n) fun O O O q => q⟩) fun q => let ⟨o', h1, h2⟩ := g.inv.obj b u q; ⟨o', h1, h2.mono (pO n) fun k xs O => hH k xs⟩
  low := fun b u k q hk => (lP q).elim (fun ⟨q1, q2⟩ => q1 ▸ (lo k (q2 ▸ hk)).1) fun q => g.inv.low b u k q hk
  inj := fun b b' u u' k q q' hk hk' => by
   have ol : ∀ x y, g.ω x = some y -> cell y = some k -> k < H.length := fun x y q hk => let ⟨_, _, h2⟩ := g.inv.obj x y q; h2.lt hk
   rcases lP q with ⟨q1, q2⟩ | q <;> rcases lP q' with ⟨r1, r2⟩ | q'
   ·exact q1.trans r1.symm
   ·exact absurd (ol b' u' q' hk') (Nat.not_lt.mpr (lo k (q2 ▸ hk)).2)
   ·exact absurd (ol b u q hk) (Nat.not_lt.mpr (lo k (r2 ▸ hk')).2)
   ·exact g.inv.inj b b' u u' k q q' hk hk' }
theorem Le.reg {a : Addr} {v : AV} {o : Obj} {n : g'.ω a = none} {e : g'.h.get? a = some o} {hH : ∀ (k : Nat) xs, H'[k]? = some xs -> H''[k]? = some xs} {ob : Ob c.κ g'.ω H'' a o v} {lo : ∀ k, cell v = some k -> c.s₀.heap.get? a = none /\ H'.length <= k} (x : Le own g g') (na : g.h.get? a = none) : Le own g (g'.reg n e hH ob lo) :=
 ⟨fun b u q => pO n b u (x.le b u q), fun b o q m => ⟨(iN g'.ω v fun r => aJ na (r ▸ q)).trans (x.keep b o q m).1, (x.keep b o q m).2⟩, x.live, fun b j es q e => let ⟨es', e', l, h⟩ := x.dk b j es q e; ⟨es', hH j es' e', l, h⟩⟩
noncomputable def G.put (g : G c H) {a : Addr} {v : AV} {k : Nat} {o' : Obj} {ys : List AV} {h' : Heap} (tk : Nat) (e : g.ω a = some v) (hv : cell v = some k) (hs : ∀ b o, b ≠ a -> g.h.get? b = some o -> h'.get? b = some o) (hg : h'.get? a = some o') (ob : Ob c.κ g.ω (bF H k ys) a o' v) : G c (bF H k ys) where
 h := h'
 tk := tk
 ω := g.ω
 inv := {
  keep := fun b o q => hs b o (fun r => aJ (g.inv.low a v k e hv) (r ▸ q)) (g.inv.keep b o q)
  obj := fun b u q => by
   by_cases r : b = a
   ·subst r
    cases e.symm.trans q
    exact ⟨o', hg, ob⟩
   ·obtain ⟨o, h1, h2⟩ := g.inv.obj b u q
    exact ⟨o, hs b o r h1, h2.mono (fun O O q => q) fun j xs hj hx => (Jq fun t : k = j => r (g.inv.inj b a u v j q e hj (t ▸ hv))).trans hx⟩
  low := g.inv.low
  inj := g.inv.inj }
theorem Le.put {a : Addr} {v : AV} {k tk : Nat} {o' : Obj} {ys : List AV} {h' : Heap} {e : g.ω a = some v} {hv : cell v = some k} {hs : ∀ b o, b ≠ a -> g.h.get? b = some o -> h'.get? b = some o} {hg : h'.get? a = some o'} {ob : Ob c.κ g.ω (bF H k ys) a o' v} (hd : ∀ es, dA v = some k -> H[k]? = some es -> es.length < ys.length) : Le [] g (g.put tk e hv hs hg ob) :=
 ⟨fun O O q => q, fun b o q n => ⟨n, fun O => hs b o (fun r => aJ n (r ▸ e)) q⟩, fun O O O m => iK m, fun b j es q ej => by
  by_cases r : b = a
  ·subst r
   cases e.symm.trans q
   cases hv
   have hl := hd es rfl ej
   exact ⟨ys, JD (IX.mp ej).1, Nat.le_of_lt hl, fun z => absurd z (Nat.ne_of_gt hl)⟩
  ·obtain ⟨o, h1, _⟩ := g.inv.obj b _ q
   exact ⟨es, (Jq fun t : k = j => r (g.inv.inj b a _ v j q e rfl (t ▸ hv))).trans ej, IO _, fun O => (hs b o r h1).trans h1.symm⟩⟩
end
end Mine.Internal
namespace Mine.Internal
open PySem PyProof.Rows PySem.Calls
noncomputable def bN (env : Env) : List Addr := env.locals :: env.cells.map (·.2)
structure Fr (A : Around) (sc : Scope) where
 env : Env
 hnd : A.handled = none
 un : A.units + 100 < cLine
 kind : env.scope.kind = .function
 loc : ∀ x, sc.names.lookup x = some .local -> env.kindOf x = some .local
 cel : ∀ x, fP sc x = true -> env.kindOf x = some .cell ∨ env.kindOf x = some .free
 sto : ∀ x, sc.names.lookup x = some .cell -> env.kindOf x = some .cell
 glb : ∀ x, sc.names.lookup x = some .globalImplicit -> env.kindOf x = some .globalImplicit
 gl : env.globals = mainGlobals
 bl : env.builtins = builtinsNs
 apart : ∀ x y c, env.cells.lookup x = some c -> env.cells.lookup y = some c -> x = y
inductive VarAt (h : Heap) (env : Env) (x : Str) (ov : Option Value) : Prop
 | loc : env.kindOf x = some .local -> (∀ m, h.Ns env.locals m -> m x = ov) -> VarAt h env x ov
 | cel (c : Addr) : env.kindOf x = some .cell ∨ env.kindOf x = some .free -> env.cells.lookup x = some c -> h.IsCell c ov -> VarAt h env x ov
structure En {c : Cx} {H : HP} {A : Around} {sc : Scope} (f : Fr A sc) (ρ : an) (g : G c H) : Prop where
 ns : ∃ m, g.h.Ns f.env.locals m
 var : ∀ x, dz sc x = true -> ∃ ov, VarAt g.h f.env x ov /\ ∀ v, ρ x = some v -> ∃ cv, ov = some cv /\ Cv g.ω v cv
 there : ∀ n a, (n, a) ∈ f.env.cells -> ∃ ov, g.h.IsCell a ov
 own : ∀ a ∈ bN f.env, g.ω a = none /\ c.s₀.heap.get? a = none
theorem iO {h : Heap} {a : Addr} {m m' : Str -> Option Value} (x : h.Ns a m) (y : h.Ns a m') (n : Str) : m n = m' n := by
 obtain ⟨o, es, ep, ho, hd, _, hm⟩ := x
 obtain ⟨o', es', ep', ho', hd', _, hm'⟩ := y
 cases ho.symm.trans ho'
 cases hd.symm.trans hd'
 exact (hm n).symm.trans (hm' n)
theorem lQ {h : Heap} {a : Addr} {m : Str -> Option Value} (x : h.Ns a m) : ∃ o, h.get? a = some o := let ⟨o, _, _, ho, _⟩ := x; ⟨o, ho⟩
theorem uI {h : Heap} {a : Addr} {ov : Option Value} (x : h.IsCell a ov) : ∃ o, h.get? a = some o := let ⟨o, ho, _⟩ := x; ⟨o, ho⟩
theorem lR {h : Heap} {a b : Addr} {m : Str -> Option Value} {ov : Option Value} (x : h.Ns a m) (y : h.IsCell b ov) : a ≠ b := fun q => by
 obtain ⟨o, es, ep, ho, hd, _⟩ := x
 obtain ⟨o', ho', hd'⟩ := y
 rw [q] at ho
 cases ho.symm.trans ho'
 cases hd.symm.trans hd'
theorem uJ {h h' : Heap} {a : Addr} {ov : Option Value} (x : h.IsCell a ov) (k : ∀ o, h.get? a = some o -> h'.get? a = some o) : h'.IsCell a ov := let ⟨o, ho, r⟩ := x; ⟨o, k o ho, r⟩
theorem uK {sc : Scope} {x : Str} (h : dz sc x = true) : cG x = false := by
 unfold dz at h
 cases q : cG x with
 | false => rfl
 | true => rw [q] at h; split at h <;> cases h
set_option tactic.hygienic true in
theorem B4 {sc : Scope} {x : Str} (h : bW sc x = true) : dz sc x = true := by
 unfold bW at h; unfold dz
 split at h
 ·rename_i e; rw [e]; exact h
 ·rename_i e; rw [e]; exact h
 ·cases h
theorem iP {env : Env} {n : Str} {a : Addr} (m : (n, a) ∈ env.cells) : a ∈ bN env := JB _ (Jm.mpr ⟨_, m, rfl⟩)
theorem lS {env : Env} {a : Addr} (m : a ∈ bN env) : a = env.locals ∨ ∃ n, (n, a) ∈ env.cells := by
 refine (Jx.mp m).imp_right fun m => ?_
 obtain ⟨⟨n, b⟩, hm, e⟩ := Jm.mp m
 exact ⟨n, e ▸ hm⟩
section
variable {c : Cx} {H H' : HP} {A : Around} {sc : Scope} {f : Fr A sc} {ρ : an} {g : G c H} {g' : G c H'}
theorem VarAt.to {h h' : Heap} {x : Str} {ov : Option Value} (v : VarAt h f.env x ov) (n : ∃ m, h.Ns f.env.locals m) (k : ∀ a ∈ bN f.env, ∀ o, h.get? a = some o -> h'.get? a = some o) : VarAt h' f.env x ov := by
 cases v with
 | loc hk hm =>
  obtain ⟨m, n⟩ := n
  exact .loc hk fun m' n' => (iO n' (n.at' (k _ Jj)) x).trans (hm m n)
 | cel a hk hl hi => exact .cel a hk hl (uJ hi (k a (iP (mem_of_lookup hl))))
theorem En.live (ok : En f ρ g) : ∀ a ∈ bN f.env, ∃ o, g.h.get? a = some o := fun a m => by
 rcases lS m with rfl | ⟨n, m⟩
 ·obtain ⟨m, n⟩ := ok.ns; exact lQ n
 ·obtain ⟨ov, i⟩ := ok.there n a m; exact uI i
theorem En.to (ok : En f ρ g) (le : ∀ a v, g.ω a = some v -> g'.ω a = some v) (k : ∀ a ∈ bN f.env, ∀ o, g.h.get? a = some o -> g'.ω a = none /\ g'.h.get? a = some o) : En f ρ g' where
 ns := let ⟨m, n⟩ := ok.ns; ⟨m, n.at' fun o e => (k _ Jj o e).2⟩
 var := fun x hx => let ⟨ov, v, r⟩ := ok.var x hx; ⟨ov, v.to ok.ns fun a m o e => (k a m o e).2, fun u hu => let ⟨cv, e, q⟩ := r u hu; ⟨cv, e, q.mono le⟩⟩
 there := fun n a m => let ⟨ov, i⟩ := ok.there n a m; ⟨ov, uJ i fun o e => (k a (iP m) o e).2⟩
 own := fun a m => let ⟨o, e⟩ := ok.live a m; ⟨(k a m o e).1, (ok.own a m).2⟩
theorem En.leO {own : List Addr} (ok : En f ρ g) (L : Le own g g') (dj : ∀ a ∈ bN f.env, a ∉ own) : En f ρ g' :=
 ok.to L.le fun a m o e => ⟨(L.keep a o e (ok.own a m).1).1, (L.keep a o e (ok.own a m).1).2 (dj a m)⟩
theorem En.le (ok : En f ρ g) (L : Le [] g g') : En f ρ g' := ok.leO L fun O O m => iK m
theorem En.fewer {ρ' : an} (ok : En f ρ g) (s : ∀ x v, ρ' x = some v -> ρ x = some v) : En f ρ' g :=
 ⟨ok.ns, fun x hx => let ⟨ov, v, r⟩ := ok.var x hx; ⟨ov, v, fun u hu => r u (s x u hu)⟩, ok.there, ok.own⟩
theorem B5 {x : Str} {v : AV} {Q E : Value -> Shared -> Prop} (ok : En f ρ g) (hx : dz sc x = true) (hv : ρ x = some v) (hQ : ∀ cv, Cv g.ω v cv -> Q cv g.s) :
  wpAny (model c.prog c.w) A (loadName f.env x) Q E g.s := by
 have hod := uK hx
 obtain ⟨ov, va, r⟩ := ok.var x hx
 obtain ⟨cv, rfl, q⟩ := r v hv
 cases va with
 | loc hk hm => obtain ⟨m, n⟩ := ok.ns; exact wpAny_loadName_local f.kind hk n (hm m n) (hQ cv q)
 | cel a hk hl hi =>
  rcases hk with hk | hk
  ·exact wpAny_loadName_cell f.kind hk hl hi (hQ cv q)
  ·exact wpAny_loadName_free f.kind hk hl hi (hQ cv q) (Bool.or_eq_false_iff.mp (Bool.or_eq_false_iff.mp hod).2).1
theorem En.stored {x : Str} {v : AV} {cv : Value} {a : Addr} {h' : Heap} {tk : Nat} {Q : Prop} (ok : En f ρ g) (q : Cv g.ω v cv) (ma : a ∈ bN f.env) (hs : Heap.SameBut a g.h h') (ha : ∃ o, h'.get? a = some o)
  (ns : ∃ m, h'.Ns f.env.locals m) (there : ∀ n, (n, a) ∈ f.env.cells -> ∃ ov, h'.IsCell a ov) (here : VarAt h' f.env x (some cv)) (other : ∀ y ov, y ≠ x -> VarAt g.h f.env y ov -> VarAt h' f.env y ov)
  (k : ∀ g' : G c H, g'.s = { g.s with heap := h', toks := tk } -> Le [a] g g' -> En f (upd ρ x v) g' -> Q) : Q := by
 have hk : ∀ b o, b ∉ [a] -> g.h.get? b = some o -> h'.get? b = some o := fun b o n e => (hs.2 b fun r => n (I0.mpr r)).trans e
 refine k (g.mv [a] tk hk fun b m => I0.mp m ▸ ok.own a ma) rfl (G.mv_le fun b m => I0.mp m ▸ ha) ⟨ns, fun y hy => ?_, fun n b m => ?_, ok.own⟩
 ·by_cases r : y = x
  ·subst r
   refine ⟨_, here, fun u hu => ?_⟩
   rw [fN] at hu
   rw [Id rfl] at hu
   cases hu
   exact ⟨cv, rfl, q⟩
  ·obtain ⟨ov, va, s⟩ := ok.var y hy
   refine ⟨ov, other y ov r va, fun u hu => s u ?_⟩
   rw [fN] at hu
   rw [IU r] at hu
   exact hu
 ·by_cases r : b = a
  ·subst r; exact there n m
  ·obtain ⟨ov, i⟩ := ok.there n b m
   exact ⟨ov, i.sameBut hs r⟩
set_option tactic.hygienic true in
theorem pP {x : Str} {v : AV} {cv : Value} {Q : Unit -> Shared -> Prop} {E : Value -> Shared -> Prop} (ok : En f ρ g) (hx : bW sc x = true) (q : Cv g.ω v cv)
  (hQ : ∀ a (g' : G c H), a ∈ bN f.env -> (sc.names.lookup x = some .local -> a = f.env.locals) -> Le [a] g g' -> En f (upd ρ x v) g' -> Q () g'.s) :
  wpAny (model c.prog c.w) A (storeName f.env x cv) Q E g.s := by
 obtain ⟨ov, va, r⟩ := ok.var x (B4 hx)
 obtain ⟨m, n⟩ := ok.ns
 cases va with
 | loc hk hm =>
  refine wpAny_storeName_local hk n (fun h' n' hs => ?_) (by rw [f.kind]; rfl)
  refine ok.stored (x := x) (tk := g.tk + 1) q Jj hs (lQ n') ⟨_, n'⟩ (fun y my => ?_) (.loc hk fun m' k' => (iO k' n' x).trans (Id rfl)) (fun y ov ne va => ?_) fun g' e L en => e ▸ hQ _ g' Jj (fun O => rfl) L en
  ·obtain ⟨ov, i⟩ := ok.there y _ my; exact absurd rfl (lR n i)
  ·cases va with
   | loc hy hm => exact .loc hy fun m' k' => (iO k' n' y).trans ((IU ne).trans (hm m n))
   | cel b hy hl hi => exact .cel b hy hl (hi.sameBut hs (lR n hi).symm)
 | cel a hk hl hi =>
  have hc : f.env.kindOf x = some .cell /\ sc.names.lookup x ≠ some .local := by
   have hx := hx
   unfold bW at hx
   split at hx
   ·rename_i e; rw [f.loc x e] at hk; rcases hk with hk | hk <;> cases hk
   ·rename_i e; exact ⟨f.sto x e, fun r => by rw [e] at r; cases r⟩
   ·cases hx
  refine wpAny_storeName_cell f.kind hc.1 hl hi fun h' hi' hs => ?_
  have ma := mem_of_lookup hl
  refine ok.stored (x := x) (tk := g.tk) q (iP ma) hs (uI hi') ⟨m, n.sameBut hs (lR n hi)⟩ (fun O O => ⟨_, hi'⟩) (.cel a hk hl hi') (fun y ov ne va => ?_) fun g' e L en => e ▸ hQ _ g' (iP ma) (fun r => absurd r hc.2) L en
  cases va with
  | loc hy hm => exact .loc hy fun m' k' => (iO k' (n.sameBut hs (lR n hi)) y).trans (hm m n)
  | cel b hy hl' hi2 => exact .cel b hy hl' (hi2.sameBut hs fun r => ne (f.apart _ _ _ hl' (r ▸ hl)))
end
end Mine.Internal
namespace Mine.Internal
open PySem PyProof.Rows
section
variable {c : Cx} {H H' : HP} {A : Around}
noncomputable def K (g : G c H) (H' : HP) (v : AV) (Q : Value -> Shared -> Prop) : Prop := ∀ cv (g' : G c H'), Le [] g g' -> Cv g'.ω v cv -> Q cv g'.s
noncomputable def Op (A : Around) (t : Sem Value) (g : G c H) (H' : HP) (v : AV) : Prop := ∀ Q E, K g H' v Q -> wpAny (model c.prog c.w) A t Q E g.s
noncomputable def Vm (m : Bool) (H : HP) (v : AV) : AV := match v with
 | .list xs => cond m (.ref H.length) (.list xs)
 | v => v
noncomputable def Hm (m : Bool) (H : HP) (v : AV) : HP := match v with
 | .list xs => cond m (H ++ [xs]) H
 | _ => H
noncomputable abbrev bw (m : Bool) (A : Around) (t : Sem Value) (g : G c H) (H' : HP) (v : AV) : Prop := Op A t g (Hm m H' v) (Vm m H' v)
theorem cP : aM <= sizeLine := by unfold aM; rw [sizeLine_eq]; exact bt 0x101000000471000003710
theorem dv (h : Heap) : h.get? h.objs.size = none := by
 cases e : h.get? h.objs.size with
 | none => rfl
 | some o => exact absurd (Heap.lt_size e) (Nat.lt_irrefl _)
theorem K.here {g : G c H} {v : AV} {cv : Value} {Q : Value -> Shared -> Prop} (k : K g H v Q) (tk : Nat) (q : Cv g.ω v cv) : Q cv { g.s with toks := tk } := k cv (g.ks tk fun O O e => e) G.ks_le q
theorem G.regM (m : Bool) (g : G c H) {v : AV} {a : Addr} {o : Obj} {P : Prop} (n : g.ω a = none) (lo : c.s₀.heap.get? a = none) (e : g.h.get? a = some o) (ob : Ob c.κ g.ω H a o v) (hc : cell v = none) (hv : isH v = true)
  (k : ∀ g' : G c (Hm m H v), g'.s = g.s -> (∀ b, b ≠ a -> g'.ω b = g.ω b) -> (∀ {H₁ : HP} {g₁ : G c H₁} {own : List Addr}, Le own g₁ g -> g₁.h.get? a = none -> Le own g₁ g') -> Cv g'.ω (Vm m H v) (.ref a) -> P) : P := by
 have fz : (∀ g' : G c H, g'.s = g.s -> (∀ b, b ≠ a -> g'.ω b = g.ω b) -> (∀ {H₁ : HP} {g₁ : G c H₁} {own : List Addr}, Le own g₁ g -> g₁.h.get? a = none -> Le own g₁ g') -> Cv g'.ω v (.ref a) -> P) -> P := fun k =>
  k (g.reg n e (fun O O q => q) ob fun O q => aJ hc q) rfl (fun b h => iN _ _ h) (fun L n => Le.reg L n) (.at (iM _ _ _) hv)
 cases v with
 | list xs =>
  cases m with
  | false => exact fz k
  | true =>
   exact k (g.reg (v := .ref H.length) n e (fun j ys q => by show (H ++ [xs])[j]? = _; rw [List.getElem?_append_left (IX.mp q).1]; exact q) ⟨xs, List.getElem?_concat_length, ob⟩ fun j q => by cases q; exact ⟨lo, IO _⟩) rfl (fun b h => iN _ _ h) (fun L n => Le.reg L n) (.at (iM _ _ _) rfl)
 | _ => exact fz k
theorem K.reg {m : Bool} {H₁ : HP} {g₁ : G c H₁} {g : G c H} {v : AV} {Q : Value -> Shared -> Prop} {a : Addr} {o : Obj} (k : K g₁ (Hm m H v) (Vm m H v) Q) (L : Le [] g₁ g) (n : g₁.h.get? a = none) (n' : g.ω a = none) (e : g.h.get? a = some o) (ob : Ob c.κ g.ω H a o v) (hc : cell v = none) (hv : isH v = true) : Q (.ref a) g.s :=
 g.regM m n' (g₁.low n) e ob hc hv fun g' es O L' C => es ▸ k (.ref a) g' (L' L n) C
theorem K.new {m : Bool} {g : G c H} {v : AV} {Q : Value -> Shared -> Prop} {a : Addr} {o : Obj} {h' : Heap} (k : K g (Hm m H v) (Vm m H v) Q) (tk : Nat) (hk : ∀ b o, g.h.get? b = some o -> h'.get? b = some o) (n : g.h.get? a = none) (e : h'.get? a = some o) (ob : Ob c.κ g.ω H a o v) (hc : cell v = none) (hv : isH v = true) :
  Q (.ref a) { g.s with heap := h', toks := tk } := K.reg (g := g.ks tk hk) k G.ks_le n (g.out n) e ob hc hv
theorem K.newSeq {m : Bool} {g : G c H} {xs : List AV} {vs : List Value} {n : Nat} {Q : Value -> Shared -> Prop} {tk : Nat} (k : K g (Hm m H (.list xs)) (Vm m H (.list xs)) Q) (hl : xs.length <= aM) (r : CvL g.ω xs vs) : Q (.ref g.h.objs.size) { g.s with heap := g.h.push (bB "list" vs n), toks := tk } :=
 k.new tk (fun O O e => Js _ e) (dv _) (JE _ rfl) ⟨vs, n, hl, r⟩ rfl rfl
theorem K.newTup {g : G c H} {xs : List AV} {vs : List Value} {n : Nat} {Q : Value -> Shared -> Prop} {tk : Nat} (k : K g H (.tup xs) Q) (hl : xs.length <= aM) (r : CvL g.ω xs vs) : Q (.ref g.h.objs.size) { g.s with heap := g.h.push (bB "tuple" vs n), toks := tk } :=
 K.new (m := false) (v := .tup xs) k tk (fun O O e => Js _ e) (dv _) (JE _ rfl) ⟨vs, n, hl, r⟩ rfl rfl
section
variable {v : AV} {cv : Value} {xs : List AV}
theorem G.sq (g : G c H) {T : String} {a : Addr} {P : Prop} (x : ∃ o, g.h.get? a = some o /\ Sq T g.ω xs o) (k : ∀ vs n, g.h.get? a = some (bB T vs n) -> xs.length <= aM -> CvL g.ω xs vs -> P) : P := by
 obtain ⟨o, e, q⟩ := x
 cases q with | mk vs n hl r => exact k vs n e hl r
theorem G.cel (g : G c H) {k : Nat} {a : Addr} (e : g.ω a = some (.ref k)) (hx : H[k]? = some xs) : ∃ o, g.h.get? a = some o /\ Sq "list" g.ω xs o :=
 let ⟨o, e, ys, hy, q⟩ := g.inv.obj a _ e; ⟨o, e, Option.some.inj (hx.symm.trans hy) ▸ q⟩
theorem G.dcl (g : G c H) {k : Nat} {a : Addr} (e : g.ω a = some (.dct k)) (hx : H[k]? = some xs) : ∃ o, g.h.get? a = some o /\ Dc a o xs :=
 let ⟨o, e, ys, hy, q⟩ := g.inv.obj a _ e; ⟨o, e, Option.some.inj (hx.symm.trans hy) ▸ q⟩
theorem lT {P : Prop} (e : bf H v = some xs) (k1 : v = .list xs -> P) (k2 : ∀ k, v = .ref k -> H[k]? = some xs -> P) : P := by
 unfold bf at e
 cases h : eZ v with
 | some ys => rw [h] at e; exact k1 (someV e (asLst_el h rfl))
 | none => rw [h] at e; exact bd e fun k h1 h2 => k2 k (asRef_el h1 rfl) h2
@[elab_as_elim] theorem G.seq {P : Value -> Prop} (g : G c H) (C : Cv g.ω v cv) (e : bf H v = some xs) (k : ∀ a vs n, g.h.get? a = some (bB "list" vs n) -> xs.length <= aM -> CvL g.ω xs vs -> P (.ref a)) : P cv :=
 lT e (fun q => Cv.at_el (q ▸ rfl) C fun a ha => g.sq (g.inv.obj a _ (ha.trans (congrArg some q))) (k a)) fun j q hj => Cv.at_el (q ▸ rfl) C fun a ha => g.sq (g.cel (ha.trans (congrArg some q)) hj) (k a)
@[elab_as_elim] theorem G.items {P : Value -> Prop} (g : G c H) (C : Cv g.ω v cv) (e : bY H v = some xs) (k : ∀ T a vs n, (T = "list" ∨ T = "tuple") -> g.h.get? a = some (bB T vs n) -> xs.length <= aM -> CvL g.ω xs vs -> P (.ref a)) : P cv := by
 unfold bY at e
 cases h : dq v with
 | some ys =>
  rw [h] at e
  have q : v = .tup xs := someV e (asTup_el h rfl)
  exact Cv.at_el (q ▸ rfl) C fun a ha => g.sq (g.inv.obj a _ (ha.trans (congrArg some q))) fun vs n => k _ a vs n (.inr rfl)
 | none => rw [h] at e; exact g.seq C e fun a vs n => k _ a vs n (.inl rfl)
end
theorem pQ {g : Nat -> Option AV} {x : AV} {xs ys : List AV} (e : bk g (x :: xs) = some ys) : ∃ y zs, dp g x = some y /\ bk g xs = some zs /\ ys = y :: zs := by
 simp only [bk] at e
 cases h1 : dp g x with
 | none => rw [h1] at e; cases e
 | some y =>
  rw [h1] at e
  obtain ⟨zs, h2, rfl⟩ := JJ.mp e
  exact ⟨y, zs, rfl, h2, rfl⟩
theorem uL {g g' : Nat -> Option AV} (hg : ∀ k u, g k = some u -> g' k = some u) {xs : List AV} : ∀ {ys : List AV}, bk g xs = some ys -> bk g' xs = some ys :=
 AV.rec_1 (motive_1 := fun v => ∀ u, dp g v = some u -> dp g' v = some u) (motive_2 := fun xs => ∀ {ys}, bk g xs = some ys -> bk g' xs = some ys)
  (fun O e => e) (fun O O e => e) (fun O O e => e) (fun O O e => e)
  (fun xs ih u e => let ⟨ys, h1, h2⟩ := JJ.mp e; JJ.mpr ⟨ys, ih h1, h2⟩)
  (fun xs ih u e => let ⟨ys, h1, h2⟩ := JJ.mp e; JJ.mpr ⟨ys, ih h1, h2⟩)
  (fun O O O e => e) (fun k u e => hg k u e) (fun O O e => nomatch e) (fun O O e => nomatch e) (fun O O e => nomatch e) (fun O O e => nomatch e)
  (fun e => e) (fun x xs ia ir {ys} e => by
   obtain ⟨y, zs, h1, h2, rfl⟩ := pQ e
   simp only [bk, ia _ h1, ir h2]; rfl) xs
theorem uM (H : HP) : ∀ (n k : Nat) u, bu H n k = some u -> bu H (n + 1) k = some u
 | 0, _, _, e => nomatch e
 | n + 1, k, u, e => by
  unfold bu at e ⊢
  cases hk : H[k]? with
  | none => rw [hk] at e; cases e
  | some xs =>
   rw [hk] at e
   obtain ⟨ys, h1, h2⟩ := JJ.mp e
   exact JJ.mpr ⟨ys, uL (uM H n) h1, h2⟩
theorem uN {g : Nat -> Option AV} : ∀ {xs ys : List AV}, bk g xs = some ys -> ys.length = xs.length
 | [], ys, e => by cases e; rfl
 | x :: xs, ys, e => by
  obtain ⟨y, zs, _, h2, rfl⟩ := pQ e
  exact congrArg Nat.succ (uN h2)
theorem uO {H : HP} {n k : Nat} {u : AV} (e : bu H n k = some u) : ∃ m xs ys, n = m + 1 /\ H[k]? = some xs /\ bk (bu H m) xs = some ys /\ u = .list ys := by
 cases n with
 | zero => cases e
 | succ n =>
  unfold bu at e
  cases hk : H[k]? with
  | none => rw [hk] at e; cases e
  | some xs =>
   rw [hk] at e
   obtain ⟨ys, h1, h2⟩ := JJ.mp e
   exact ⟨n, xs, ys, rfl, rfl, h1, h2.symm⟩
theorem B6 {κ : Addr} {ω ω' : Wd} {H : HP} {a : Addr} {o : Obj} {v u : AV} (le : ∀ {xs ys vs}, bk (bu H 4) xs = some ys -> CvL ω xs vs -> CvL ω' ys vs) (x : Ob κ ω H a o v) (e : fz H v = some u) : Ob κ ω' [] a o u := by
 have sq : ∀ {T xs ys}, bk (bu H 4) xs = some ys -> Sq T ω xs o -> Sq T ω' ys o := fun h1 q => by
  cases q with | mk vs n hl r => exact ⟨vs, n, by rw [uN h1]; exact hl, le h1 r⟩
 cases v with
 | list xs => obtain ⟨ys, h1, rfl⟩ := JJ.mp e; exact sq h1 x
 | tup xs => obtain ⟨ys, h1, rfl⟩ := JJ.mp e; exact sq h1 x
 | range lo hi => cases e; exact x
 | ref k =>
  obtain ⟨m, xs, ys, hm, hk, h1, rfl⟩ := uO e
  cases hm
  obtain ⟨zs, hz, q⟩ := x
  cases hk.symm.trans hz
  exact sq (uL (uM H 3) h1) q
 | dct k => exact aJ rfl e
 | itm k => exact aJ rfl e
 | obj k => exact aJ rfl e
 | ins k => exact aJ rfl e
 | _ => exact x.elim
theorem uP {H : HP} {v u : AV} (hv : isH v = true) (e : fz H v = some u) : cell u = none /\ isH u = true := by
 cases v with
 | list xs => obtain ⟨ys, h1, rfl⟩ := JJ.mp e; exact ⟨rfl, rfl⟩
 | tup xs => obtain ⟨ys, h1, rfl⟩ := JJ.mp e; exact ⟨rfl, rfl⟩
 | range lo hi => cases e; exact ⟨rfl, rfl⟩
 | ref k => obtain ⟨m, xs, ys, hm, hk, h1, rfl⟩ := uO e; exact ⟨rfl, rfl⟩
 | _ => first | exact Bool.noConfusion hv | cases e
theorem Ob.isH {κ : Addr} {ω : Wd} {H : HP} {a : Addr} {o : Obj} {v : AV} (x : Ob κ ω H a o v) : isH v = true := by
 cases v <;> first | rfl | exact x.elim
def jI (ω : Wd) (H : HP) : Wd := fun a => (ω a).bind (fz H)
theorem Cv.fz {ω : Wd} {v u : AV} {cv : Value} (C : Cv ω v cv) (e : fz H v = some u) : Cv (jI ω H) u cv := by
 cases C with
 | none => cases e; exact .none
 | bool b => cases e; exact .bool b
 | int i t => cases e; exact .int i t
 | str s t => cases e; exact .str s t
 | «at» ea hv => exact .at (by unfold jI; rw [ea]; exact e) (uP hv e).2
theorem CvL.fz {ω : Wd} {xs : List AV} {vs : List Value} (C : CvL ω xs vs) : ∀ {ys : List AV}, bk (bu H 4) xs = some ys -> CvL (jI ω H) ys vs := by
 induction C with
 | nil => intro ys e; cases e; exact .nil
 | cons q _ ih =>
  intro ys e
  obtain ⟨y, zs, h1, h2, rfl⟩ := pQ e
  exact .cons (q.fz h1) (ih h2)
def G.frz (g : G c H) : G c [] where
 h := g.h
 tk := g.tk
 ω := jI g.ω H
 inv := by
  have nc : ∀ a v k, jI g.ω H a = some v -> cell v ≠ some k := fun a v k q e => by
   obtain ⟨u, h1, h2⟩ := Option.bind_eq_some_iff.mp q
   obtain ⟨o, _, ob⟩ := g.inv.obj a u h1
   exact aJ (uP ob.isH h2).1 e
  exact ⟨g.inv.keep, fun a v q => by
   obtain ⟨u, h1, h2⟩ := Option.bind_eq_some_iff.mp q
   obtain ⟨o, e, ob⟩ := g.inv.obj a u h1
   exact ⟨o, e, B6 (fun h r => r.fz h) ob h2⟩, fun a v k q e => absurd e (nc a v k q), fun a b v u k q O e O => absurd e (nc a v k q)⟩
noncomputable def lU (h : Heap) (n : Nat) (v : AV) (c : Value) : Prop := (∃ as, Reads h c (cM v) as) /\ (cM v).canLay0 = true /\ (cM v).depth <= n
noncomputable def B7 (h : Heap) (n : Nat) (vs : List AV) (cs : List Value) : Prop := (∃ as, ReadsAll h cs (c4 vs) as) /\ PyData.canLayAll0 (c4 vs) = true /\ PyData.depthAll (c4 vs) <= n
theorem uQ {h : Heap} {ω : Wd} {n : Nat} {v : AV} {cv : Value} (C : Cv ω v cv) (ok : lD v = true) : lU h n v cv := by
 cases C with
 | none => exact ⟨⟨_, .none⟩, rfl, Nat.zero_le _⟩
 | bool b => exact ⟨⟨_, .bool b⟩, rfl, Nat.zero_le _⟩
 | int i t => exact ⟨⟨_, .int i t⟩, rfl, Nat.zero_le _⟩
 | str s t => exact ⟨⟨_, .str s t⟩, ok, Nat.zero_le _⟩
 | «at» _ hv => cases v <;> first | exact Bool.noConfusion ok | exact Bool.noConfusion hv
theorem pR {h : Heap} {ω : Wd} {n : Nat} (one : ∀ {v : AV} {cv : Value}, Cv ω v cv -> bR n v = true -> lU h n v cv) {vs : List AV} {cs : List Value} (q : CvL ω vs cs) : vs.all (bR n) = true -> B7 h n vs cs := by
 induction q with
 | nil => exact fun O => ⟨⟨_, .nil⟩, rfl, Nat.zero_le _⟩
 | cons a _ ih =>
  intro ok
  have ok := I4.mp ok
  obtain ⟨⟨as, h1⟩, h2, h3⟩ := one a ok.1
  obtain ⟨⟨bs, k1⟩, k2, k3⟩ := ih ok.2
  exact ⟨⟨_, .cons h1 k1⟩, I4.mpr ⟨h2, k2⟩, Nat.max_le.mpr ⟨h3, k3⟩⟩
theorem jJ (g : G c H) : ∀ (n : Nat) {v : AV} {cv : Value}, Cv g.ω v cv -> bR n v = true -> lU g.h n v cv
 | 0, _, _, C, ok => uQ C ok
 | n + 1, v, cv, C, ok => by
  have lf : lD v = true -> lU g.h (n + 1) v cv := fun ok => uQ C ok
  cases v with
  | tup xs => exact C.at_el rfl fun a ha => g.sq (g.inv.obj a _ ha) fun vs m hg O r => let ⟨⟨_, k1⟩, k2, k3⟩ := pR (jJ g n) r ok; ⟨⟨_, reads_tuple_at hg rfl rfl k1⟩, k2, Nat.succ_le_succ k3⟩
  | list xs => exact C.at_el rfl fun a ha => g.sq (g.inv.obj a _ ha) fun vs m hg O r => let ⟨⟨_, k1⟩, k2, k3⟩ := pR (jJ g n) r ok; ⟨⟨_, reads_list_at hg rfl rfl k1⟩, k2, Nat.succ_le_succ k3⟩
  | _ => exact lf ok
end
end Mine.Internal
namespace Mine.Internal
open PySem PyProof.Rows
theorem iQ {i : Int} (h : bA i = true) : -(2 ^ 62) < i /\ i < 2 ^ 62 := by
 have := Jr h
 unfold lE at this
 lia
theorem B8 (vs : List Value) (n : Nat) : List.foldl (fun x1 x2 => x1 ++ x2) (#[] : Array Value) (List.replicate (if vs.toArray.isEmpty = true then 0 else n) vs.toArray) = ((List.replicate n vs).flatten).toArray := by
 have app : ∀ (l : List (Array Value)) (acc : Array Value), (List.foldl (fun x1 x2 => x1 ++ x2) acc l).toList = acc.toList ++ (l.map (·.toList)).flatten := by
  intro l
  induction l with
  | nil => intro acc; simp
  | cons x l ih => intro acc; rw [List.foldl_cons, ih]; simp [List.append_assoc]
 apply Array.toList_inj.mp
 rw [app]
 by_cases hv : vs = []
 ·subst hv; simp
 ·simp [hv]
theorem CvL.rep {ω : Wd} {xs : List AV} {vs : List Value} (r : CvL ω xs vs) : ∀ n : Nat, CvL ω (e7 xs n) (List.replicate n vs).flatten
 | 0 => .nil
 | n + 1 => by rw [List.replicate_succ, List.flatten_cons]; exact r.append (CvL.rep r n)
theorem uR (xs : List AV) : ∀ n : Nat, (e7 xs n).length = xs.length * n
 | 0 => rfl
 | n + 1 => by rw [Nat.mul_succ, Nat.add_comm (xs.length * n), <- uR xs n]; exact I2
section
variable {c : Cx} {H : HP} {A : Around} {g : G c H} {m : Bool} {a b v : AV} {ca cb : Value}
@[elab_as_elim] theorem Cv.asInt {ω : Wd} {x : Int} {P : Value -> Prop} (C : Cv ω a ca) (e : asInt a = some x) (k : ∀ t, P (.int x t)) : P ca :=
 Cv.int_el (asInt_el (P := fun a => Cv ω a ca -> Cv ω (.int x) ca) e id C) k
@[elab_as_elim] theorem ints2_el {α : Type} {f : Int -> Int -> Option α} {r : α} {P : Value -> Value -> Prop} (e : e8 a b f = some r) (Ca : Cv g.ω a ca) (Cb : Cv g.ω b cb) (k : ∀ x y t u, f x y = some r -> P (.int x t) (.int y u)) : P ca cb :=
 bd e fun x h1 e => bd e fun y h2 e => Ca.asInt h1 fun t => Cb.asInt h2 fun u => k x y t u e
theorem uS (a b : List Value) : a.toArray ++ b.toArray = (a ++ b).toArray := List.append_toArray _ _
theorem B9 {x y : List AV} (e : ua x y = some v) (Ca : Cv g.ω (.tup x) ca) (Cb : Cv g.ω (.tup y) cb) : bw m A (binaryOp .Add ca cb) g H v := by
 refine ifV e fun hl => ?_
 refine Ca.at_el rfl fun p hp => ?_
 refine Cb.at_el rfl fun q hq => ?_
 refine g.sq (g.inv.obj p _ hp) fun vs n g1 l1 r1 => ?_
 refine g.sq (g.inv.obj q _ hq) fun ws l g2 l2 r2 Q E k => ?_
 have hsz := cP
 by_cases hv : vs = []
 ·subst hv
  refine concat_meets ⟨_, g1, rfl⟩ ⟨_, g2, rfl⟩ noFill_tuple_add seq_tuple_add PySem.F.slot_tuple_add PySem.F.entry_tuple_add (PySem.F.args_tuple_add_2 _ _)
   (tuple_addW0 p q #[] ws.toArray n l none none #[] #[] rfl) ⟨g1, g2, ?_⟩
  cases r1
  exact K.here k g.tk (.at hq rfl)
 ·by_cases hw : ws = []
  ·subst hw
   refine concat_meets ⟨_, g1, rfl⟩ ⟨_, g2, rfl⟩ noFill_tuple_add seq_tuple_add PySem.F.slot_tuple_add PySem.F.entry_tuple_add (PySem.F.args_tuple_add_2 _ _)
    (tuple_addW1 p q vs.toArray #[] n l none none #[] #[] (by simpa using hv) rfl) ⟨g1, g2, ?_⟩
   cases r2
   rw [JA] at k
   exact K.here k g.tk (.at hp rfl)
  ·refine concat_meets ⟨_, g1, rfl⟩ ⟨_, g2, rfl⟩ noFill_tuple_add seq_tuple_add PySem.F.slot_tuple_add PySem.F.entry_tuple_add (PySem.F.args_tuple_add_2 _ _)
    (tuple_addW2 p q vs.toArray ws.toArray n l none none #[] #[] (by simpa using hv) (by simpa using hw) (by rw [List.size_toArray, List.size_toArray, r1.length, r2.length]; exact aN 0x111bc1ca931ba9312 hl hsz)) ⟨g1, g2, ?_⟩
   rw [uS]
   exact K.newTup k (n := 0) (by rw [I2]; exact hl) (r1.append r2)
theorem Cd {x y : List AV} (e1 : bf H a = some x) (e2 : bf H b = some y) (e : jy x y = some v) (Ca : Cv g.ω a ca) (Cb : Cv g.ω b cb) : bw m A (binaryOp .Add ca cb) g H v := by
 refine ifV e fun hl => ?_
 refine g.seq Ca e1 fun p vs n g1 O r1 => ?_
 refine g.seq Cb e2 fun q ws m g2 O r2 Q E k => ?_
 have hsz := cP
 refine P.add_list (items := vs.toArray) (items2 := ws.toArray) g1 g2 ?_ (by rw [Jz, Jz, r1.length, r2.length]; exact aN 0x111bc1ca931ba9312 hl hsz)
 rw [uS]
 exact k.newSeq (n := 0) (by rw [I2]; exact hl) (r1.append r2)
theorem Ce {x : List AV} {y : Int} (e1 : bf H a = some x) (e : lF x y = some v) (Ca : Cv g.ω a ca) (Cb : Cv g.ω (.int y) cb) : bw m A (binaryOp .Mult ca cb) g H v := by
 refine ifV e fun hs => ?_
 obtain ⟨hs1, hs2⟩ := I4.mp hs
 have hb := iQ hs1
 have hsm : x.length * y.toNat <= aM := Jr hs2
 refine g.seq Ca e1 fun p vs n g1 O r1 => ?_
 refine Cb.int_el fun u Q E k => ?_
 have hsm' : vs.length * y.toNat <= 1048576 := by rw [r1.length]; exact hsm
 refine wpAny_binaryOp_repeat_ref (T := "list") (U := "int") (by decide) ⟨_, g1, rfl⟩ (fun s' => typeIs_int s' y u) noFill_list_mul F.fills_int_mul F.slot_int_rmul repeat_list F.slot_int_index.lookup
  (call_meets F.slot_int_rmul (typeIs_int g.s y u) F.entry_int_rmul (F.args_int_rmul_2 _ _) (int___rmul___int_list y u p vs.toArray n)
   ⟨g1, rfl, ⟨_, g1, rfl⟩, call_meets F.slot_list_mul ⟨_, g1, rfl⟩ F.entry_list_mul (F.args_list_mul_2 _ _)
    (AutoListH.list___mul___list_int_3 p vs.toArray n y u (by simp [Builtin.List.listFitsIndex]; lia) (by simp; exact az 0x1110000037910fffffffffffffff87911 hsm') (by simp [Builtin.List.listTooLong, sizeLine]; exact az 0x1110000037910100000047911 hsm'))
    ⟨g1, ?_⟩⟩)
 rw [B8]
 exact k.newSeq (n := 0) (by rw [uR]; exact hsm) (r1.rep y.toNat)
theorem Cf (e : pk H a b = some v) (Ca : Cv g.ω a ca) (Cb : Cv g.ω b cb) : bw m A (binaryOp .Add ca cb) g H v := by
 unfold pk at e
 cases h1 : asInt a with
 | some x =>
  rw [h1] at e
  exact bd e fun y h2 e => Ca.asInt h1 fun t => Cb.asInt h2 fun u => someV e fun Q E k => PyProof.Rows.add_int (K.here k (g.tk + 1) (.int _ _))
 | none =>
  rw [h1] at e
  cases h2 : dq a with
  | some x =>
   rw [h2] at e
   exact bd e fun y h3 e => B9 e (asTup_el (P := fun a => Cv g.ω a ca -> Cv g.ω (.tup x) ca) h2 id Ca) (asTup_el (P := fun b => Cv g.ω b cb -> Cv g.ω (.tup y) cb) h3 id Cb)
  | none => rw [h2] at e; exact bd e fun x h3 e => bd e fun y h4 e => Cd h3 h4 e Ca Cb
theorem Cg (e : ub H a b = some v) (Ca : Cv g.ω a ca) (Cb : Cv g.ω b cb) : bw m A (binaryOp .Mult ca cb) g H v := by
 refine bd e fun y h1 e => ?_
 have Cb := asInt_el (P := fun b => Cv g.ω b cb -> Cv g.ω (.int y) cb) h1 id Cb
 cases h2 : asInt a with
 | some x =>
  rw [h2] at e
  refine ifV e fun hs => ?_
  have hb := iQ (I4.mp hs).1
  exact Ca.asInt h2 fun t => Cb.int_el fun u Q E k => PyProof.Rows.mul_int (K.here k (g.tk + 1) (.int _ _)) (IntMulOk.of_left (intBits_le_64 (by lia) (by lia)))
 | none => rw [h2] at e; exact bd e fun x h3 e => Ce h3 e Ca Cb
theorem Cj {op : Operator} (e : ct op a b H = some v) (Ca : Cv g.ω a ca) (Cb : Cv g.ω b cb) : bw m A (binaryOp op ca cb) g H v := by
 cases op with
 | Add => exact Cf e Ca Cb
 | Mult => exact Cg e Ca Cb
 | Sub => exact ints2_el e Ca Cb fun x y t u e => someV e fun Q E k => PyProof.Rows.sub_int (K.here k (g.tk + 1) (.int _ _))
 | FloorDiv =>
  refine ints2_el e Ca Cb fun x y t u e => pN e fun hs e => someV e fun Q E k => ?_
  have hs := Bool.or_eq_false_iff.mp (Bool.eq_false_iff.mpr hs)
  exact PyProof.Rows.floordiv_int (of_decide_eq_false hs.1) (K.here k (g.tk + 1) (.int _ _)) (.inl (PyProof.noPylong_small (Jr ((Bool.not_eq_false' _).mp hs.2))))
 | Mod => exact ints2_el e Ca Cb fun x y t u e => pN e fun hs e => someV e fun Q E k => PyProof.Rows.mod_int' hs (K.here k (g.tk + 1) (.int _ _))
 | _ => exact aJ rfl e
end
end Mine.Internal
namespace Mine.Internal
open PySem PyProof.Rows
section
variable {c : Cx} {H : HP} {A : Around} {g : G c H} {a b v : AV} {ca cb : Value} {b' : Bool}
noncomputable def Cp (A : Around) (op : CmpOp) (ca cb : Value) (g : G c H) (b : Bool) : Prop := ∀ (Q E : Value -> Shared -> Prop), (∀ tk, Q (.bool b) { g.s with toks := tk }) -> wpAny (model c.prog c.w) A (compareOp op ca cb) Q E g.s
theorem uT {u : AV} (C : Cv g.ω a ca) (e : fz H a = some u) (ok : bR cB u = true) : (∃ as, Reads g.h ca (cM u) as) /\ SeqAt.shaped (cM u) = true :=
 let ⟨r, l, d⟩ := jJ g.frz cB (C.fz e) ok
 ⟨r, I4.mpr ⟨l, Jf (Je d (by decide))⟩⟩
theorem Cv.asDct {d : Nat} {P : Value -> Prop} (C : Cv g.ω b cb) (e : dA b = some d) (k : ∀ p, g.ω p = some (.dct d) -> P (.ref p)) : P cb :=
 Cv.at_el rfl (dctO_el (P := fun b => Cv g.ω b cb -> Cv g.ω (.dct d) cb) e id C) k
theorem pS (hu : A.units + 100 < cLine) (e : fS H a b = some b') (Ca : Cv g.ω a ca) (Cb : Cv g.ω b cb) : Cp A .Eq ca cb g b' /\ Cp A .NotEq ca cb g (!b') := by
 refine bd e fun y h2 e => bd e fun x h1 e => ifV e fun ok => ?_
 obtain ⟨o1, o2⟩ := I4.mp ok
 obtain ⟨⟨as, ra⟩, sa⟩ := uT Ca h1 o1
 obtain ⟨⟨bs, rb⟩, sb⟩ := uT Cb h2 o2
 have hu : A.units + 64 < cLine := by exact am 0x11a642932a4029321 hu
 exact ⟨fun Q E k => eq_dataH (s := g.s) ra rb sa sb hu (k g.tk), fun Q E k => ne_dataH (s := g.s) ra rb sa sb hu (k g.tk)⟩
theorem Ck (x y : Str) : (aL x == aL y) = (x.cps.toList == y.cps.toList) := by
 by_cases h : x = y
 ·subst h; rw [beq_self_eq_true, beq_self_eq_true]
 ·rw [beq_eq_false_iff_ne.mpr fun q => h (t9 q), beq_eq_false_iff_ne.mpr fun q => h (by cases x; cases y; congr; exact Array.toList_inj.mp q)]
theorem uU (hu : A.units + 100 < cLine) (e : dW H a b = some b') (Ca : Cv g.ω a ca) (Cb : Cv g.ω b cb) : Cp A .Eq ca cb g b' /\ Cp A .NotEq ca cb g (!b') := by
 unfold dW at e
 cases h1 : asInt a with
 | some x =>
  rw [h1] at e
  cases h2 : asInt b with
  | some y =>
   rw [h2] at e
   exact someV e (Ca.asInt h1 fun t => Cb.asInt h2 fun u => ⟨fun Q E k => PyProof.Rows.eq_int (s := g.s) (k g.tk), fun Q E k => PyProof.Rows.ne_int (s := g.s) (k g.tk)⟩)
  | none => rw [h2] at e; exact pS hu e Ca Cb
 | none =>
  rw [h1] at e
  cases h2 : eG a with
  | some x =>
   rw [h2] at e
   cases h3 : eG b with
   | some y =>
    rw [h3] at e
    refine someV e ?_
    rw [Ck]
    exact Cv.str_el (asStr_el (P := fun a => Cv g.ω a ca -> Cv g.ω (.str x) ca) h2 id Ca) fun t => Cv.str_el (asStr_el (P := fun a => Cv g.ω a cb -> Cv g.ω (.str y) cb) h3 id Cb) fun u => ⟨fun Q E k => PySem.P.eq_str (s := g.s) (k g.tk), fun Q E k => PySem.P.ne_str (s := g.s) (k g.tk)⟩
   | none => rw [h3] at e; exact pS hu e Ca Cb
  | none => rw [h2] at e; exact pS hu e Ca Cb
theorem Cm (hu : A.units + 100 < cLine) (e : uc H a b = some b') (Ca : Cv g.ω a ca) (Cb : Cv g.ω b cb) : Cp A .In ca cb g b' /\ Cp A .NotIn ca cb g (!b') := by
 refine bd e fun xs hx e => ifV e fun ok => ?_
 obtain ⟨o1, o2⟩ := I4.mp ok
 obtain ⟨⟨as, ra⟩, la, da⟩ := jJ g cB Ca o2
 refine g.items Cb hx fun T p vs n hT hg O r => ?_
 obtain ⟨⟨bs, rb⟩, lb, db⟩ := pR (jJ g 11) r o1
 have hd : A.units + 1 + min (PyData.depthAll (c4 xs)) (cM a).depth < cLine := by
  have := Nat.min_le_left (PyData.depthAll (c4 xs)) (cM a).depth
  exact aN 0x1111ca1b1c1b642932ba1193323 hu db this
 rcases hT with rfl | rfl
 ·exact ⟨fun Q E k => SeqAt.in_list_reads (s := g.s) (reads_list_at hg rfl rfl rb) ra lb la hd (k g.tk), fun Q E k => SeqAt.notIn_list_reads (s := g.s) (reads_list_at hg rfl rfl rb) ra lb la hd (k g.tk)⟩
 ·exact ⟨fun Q E k => SeqAt.in_tuple_reads (s := g.s) (reads_tuple_at hg rfl rfl rb) ra lb la hd (k g.tk), fun Q E k => SeqAt.notIn_tuple_reads (s := g.s) (reads_tuple_at hg rfl rfl rb) ra lb la hd (k g.tk)⟩
theorem uV (hu : A.units + 100 < cLine) (e : cN H a b = some b') (Ca : Cv g.ω a ca) (Cb : Cv g.ω b cb) : Cp A .In ca cb g b' /\ Cp A .NotIn ca cb g (!b') := by
 unfold cN at e
 cases hd : dA b with
 | none => rw [hd] at e; exact Cm hu e Ca Cb
 | some d =>
  rw [hd] at e
  refine bd e fun i h1 e => mpV e fun es h2 => Ca.asInt h1 fun t => ?_
  refine Cv.asDct (P := fun cb => Cp A .In _ cb g _ /\ Cp A .NotIn _ cb g _) Cb hd fun p hp => ?_
  obtain ⟨o, ho, _, m, kvs, r, D⟩ := g.dcl hp h2
  have D := (D c.prog c.w g.h ho).mapOf
  have hkey := intKind_is c.prog c.w i t
  rw [<- r.at]
  exact ⟨fun Q E k => wpAny_in_of (s := g.s) hkey m D (k _), fun Q E k => wpAny_notIn_of (s := g.s) hkey m D (k _)⟩
theorem Cn (C : Cv g.ω a ca) (hb : cI b = true) (Cb : Cv g.ω b cb) : Cp A .Is ca cb g (cI a) /\ Cp A .IsNot ca cb g (!cI a) := by
 have hcb : cb = .none := by
  cases Cb with
  | none => rfl
  | «at» _ h => cases b <;> first | exact Bool.noConfusion hb | exact Bool.noConfusion h
  | _ => exact Bool.noConfusion hb
 subst hcb
 have hp : plainIs ca .none = true /\ (ca == .none) = cI a := by
  cases C with
  | «at» _ h => cases a <;> first | exact Bool.noConfusion h | exact ⟨rfl, rfl⟩
  | _ => exact ⟨rfl, rfl⟩
 exact ⟨fun Q E k => wpAny_is_plain (s := g.s) hp.1 (hp.2 ▸ k g.tk), fun Q E k => wpAny_isNot_plain (s := g.s) hp.1 (hp.2 ▸ k g.tk)⟩
theorem uW (e : lG a b = some b') (Ca : Cv g.ω a ca) (Cb : Cv g.ω b cb) : Cp A .Is ca cb g b' /\ Cp A .IsNot ca cb g (!b') := by
 unfold lG at e
 by_cases hb : cI b = true
 ·rw [Id hb] at e; exact someV e (Cn Ca hb Cb)
 ·rw [IU hb] at e
  refine bd e fun y hy e => mpV e fun x hx => ?_
  refine Cv.bool_el (asBool_el (P := fun a => Cv g.ω a ca -> Cv g.ω (.bool x) ca) hx id Ca) (Cv.bool_el (asBool_el (P := fun a => Cv g.ω a cb -> Cv g.ω (.bool y) cb) hy id Cb) ?_)
  have h : (Value.bool x == Value.bool y) = (x == y) := by cases x <;> cases y <;> rfl
  exact ⟨fun Q E k => wpAny_is_plain (s := g.s) rfl (h ▸ k g.tk), fun Q E k => wpAny_isNot_plain (s := g.s) rfl (h ▸ k g.tk)⟩
theorem pT {op : CmpOp} (hu : A.units + 100 < cLine) (e : cO op a b H = some b') (Ca : Cv g.ω a ca) (Cb : Cv g.ω b cb) : Cp A op ca cb g b' := by
 cases op with
 | Lt => exact ints2_el e Ca Cb fun x y t u e => someV e fun Q E k => PyProof.Rows.lt_int (k g.tk)
 | LtE => exact ints2_el e Ca Cb fun x y t u e => someV e fun Q E k => PyProof.Rows.le_int (k g.tk)
 | Gt => exact ints2_el e Ca Cb fun x y t u e => someV e fun Q E k => PyProof.Rows.gt_int (k g.tk)
 | GtE => exact ints2_el e Ca Cb fun x y t u e => someV e fun Q E k => PyProof.Rows.ge_int (k g.tk)
 | Eq => exact (uU hu e Ca Cb).1
 | NotEq => exact mpV e fun d h => (uU hu h Ca Cb).2
 | In => exact (uV hu e Ca Cb).1
 | NotIn => exact mpV e fun d h => (uV hu h Ca Cb).2
 | Is => exact (uW e Ca Cb).1
 | IsNot => exact mpV e fun d h => (uW h Ca Cb).2
theorem uX {n : Nat} {i : Int} {j : Nat} (h : idx n i = some j) : seqIndex? i n = some j /\ j < n /\ (0 <= i -> j = i.toNat) /\ (i < 0 -> -(n : Int) <= i /\ j = (i + n).toNat) := by
 unfold idx at h
 by_cases h0 : 0 <= i
 ·rw [Id h0] at h
  refine ifV h fun h1 => ⟨?_, by exact aZ 0x111995ba59aa922 h1 (I7 (aG 0x11901990191 h0)), fun O => rfl, fun q => by exact ⟨bj 0x11001aaa019a992 h0 q, aZ 0x110110019a9019a932 h0 q⟩⟩
  unfold seqIndex?
  rw [IU (by exact aG 0x119019019d1 h0 : ¬ i < 0), Id (by rw [Bool.and_eq_true, decide_eq_true_eq, decide_eq_true_eq]; exact ⟨aG 0x11901990191 h0, aV 0x11959a959a1 h1⟩)]
 ·rw [IU h0] at h
  exact ifV h fun h1 => ⟨seqIndex_neg (aG 0x11901c019a1 h0) (by exact dQ 0x111019953b95a3019a992 h1 (Int.add_right_neg _)), by exact aZ 0x111a59395b901ca922 h0 (I7 (aV 0x11959301995930191 h1)), fun q => absurd q h0, fun O => ⟨by exact dQ 0x111019953b95a3019a992 h1 (Int.add_right_neg _), rfl⟩⟩
theorem Cq {o i : AV} {co ci : Value} (e : aS H o i = some v) (Co : Cv g.ω o co) (Ci : Cv g.ω i ci) : Op A (getItem co ci) g H v := by
 refine bd e fun k h1 e => bd e fun xs hx e => bd e fun j hj e => Ci.asInt h1 fun t => g.items Co hx fun T p vs n hT hg hlen r Q E kk => ?_
 obtain ⟨hs1, hs2, hs3, hs4⟩ := uX hj
 obtain ⟨u, hu, cu⟩ := r.get e
 have hlv := r.length
 have hq := K.here kk g.tk cu
 have hlen : xs.length <= 1048576 := hlen
 have hu' : vs.toArray[j]? = some u := List.getElem?_toArray.trans hu
 have hsz : vs.toArray.size = xs.length := Jz.trans hlv
 rcases hT with rfl | rfl
 ·have hl : g.h.IsList p vs.toArray := ⟨_, hg, rfl, n, rfl⟩
  by_cases h0 : 0 <= k
  ·exact wpAny_getItem_list (s := g.s) hl h0 (by have := hs3 h0; lia) (hs3 h0 ▸ hu') hq
  ·obtain ⟨q1, q2⟩ := hs4 (aG 0x11901c019a1 h0)
   exact wpAny_getItem_list_neg (s := g.s) hl (aG 0x11901c019a1 h0) (by rw [hsz]; exact bj 4741245329 q1) (by lia) (x := u) (by rw [hsz, <- q2]; exact hu') hq
 ·have b : -(1048576 : Int) <= k /\ k < 1048576 := by
   by_cases h0 : 0 <= k
   ·have := hs3 h0; exact ⟨aG 0x11901991000003701491 h0, il 0x19111b599b9310000037a1a92100000379a4 hs2 hlen this (Ju _)⟩
   ·have := hs4 (aG 0x11901c019a1 h0); exact ⟨dQ 0x911101a953b9a9100000379191000003701493 hlen this.1 (Int.add_right_neg _), aG 0x11901c100000379a1 h0⟩
  exact getItem_tuple (s := g.s) ⟨_, hg, rfl, _, rfl⟩ (by lia) (by lia) (by rw [hsz]; exact hs1) hu' hq
theorem Cr (n : Nat) (i : Int) : ds n i = clipAt n i := by
 cases i with
 | ofNat a => exact (clipAt_nat n a).symm
 | negSucc k =>
  unfold ds
  rw [Id (Int.negSucc_lt_zero k), show Int.negSucc k = -((k + 1 : Nat) : Int) from rfl, clipAt_neg n (k + 1) (Nat.le_add_left _ _), Int.add_comm, <- Int.sub_eq_add_neg, Int.toNat_sub]
theorem uY {ω : Wd} {k : Option Int} (C : Cv ω a ca) (e : et a = some k) : IsPart ca k := by
 cases C with
 | none => cases e; exact .none
 | int i t => exact ifV e fun O => .int _ _
 | «at» _ h => cases a <;> first | exact Bool.noConfusion h | exact aJ rfl e
 | _ => exact aJ rfl e
theorem CvL.slice {ω : Wd} {xs : List AV} {vs : List Value} (r : CvL ω xs vs) (lo hi : Option Int) :
  CvL ω (cH xs lo hi) ((vs.drop (lo.elim 0 (clipAt vs.length))).take ((hi.elim vs.length (clipAt vs.length)) - (lo.elim 0 (clipAt vs.length)))) := by
 unfold cH
 rw [show ds xs.length = clipAt vs.length from funext fun i => by rw [Cr, r.length], <- r.length]
 exact (r.drop _).take _
theorem uZ (xs : List AV) (lo hi : Option Int) : (cH xs lo hi).length <= xs.length := by
 unfold cH
 rw [List.length_take, List.length_drop]
 exact Je (Nat.min_le_right _ _) (Nat.sub_le _ _)
theorem Ct (lo hi : Option Int) (n : Nat) : Builtin.Slice.sliceAdjust lo hi 1 (n : Int) = (((lo.elim 0 (clipAt n) : Nat) : Int), ((hi.elim n (clipAt n) : Nat) : Int)) := by
 unfold Builtin.Slice.sliceAdjust
 cases lo <;> cases hi <;> simp [clipAt_cast] <;> (try constructor) <;> (try (split <;> lia)) <;> lia
theorem Cu (xs : Array Value) (a k : Nat) : ((List.range k).filterMap fun (j : Nat) => xs[((a : Int) + (j : Int) * 1).toNat]?).toArray = ((xs.toList.drop a).take k).toArray := by
 have e : (fun (j : Nat) => xs[((a : Int) + (j : Int) * 1).toNat]?) = fun j => xs[a + j]? := by
  funext j
  have : ((a : Int) + (j : Int) * 1).toNat = a + j := by lia
  rw [this]
 rw [e]
 have := pick_run xs a k
 rw [List.filterMap_map] at this
 have e2 : ((fun x => xs[x]?) ∘ fun x => a + x) = fun k => xs[a + k]? := rfl
 rw [e2] at this
 rw [this]
theorem Cy (a b : Nat) : Builtin.Slice.slicePlaces (a : Int) (b : Int) 1 = b - a := by
 unfold Builtin.Slice.slicePlaces
 rw [Id (show (1 : Int) > 0 by decide)]
 split
 ·rw [Int.ediv_one]; exact aN 0x110110011bca331111c5b544395bca3b1951111c5b54439a934 (Ju _) (I6 (IO _)) (I7 (am 0x1195a5a1111a5954430191 (by assumption))) (I1 (am 0x11a595aa911 (by assumption)))
 ·exact am 0x1110101a30195ba932 (I7 (bt 16843152)) (Nat.sub_eq_zero_of_le (am 0x1195a5da911 (by assumption)))
end
section
variable {prog : Program} {w : World} {A : Around} {E : Value -> Shared -> Prop} {s : Shared}
theorem u0 {v : Value} {k : Option Int} {Q : Option Int -> Shared -> Prop} (p : IsPart v k) (h : Q k s) : wpAny (model prog w) A (Builtin.Slice.slicePartIndex v) Q E s := by
 cases p with
 | none => exact slicePart_none h
 | int i t => exact slicePart_int h
theorem Cz {sl : Addr} {os : Obj} {vs : List Value} {ca cb : Value} {lo hi : Option Int} {a b : Nat} {Q : Int × Int × Nat -> Shared -> Prop} (hos : s.heap.get? sl = some os) (hds : os.data = .fields #[ca, cb, .none]) (pa : IsPart ca lo) (pb : IsPart cb hi) (ha : lo.elim 0 (clipAt vs.length) = a) (hb : hi.elim vs.length (clipAt vs.length) = b)
  (hq : Q ((a : Int), 1, b - a) s) : wpAny (model prog w) A (Builtin.Slice.sliceApplied (.ref sl) (pure (vs.toArray.size : Int))) Q E s := by
 unfold Builtin.Slice.sliceApplied Builtin.Slice.sliceFields
 refine IV (IV (wpAny_field hos hds (x := ca) rfl (IV (wpAny_field hos hds (x := cb) rfl (IV (wpAny_field hos hds (x := .none) rfl (I8 ?_)))))))
 refine IV (slicePart_none ?_)
 show wpAny _ _ (if ((1 : Int) == 0) = true then _ else _) _ _ s
 rw [IU (by decide)]
 refine IV (u0 pa (IV (u0 pb (IV (I8 ?_)))))
 show wpAny _ _ (match Builtin.Slice.sliceAdjust lo hi 1 (vs.toArray.size : Int) with | (x, y) => pure (x, (1 : Int), Builtin.Slice.slicePlaces x y 1)) _ _ s
 rw [Jz, Ct, ha, hb]
 show wpAny _ _ (pure ((a : Int), (1 : Int), Builtin.Slice.slicePlaces (a : Int) (b : Int) 1)) _ _ s
 rw [Cy]
 exact I8 hq
theorem CA {t sl : Addr} {vs : List Value} {n : Nat} {ca cb : Value} {lo hi : Option Int} {Q : Value -> Shared -> Prop} (ht : s.heap.get? t = some (bB "tuple" vs n))
  (hs : s.heap.IsSliceOf sl ca cb .none) (pa : IsPart ca lo) (pb : IsPart cb hi) {a b : Nat} (ha : lo.elim 0 (clipAt vs.length) = a) (hb : hi.elim vs.length (clipAt vs.length) = b)
  (same : (vs.drop a).take (b - a) = vs -> Q (.ref t) s) (made : Q (.ref s.heap.objs.size) { s with heap := s.heap.push (bB "tuple" ((vs.drop a).take (b - a)) 0) })
  (hsz : vs.length <= sizeLine) : wpAny (model prog w) A (getItem (.ref t) (.ref sl)) Q E s := by
 have hT : IsTup s.heap t vs.toArray := ⟨_, ht, rfl, n, rfl⟩
 obtain ⟨os, hos, hcs, hds⟩ := hs
 have hmade : sizeOk (.seq ((vs.drop a).take (b - a)).toArray) := by
  show ((vs.drop a).take (b - a)).toArray.size <= sizeLine
  rw [Jz, List.length_take, List.length_drop]
  exact Je (Je (Nat.min_le_right _ _) (Nat.sub_le _ _)) hsz
 unfold getItem
 try with_reducible refine wpAny_holding ?_
 first | refine IV (I8 ?_) | skip
 refine IV (wpAny_sequenceKey hT.typeIs (by decide) ?_)
 refine IV (wpAny_callSpecial?_slot (name := Str.ofString "__getitem__") hT.typeIs slot_tuple_getitem
  (wpAny_call_entry slot_tuple_getitem hT.typeIs entry_tuple_getitem ?_ (args_tuple_getitem _ _)))
 show wpAny _ _ (Builtin.Tuple.tupleItemsOf (.ref t) >>= _) _ _ s
 refine IV (tupleItemsOf_ hT ?_)
 refine IV (wpAny_typeOf ⟨os, hos, hcs⟩ ?_)
 rw [Id (by decide)]
 refine IV (Cz hos hds pa pb ha hb ?_)
 show wpAny _ _ (if ((a : Int) == 0 && (1 : Int) == 1 && (b - a) == vs.toArray.size) = true then _ else _) _ _ s
 by_cases hw : ((a : Int) == 0 && (1 : Int) == 1 && (b - a) == vs.toArray.size) = true
 ·rw [Id hw]
  obtain ⟨hw1, hw2⟩ := I4.mp hw
  have hw1 : a = 0 := Int.ofNat_eq_zero.mp (beq_iff_eq.mp (I4.mp hw1).1)
  have hw2 : b - a = vs.length := (beq_iff_eq.mp hw2).trans Jz
  refine IV ?_
  refine IV (wpAny_typeOf hT.typeIs (I8 ?_))
  rw [Id (by decide)]
  refine IV (wpAny_rule ?_)
  refine I8 ⟨_, rfl, I8 (same ?_)⟩
  rw [hw2, hw1, List.drop_zero, List.take_length]
 ·rw [IU hw, Cu]
  exact IV (m := Builtin.Tuple.tupleExact _) (wpAny_newObj_type (I8 ⟨_, rfl, I8 made⟩) hmade)
end
section
variable {c : Cx} {H : HP} {A : Around} {g : G c H} {v : AV} {m : Bool}
theorem CB {o : AV} {co ca cb : Value} {lo hi : Option Int} {sl : Addr} (e : dt H o lo hi = some v) (Co : Cv g.ω o co) (hs : g.h.IsSliceOf sl ca cb .none) (pa : IsPart ca lo) (pb : IsPart cb hi) : bw m A (getItem co (.ref sl)) g H v := by
 have hsz := cP
 unfold dt at e
 cases h : dq o with
 | some xs =>
  rw [h] at e
  refine someV e (Cv.at_el rfl (asTup_el (P := fun o => Cv g.ω o co -> Cv g.ω (.tup xs) co) h id Co) fun p hp => g.sq (g.inv.obj p _ hp) fun vs n hg hl r Q E k => ?_)
  have rs := r.slice lo hi
  have hlen := Je (uZ xs lo hi) hl
  refine CA (s := g.s) hg hs pa pb rfl rfl (fun e => ?_) (K.newTup k hlen rs) (by rw [r.length]; exact Je hl hsz)
  have hx : cH xs lo hi = xs := List.Sublist.eq_of_length ((List.take_sublist _ _).trans (List.drop_sublist _ _)) (by rw [<- rs.length, e, r.length])
  exact K.here (H := H) k g.tk (.at (hp.trans (congrArg (fun l => some (AV.tup l)) hx.symm)) rfl)
 | none =>
  rw [h] at e
  refine mpV e fun xs hx => g.seq Co hx fun p vs n hg hl r Q E k => ?_
  refine wpAny_getItem_list_slice (s := g.s) (items := vs.toArray) ⟨_, hg, rfl, n, rfl⟩ hs pa pb .none (by decide) ?_ (by rw [Jz, r.length]; exact Je hl hsz)
  rw [slicePick_plain]
  have := K.newSeq (n := 0) (tk := g.tk) k (Je (uZ _ _ _) hl) (r.slice lo hi)
  simpa using this
end
end Mine.Internal
namespace Mine.Internal
open PySem PyProof.Rows
section
variable {prog : Program} {w : World} {A : Around} {E : Value -> Shared -> Prop} {s : Shared}
theorem CE {R : Result -> Shared -> Prop} {h₁ : Heap} {I ax S : Addr} {items : Array Value} {rows : List (List Value)} (hh : A.handled = none) (hne : ax ≠ I) (hSI : S ≠ I) (hSa : S ≠ ax) (hI : h₁.get? I = none) (hS1 : h₁.get? S = none)
  (hrow : ∀ (i : Nat) v, items[i]? = some v -> ∃ a m ws, v = .ref a /\ rows[i]? = some ws /\ h₁.get? a = some (bB "list" ws m)) (hlen : rows.length = items.size) :
  ∀ (k i : Nat) (s : Shared) (T : Addr) (acc : List Value) (n c : Nat), items.size - i = k -> i <= items.size -> (∀ b o, h₁.get? b = some o -> s.heap.get? b = some o) -> (s.heap.IsListIter I ax i /\ s.heap.IsList ax items) ->
   s.heap.get? S = some (bB "list" [.ref T] c) -> s.heap.get? T = some (bB "list" acc n) -> T ≠ I -> T ≠ S -> acc.length + (rows.drop i).flatten.length <= aM -> (0 < i -> h₁.get? T = none) ->
   (∀ h' tk T' n', (∀ b o, h₁.get? b = some o -> h'.get? b = some o) -> h'.get? T' = some (bB "list" (acc ++ (rows.drop i).flatten) n') -> (0 < items.size -> h₁.get? T' = none) -> R (.ok (.ret (.ref T'))) { s with heap := h', toks := tk }) ->
   codeAny (model prog w) A (.builtin "sum.loop" ⟨[.ref I, .ref S, rawInt 2, rawInt 0], []⟩) R s := by
 have W := Walks.list (prog := prog) (w := w) (A := A.in1) hh I ax hne items
 intro k
 induction k with
 | zero =>
  intro i s T acc n c hk hi hb hst hS hT hTI hTS hz hn hR
  obtain rfl : i = items.size := by exact ay 0x10110119b3a1a9101b3a933 hk hi (I6 (IO _))
  refine codeAny_builtin F.entry_sum_loop ?_
  rw [Around.under_plainId F.plain_sum_loop _]
  show wpAny _ A.in1 (seqItems? (.ref S) >>= _) _ _ s
  refine IV (wpAny_seqItems hS rfl ?_)
  show wpAny _ A.in1 (tryCatch (pyNext (.ref I)) _ >>= _) _ _ s
  refine IV (wpAny_tryCatch (W.done s _ _ hst fun h' tk hk' => ?_))
  have hbI : ∀ b o, h₁.get? b = some o -> b ∉ [I] := fun b o e m => by rw [I0.mp m, hI] at e; cases e
  exact I8 (hR h' tk T n (fun b o e => hk' b o (hbI b o e) (hb b o e)) (by rw [List.drop_eq_nil_of_le (by exact am 4740851985 hlen), List.flatten_nil, JA]; exact hk' T _ (fun m => hTI (I0.mp m)) hT) hn)
 | succ k ih =>
  intro i s T acc n c hk hi hb hst hS hT hTI hTS hz hn hR
  have hlt : i < items.size := by exact aN 0x191a9b3311c3b3a922 hk (I1 (am 4740720913 hi))
  refine codeAny_builtin F.entry_sum_loop ?_
  rw [Around.under_plainId F.plain_sum_loop _]
  show wpAny _ A.in1 (seqItems? (.ref S) >>= _) _ _ s
  refine IV (wpAny_seqItems hS rfl ?_)
  show wpAny _ A.in1 (tryCatch (pyNext (.ref I)) _ >>= _) _ _ s
  refine IV (wpAny_tryCatch (W.item i s _ _ hlt hst fun v h' tk hP hst' hk' => ?_))
  obtain ⟨a, m, ws, rfl, hr, hg⟩ := hrow i v hP
  have kI : ∀ b o, b ≠ I -> s.heap.get? b = some o -> h'.get? b = some o := fun b o q e => hk' b o (fun m => q (I0.mp m)) e
  have hbI : ∀ b o, h₁.get? b = some o -> b ≠ I := fun b o e q => by rw [q, hI] at e; cases e
  have hbS : ∀ b o, h₁.get? b = some o -> b ≠ S := fun b o e q => by rw [q, hS1] at e; cases e
  have hS' := kI S _ hSI hS
  have hT' := kI T _ hTI hT
  have ha' := kI a _ (hbI a _ hg) (hb a _ hg)
  have hd : (rows.drop i).flatten = ws ++ (rows.drop (i + 1)).flatten := by
   obtain ⟨h1, h2⟩ := IX.mp hr
   rw [List.drop_eq_getElem_cons h1, h2, List.flatten_cons]
  rw [hd, I2] at hz
  have hsz := cP
  show wpAny _ A.in1 ((holding [Value.ref a] (binaryOp .Add (.ref T) (.ref a))).attempt >>= _) _ _ _
  refine IV (wpAny_attempt (wpAny_holding (P.add_list (items := acc.toArray) (items2 := ws.toArray) hT' ha' ?_ (by simp; exact a7 0x111bd1dca3931ba9312 hz hsz))))
  have e1 : acc.toArray ++ ws.toArray = (acc ++ ws).toArray := by simp
  rw [e1]
  generalize hN : h'.objs.size = N
  have hNn : h'.get? N = none := hN ▸ dv h'
  have gN : (h'.push (bB "list" (acc ++ ws) 0)).get? N = some (bB "list" (acc ++ ws) 0) := hN ▸ JE _ rfl
  have kP : ∀ b o, h'.get? b = some o -> (h'.push (bB "list" (acc ++ ws) 0)).get? b = some o := fun b o e => Js _ e
  have hNS : N ≠ S := fun q => by rw [q, hS'] at hNn; cases hNn
  have hNI : N ≠ I := fun q => by
   obtain ⟨o, ho, _⟩ := hst'.1
   rw [q, ho] at hNn; cases hNn
  have hS2 := kP S _ hS'
  show wpAny _ A.in1 (updateSeq S (fun O => #[Value.ref N]) >>= _) _ _ _
  refine IV (wpAny_updateSeq hS2 rfl ?_)
  have hS3 := Heap.get?_update_self (Obj.mapSeq fun O => #[Value.ref N]) hS2 rfl
  refine IV (wpAny_letGo ?_)
  have ku : ∀ (hp : Heap) b o, b ≠ S -> hp.get? b = some o -> (hp.update S (Obj.mapSeq fun O => #[Value.ref N])).get? b = some o := fun hp b o q e => (Heap.get?_update_other _ _ (Ne.symm q)).trans e
  refine IV (wpAny_updateSeq hS3 rfl (I8 ⟨plainId_quiet F.plain_sum_loop _, ih (i + 1) _ N (acc ++ ws) 0 _ (by exact a7 0x11011100191cdb33c11d3933db3c111d393c111a3b3a935 hk (I6 (IO _)) (I6 (IO _)) (I1 (am 0x11a92a119311 hlt)) (I1 (am 4740786449 hlt))) hlt (fun b o e => ku _ b o (hbS b o e) (ku _ b o (hbS b o e) (kP b o (kI b o (hbI b o e) (hb b o e)))))
   (W.frame _ _ _ hst' fun b hb' o e => ?_) (Heap.get?_update_self _ hS3 rfl) (ku _ N _ hNS (ku _ N _ hNS gN)) hNI hNS (by rw [I2]; exact aN 0x11cba3931cba93311 hz) (fun O => ?_) fun h'' tk'' T'' n'' q1 q2 q3 => ?_⟩))
  ·have : b ≠ S := fun q => by
    subst q
    rcases Jx.mp hb' with q | q
    ·exact hSI q
    ·exact hSa (I0.mp q)
   exact ku _ b o this (ku _ b o this (kP b o e))
  ·cases q : h₁.get? N with
   | none => rfl
   | some o => have := kI N o (hbI N o q) (hb N o q); rw [hNn] at this; cases this
  ·exact hR h'' tk'' T'' n'' q1 (by rw [hd, <- I5]; exact q2) q3
theorem CF : isSubtype (.type "list") (.type "str") = pure false := by rw [isSubtype_type]; kernel_rfl
theorem CG : isSubtype (.type "list") (.type "bytes") = pure false := by rw [isSubtype_type]; kernel_rfl
theorem CH : isSubtype (.type "list") (.type "bytearray") = pure false := by rw [isSubtype_type]; kernel_rfl
theorem CI (a b : Value) : argsOk "sum" ⟨[a, b], []⟩ := by unfold argsOk; kernel_rfl
theorem CJ (h : Heap) : h.get? (h.objs.size + 1) = none := by
 cases q : h.get? (h.objs.size + 1) with
 | none => rfl
 | some o => exact absurd (Heap.lt_size q) (Nat.not_lt.mpr (Nat.le_succ _))
theorem CK {p za : Addr} {vs : List Value} {n zn : Nat} {rows : List (List Value)} {Q : Value -> Shared -> Prop} (hh : A.handled = none) (hg : s.heap.get? p = some (bB "list" vs n)) (zg : s.heap.get? za = some (bB "list" [] zn)) (hpos : 0 < vs.length)
  (k1 : rows.length = vs.length) (hl : rows.flatten.length <= aM) (k3 : ∀ (i : Nat) v, vs[i]? = some v -> ∃ a m ws, v = .ref a /\ rows[i]? = some ws /\ s.heap.get? a = some (bB "list" ws m))
  (hQ : ∀ h' tk T' n', (∀ b o, s.heap.get? b = some o -> h'.get? b = some o) -> h'.get? T' = some (bB "list" rows.flatten n') -> s.heap.get? T' = none -> Q (.ref T') { s with heap := h', toks := tk }) : wpAny (model prog w) A (call (.builtin "sum") [.ref p, .ref za]) Q E s := by
 refine call_function_tree F.kind_sum F.plain_sum F.entry_sum (CI _ _) ?_
 unfold Builtin.«sum»
 simp only [List.length_cons, List.length_nil]
 rw [IU (by decide)]
 refine IV (wpAny_of_eq (show Builtin.Builtins.bindParams "sum" ["start"] 0 ⟨[.ref za], []⟩ = pure [some (.ref za)] from rfl) ?_)
 have hL : s.heap.IsList p vs.toArray := ⟨_, hg, rfl, n, rfl⟩
 have hIn : s.heap.get? s.heap.objs.size = none := dv _
 refine IV (wpAny_pyIter_list hL ?_)
 dsimp only
 refine IV (I8 ?_)
 simp only [List.forIn_cons, List.forIn_nil]
 have tz : ∀ {hp : Heap}, hp.get? za = some (bB "list" [] zn) -> ({ s with heap := hp } : Shared).TypeIs (.ref za) "list" := fun e => ⟨_, e, rfl⟩
 have kz : ∀ (o : Obj), (s.heap.push o).get? za = some (bB "list" [] zn) := fun o => Js _ zg
 refine IV (IV (IV (wpAny_isInstance (T := "list") (b := false) (tz (kz _)) CF ?_)))
 simp only [Bool.false_eq_true, if_false]
 refine I8 (IV (IV (wpAny_isInstance (T := "list") (b := false) (tz (kz _)) CG ?_)))
 simp only [Bool.false_eq_true, if_false]
 refine I8 (IV (IV (wpAny_isInstance (T := "list") (b := false) (tz (kz _)) CH ?_)))
 simp only [Bool.false_eq_true, if_false]
 refine I8 (I8 ?_)
 refine IV (wpAny_newObj_type ?_)
 have hsz := Heap.size_push s.heap { cls := Value.type "list_iterator", data := Data.fields #[Value.ref p, Value.int 0 0] }
 have hSn : s.heap.get? (s.heap.push { cls := Value.type "list_iterator", data := Data.fields #[Value.ref p, Value.int 0 0] }).objs.size = none := by rw [hsz]; exact CJ _
 refine I8 ⟨plainId_quiet F.plain_sum_loop _, CE (h₁ := s.heap) (ax := p) (items := vs.toArray) (rows := rows) hh (Nat.ne_of_lt (Heap.lt_size hg)) (by rw [hsz]; exact Nat.succ_ne_self _) (fun q => by rw [q, hg] at hSn; cases hSn) hIn hSn (fun i v q => k3 i v (by simpa using q)) (by simpa using k1)
  vs.length 0 _ za [] zn 0 (by simp) (Nat.zero_le _) (fun b o e => Js _ (Js _ e)) ⟨⟨_, Js _ (JE _ rfl), rfl, rfl⟩, (hL.push _).push _⟩ (JE _ rfl)
  (Js _ (Js _ zg)) (Nat.ne_of_lt (Heap.lt_size zg)) (fun q => by rw [q, hSn] at zg; cases zg) ?_ (fun q => absurd q (Nat.lt_irrefl _)) fun h' tk T' n' q1 q2 q3 => ?_⟩
 ·rw [List.drop_zero, List.length_nil, Nat.zero_add]; exact hl
 ·rw [List.drop_zero, List.nil_append] at q2
  exact hQ h' tk T' n' q1 q2 (q3 (by rw [Jz]; exact hpos))
end
section
variable {c : Cx} {H : HP} {A : Around} {g : G c H} {a v : AV} {cv : Value} {m : Bool}
theorem u1 : ∀ {xs ys : List AV} {vs : List Value}, jB H xs = some ys -> CvL g.ω xs vs -> ∃ rows : List (List Value), rows.length = vs.length /\ CvL g.ω ys rows.flatten /\ ∀ (i : Nat) v, vs[i]? = some v -> ∃ a m ws, v = .ref a /\ rows[i]? = some ws /\ g.h.get? a = some (bB "list" ws m)
 | [], ys, _, e, .nil => someV e ⟨[], rfl, .nil, fun i v q => nomatch q⟩
 | x :: xs, ys, _, e, .cons C r => by
  refine bd e fun x1 hx e => mpV e fun y1 hy => ?_
  obtain ⟨rows, h1, h2, h3⟩ := u1 hy r
  refine g.seq C hx fun p ws n hg O rw1 => ⟨ws :: rows, congrArg Nat.succ h1, rw1.append h2, fun i v q => ?_⟩
  cases i with
  | zero => exact someV q ⟨p, n, ws, rfl, rfl, hg⟩
  | succ i => exact h3 i v q
theorem CL {P : AV -> Prop} (h : ul v = true) (k : P (.list [])) : P v := by
 cases v with
 | list xs => cases xs with
  | nil => exact k
  | cons a r => exact Bool.noConfusion h
 | _ => exact Bool.noConfusion h
set_option tactic.hygienic true in
theorem CM {args : List AV} {cs : List Value} (e : pD H args = some v) (hh : A.handled = none) (C : CvL g.ω args cs) : bw m A (call (.builtin "sum") cs) g H v := by
 unfold pD at e
 split at e
 case h_2 => exact aJ rfl e
 refine cV e fun hz e => bd e fun xs hx e => pN e fun hne e => bd e fun ys hy e => ifV e fun hl => ?_
 refine C.cons_el fun c1 r c1' C => C.cons_el fun c2 r c2' C => C.nil_el ?_
 refine Cv.at_el rfl (CL (P := fun z => Cv g.ω z c2 -> Cv g.ω (.list []) c2) hz id c2') fun za hza => g.sq (g.inv.obj za _ hza) fun zvs zn zg O zr => ?_
 cases zr
 refine g.seq c1' hx fun p vs n hg hvl r => ?_
 obtain ⟨rows, k1, k2, k3⟩ := u1 hy r
 refine fun Q E k => CK (s := g.s) hh hg zg ?_ k1 (by rw [k2.length]; exact hl) k3 fun h' tk T' n' q1 q2 q3 => K.new (v := .list ys) k tk q1 q3 q2 ⟨_, _, hl, k2⟩ rfl rfl
 rw [r.length]
 cases xs with
 | nil => exact absurd rfl hne
 | cons a r => exact Nat.succ_pos _
theorem CvL.ints {ω : Wd} : ∀ {xs : List AV} {vs : List Value} {ns : List Int}, CvL ω xs vs -> iB xs = some ns -> IntsAre vs ns
 | [], _, _, .nil, e => someV e .nil
 | x :: xs, _, _, .cons C r, e => bd e fun i hi e => mpV e fun l hl => C.asInt hi fun t => .cons _ _ (CvL.ints r hl)
theorem CvL.of_ints {ω : Wd} {vs : List Value} {ns : List Int} (q : IntsAre vs ns) : CvL ω (ns.map AV.int) vs := by
 induction q with
 | nil => exact .nil
 | cons _ _ _ ih => exact .cons (.int _ _) ih
theorem u2 {ns ns' : List Int} (h : ns'.Perm ns) (p : ns'.Pairwise (· <= ·)) : ns' = ce ns := by
 have tr : ∀ a b c : Int, decide (a <= b) = true -> decide (b <= c) = true -> decide (a <= c) = true := fun a b c h1 h2 => Jf (Jp (Jr h1) (Jr h2))
 have tt : ∀ a b : Int, (decide (a <= b) || decide (b <= a)) = true := fun a b => Bool.or_eq_true_iff.mpr ((Int.le_total a b).imp Jf Jf)
 exact List.Perm.eq_of_pairwise (le := fun a b => decide (a <= b) = true) (fun a b O O h1 h2 => Int.le_antisymm (Jr h1) (Jr h2)) (p.imp fun q => Jf q) (List.pairwise_mergeSort tr tt ns) (h.trans (List.mergeSort_perm ns _).symm)
theorem u3 {xs : List AV} {ns : List Int} (hns : iB xs = some ns) (e : um ns = some v) (hc : ∀ R E, (∀ vs (g' : G c H), Le [] g g' -> CvL g'.ω xs vs -> R vs g'.s) -> wpAny (model c.prog c.w) A.in1 (collect cv) R E g.s) : bw m A (call (.builtin "sorted") [cv]) g H v := by
 refine ifV e fun hl Q E k => ?_
 refine Calls.call_function_entry kind_sorted plain_sorted entry_sorted (args_sorted1 _) ?_
 unfold Builtin.«sorted»
 refine IV (m := checkCount "sorted" 1 1 _) (I8 ?_)
 refine IV (hc _ _ fun vs g' L r => ?_)
 have hI := r.ints hns
 have hvl : vs.length <= aM := by rw [IntsAre.length hI]; exact hl
 refine IV (wpAny_newList ?_ (Je hvl cP))
 have hoL : (g'.h.push (seqObj "list" vs.toArray 0)).get? g'.h.objs.size = some (seqObj "list" vs.toArray 0) := JE _ rfl
 refine IV (wpAny_holding (wpAny_call_entry slot_list_sort ⟨_, hoL, rfl⟩ entry_list_sort (BN (s := { g'.s with heap := g'.h.push (seqObj "list" vs.toArray 0) }) hoL hI hvl fun out ns' q1 q2 q3 => ⟨_, rfl, ?_⟩) (args_list_sort _)))
 refine I8 ⟨_, rfl, ?_⟩
 obtain rfl := u2 q2 q3
 obtain ⟨e, he⟩ := sortedHeap_at (out := out) hoL
 exact K.new (g := g') (fun cv g'' L' C => k cv g'' (L.trans L') C) g'.tk (fun b o q => (sortedHeap_old (Nat.ne_of_lt (Heap.lt_size q)) (Heap.lt_size (Js _ q))).trans (Js _ q)) (dv _) he (.mk out.toList e (by rw [IZ, q2.length_eq]; exact hl) (CvL.of_ints q1)) rfl rfl
theorem CN {xs : List AV} (hx : bf H a = some xs) (C : Cv g.ω a cv) (R : List Value -> Shared -> Prop) (E : Value -> Shared -> Prop) (q : ∀ vs (g' : G c H), Le [] g g' -> CvL g'.ω xs vs -> R vs g'.s) : wpAny (model c.prog c.w) A (collect cv) R E g.s :=
 g.seq C hx fun p vs n hg hvl r => collect_list (s := g.s) ⟨_, hg, rfl, n, rfl⟩ (q vs (g.ks g.tk fun b o e => (Heap.get?_update_ne _ _ _ _ (Nat.ne_of_lt (Heap.lt_size e))).trans (Js _ e)) G.ks_le r) (by rw [r.length]; exact Je hvl cP)
end
section
set_option maxRecDepth 100000
variable {prog : Program} {w : World} {A : Around} {E : Value -> Shared -> Prop} {s : Shared} {d : Addr} {kvs : List (Int × Value)}
theorem CO {Q : Bool -> Shared -> Prop} (hm : s.heap.DictOf (intKind prog w) d kvs) (h : Q false s) : wpAny (model prog w) A (Builtin.List.listLengthHint (.ref d)) Q E s := by
 unfold Builtin.List.listLengthHint
 refine IV (wpAny_specialOf hm.typeIs F.slot_dict_len.lookup ?_)
 generalize hid : ("dict.__len__" : String) = id0
 wp_delta
 rw [show splitId id0 = some ("dict", "__len__") from by subst hid; decide +kernel]
 subst hid
 refine IV (wpAny_isInstance (T := "dict") (b := true) hm.typeIs (by rw [isSubtype_type]; kernel_rfl) ?_)
 refine wpAny_ite_split (fun hab => absurd hab (by decide)) (fun O => ?_)
 refine wpAny_ite_split (fun O => ?_) (fun hab => absurd (by decide +kernel) hab)
 refine IV (wpAny_typeOf hm.typeIs ?_)
 exact I8 h
theorem u4 {R : Result -> Shared -> Prop} {ep : Nat} (hh : A.handled = none) (hd : (d == sysModules) = false) (hm : s.heap.DictAt (intKind prog w) d kvs ep) (hlen : kvs.length <= aM) (S : Addr) (res : Value) (c₀ : Nat) (hS : s.heap.get? S = some { cls := .type "list", data := .seq #[] c₀ })
  (hR : ∀ h' tk acc' c', (∀ b o, b ≠ S -> s.heap.get? b = some o -> h'.get? b = some o) -> h'.get? S = some { cls := .type "list", dict := none, data := .seq acc' c', slots := #[] } ->
   ItemsOf (fun i v => ∃ k x, kvs[i]? = some (k, x) /\ (intKind prog w).is k v = true) acc' kvs.length -> R (.ok (.ret res)) { s with heap := h', toks := tk }) :
  wpAny (model prog w) A.in1 (Builtin.List.listExtendWith (.ref S) (.ref d) res)
   (fun fin s' => match fin with | .done f => R (.ok f) s' | .again c' => c'.quiet = true /\ codeAny (model prog w) A c' R s') (fun e s' => R (.error e) s') s := by
 have hT : s.TypeIs (.ref d) "dict" := hm.dictOf.typeIs
 have hSd : S ≠ d := fun e => by
  obtain ⟨o, es, ho, _, hd, _⟩ := hm
  rw [<- e, hS] at ho; cases ho; cases hd
 have hSI : S ≠ s.heap.objs.size := Nat.ne_of_lt (Heap.lt_size hS)
 have hdI : d ≠ s.heap.objs.size := Nat.ne_of_lt hm.lt_size
 have W := (Walks.dictKeys (prog := prog) (w := w) (knd := intKind prog w) (A := A.in1) hh s.heap.objs.size d hdI kvs ep).toS
 have hSf : S ∉ [s.heap.objs.size, d] := fun hm => by
  rcases Jx.mp hm with e | e
  ·exact hSI e
  ·exact hSd (I0.mp e)
 unfold Builtin.List.listExtendWith
 refine IV (wpAny_typeOf hT ?_)
 have h1 : Builtin.List.listSameRef (.ref S) (.ref d) = false := by simp [Builtin.List.listSameRef, hSd]
 have h2 : (Value.type "dict" == Value.type "list") = false := by decide
 have h3 : (Value.type "dict" == Value.type "tuple") = false := by decide
 simp only [h1, h2, h3, Bool.or_false, Bool.false_eq_true, if_false]
 refine IV (wpAny_pyIter_dict hd hm ?_)
 refine IV (wpAny_holding (CO (hm.push _).dictOf ?_))
 refine wpAny_ite_split (fun O => ?_) (fun hab => absurd (by decide) hab)
 have hS₁ := Js { cls := .type "dict_keyiterator", data := .fields #[.ref d, .int 0 0, .int kvs.length 0, .int ep 0] } hS
 refine IV (wpAny_rule ?_)
 refine IV ?_
 show wpAny _ _ (updateSeq S (·.push .none) >>= fun O => updateSeq S (·.pop)) _ _ _
 refine IV (wpAny_updateSeq hS₁ rfl ?_)
 have hS₂ := Heap.get?_update_self (Obj.mapSeq (·.push Value.none)) hS₁ rfl
 refine wpAny_updateSeq (hz := by seq_fits) hS₂ rfl ?_
 have hS₃ := Heap.get?_update_self (Obj.mapSeq (·.pop)) hS₂ rfl
 have oth : ∀ b o, b ≠ S -> s.heap.get? b = some o -> (((s.heap.push { cls := .type "dict_keyiterator", data := .fields #[.ref d, .int 0 0, .int kvs.length 0, .int ep 0] }).update S (Obj.mapSeq (·.push Value.none))).update S (Obj.mapSeq (·.pop))).get? b = some o :=
  fun b o hb e => (Heap.get?_update_other _ _ (Ne.symm hb)).trans ((Heap.get?_update_other _ _ (Ne.symm hb)).trans (Js _ e))
 have hsz := cP
 refine I8 ⟨plainId_quiet F.plain_extend_loop _, ?_⟩
 refine codeAny_extend_loopS W (ay 0x111ab1b91a912 hlen hsz) S hSf res kvs.length 0 _ #[] _ rfl (Nat.zero_le _) ⟨⟨_, (Heap.get?_update_other _ _ hSI).trans ((Heap.get?_update_other _ _ hSI).trans (JE _ rfl)), rfl, rfl⟩, hm.at' fun o e => oth d o (Ne.symm hSd) e⟩ hS₃ (ItemsOf.nil _) fun s' acc' c' hmv hS' hacc => ?_
 rw [Moved.eq_with hmv]
 refine hR s'.heap s'.toks acc' c' (fun b o hb e => hmv.heap b o (fun hmem => ?_) (oth b o hb e)) hS' hacc
 rcases Jx.mp hmem with e' | hmem
 ·exact hb e'
 ·exact absurd (Heap.lt_size e) (by rw [I0.mp hmem]; exact Nat.lt_irrefl _)
theorem CP {R : Result -> Shared -> Prop} {ep : Nat} (hh : A.handled = none) (hd : (d == sysModules) = false) (hm : s.heap.DictAt (intKind prog w) d kvs ep) (hlen : kvs.length <= aM) (S : Addr) (hS : s.heap.get? S = some { cls := .type "list", data := .seq #[] })
  (hR : ∀ h' tk acc' c', (∀ b o, b ≠ S -> s.heap.get? b = some o -> h'.get? b = some o) -> h'.get? S = some { cls := .type "list", dict := none, data := .seq acc' c', slots := #[] } ->
   ItemsOf (fun i v => ∃ k x, kvs[i]? = some (k, x) /\ (intKind prog w).is k v = true) acc' kvs.length -> R (.ok (.ret .none)) { s with heap := h', toks := tk }) :
  wpAny (model prog w) A.in1 (Builtin.«list.__init__» ⟨[.ref S, .ref d], []⟩)
   (fun fin s' => match fin with | .done f => R (.ok f) s' | .again c' => c'.quiet = true /\ codeAny (model prog w) A c' R s') (fun e s' => R (.error e) s') s := by
 have hSd : d ≠ S := fun e => by
  obtain ⟨o, es, ho, _, hd, _⟩ := hm
  rw [e, hS] at ho; cases ho; cases hd
 show wpAny _ _ (do let old <- Builtin.List.listItems (.ref S); Builtin.List.listUpdate (.ref S) (fun O => #[]); letGo old.toList.reverse; Builtin.List.listExtendWith (.ref S) (.ref d) .none) _ _ s
 refine IV ?_
 unfold Builtin.List.listItems
 refine IV (wpAny_seqItems hS rfl (I8 ?_))
 show wpAny _ _ (updateSeq S (fun O => #[]) >>= fun O => letGo (#[] : Array Value).toList.reverse >>= fun O => Builtin.List.listExtendWith (.ref S) (.ref d) .none) _ _ s
 refine IV (wpAny_updateSeq hS rfl ?_)
 have hS₂ := Heap.get?_update_self (Obj.mapSeq (fun O => (#[] : Array Value))) hS rfl
 have oth : ∀ b o, b ≠ S -> s.heap.get? b = some o -> (s.heap.update S (Obj.mapSeq (fun O => (#[] : Array Value)))).get? b = some o :=
  fun b o hb e => (Heap.get?_update_other _ _ (Ne.symm hb)).trans e
 refine IV (wpAny_letGo ?_)
 refine u4 hh hd (hm.at' fun o e => oth d o hSd e) hlen S .none _ hS₂ fun h' tk acc' c' hk hS' hacc => ?_
 exact hR h' tk acc' c' (fun b o hb e => hk b o hb (oth b o hb e)) hS' hacc
theorem CQ {R : Result -> Shared -> Prop} {ep : Nat} (hh : A.handled = none) (hd : (d == sysModules) = false) (hm : s.heap.DictAt (intKind prog w) d kvs ep) (hlen : kvs.length <= aM) (S : Addr) (hS : s.heap.get? S = some { cls := .type "list", dict := none, data := .seq #[] 0, slots := #[] })
  (hR : ∀ h' tk acc' c', (∀ b o, b ≠ S -> s.heap.get? b = some o -> h'.get? b = some o) -> h'.get? S = some { cls := .type "list", dict := none, data := .seq acc' c', slots := #[] } ->
   ItemsOf (fun i v => ∃ k x, kvs[i]? = some (k, x) /\ (intKind prog w).is k v = true) acc' kvs.length -> R (.ok (.ret (.ref S))) { s with heap := h', toks := tk }) : codeAny (model prog w) A (.builtin "list.__iadd__" ⟨[.ref S, .ref d], []⟩) R s := by
 refine codeAny_builtin entry_list_iadd' ?_
 rw [Around.under_plainId (show plainId "list.__iadd__" = true by decide +kernel) _]
 exact u4 hh hd hm hlen S (.ref S) 0 hS hR
theorem CR {ep : Nat} {Q : List Value -> Shared -> Prop} (hh : A.handled = none) (hd : (d == sysModules) = false) (hm : s.heap.DictAt (intKind prog w) d kvs ep) (hlen : kvs.length <= aM)
  (hQ : ∀ h' tk acc', (∀ b o, s.heap.get? b = some o -> h'.get? b = some o) -> ItemsOf (fun i v => ∃ k x, kvs[i]? = some (k, x) /\ (intKind prog w).is k v = true) acc' kvs.length -> Q acc'.toList { s with heap := h', toks := tk }) :
  wpAny (model prog w) A (collect (.ref d)) Q E s := by
 unfold collect
 refine IV (wpAny_runValue (codeAny_builtin entry_proto_collect' ?_))
 show wpAny _ _ (do again (.builtin "list.__iadd__" ⟨[<- newList [], .ref d], []⟩)) _ _ s
 have hS : (s.heap.push (seqObj "list" #[] 0)).get? s.heap.objs.size = some { cls := .type "list", dict := none, data := .seq #[] 0, slots := #[] } := JE _ rfl
 refine IV (wpAny_newList (I8 ⟨Code.quiet_builtin _ (by decide +kernel), CQ hh hd (hm.push _) hlen _ hS fun h' tk acc' c' hk hS' hacc => ?_⟩))
 show wpAny (model prog w) A (do
   let o <- load s.heap.objs.size
   match o.data with
   | .seq xs _ => pure xs.toList
   | _ => unsupported "internal:collect") Q E { s with heap := h', toks := tk }
 refine IV (wpAny_load hS' ?_)
 exact I8 (hQ h' tk acc' (fun b o e => hk b o (Nat.ne_of_lt (Heap.lt_size e)) (Js _ e)) hacc)
theorem CS {Q : Value -> Shared -> Prop} {ep : Nat} (hh : A.handled = none) (hd : (d == sysModules) = false) (hm : s.heap.DictAt (intKind prog w) d kvs ep) (hlen : kvs.length <= aM)
  (hQ : ∀ h' tk acc' c', (∀ b o, s.heap.get? b = some o -> h'.get? b = some o) ->
   h'.get? s.heap.objs.size = some { cls := .type "list", dict := none, data := .seq acc' c', slots := #[] } -> ItemsOf (fun i v => ∃ k x, kvs[i]? = some (k, x) /\ (intKind prog w).is k v = true) acc' kvs.length -> Q (.ref s.heap.objs.size) { s with heap := h', toks := tk }) :
  wpAny (model prog w) A (call (.type "list") [.ref d]) Q E s := by
 refine callType_codes (Q₁ := fun obj s₁ => obj = .ref s.heap.objs.size /\ s₁ = { s with heap := s.heap.push { cls := .type "list", data := .seq #[] } }) F.called_list (F.typeCall_list_1 _) F.entry_list_init
  (code_list_new _ ⟨rfl, rfl⟩) fun obj s₁ h₁ => ?_
 obtain ⟨rfl, rfl⟩ := h₁
 have hS : (s.heap.push { cls := .type "list", data := .seq #[] }).get? s.heap.objs.size = some { cls := .type "list", data := .seq #[] } := JE _ rfl
 refine ⟨⟨_, hS, rfl⟩, F.args_list_init_2 _ _, CP (A := A.in1) hh hd (hm.push _) hlen _ hS fun h' tk acc' c' hk hS' hacc => ?_⟩
 exact ⟨rfl, hQ h' tk acc' c' (fun b o e => hk b o (Nat.ne_of_lt (Heap.lt_size e)) (Js _ e)) hS' hacc⟩
end
section
variable {c : Cx} {H : HP} {A : Around} {g : G c H} {v : AV} {cv : Value} {m : Bool}
theorem CvL.keys {ω : Wd} {es : List AV} {kvs : List (Int × Value)} (r : DRel es kvs) : ∀ {vs : List Value}, vs.length = kvs.length -> (∀ (i : Nat) v, vs[i]? = some v -> ∃ k x, kvs[i]? = some (k, x) /\ Value.isInt k v = true) -> CvL ω (es.map iA) vs := by
 induction r with
 | nil => intro vs hl _; cases vs with
  | nil => exact .nil
  | cons _ _ => exact nomatch hl
 | cons _ _ ih =>
  intro vs hl hv
  cases vs with
  | nil => exact nomatch hl
  | cons u us =>
   obtain ⟨k', x, e1, e2⟩ := hv 0 u rfl
   cases e1
   obtain ⟨t, rfl⟩ := Value.isInt_shape e2
   exact .cons (.int _ _) (ih (Nat.succ.inj hl) fun i v e => hv (i + 1) v e)
theorem CT {k : Nat} {b : AV} (e : uh H k = some v) (hh : A.handled = none) (C : Cv g.ω b cv) (hd : dA b = some k) : bw m A (call (.type "list") [cv]) g H v := by
 refine mpV e fun es he => Cv.asDct (P := fun cv => bw m A (call (.type "list") [cv]) g H _) C hd fun p hp Q E k => ?_
 obtain ⟨o, ho, hl, hm, kvs, r, D⟩ := g.dcl hp he
 obtain ⟨ep, D⟩ := (D c.prog c.w g.h ho).dictAt
 refine CS (s := g.s) hh hm D (by rw [r.len]; exact hl) fun h' tk acc c' hk hD hacc => K.new (v := .list (es.map iA)) k tk hk (dv _) hD (.mk acc.toList c' (by rw [IZ]; exact hl) ?_) rfl rfl
 exact CvL.keys r hacc.1 fun j v hj => hacc.2 j v (by simpa using hj)
theorem CU (hh : A.handled = none) {a : AV} (e : jC H a = some v) (C : Cv g.ω a cv) : bw m A (call (.builtin "sorted") [cv]) g H v := by
 unfold jC at e
 cases h : dA a with
 | some k =>
  rw [h] at e
  refine bd e fun es he e => bd e fun ns hns e => u3 hns e fun R E q => ?_
  refine Cv.asDct (P := fun cv => wpAny (model c.prog c.w) A.in1 (collect cv) R E g.s) C h fun p hp => ?_
  obtain ⟨o, ho, hl', hm, kvs, r, D⟩ := g.dcl hp he
  obtain ⟨ep, D⟩ := (D c.prog c.w g.h ho).dictAt
  exact CR (A := A.in1) (s := g.s) hh hm D (by rw [r.len]; exact hl') fun h' tk acc hk hacc => q _ (g.ks tk hk) G.ks_le (CvL.keys r hacc.1 fun j v hj => hacc.2 j v (by simpa using hj))
 | none => rw [h] at e; exact bd e fun xs hx e => bd e fun ns hns e => u3 hns e (CN hx C)
end
end Mine.Internal
namespace Mine.Internal
open PySem PyProof.Rows
noncomputable def iR : BF -> Value
 | .len => .builtin "len"
 | .range => .type "range"
 | .list => .type "list"
 | .tuple => .type "tuple"
 | .all => .builtin "all"
 | .int => .type "int"
 | .sum => .builtin "sum"
 | .sorted => .builtin "sorted"
section
variable {c : Cx} {H : HP} {A : Around} {g : G c H} {a v : AV} {cv : Value} {m : Bool}
theorem CvL.bools {ω : Wd} {xs : List AV} {vs : List Value} (q : CvL ω xs vs) : ∀ {bs : List Bool}, fT xs = some bs -> vs = bs.map .bool := by
 induction q with
 | nil => intro bs e; exact someV e rfl
 | cons C _ ih =>
  intro bs e
  refine bd e fun b hb e => mpV e fun l hl => ?_
  rw [ih hl]
  exact Cv.bool_el (asBool_el (P := fun a => Cv ω a _ -> Cv ω (.bool b) _) hb id C) rfl
theorem gI {args : List AV} {cs : List Value} {k : AV -> Option AV} {P : List Value -> Prop} (e : one args k = some v) (C : CvL g.ω args cs) (h : ∀ a c, Cv g.ω a c -> k a = some v -> P [c]) : P cs := by
 unfold one at e
 split at e
 ·exact C.cons_el fun c r q C => C.nil_el (h _ c q e)
 ·exact aJ rfl e
theorem u5 {n : Nat} (h : n <= aM) : (n : Int) < 2 ^ 63 := by unfold aM at h; lia
theorem CV (e : bI H a = some v) (C : Cv g.ω a cv) : bw m A (call (.builtin "len") [cv]) g H v := by
 refine mpV e fun xs hx => g.items C hx fun T p vs n hT hg hl r Q E k => ?_
 have hv : vs.toArray.size = xs.length := Jz.trans r.length
 have hs : (vs.toArray.size : Int) < 2 ^ 63 := hv ▸ u5 hl
 have q := K.here k (g.tk + 1 + 1) (.int (xs.length : Int) (g.tk + 1))
 rw [<- hv] at q
 rcases hT with rfl | rfl
 ·exact len_list (s := g.s) (items := vs.toArray) ⟨_, hg, rfl, n, rfl⟩ hs q
 ·exact len_tuple (s := g.s) ⟨_, hg, rfl, _, rfl⟩ hs q
theorem u6 (a b : Int) : Builtin.Range.rangeSize a b 1 = ((b - a).toNat : Int) := by
 rw [rangeSize_one]
 split <;> lia
theorem CvL.range {ω : Wd} : ∀ (vs : List Value) (a : Int) (n : Nat), vs.length = n -> (∀ (j : Nat) v, vs[j]? = some v -> ∃ t, v = .int (a + j) t) -> CvL ω ((List.range n).map fun (i : Nat) => AV.int (a + (i : Int))) vs
 | [], a, n, hn, _ => by cases hn; exact .nil
 | v :: vs, a, n, hn, hv => by
  cases hn
  rw [Jl, List.range_succ_eq_map, List.map_cons, List.map_map]
  obtain ⟨t, rfl⟩ := hv 0 v rfl
  refine .cons (.int _ _) ?_
  have e2 : ∀ i : Nat, a + ((i + 1 : Nat) : Int) = a + 1 + (i : Int) := fun i => by rw [Int.natCast_add, Int.add_comm (i : Int), <- Int.add_assoc]; rfl
  have := CvL.range (ω := ω) vs (a + 1) vs.length rfl fun j u hj => by
   obtain ⟨t, e⟩ := hv (j + 1) u hj
   exact ⟨t, by rw [e, e2]⟩
  rw [show ((fun (i : Nat) => AV.int (a + (i : Int))) ∘ Nat.succ) = fun (i : Nat) => AV.int (a + 1 + (i : Int)) from funext fun i => congrArg AV.int (e2 i)]
  exact this
theorem G.rng (g : G c H) {lo hi : Int} {P : Value -> Prop} (C : Cv g.ω (.range lo hi) cv) (k : ∀ a t u w, g.ω a = some (.range lo hi) -> IsRange g.h a lo hi 1 t u w -> bA lo = true -> bA hi = true -> P (.ref a)) : P cv :=
 Cv.at_el rfl C fun a ha => by
  obtain ⟨o, e, s1, s2, t, u, w, rfl⟩ := g.inv.obj a _ ha
  exact k a t u w ha e s1 s2
theorem CW {lo hi : Int} (e : jA lo hi = some v) (hh : A.handled = none) (C : Cv g.ω (.range lo hi) cv) : bw m A (call (.type "list") [cv]) g H v := by
 refine ifV e fun hl => g.rng (P := fun cv => bw m A (call (.type "list") [cv]) g H _) C fun p t u w O hr s1 s2 Q E k => ?_
 have b1 := iQ s1
 have b2 := iQ s2
 have hlen := hl
 rw [bH, IZ, List.length_range] at hlen
 refine call_list_range (s := g.s) hh hr (small_one (bj 4741310865 b1.1) (bj 4741310881 b1.2) (bj 4741310865 b2.1) (bj 4741310881 b2.2)) (u6 _ _) (by unfold aM at hlen; lia) fun h' tk acc c' hk hD hacc => K.new (v := .list (bH lo hi)) k tk hk (dv _) hD (.mk acc.toList c' hl ?_) rfl rfl
 refine CvL.range acc.toList _ _ hacc.1 fun j v hj => ?_
 obtain ⟨t, e⟩ := hacc.2 j v (by simpa using hj)
 exact ⟨t, by rw [e, Int.mul_one]⟩
theorem CX (e : (bY H a).map AV.list = some v) (C : Cv g.ω a cv) : bw m A (call (.type "list") [cv]) g H v := by
 refine mpV e fun xs hx => g.items C hx fun T p vs n hT hg hl r Q E k => ?_
 exact call_list_seq (s := g.s) p hT hg rfl rfl (fun h' c' hk hD => K.new (v := .list xs) k g.tk hk (dv _) hD (.mk vs c' hl r) rfl rfl) (by rw [Jz, r.length]; exact Je hl cP)
theorem CY (e : pA H a = some v) (hh : A.handled = none) (C : Cv g.ω a cv) : bw m A (call (.type "list") [cv]) g H v := by
 unfold pA at e
 cases h1 : fR? a with
 | some p => rw [h1] at e; exact CW e hh (rngO_el (P := fun a => Cv g.ω a cv -> Cv g.ω (.range p.1 p.2) cv) h1 id C)
 | none =>
  rw [h1] at e
  cases h2 : dA a with
  | some d => rw [h2] at e; exact CT e hh C h2
  | none => rw [h2] at e; exact CX e C
theorem CZ (e : ui H a = some v) (C : Cv g.ω a cv) : bw m A (call (.type "tuple") [cv]) g H v := by
 refine mpV e fun xs hx => g.seq C hx fun p vs n hg hl r Q E k => ?_
 refine call_tuple_list (s := g.s) (items := vs.toArray) ⟨_, hg, rfl, n, rfl⟩ (fun h' hk => ?_) (by rw [Jz, r.length]; exact Je hl cP)
 exact K.newTup (g := g.ks g.tk hk) (fun cv g' L C => k cv g' (G.ks_le.trans L) C) hl r
theorem C5 (e : uj H a = some v) (hh : A.handled = none) (C : Cv g.ω a cv) : bw m A (call (.builtin "all") [cv]) g H v := by
 refine bd e fun xs hx e => mpV e fun bs hb => g.seq C hx fun p vs n hg hl r Q E k => ?_
 obtain rfl := r.bools hb
 have hL : g.h.IsList p (bs.map Value.bool).toArray := ⟨_, hg, rfl, n, rfl⟩
 have hne : p ≠ g.h.objs.size := Nat.ne_of_lt (Heap.lt_size hg)
 refine call_all_walk (s := g.s) (wpAny_pyIter_list hL ⟨_, _, _, _, _, _, fun i => bs.getD i true, rfl, Walks.list (A := A.in1) hh g.h.objs.size p hne (bs.map Value.bool).toArray, ⟨⟨_, JE _ rfl, rfl, rfl⟩, hL.push _⟩, ?_, fun h' tk hk => ?_⟩)
 ·intro i v s' Q' E' hP hq
  have hP' : (bs.map Value.bool)[i]? = some v := List.getElem?_toArray.symm.trans hP
  rw [JC] at hP'
  refine mpV hP' fun b e1 => wpAny_truthy_bool ?_
  simpa [List.getD, e1] using hq
 ·have e : ((List.range (bs.map Value.bool).toArray.size).all fun i => bs.getD i true) = bs.all id := by
   rw [Jz, IZ, Bool.eq_iff_iff, List.all_eq_true, List.all_eq_true]
   refine ⟨fun h b hb => ?_, fun h i hi => ?_⟩
   ·obtain ⟨i, hi, e⟩ := List.mem_iff_getElem.mp hb
    have := h i (List.mem_range.mpr hi)
    simpa [List.getD, hi, e] using this
   ·have hi' := List.mem_range.mp hi
    simpa [List.getD, hi'] using h _ (List.getElem_mem hi')
  rw [e]
  exact k (.bool _) (g.ks tk fun b o eb => hk b o (by rw [I0]; exact Nat.ne_of_lt (Heap.lt_size eb)) (Js _ eb)) G.ks_le (.bool _)
theorem u7 {lo hi : Int} {t u w : Tok} {Q : Value -> Shared -> Prop} {tk : Nat} (k : K g H (.range lo hi) Q) (s1 : bA lo = true) (s2 : bA hi = true) : Q (.ref g.h.objs.size) { g.s with heap := g.h.push (fR lo hi t u w), toks := tk } :=
 K.new (m := false) (v := .range lo hi) k tk (fun O O e => Js _ e) (dv _) (JE _ rfl) ⟨s1, s2, t, u, w, rfl⟩ rfl rfl
theorem C6 (e : uf a = some v) (C : Cv g.ω a cv) : bw m A (call (.type "range") [cv]) g H v :=
 bd e fun b hb e => ifV e fun hs => C.asInt hb fun t Q E k => call_range_1 (s := g.s) (u7 k (by decide) hs)
theorem C7 {b : AV} {cb : Value} (e : ug a b = some v) (Ca : Cv g.ω a cv) (Cb : Cv g.ω b cb) : bw m A (call (.type "range") [cv, cb]) g H v :=
 ints2_el e Ca Cb fun x y t u e => ifV e fun hs Q E k => call_range_2 (s := g.s) (u7 k (I4.mp hs).1 (I4.mp hs).2)
theorem C8 (e : uk a = some v) (C : Cv g.ω a cv) : bw m A (call (.type "int") [cv]) g H v :=
 mpV e fun b hb => Cv.bool_el (asBool_el (P := fun a => Cv g.ω a cv -> Cv g.ω (.bool b) cv) hb id C) fun Q E k => call_int_bool (s := g.s) (K.here k (g.tk + 1) (.int _ _))
theorem C9 {f : BF} {args : List AV} {cs : List Value} (hh : A.handled = none) (e : c7 f args H = some v) (C : CvL g.ω args cs) : bw m A (call (iR f) cs) g H v := by
 cases f with
 | len => exact gI (P := fun cs => bw m A (call (.builtin "len") cs) g H v) e C fun a c q e => CV e q
 | range =>
  replace e : pz args = some v := e
  unfold pz at e
  split at e
  ·exact C.cons_el fun c1 r q1 C => C.cons_el fun c2 r q2 C => C.nil_el (C7 e q1 q2)
  ·exact gI (P := fun cs => bw m A (call (.type "range") cs) g H v) e C fun a c q e => C6 e q
 | list => exact gI (P := fun cs => bw m A (call (.type "list") cs) g H v) e C fun a c q e => CY e hh q
 | tuple => exact gI (P := fun cs => bw m A (call (.type "tuple") cs) g H v) e C fun a c q e => CZ e q
 | all => exact gI (P := fun cs => bw m A (call (.builtin "all") cs) g H v) e C fun a c q e => C5 e hh q
 | int => exact gI (P := fun cs => bw m A (call (.type "int") cs) g H v) e C fun a c q e => C8 e q
 | sum => exact CM e hh C
 | sorted => exact gI (P := fun cs => bw m A (call (.builtin "sorted") cs) g H v) e C fun a c q e => CU hh e q
end
end Mine.Internal
namespace Mine.Internal
open PySem PyProof.Rows
noncomputable def gJ : LM -> String
 | .append => "list.append"
 | .insert => "list.insert"
 | .extend => "list.extend"
 | .pop => "list.pop"
 | .index => "list.index"
section
variable {c : Cx} {H : HP} {A : Around} {g : G c H}
theorem K.upd {k : Nat} {a : Addr} {vs : List Value} {n : Nat} {f : Array Value -> Array Value} {ys : List AV} {v : AV} {cv : Value} {Q : Value -> Shared -> Prop} (hk : g.ω a = some (.ref k)) (hlt : k < H.length) (hg : g.h.get? a = some (bB "list" vs n)) (kk : K g (bF H k ys) v Q) (hl : ys.length <= aM)
  (r : CvL g.ω ys (f vs.toArray).toList) (q : Cv g.ω v cv) : Q cv { g.s with heap := g.h.update a (Obj.mapSeq f) } := by
 have hg' : ∃ m, (g.h.update a (Obj.mapSeq f)).get? a = some (bB "list" (f vs.toArray).toList m) := by
  rw [Heap.get?_update_self (Obj.mapSeq f) hg rfl]
  exact ⟨_, rfl⟩
 obtain ⟨m, hg'⟩ := hg'
 exact kk cv (g.put g.tk hk rfl (fun b o hb e => (Heap.get?_update_other _ _ (Ne.symm hb)).trans e) hg' ⟨ys, JD hlt, _, _, hl, r⟩) (Le.put fun O h O => aJ rfl h) q
theorem CvL.reverse {ω : Wd} {xs : List AV} {vs : List Value} (r : CvL ω xs vs) : CvL ω xs.reverse vs.reverse :=
 CvL.rec (motive := fun xs vs O => CvL ω xs.reverse vs.reverse) .nil (fun C O ih => by rw [List.reverse_cons, List.reverse_cons]; exact ih.append (.cons C .nil)) r
theorem G.klt (g : G c H) {k : Nat} {a : Addr} (hk : g.ω a = some (.ref k)) : k < H.length := let ⟨_, _, ob⟩ := g.inv.obj a _ hk; Ob.lt (v := .ref k) ob rfl
section
variable {k : Nat} {a : Addr} {xs : List AV} {cs : List Value} {u : AV} {ys : List AV}
theorem u8 {i : Int} {ts : List Value} (hk : g.ω a = some (.ref k)) (hx : H[k]? = some xs) (e : gC xs i = some (u, ys)) (hts : ts = [] /\ i = -1 ∨ ∃ t, ts = [.int i t]) : Op A (call (.builtin "list.pop") (.ref a :: ts)) g (bF H k ys) u := by
 refine g.sq (g.cel hk hx) fun vs n hg hl r => bd e fun j hj e => bd e fun u' hu e => ?_
 cases e
 intro Q E kk
 have hT : g.s.TypeIs (.ref a) "list" := ⟨_, hg, rfl⟩
 obtain ⟨q1, q2, q3, q4⟩ := uX hj
 obtain ⟨z, hz, cz⟩ := r.get hu
 have hv : vs.toArray.size = xs.length := Jz.trans r.length
 have hz' : vs.toArray[j]? = some z := List.getElem?_toArray.trans hz
 have fin : Q z { g.s with heap := g.h.update a (Obj.mapSeq (·.eraseIdxIfInBounds j)) } := by
  refine K.upd hk (g.klt hk) hg kk (Je (List.length_eraseIdx_le _ _) hl) ?_ cz
  have e : (vs.toArray.eraseIdxIfInBounds j).toList = vs.eraseIdx j := by
   simp [Array.eraseIdxIfInBounds, r.length, q2]
  rw [e]; exact r.eraseIdx j
 have hsl : vs.toArray.size <= sizeLine := hv ▸ Je hl cP
 rcases hts with ⟨rfl, rfl⟩ | ⟨t, rfl⟩
 ·have hj' : j = vs.toArray.size - 1 := by have := q4 (by decide); exact a7 0x109111109101c11a33d5b5110143911a3c1d93bc3b92a936 q2 hv this.2 (I6 (IO _)) (Ju _) (I1 (ay 0x911b93ba291112 q2 hv))
  subst hj'
  exact call_meets F.slot_list_pop hT F.entry_list_pop (F.args_list_pop_1 _) (MeetsSeq.list_pop_last a vs.toArray n z hz' hsl) ⟨hg, fin⟩
 ·refine call_meets F.slot_list_pop hT F.entry_list_pop (F.args_list_pop_2 _ _) (MeetsSeq.list_pop_at a vs.toArray n _ _ j z ?_ (hv.symm ▸ q1) hz' hsl) ⟨hg, fin⟩
  have hl : xs.length <= 1048576 := hl
  unfold Builtin.List.listFitsIndex
  rw [Bool.and_eq_true, decide_eq_true_eq, decide_eq_true_eq]
  by_cases h0 : 0 <= i
  ·have := q3 h0; lia
  ·have := q4 (aG 0x11901c019a1 h0); lia
theorem Da {m : LM} {args : List AV} (hk : g.ω a = some (.ref k)) (hx : H[k]? = some xs) (e : dX H m xs args = some (u, ys)) (C : CvL g.ω args cs) : Op A (call (.builtin (gJ m)) (.ref a :: cs)) g (bF H k ys) u := by
 cases m with
 | append =>
  match args, e, C with
  | [v], e, C =>
   refine cV e fun h2 e => ?_
   cases e
   refine C.cons_el fun cv r' q C => C.nil_el (g.sq (g.cel hk hx) fun vs n hg hl r Q E kk => ?_)
   exact call_meets F.slot_list_append ⟨_, hg, rfl⟩ F.entry_list_append (F.args_list_append_2 _ _) (list_append a vs.toArray n _ (by rw [Jz, r.length]; exact Je hl cP)) ⟨hg, K.upd hk (g.klt hk) hg kk (by rw [I2]; exact h2) (by simpa using r.append (.cons q .nil)) .none⟩
 | insert =>
  match args, e, C with
  | [i, v], e, C =>
   refine bd e fun i hi e => cV e fun hs e => ?_
   cases e
   obtain ⟨h1, h2⟩ := I4.mp hs
   cases Jr h1
   have h2 := Jr h2
   refine C.cons_el fun ci r' qi C => C.cons_el fun cv r' q C => C.nil_el (qi.asInt hi fun t => g.sq (g.cel hk hx) fun vs n hg hl r Q E kk => ?_)
   exact call_meets F.slot_list_insert ⟨_, hg, rfl⟩ F.entry_list_insert (F.args_list_insert_3 _ _ _) (AutoSeq1.list_insert_list_int_val_1 a vs.toArray n 0 _ _ (by decide) (by rw [Jz, r.length]; exact Je hl cP)) ⟨hg, K.upd hk (g.klt hk) hg kk (by rw [Jl]; exact h2) (by simpa using CvL.cons q r) .none⟩
 | extend =>
  match args, e, C with
  | [v], e, C =>
   refine bd e fun zs hz e => cV e fun h2 e => ?_
   cases e
   refine C.cons_el fun cv r' q C => C.nil_el (g.sq (g.cel hk hx) fun vs n hg hl r => g.seq q hz fun p ws m2 hg2 O r2 Q E kk => ?_)
   have hv := r.length
   have hv2 := r2.length
   have hsz := cP
   refine call_meets F.slot_list_extend ⟨_, hg, rfl⟩ F.entry_list_extend (F.args_list_extend_2 _ _) (AutoSeq1.list_extend_list_list_0 a vs.toArray n _ _ _ ?_ (by rw [Jz]; exact aN 0x1111ac1b93cb1a913 hl hv hsz) (by rw [Jz, Jz]; exact dI 0x11111be1da3c93edc3111b3a9314 h2 hv hv2 hsz)) ⟨hg, hg2, K.upd hk (g.klt hk) hg kk (by rw [I2]; exact h2) (by simpa using r.append r2) .none⟩
   simp only [List.size_toArray, hv, hv2, Builtin.List.listTooLong, Bool.and_eq_true, decide_eq_true_eq, not_and]
   intro _
   exact aN 0x1119c1cba31ba3952 h2 hsz
 | pop =>
  match args, e, C with
  | [], e, C => exact C.nil_el (u8 hk hx e (.inl ⟨rfl, rfl⟩))
  | [i], e, C => exact bd e fun i hi e => C.cons_el fun ci r' q C => C.nil_el (q.asInt hi fun t => u8 hk hx e (.inr ⟨t, rfl⟩))
 | index => exact aJ rfl e
end
theorem Db {p q w' : Str} {t1 t2 t3 : Tok} {a : Addr} {n : Nat} {u : AV} (hg : g.h.get? a = some (bB "list" [.str p t1, .str q t2] n)) (h : gD p q w' = some u) : Op A (call (.builtin "list.index") [.ref a, .str w' t3]) g H u := by
 intro Q E k
 have hT : g.s.TypeIs (.ref a) "list" := ⟨_, hg, rfl⟩
 have he : ∀ y, y ∈ [Value.str p t1, .str q t2].toArray -> MeetsSeq.EqGives y (.str w' t3) (isStrOf w' y) := fun y m => by
  simp only [List.mem_toArray, List.mem_cons, List.not_mem_nil, or_false] at m
  rcases m with rfl | rfl <;> exact eqGives_str _ _ _ _
 unfold gD at h
 by_cases e : p = w'
 ·rw [Id e] at h; cases h
  subst e
  exact call_meets F.slot_list_index hT F.entry_list_index (F.args_list_index_2 _ _) (MeetsSeq.list_index a _ n _ (isStrOf p) he 0 (by simp) (by decide) (by simp [isStrOf]) (fun m O hm => absurd hm (Nat.not_lt_zero _))) ⟨hg, K.here k _ (.int _ _)⟩
 ·rw [IU e] at h
  refine cV h fun e2 h => ?_
  cases h
  subst e2
  exact call_meets F.slot_list_index hT F.entry_list_index (F.args_list_index_2 _ _) (MeetsSeq.list_index a _ n _ (isStrOf q) he 1 (by simp) (by decide) (by simp [isStrOf]) (fun m O hm => by
   have : m = 0 := by exact az 0x1101119201931 hm
   subst this
   simp [isStrOf, e])) ⟨hg, K.here k _ (.int _ _)⟩
theorem Dd {m : LM} {v : AV} {cv : Value} {xs args : List AV} {cs : List Value} {u : AV} (C0 : Cv g.ω v cv) (hv : eZ v = some xs) (h : ur m xs args = some u) (C : CvL g.ω args cs) : Op A (call (.builtin (gJ m)) (cv :: cs)) g H u := by
 cases m with
 | index =>
  match args, h, C with
  | [b], h, C =>
   match xs, h, hv with
   | [x, y], h, hv =>
    refine bd h fun p hp h => bd h fun q hq h => bd h fun w' hw h => ?_
    refine Cv.at_el rfl (asLst_el (P := fun v => Cv g.ω v cv -> Cv g.ω (.list [x, y]) cv) hv id C0) fun a ha => g.sq (g.inv.obj a _ ha) fun vs n hg O r => ?_
    have st : ∀ {x : AV} {p : Str} {c : Value}, eG x = some p -> Cv g.ω x c -> ∃ t, c = .str p t := fun {x p c} e C => Cv.str_el (asStr_el (P := fun x => Cv g.ω x c -> Cv g.ω (.str p) c) e id C) fun t => ⟨t, rfl⟩
    refine C.cons_el fun cb r' q1 C => C.nil_el ?_
    revert hg
    refine r.cons_el fun c1 r' q2 r => r.cons_el fun c2 r' q3 r => r.nil_el fun hg => ?_
    obtain ⟨t1, rfl⟩ := st hp q2
    obtain ⟨t2, rfl⟩ := st hq q3
    obtain ⟨t3, rfl⟩ := st hw q1
    exact Db hg h
 | _ => exact aJ rfl h
end
end Mine.Internal
namespace Mine.Internal
open PySem PyProof.Rows PySem.Calls
structure EF (e : Expr) (n : Nat) : Prop where
 star : ∀ es env, starEach (e :: es) env = (false, eval e env) :: starEach es env
 set1 : ∀ op, behindInMarks op e = false
 set2 : ∀ env x, foldedSetIterable e env x = pure x
 af : uz n = true -> ∀ m env x, attributeBase e m env x = x
 idx : ∀ o k, subscripted e false o k = operate [o, k] (getItem o k)
 swap : (n == 7) = false -> ∀ t l env, swapsWith e t l env = pure false
 swA : ∀ o x q l env, swapsWith e (some (.Attribute o x q)) l env = pure false
 sole : (n == 4) = false -> (n == 7) = false -> ∀ es k q l env, swapsWithSole [.Tuple es k q] e l env = pure false /\ swappedStores [.Tuple es k q] e env = pure none
 tru : Nat.ble 11 n = false -> ∀ env, isTrue e env (eval e env) = (do let v <- eval e env; standAt e.pos; holding [v] (truthy v))
theorem u9 {e : Expr} (v : VE e) (h : (!(eJ v == 10)) = true) : EF e (eJ v) := by
 cases v <;> first
  | exact Bool.noConfusion h
  | exact ⟨fun O O => rfl, fun O => rfl, fun O O => rfl, fun h => by first | exact Bool.noConfusion h | exact fun O O O => rfl, fun O O => rfl, fun h => by first | exact Bool.noConfusion h | exact fun O O O => rfl, fun O O O O O => rfl,
    fun h h' => by first | exact Bool.noConfusion h | exact Bool.noConfusion h' | exact fun O O O O O => ⟨rfl, rfl⟩, fun h => by first | exact Bool.noConfusion h | exact fun O => rfl⟩
theorem ef {e : Expr} (h : cg e = true) : EF e (kd e) := u9 (ey e) h
theorem De {e : Expr} (v : VE e) {x : Str} {P : Expr -> Prop} (h : uw v = some x) (k : ∀ p, P (.Name x p)) : P e := by
 cases v <;> first | exact aJ rfl h | exact Option.some.inj h ▸ k _
theorem Df {e : Expr} (v : VE e) {es : List Expr} {P : Expr -> Prop} (h : ux v = some es) (k : ∀ n p, P (.Tuple es n p)) : P e := by
 cases v <;> first | exact aJ rfl h | exact Option.some.inj h ▸ k _ _
theorem lV {e : Expr} {x : Str} {P : Expr -> Prop} (h : gF e = some x) (k : ∀ p, P (.Name x p)) : P e := De (ey e) h k
theorem vb {e : Expr} {es : List Expr} {P : Expr -> Prop} (h : lL e = some es) (k : ∀ n p, P (.Tuple es n p)) : P e := Df (ey e) h k
noncomputable def Sim (c : Cx) {A : Around} {sc : Scope} (f : Fr A sc) (ρ : an) (t : Sem Value) (r : HP -> R AV) : Prop := ∀ H v H', r H = some (v, H') -> ∀ g : G c H, En f ρ g -> Op A t g H' v
noncomputable def SimF (c : Cx) {A : Around} {sc : Scope} (f : Fr A sc) (ρ : an) (t : Sem Value) (r : HP -> R AV) : Prop := ∀ H v H', r H = some (v, H') -> ∀ g : G c H, En f ρ g -> ∀ m, bw m A t g H' v
noncomputable def vc {c : Cx} {H : HP} (A : Around) (t : Sem Bool) (g : G c H) (H' : HP) (b : Bool) : Prop := ∀ (Q : Bool -> Shared -> Prop) (E : Value -> Shared -> Prop), (∀ g' : G c H', Le [] g g' -> Q b g'.s) -> wpAny (model c.prog c.w) A t Q E g.s
noncomputable def SimB (c : Cx) {A : Around} {sc : Scope} (f : Fr A sc) (ρ : an) (t : Sem Bool) (r : HP -> R Bool) : Prop := ∀ H b H', r H = some (b, H') -> ∀ g : G c H, En f ρ g -> vc A t g H' b
theorem bn {α β : Type} {r : R α} {f : α -> HP -> Option β} {x : β} {P : Prop} (h : av r f = some x) (k : ∀ a H, r = some (a, H) -> f a H = some x -> P) : P := by
 cases r with
 | none => exact aJ rfl h
 | some p => exact k p.1 p.2 rfl h
theorem lf {α β : Type} {o : Option α} {H : HP} {f : α -> HP -> Option β} {x : β} {P : Prop} (h : av (bS o H) f = some x) (k : ∀ a, o = some a -> f a H = some x -> P) : P := by
 cases o with
 | none => exact aJ rfl h
 | some a => exact k a rfl h
theorem fW {α : Type} {o : Option α} {H H' : HP} {a : α} {P : HP -> Prop} (h : bS o H = some (a, H')) (k : o = some a -> P H) : P H' := by
 cases o with
 | none => exact aJ rfl h
 | some b => cases h; exact k rfl
section
variable {c : Cx} {A : Around} {sc : Scope} {f : Fr A sc} {ρ : an}
theorem K.after {H H1 H' : HP} {g : G c H} {g1 : G c H1} {v : AV} {Q : Value -> Shared -> Prop} (k : K g H' v Q) (L : Le [] g g1) : K g1 H' v Q := fun cv g' L' C => k cv g' (L.trans L') C
theorem SimF.sim {t : Sem Value} {r : HP -> R AV} (h : SimF c f ρ t r) : Sim c f ρ t r := fun H v H' e g ok => by
 have := h H v H' e g ok false
 cases v <;> exact this
theorem Sim.none {t : Sem Value} : Sim c f ρ t fun O => none := fun O O O e => aJ rfl e
theorem SimB.none {t : Sem Bool} : SimB c f ρ t fun O => none := fun O O O e => aJ rfl e
theorem Dg {k : Const} {n : Nat} {pos : Pos} : Sim c f ρ (eval (.Constant k n pos) f.env) (bS (ud k)) := fun H v H' e g ok => by
 refine fW (P := fun H' => Op A _ g H' v) e fun e => ?_
 cases k with
 | none => exact someV e fun Q E kk O O O => K.here kk g.tk .none
 | bool b => exact someV e fun Q E kk O O O => K.here kk g.tk (.bool _)
 | int i => exact someV e fun Q E kk => wpAny_Constant_int (s := g.s) (K.here kk (g.tk + 1) (.int _ _))
 | str s => exact someV e fun Q E kk => Constant_str (s := g.s) (K.here kk (g.tk + 1) (.str _ _))
 | _ => exact aJ rfl e
theorem Dh {x : Str} {pos : Pos} (hx : dz sc x = true) : Sim c f ρ (eval (.Name x pos) f.env) (ae ρ x) := fun H v H' e g ok =>
 fW (P := fun H' => Op A _ g H' v) e fun e Q E kk => wpAny_Name (B5 ok hx e fun cv C => K.here kk g.tk C) (Bool.or_eq_false_iff.mp (uK hx)).1
theorem Di {l r : Expr} {op : Operator} {pos : Pos} {fl fr : HP -> R AV} (hl : Sim c f ρ (eval l f.env) fl) (hr : Sim c f ρ (eval r f.env) fr) : SimF c f ρ (eval (.BinOp l op r pos) f.env) (aB op fl fr) := fun H v H' e g ok m =>
 bn e fun a H1 e1 e => bn e fun b H2 e2 e => fW (P := fun H' => bw m A _ g H' v) e fun e Q E kk => wpAny_BinOp (hl H a H1 e1 g ok _ E fun ca g1 L1 Ca => hr H1 b H2 e2 g1 (ok.le L1) _ E fun cb g2 L2 Cb => Cj e (L2.cv Ca) Cb Q E (kk.after (L1.trans L2)))
theorem Dj {x : Expr} {pos : Pos} {r : HP -> R AV} (h : Sim c f ρ (eval x f.env) r) : Sim c f ρ (eval (.UnaryOp .Not x pos) f.env) (fun H => ut (r H)) := fun H v H' e g ok => by
 refine bn e fun a H1 e1 e => lf e fun b e2 e => ?_
 cases e
 intro Q E kk
 show wpAny _ _ (do let v <- eval x f.env; standAt pos; holding [v] (unaryOp .Not v)) _ _ _
 refine IV (h H a _ e1 g ok _ E fun ca g1 L1 Ca => IV (wpAny_standAt (wpAny_holding ?_)))
 refine Cv.bool_el (asBool_el (P := fun a => Cv g1.ω a ca -> Cv g1.ω (.bool b) ca) e2 id Ca) ?_
 unfold unaryOp
 exact IV (wpAny_truthy_bool (I8 (kk _ g1 L1 (.bool _))))
theorem Dk {x : Expr} {pos : Pos} {r : HP -> R AV} (h : Sim c f ρ (eval x f.env) r) : Sim c f ρ (eval (.UnaryOp .USub x pos) f.env) (fun H => fU (r H)) := fun H v H' e g ok => by
 refine bn e fun a H1 e1 e => fW (P := fun H' => Op A _ g H' v) e fun e => mpV e fun i hi Q E kk => ?_
 show wpAny _ _ (do let v <- eval x f.env; standAt pos; holding [v] (unaryOp .USub v)) _ _ _
 exact IV (h H a H1 e1 g ok _ E fun ca g1 L1 Ca => IV (wpAny_standAt (wpAny_holding (Ca.asInt hi fun t => PySem.P.neg_int (s := g1.s) (K.here (kk.after L1) _ (.int _ _))))))
noncomputable def Dl {H : HP} (A : Around) (t : Sem (List Value)) (g : G c H) (H' : HP) (vs : List AV) : Prop := ∀ (Q : List Value -> Shared -> Prop) (E : Value -> Shared -> Prop), (∀ cs (g' : G c H'), Le [] g g' -> CvL g'.ω vs cs -> Q cs g'.s) -> wpAny (model c.prog c.w) A t Q E g.s
noncomputable def b4 (c : Cx) {A : Around} {sc : Scope} (f : Fr A sc) (ρ : an) (ev : Expr -> HP -> R AV) : Prop := ∀ e, Sim c f ρ (eval e f.env) (ev e) /\ ((∃ H x, ev e H = some x) -> cg e = true)
theorem jK {ev : Expr -> HP -> R AV} {pos : Pos} (hs : b4 c f ρ ev) : ∀ {es : List Expr} {H H' : HP} {vs : List AV}, bo (es.map ev) H = some (vs, H') -> ∀ {g : G c H}, En f ρ g -> Dl A (spliced (backTo pos (starEach es f.env))) g H' vs
 | [], _, _, _, e, g, ok => by
  cases e
  exact fun Q E k => args_nil (k [] g .refl .nil)
 | x :: es, H, H', vs, e, g, ok => bn e fun v H1 e1 e => bn e fun us H2 e2 e => by
  cases e
  exact fun Q E k => args_cons ((hs x).1 H v H1 e1 g ok _ E fun cv g1 L1 C1 => jK hs e2 (ok.le L1) _ E fun cs g2 L2 C2 => k _ g2 (L1.trans L2) (.cons (L2.cv C1) C2)) ((ef ((hs x).2 ⟨H, _, e1⟩)).star es f.env)
theorem pU {ev : Expr -> HP -> R AV} : ∀ {es : List Expr} {H H' : HP} {vs : List AV}, bo (es.map ev) H = some (vs, H') -> vs.length = es.length
 | [], H, H', vs, e => by cases e; rfl
 | f :: fs, H, H', vs, e => bn e fun v H1 e1 e => bn e fun us H2 e2 e => by
  cases e
  exact congrArg Nat.succ (pU e2)
theorem Dm {ev : Expr -> HP -> R AV} {es : List Expr} {pos : Pos} (hs : b4 c f ρ ev) : SimF c f ρ (eval (.List es pos) f.env) (a8 (es.map ev)) := fun H v H' e g ok m => by
 refine cV e fun hl e => bn e fun vs H1 e1 e => ?_
 cases e
 rw [IZ, <- pU e1] at hl
 exact fun Q E k => List_ (jK hs e1 ok _ E fun cs g1 L1 C1 => wpAny_newObj_type (K.newSeq (n := 0) (tk := g1.tk) (k.after L1) hl C1) (by show cs.toArray.size <= sizeLine; rw [Jz, C1.length]; exact Je hl cP))
theorem Do {ev : Expr -> HP -> R AV} {es : List Expr} {n : Nat} {pos : Pos} (hs : b4 c f ρ ev) : Sim c f ρ (eval (.Tuple es n pos) f.env) (aT (es.map ev)) := fun H v H' e g ok => by
 refine cV e fun hl e => bn e fun vs H1 e1 e => ?_
 cases e
 rw [IZ, <- pU e1] at hl
 exact fun Q E k => Tuple_ (jK hs e1 ok _ E fun cs g1 L1 C1 => wpAny_newObj_type (K.newTup (n := 0) (tk := g1.tk) (k.after L1) hl C1) (by show cs.toArray.size <= sizeLine; rw [Jz, C1.length]; exact Je hl cP))
theorem G.itemT {H : HP} (g : G c H) {o : AV} {co : Value} {xs : List AV} (C : Cv g.ω o co) (e : bY H o = some xs) : ∃ T id, g.s.TypeIs co T /\ typeLookup (.type T) "__getitem__" = pure (some (.builtin id)) :=
 g.items C e fun T p vs n hT hg O O => hT.elim (fun q => by subst q; exact ⟨"list", _, ⟨_, hg, rfl⟩, slot_list_getitem.lookup⟩) fun q => by subst q; exact ⟨"tuple", _, ⟨_, hg, rfl⟩, slot_tuple_getitem.lookup⟩
theorem Dp {o i : Expr} {pos : Pos} {fo fi : HP -> R AV} (hi : cg i = true) (ho : Sim c f ρ (eval o f.env) fo) (hk : Sim c f ρ (eval i f.env) fi) : Sim c f ρ (eval (.Subscript o i pos) f.env) (au fo fi) := fun H v H' e g ok =>
 bn e fun a H1 e1 e => bn e fun b H2 e2 e => fW (P := fun H' => Op A _ g H' v) e fun e Q E k => by
  refine Subscript_ (ho H a H1 e1 g ok _ E fun ca g1 L1 Ca => hk H1 b H2 e2 g1 (ok.le L1) _ E fun cb g2 L2 Cb => ?_)
  refine bd e fun O O q => bd q fun xs hx O => ?_
  obtain ⟨T, id, hT, hl⟩ := g2.itemT (L2.cv Ca) hx
  exact tail_any hT hl (Cq e (L2.cv Ca) Cb Q E (k.after (L1.trans L2))) ((ef hi).idx _ _)
theorem vd {e : Option Expr} {ev : Expr -> HP -> R AV} (hs : b4 c f ρ ev) : Sim c f ρ (evalPart e f.env) (pI ev e) := by
 cases e with
 | some e => exact (hs e).1
 | none =>
  intro H v H' e g ok
  cases e
  exact fun Q E k => I8 (K.here k g.tk .none)
theorem Dq {H : HP} {g : G c H} {o v : AV} {co : Value} {lo hi : Option Int} (C : Cv g.ω o co) (e : dt H o lo hi = some v) : ∃ T id, g.s.TypeIs co T /\ typeLookup (.type T) "__getitem__" = pure (some (.builtin id)) := by
 unfold dt at e
 cases h : dq o with
 | some xs => exact g.itemT C (show bY H o = some xs by unfold bY; rw [h])
 | none => rw [h] at e; exact mpV e fun xs hx => g.itemT C (show bY H o = some xs by unfold bY; rw [h]; exact hx)
theorem Dr {o : Expr} {lo hi : Option Expr} {p pos : Pos} {fo fa fb : HP -> R AV} (ho : Sim c f ρ (eval o f.env) fo) (ha : Sim c f ρ (evalPart lo f.env) fa) (hb : Sim c f ρ (evalPart hi f.env) fb) :
  SimF c f ρ (eval (.Subscript o (.Slice lo hi none p) pos) f.env) (bX fo fa fb) := fun H v H' e g ok m => by
 refine bn e fun a H1 e1 e => bn e fun b H2 e2 e => bn e fun d H3 e3 e => lf e fun x e4 e => lf e fun y e5 e => fW (P := fun H' => bw m A _ g H' v) e fun e6 Q E k => ?_
 refine Subscript_ (ho H a H1 e1 g ok _ E fun ca g1 L1 Ca => wpAny_Slice (ha H1 b H2 e2 g1 (ok.le L1) _ E fun cb g2 L2 Cb => hb H2 d H3 e3 g2 (ok.le (L1.trans L2)) _ E fun cc g3 L3 Cc => ?_))
 rw [evalPart_none]
 refine I8 ?_
 let g4 := g3.ks (h' := g3.h.push { cls := .type "slice", data := .fields #[cb, cc, .none] }) g3.tk fun b o e => Js _ e
 have L4 : Le [] g3 g4 := G.ks_le
 have C4 : Cv g4.ω a ca := (L3.cv (L2.cv Ca))
 obtain ⟨T, id, hT, hl⟩ := Dq (g := g4) C4 e6
 exact tail_any (s := g4.s) hT hl (CB (g := g4) e6 C4 (Heap.IsSliceOf.new ..) (uY (L3.cv Cb) e4) (uY Cc e5) Q E (k.after (((L1.trans L2).trans L3).trans L4))) rfl
theorem ve {op : CmpOp} {e : Expr} {env : Env} (h : cg e = true) : markedBehindIn op e (eval e env) = eval e env := markedBehindIn_of_false ((ef h).set1 op)
theorem Ds {M : Model} {E : Value -> Shared -> Prop} {s : Shared} {vs keep : List Value} {Q : Unit -> Shared -> Prop} (h : Q () s) : wpAny M A (release vs keep) Q E s := fun Γ p hΓ => by rw [Sem.wp_release]; exact h
theorem vf {α : Type} {ev : Expr -> HP -> R AV} {pos : Pos} {left b : AV} {cl : Value} {op : CmpOp} {r : Expr} {d : Bool} {H H1 : HP} {g : G c H} {T F : Value -> Sem α} {Q : α -> Shared -> Prop} {E : Value -> Shared -> Prop} (hs : b4 c f ρ ev) (e1 : ev r H = some (b, H1)) (e2 : cO op left b H1 = some d) (ok : En f ρ g) (C : Cv g.ω left cl)
  (k : ∀ cb (g1 : G c H1), Le [] g g1 -> Cv g1.ω b cb -> wpAny (model c.prog c.w) A (if d = true then T cb else F (.bool d)) Q E g1.s) :
  wpAny (model c.prog c.w) A (do let rv <- holding [cl] (eval r f.env); standAt pos; let c <- holding [cl, rv] (compareOp op cl rv); release [cl, rv] [c]; if <- holding [c, rv] (truthy c) then T rv else F c) Q E g.s :=
 IV (wpAny_holding ((hs r).1 H b H1 e1 g ok _ E fun cb g1 L1 Cb => IV (wpAny_standAt (IV (wpAny_holding (pT f.un e2 (L1.cv C) Cb _ E fun tk => IV (Ds (IV (wpAny_holding (wpAny_truthy_bool (k cb (g1.ks tk fun O O e => e) (L1.trans G.ks_le) Cb)))))))))))
theorem vg {ev : Expr -> HP -> R AV} {pos : Pos} {left b : AV} {cl : Value} {op : CmpOp} {r : Expr} {d : Bool} {H H' : HP} {g : G c H} {Q E : Value -> Shared -> Prop} (hs : b4 c f ρ ev) (e1 : ev r H = some (b, H')) (e2 : cO op left b H' = some d) (ok : En f ρ g) (C : Cv g.ω left cl) (k : ∀ g' : G c H', Le [] g g' -> Q (.bool d) g'.s) :
  wpAny (model c.prog c.w) A (do let rv <- holding [cl] (markedBehindIn op r (eval r f.env)); standAt pos; operate [cl, rv] (compareOp op cl rv)) Q E g.s := by
 rw [ve ((hs r).2 ⟨H, _, e1⟩)]
 exact IV (wpAny_holding ((hs r).1 H b H' e1 g ok _ E fun cb g2 L2 Cb => IV (wpAny_standAt (wpAny_operating (pT f.un e2 (L2.cv C) Cb Q E fun tk => k (g2.ks tk fun O O e => e) (L2.trans G.ks_le))))))
theorem Dt {l r : Expr} {op : CmpOp} {pos : Pos} {fl : HP -> R AV} {ev : Expr -> HP -> R AV} (hl : Sim c f ρ (eval l f.env) fl) (hs : b4 c f ρ ev) : Sim c f ρ (eval (.Compare l [op] [r] pos) f.env) (fun H => av (fl H) fun a H => aH a [op] [ev r] H) := fun H v H' e g ok =>
 bn e fun a H1 e1 e => bn e fun b H2 e2 e => lf e fun d e3 e => by
  cases e
  exact fun Q E k => IV (hl H a H1 e1 g ok _ E fun ca g1 L1 Ca => vg (pos := pos) hs e2 e3 (ok.le L1) Ca fun g2 L2 => K.here (k.after (L1.trans L2)) g2.tk (.bool _))
theorem Du {l r r' : Expr} {op op' : CmpOp} {pos : Pos} {fl : HP -> R AV} {ev : Expr -> HP -> R AV} (hl : Sim c f ρ (eval l f.env) fl) (hs : b4 c f ρ ev) : Sim c f ρ (eval (.Compare l [op, op'] [r, r'] pos) f.env) (fun H => av (fl H) fun a H => eu a [op, op'] [ev r, ev r'] H) := fun H v H' e g ok => by
 refine bn e fun a H1 e1 e => bn e fun b H2 e2 e => lf e fun d e3 e => fun Q E k => ?_
 refine IV (hl H a H1 e1 g ok _ E fun ca g1 L1 Ca => ?_)
 refine vf (pos := pos) (T := fun rv => compareChain pos rv [op'] [markedBehindIn op' r' (eval r' f.env)]) (F := pure) hs e2 e3 (ok.le L1) Ca fun cb g2 L2 Cb => ?_
 cases d with
 | true =>
  refine bn e fun b' H3 e4 e => lf e fun d' e5 e => ?_
  cases e
  exact vg (pos := pos) hs e4 e5 (ok.le (L1.trans L2)) Cb fun g3 L3 => K.here (k.after ((L1.trans L2).trans L3)) g3.tk (.bool _)
 | false => cases e; exact I8 (K.here (k.after (L1.trans L2)) g2.tk (.bool _))
theorem vh {ev : Expr -> HP -> R AV} {pos : Pos} {left b : AV} {cl : Value} {op : CmpOp} {r : Expr} {d : Bool} {H H' : HP} {g : G c H} (hs : b4 c f ρ ev) (e1 : ev r H = some (b, H')) (e2 : cO op left b H' = some d) (ok : En f ρ g) (C : Cv g.ω left cl) : vc A (testChain pos cl [op] [markedBehindIn op r (eval r f.env)]) g H' d := by
 intro Q E k
 show wpAny _ _ (do let rv <- holding [cl] (markedBehindIn op r (eval r f.env)); standAt pos; let c <- operate [cl, rv] (compareOp op cl rv); holding [c] (truthy c)) _ _ _
 rw [ve ((hs r).2 ⟨H, _, e1⟩)]
 exact IV (wpAny_holding ((hs r).1 H b H' e1 g ok _ E fun cb g2 L2 Cb => IV (wpAny_standAt (IV (wpAny_operating (pT f.un e2 (L2.cv C) Cb _ E fun tk => wpAny_holding (wpAny_truthy_bool (k (g2.ks tk fun O O e => e) (L2.trans G.ks_le)))))))))
theorem pV {r : R AV} {b : Bool} {H' : HP} {P : Prop} (e : aw r = some (b, H')) (k : r = some (.bool b, H') -> P) : P :=
 bn e fun u H1 e1 e => fW (P := fun H' => (r = some (.bool b, H') -> P) -> P) e (fun e k => k (asBool_el (P := fun u => r = some (u, H1) -> r = some (.bool b, H1)) e id e1)) k
theorem Dv {l r : Expr} {op : CmpOp} {pos : Pos} {fl : HP -> R AV} {ev : Expr -> HP -> R AV} {whole : Sem Value} (hl : Sim c f ρ (eval l f.env) fl) (hs : b4 c f ρ ev) : SimB c f ρ (isTrue (.Compare l [op] [r] pos) f.env whole) (fun H => aw (av (fl H) fun a H => aH a [op] [ev r] H)) := fun H v H' e g ok =>
 pV e fun e => bn e fun a H1 e1 e => bn e fun b H2 e2 e => lf e fun d e3 e => by
  cases e
  exact fun Q E k => IV (hl H a H1 e1 g ok _ E fun ca g1 L1 Ca => vh (pos := pos) hs e2 e3 (ok.le L1) Ca Q E fun g2 L2 => k g2 (L1.trans L2))
theorem Dw {l r r' : Expr} {op op' : CmpOp} {pos : Pos} {fl : HP -> R AV} {ev : Expr -> HP -> R AV} {whole : Sem Value} (hl : Sim c f ρ (eval l f.env) fl) (hs : b4 c f ρ ev) : SimB c f ρ (isTrue (.Compare l [op, op'] [r, r'] pos) f.env whole) (fun H => aw (av (fl H) fun a H => eu a [op, op'] [ev r, ev r'] H)) := fun H v H' e g ok => by
 refine pV e fun e => bn e fun a H1 e1 e => bn e fun b H2 e2 e => lf e fun d e3 e => fun Q E k => ?_
 refine IV (hl H a H1 e1 g ok _ E fun ca g1 L1 Ca => ?_)
 refine vf (pos := pos) (T := fun rv => testChain pos rv [op'] [markedBehindIn op' r' (eval r' f.env)]) (F := fun O => pure false) hs e2 e3 (ok.le L1) Ca fun cb g2 L2 Cb => ?_
 cases d with
 | true =>
  refine bn e fun b' H3 e4 e => lf e fun d' e5 e => ?_
  cases e
  exact vh (pos := pos) hs e4 e5 (ok.le (L1.trans L2)) Cb Q E fun g3 L3 => k g3 ((L1.trans L2).trans L3)
 | false => cases e; exact I8 (k g2 (L1.trans L2))
theorem vi {ev : Expr -> HP -> R AV} {op : BoolOp} {pos : Pos} (hs : b4 c f ρ ev) : ∀ {es : List Expr}, Sim c f ρ (boolOp pos op (evalEach es f.env)) (ew op (es.map ev))
 | [] => fun O O O e => aJ rfl e
 | [x] => (hs x).1
 | x :: y :: es => fun H v H' e g ok => bn e fun a H1 e1 e => lf e fun b e2 e => fun Q E k => by
  show wpAny _ _ (do let v <- eval x f.env; standAt pos; let t <- holding [v] (truthy v); match op, t with | .And, false | .Or, true => pure v | _, _ => boolOp pos op (evalEach (y :: es) f.env)) _ _ _
  refine IV ((hs x).1 H a H1 e1 g ok _ E fun ca g1 L1 Ca => IV (wpAny_standAt (IV (wpAny_holding ?_))))
  refine Cv.bool_el (asBool_el (P := fun a => Cv g1.ω a ca -> Cv g1.ω (.bool b) ca) e2 id Ca) (wpAny_truthy_bool ?_)
  have rest : ew op ((y :: es).map ev) H1 = some (v, H') -> wpAny (model c.prog c.w) A (boolOp pos op (evalEach (y :: es) f.env)) Q E g1.s := fun e => vi hs (es := y :: es) H1 v H' e g1 (ok.le L1) Q E (k.after L1)
  have dY : some (AV.bool b, H1) = some (v, H') -> wpAny (model c.prog c.w) A (pure (Value.bool b)) Q E g1.s := fun e => by cases e; exact I8 (K.here (k.after L1) g1.tk (.bool _))
  cases op <;> cases b
  ·exact dY e
  ·exact rest e
  ·exact rest e
  ·exact dY e
noncomputable def pW (c : Cx) {A : Around} {sc : Scope} (f : Fr A sc) (ρ : an) (ev : Expr -> HP -> R Bool) : Prop := ∀ e, SimB c f ρ (isTrue e f.env (eval e f.env)) (ev e)
theorem vj {ev : Expr -> HP -> R Bool} {op : BoolOp} (hs : pW c f ρ ev) : ∀ {es : List Expr}, SimB c f ρ (allTrue op es f.env) (bv op (es.map ev))
 | [] => fun H v H' e g ok Q E k => by
  cases e
  have := k g .refl
  cases op <;> exact I8 this
 | x :: es => fun H v H' e g ok => bn e fun b H1 e1 e => fun Q E k => by
  show wpAny _ _ (do match op, <- isTrue x f.env (eval x f.env) with | .And, false => pure false | .Or, true => pure true | _, _ => allTrue op es f.env) _ _ _
  refine IV (hs x H b H1 e1 g ok _ E fun g1 L1 => ?_)
  have rest : bv op (es.map ev) H1 = some (v, H') -> wpAny (model c.prog c.w) A (allTrue op es f.env) Q E g1.s := fun e => vj hs H1 v H' e g1 (ok.le L1) Q E fun g2 L2 => k g2 (L1.trans L2)
  have dY : some (b, H1) = some (v, H') -> wpAny (model c.prog c.w) A (pure b) Q E g1.s := fun e => by cases e; exact I8 (k g1 L1)
  cases op <;> cases b
  ·exact dY e
  ·exact rest e
  ·exact rest e
  ·exact dY e
theorem Dx {x : Expr} {pos : Pos} {r : HP -> R Bool} {whole : Sem Value} (h : SimB c f ρ (isTrue x f.env (eval x f.env)) r) : SimB c f ρ (isTrue (.UnaryOp .Not x pos) f.env whole) (fun H => cD (r H)) := fun H v H' e g ok => bn e fun b H1 e1 e => by
 cases e
 exact fun Q E k => IV (h H b _ e1 g ok _ E fun g1 L1 => I8 (k g1 L1))
theorem Dy {e : Expr} {r : HP -> R AV} (he : isTrue e f.env (eval e f.env) = (do let v <- eval e f.env; standAt e.pos; holding [v] (truthy v))) (h : Sim c f ρ (eval e f.env) r) : SimB c f ρ (isTrue e f.env (eval e f.env)) (fun H => aw (r H)) := fun H v H' ev g ok => pV ev fun e1 Q E k => by
 rw [he]
 exact IV (h H _ _ e1 g ok _ E fun ca g1 L1 Ca => IV (wpAny_standAt (wpAny_holding (Cv.bool_el Ca (wpAny_truthy_bool (k g1 L1))))))
end
end Mine.Internal
namespace Mine.Internal
open PySem PyProof.Rows PySem.Calls
inductive lX (c : Cx) (d : DefRec) (fa : Addr) : Prop
 | mk (nm : Str) (o : Obj) (pm code doc : Value) : c.s₀.heap.get? fa = some o -> o.data = .func (methDef nm d.name d.params d.body d.scope pm code doc) -> c.s₀.heap.CodeRec code d.name -> lX c d fa
noncomputable def lY (c : Cx) (A : Around) (Φ : aR) : Prop :=
 ∀ (af : Nat) (f : Str) (vs : List AV) (H : HP) (v : AV) (H' : HP), Φ af f vs H = some (v, H') -> ∀ (d : DefRec) (fa : Addr), iH c.C f = some d -> lX c d fa -> ∀ (g : G c H) (cs : List Value), CvL g.ω vs cs -> Op A (call (.ref fa) cs) g H' v
noncomputable abbrev pX (c : Cx) (A : Around) (vals : List Value) : Around := A.under (.builtin "type.__call__" ⟨.ref c.κ :: vals, []⟩)
noncomputable def fX (c : Cx) (A : Around) (Φ : aR) : Prop := lY c A Φ /\ ∀ vals, lY c (pX c A vals) Φ
section
variable {c : Cx} {A : Around} {sc : Scope} {f : Fr A sc} {ρ : an}
set_option tactic.hygienic true in
theorem pY {x : Str} (f : Fr A sc) (hx : fO sc x = true) : f.env.kindOf x = some .globalImplicit /\ (x == ("__debug__" : Str)) = false := by
 unfold fO at hx
 split at hx
 ·rename_i e; exact ⟨f.glb x e, (Bool.or_eq_false_iff.mp ((Bool.not_eq_true' _).mp hx)).1⟩
 ·exact Bool.noConfusion hx
theorem lZ {ev : Expr -> HP -> R AV} {pos : Pos} (hs : b4 c f ρ ev) : ∀ {es : List Expr} {H H' : HP} {vs : List AV}, bo (es.map ev) H = some (vs, H') -> (backTo pos (starEach es f.env)).any (·.1) = false
 | [], _, _, _, _ => rfl
 | x :: es, H, _, _, e => bn e fun v H1 e1 e => bn e fun us H2 e2 O => by
  rw [(ef ((hs x).2 ⟨H, _, e1⟩)).star es f.env]
  exact lZ hs e2
theorem l0 {ev : Expr -> HP -> R AV} {pos : Pos} {es : List Expr} {fv : Value} (hs : b4 c f ρ ev) {H H' : HP} {vs : List AV} (e : bo (es.map ev) H = some (vs, H')) {g : G c H} {Q : Args -> Shared -> Prop} {E : Value -> Shared -> Prop} (ok : En f ρ g)
  (k : ∀ cs (g' : G c H'), Le [] g g' -> CvL g'.ω vs cs -> Q ⟨cs, []⟩ g'.s) : wpAny (model c.prog c.w) A (evalArgs fv true (backTo pos (starEach es f.env)) []) Q E g.s := by
 cases es with
 | nil => cases e; exact PyProof.Rows.evalArgs_none (k [] g .refl .nil)
 | cons x es =>
  have h := jK (pos := pos) hs e ok (fun vs s' => Q ⟨vs, []⟩ s') E k
  refine bn e fun v H1 e1 O => ?_
  rw [(ef ((hs x).2 ⟨H, _, e1⟩)).star es f.env] at h ⊢
  exact evalArgs_plain h
theorem pZ {g : Str} {gp : Pos} {args : List Expr} {pos : Pos} {env : Env} : eval (.Call (.Name g gp) args [] pos) env = (do callWith pos (<- eval (.Name g gp) env) [] (backTo pos (starEach args env)) (backToKw pos (keywordEach [] env))) := rfl
theorem vk {C : Cfg} {g : Str} {d : DefRec} (hd : gH C g = some d) : iH C g = some d := by
 unfold iH
 rw [List.find?_append, show C.fns.find? (fun d => decide (d.name = g)) = some d from hd]; rfl
theorem p3 {g : Str} {d : DefRec} (hd : gH c.C g = some d) : ∃ a, c.mg g = some (.ref a) /\ lX c d a := by
 have hmem : d ∈ c.C.fns := List.mem_of_find?_eq_some hd
 have hname : d.name = g := Jr (List.find?_some (p := fun d : DefRec => decide (d.name = g)) hd)
 obtain ⟨a, o, pm, code, doc, h1, h2, h3, h4⟩ := c.glb.top.fn d (c.glb.fns d hmem)
 exact ⟨a, hname ▸ h1, d.name, o, pm, code, doc, h2, h3, h4⟩
theorem Dz {ev : Expr -> HP -> R AV} {Φ : aR} {af : Nat} {x : Str} {gp pos : Pos} {es : List Expr} {d : DefRec} (hΦ : fX c A Φ) (hg : fO sc x = true) (hd : gH c.C x = some d) (hs : b4 c f ρ ev) : Sim c f ρ (eval (.Call (.Name x gp) es [] pos) f.env) (aP Φ af x (es.map ev)) := fun H v H' e g ok => by
 refine bn e fun vs H1 e1 e Q E k => ?_
 obtain ⟨hk, hdb⟩ := pY f hg
 obtain ⟨fa, hmg, isf⟩ := p3 hd
 obtain ⟨nm, o, pm, code, doc, ho, hdat, _⟩ := id isf
 have hgl : g.s.heap.Ns f.env.globals c.mg := f.gl ▸ c.glb.top.g.keeps g.inv.keep
 refine Call_ (Name_function_global f.kind hk (loadGlobal_global hgl hmg (callWith_function (l0 (pos := pos) hs e1 ok fun cs g1 L1 C1 => ⟨⟨g1.inv.keep _ _ ho, hdat⟩, hΦ.1 af x vs H1 v H' e d fa (vk hd) isf g1 cs C1 Q E (k.after L1)⟩))) hdb) pZ
theorem DA {x : Str} {v : Value} {gp : Pos} {H : HP} {g : G c H} {Q E : Value -> Shared -> Prop} (f : Fr A sc) (hg : fO sc x = true) (hx : x ∈ bltNames) (hv : bootBuiltins x = some v) (hQ : Q v g.s) : wpAny (model c.prog c.w) A (eval (.Name x gp) f.env) Q E g.s := by
 obtain ⟨hk, hdb⟩ := pY f hg
 refine Name_function_global f.kind hk (loadGlobal_builtin (s := g.s) (f.gl ▸ c.glb.top.g.keeps g.inv.keep) (c.glb.blt x hx) (f.bl ▸ c.glb.top.b.keeps g.inv.keep) ((c.glb.top.builtins x fun e => ?_).trans hv) hQ) hdb
 subst e
 revert hx
 decide +kernel
theorem vl {α : Type} {T : List (Str × α)} {x : Str} {b : α} {P : Str -> α -> Prop} (h : pt T x = some b) (k : ∀ p ∈ T, P p.1 p.2) : P x b :=
 mpV h fun p hp => by
  have e : p.1 = x := Jr (List.find?_some (p := fun p : Str × α => decide (p.1 = x)) hp)
  exact e ▸ k p (List.mem_of_find?_eq_some hp)
theorem DB {x : Str} {b : BF} (h : ue x = some b) : x ∈ bltNames /\ bootBuiltins x = some (iR b) :=
 vl (P := fun x b => x ∈ bltNames /\ bootBuiltins x = some (iR b)) h (by decide +kernel)
theorem DC {b : BF} {pos : Pos} {args : List (Bool × Sem Value)} {s : Shared} {Q E : Value -> Shared -> Prop} (hp : args.any (·.1) = false)
  (h : wpAny (model c.prog c.w) A (evalArgs (iR b) true args []) (fun a s₁ => wpAny (model c.prog c.w) A (call (iR b) a.pos a.kw) Q E s₁) E s) : wpAny (model c.prog c.w) A (callWith pos (iR b) [] args []) Q E s := by
 cases b
 ·exact callWith_builtin (first := []) hp h
 ·exact PySem.callWith_type (first := []) hp h
 ·exact PySem.callWith_type (first := []) hp h
 ·exact PySem.callWith_type (first := []) hp h
 ·exact callWith_builtin (first := []) hp h
 ·exact PySem.callWith_type (first := []) hp h
 ·exact callWith_builtin (first := []) hp h
 ·exact callWith_builtin (first := []) hp h
theorem DD {ev : Expr -> HP -> R AV} {x : Str} {gp pos : Pos} {es : List Expr} (hg : fO sc x = true) (hs : b4 c f ρ ev) : SimF c f ρ (eval (.Call (.Name x gp) es [] pos) f.env) (uu x (es.map ev)) := fun H v H' e g ok m => by
 refine bn e fun vs H1 e1 e => fW (P := fun H' => bw m A _ g H' v) e fun e => bd e fun b hb e Q E k => ?_
 obtain ⟨hm, hv⟩ := DB hb
 exact Call_ (DA f hg hm hv (DC (lZ hs e1) (l0 (pos := pos) hs e1 ok fun cs g1 L1 C1 => C9 f.hnd e C1 Q E (k.after L1)))) pZ
theorem DE {ev : Expr -> HP -> R AV} {gp pos : Pos} {es : List Expr} (hg : fO sc "isinstance" = true) (hs : b4 c f ρ ev) : Sim c f ρ (eval (.Call (.Name "isinstance" gp) es [] pos) f.env) (uy sc es ev) := fun H v H' e => aJ rfl e
theorem DF {x : Str} {l : LM} (h : uq x = some l) : Slot "list" x (gJ l) /\ typeOf (.builtin (gJ l)) = pure (.type "method_descriptor") := by
 refine vl (P := fun x l => Slot "list" x (gJ l) /\ typeOf (.builtin (gJ l)) = pure (.type "method_descriptor")) h fun p m => ?_
 simp only [uo, List.mem_cons, List.not_mem_nil, or_false] at m
 rcases m with rfl | rfl | rfl | rfl | rfl
 ·exact ⟨F.slot_list_append, by kernel_rfl⟩
 ·exact ⟨F.slot_list_insert, by kernel_rfl⟩
 ·exact ⟨F.slot_list_extend, by kernel_rfl⟩
 ·exact ⟨F.slot_list_pop, by kernel_rfl⟩
 ·exact ⟨F.slot_list_index, by kernel_rfl⟩
theorem vm {pos : Pos} {env : Env} : ∀ {es : List Expr}, es.all cg = true -> (backTo pos (starEach es env)).all (!·.1) = true
 | [], _ => rfl
 | x :: es, h => by
  rw [(ef (I4.mp h).1).star es env]
  exact vm (I4.mp h).2
theorem p4 {o : Expr} {x : Str} {ap pos : Pos} {es : List Expr} {env : Env} (ho : cg o = true) (h : iG o ap pos es = true) :
  eval (.Call (.Attribute o x ap) es [] pos) env = (do
   let ov <- eval o env
   standAt ap.atName
   let (f, first) <- holding [ov] (getMethod ov x (do return (<- importBound o env).getD true))
   callWith pos f first (backTo pos (starEach es env)) []) := by
 obtain ⟨hb, h⟩ := I4.mp h
 obtain ⟨hl, h⟩ := I4.mp h
 obtain ⟨hlen, hn⟩ := I4.mp h
 have hform : methodCallForm (es.length + ([] : List Keyword).length) (backTo pos (starEach es env)) (backToKw pos (keywordEach [] env)) = true := by
  unfold methodCallForm
  rw [vm hn]
  exact Jf (Nat.lt_trans (Jr hlen) (by decide : 20 < 30))
 have hp : methodCallPos true o env ap pos = pure pos := by
  unfold methodCallPos
  simp [of_decide_eq_true hl]
 show (do
  let ov <- attributeBase o x env (eval o env)
  standAt ap.atName
  methodCall o x ap pos env ov (es.length + ([] : List Keyword).length) (backTo pos (starEach es env)) (backToKw pos (keywordEach [] env))) = _
 rw [(ef ho).af hb]
 unfold methodCall
 rw [hform, hp]
 rfl
theorem DG {ev : Expr -> HP -> R AV} {af : Nat} {o : Expr} {x : Str} {ap pos : Pos} {es : List Expr} (hm : iG o ap pos es = true) (hs : b4 c f ρ ev) : Sim c f ρ (eval (.Call (.Attribute o x ap) es [] pos) f.env) (uv af x (ev o) (es.map ev)) := fun H v H' e g ok => by
 refine bn e fun a H1 e1 e => cV e fun hl e => bn e fun vs H2 e2 e => bd e fun l hl2 e Q E k => ?_
 obtain ⟨slot, hty⟩ := DF hl2
 obtain ⟨zs, hz⟩ := Option.isSome_iff_exists.mp hl
 rw [p4 ((hs o).2 ⟨H, _, e1⟩) hm]
 refine IV ((hs o).1 H a H1 e1 g ok _ E fun ca g1 L1 Ca => IV (wpAny_standAt (IV (wpAny_holding ?_))))
 have fin : ∀ {H2} {g2 : G c H2} {cs}, iD l a vs H2 = some (v, H') -> Le [] g1 g2 -> CvL g2.ω vs cs -> wpAny (model c.prog c.w) A (call (.builtin (gJ l)) (ca :: cs)) Q E g2.s := fun {H2 g2 cs} e L2 C2 => by
  unfold iD at e
  cases hr : eH a with
  | some kk =>
   rw [hr] at e
   refine Cv.at_el rfl (asRef_el (P := fun a => Cv g1.ω a ca -> Cv g1.ω (.ref kk) ca) hr id Ca) fun p hp => bd e fun xs hx e => bd e fun q hq e => ?_
   cases e
   exact Da (L2.le _ _ hp) hx hq C2 Q E (k.after (L1.trans L2))
  | none =>
   rw [hr] at e
   refine bd e fun xs hx e => bd e fun u hu e => ?_
   cases e
   exact Dd (L2.cv Ca) hx hu C2 Q E (k.after (L1.trans L2))
 revert fin
 refine g1.seq Ca hz fun p ws n hg O O fin => ?_
 refine getMethod_list_of (s := g1.s) (items := ws.toArray) slot hty ⟨_, hg, rfl, n, rfl⟩ ⟨_, hg, rfl⟩ ?_
 exact callWith_builtin (first := [.ref p]) (lZ hs e2) (l0 (pos := pos) hs e2 (ok.le L1) fun cs g2 L2 C2 => fin e L2 C2)
theorem DH {ev : Expr -> HP -> R AV} {o : Expr} {ap pos : Pos} {es : List Expr} (hm : iG o ap pos es = true) (hs : b4 c f ρ ev) : Sim c f ρ (eval (.Call (.Attribute o "values" ap) es [] pos) f.env) (pE (ev o) (es.map ev)) := fun H v H' e g ok => by
 refine bn e fun a H1 e1 e => bd e fun j hj e => cV e fun hi e => ?_
 cases e
 intro Q E k
 obtain ⟨h1, h2⟩ := I4.mp hi
 obtain rfl := List.map_eq_nil_iff.mp (List.isEmpty_iff.mp h1)
 obtain ⟨xs, hx⟩ := Option.isSome_iff_exists.mp h2
 rw [p4 ((hs o).2 ⟨H, _, e1⟩) hm]
 refine IV ((hs o).1 H a _ e1 g ok _ E fun ca g1 L1 Ca => IV (wpAny_standAt (IV (wpAny_holding ?_))))
 refine Cv.asDct (P := fun ca => wpAny (model c.prog c.w) A (getMethod ca "values" (do return (<- importBound o f.env).getD true)) (fun r s => wpAny (model c.prog c.w) A (callWith pos r.1 r.2 (backTo pos (starEach [] f.env)) []) Q E s) E g1.s) Ca hj fun q hq => ?_
 obtain ⟨ob, ho, _, hm, kvs, _, D⟩ := g1.dcl hq hx
 have D := D c.prog c.w g1.h ho
 refine getMethod_builtin (s := g1.s) D.typeIs F.plainAttrs_dict F.slot_dict_values F.type_dict_values D.mapOf.noDict (callWith_builtin (first := [.ref q]) rfl (PyProof.Rows.evalArgs_none ?_))
 refine call_meetsIn (s := g1.s) F.slot_dict_values D.typeIs F.entry_dict_values (F.args_dict_values_1 _) (meets_dict_values (intKind c.prog c.w) q hm) ⟨⟨kvs, D⟩, ?_⟩
 exact K.new (m := false) (v := .itm j) (k.after L1) g1.tk (fun O O e => Js _ e) (dv _) (JE _ rfl) ⟨q, hq, rfl⟩ rfl rfl
theorem DI {ev : Expr -> HP -> R AV} {af : Nat} {o : Expr} {x : Str} {ap pos : Pos} {es : List Expr} (hm : iG o ap pos es = true) (hs : b4 c f ρ ev) : Sim c f ρ (eval (.Call (.Attribute o x ap) es [] pos) f.env) (pF af x (ev o) (es.map ev)) := by
 unfold pF
 by_cases h : x = "values"
 ·simp only [if_pos h]; subst h; exact DH hm hs
 ·simp only [if_neg h]; exact DG hm hs
end
end Mine.Internal
namespace Mine.Internal
open PySem PyProof.Rows PySem.Calls
inductive ItAt (p : Program) (w : World) (src : AV) (xs : List AV) (I : Addr) (i : Nat) (ω : Wd) (H : HP) (h : Heap) : Prop
 | tup (ax : Addr) : dq src = some xs -> ω ax = some src -> h.IsTupleIter I ax i -> ItAt p w src xs I i ω H h
 | lst (ax : Addr) : (∀ H, cq src xs H -> bf H src = some xs) -> ω ax = some src -> h.IsListIter I ax i -> ItAt p w src xs I i ω H h
 | rng (a b : Int) : xs = bH a b -> IsRangeIter h I (a + (i : Int)) ((xs.length : Int) - (i : Int)) 1 -> ItAt p w src xs I i ω H h
 | val (d : Addr) (k : Nat) (o : Obj) (ep : Nat) (kvs : List (Int × Value)) : (∀ H, cq src xs H -> ∃ es, H[k]? = some es /\ es.length = xs.length) -> ω d = some (.dct k) -> xs.length = kvs.length -> (∀ (j : Nat) x, xs[j]? = some x -> ∃ aI v, kvs[j]? = some (aI, v) /\ ∀ ω, Cv ω x v) ->
   (∃ es, H[k]? = some es /\ xs.length <= es.length /\ (es.length = xs.length -> h.get? d = some o)) -> (∀ h' : Heap, h'.get? d = some o -> h'.DictAt (intKind p w) d kvs ep) -> h.IsValIter I d i kvs.length ep -> ItAt p w src xs I i ω H h
theorem DRel.vals {es : List AV} {kvs : List (Int × Value)} (r : DRel es kvs) : ∀ (j : Nat) x, (es.map pi)[j]? = some x -> ∃ aI v, kvs[j]? = some (aI, v) /\ ∀ ω, Cv ω x v := by
 induction r with
 | nil => intro j x e; cases e
 | cons hc _ ih =>
  intro j x e
  cases j with
  | zero => cases e; exact ⟨_, _, rfl, fun ω => hc.cv⟩
  | succ j => exact ih j x e
theorem DJ {a b : Int} {i : Nat} {x : AV} (e : (bH a b)[i]? = some x) : x = .int (a + (i : Int)) /\ i < (bH a b).length := by
 refine ⟨?_, (IX.mp e).1⟩
 unfold bH at e
 rw [JC] at e
 refine mpV e fun j hj => ?_
 obtain ⟨h1, h2⟩ := IX.mp hj
 rw [List.getElem_range] at h2
 rw [h2]
section
variable {c : Cx} {H H' : HP} {A : Around} {g : G c H} {g' : G c H'} {src x : AV} {xs : List AV} {I : Addr} {i : Nat} {cv : Value} {E : Value -> Shared -> Prop}
theorem ItAt.has {ω : Wd} {h : Heap} (it : ItAt c.prog c.w src xs I i ω H h) : ∃ o, h.get? I = some o := by
 cases it with
 | tup ax _ _ t => obtain ⟨o, ho, _⟩ := t; exact ⟨o, ho⟩
 | lst ax _ _ t => obtain ⟨o, ho, _⟩ := t; exact ⟨o, ho⟩
 | rng a b _ t => exact ⟨_, t⟩
 | val _ _ _ _ _ _ _ _ _ _ _ t => obtain ⟨o, ho, _⟩ := t; exact ⟨o, ho⟩
theorem ItAt.to {ω ω' : Wd} {h h' : Heap} (it : ItAt c.prog c.w src xs I i ω H h) (le : ∀ a v, ω a = some v -> ω' a = some v) (dk : ∀ b k es, ω b = some (.dct k) -> H[k]? = some es -> ∃ es', H'[k]? = some es' /\ es.length <= es'.length /\ (es'.length = es.length -> h'.get? b = h.get? b)) (k : ∀ o, h.get? I = some o -> h'.get? I = some o) : ItAt c.prog c.w src xs I i ω' H' h' := by
 cases it with
 | tup ax e w t => obtain ⟨o, ho, r⟩ := t; exact .tup ax e (le _ _ w) ⟨o, k o ho, r⟩
 | lst ax e w t => obtain ⟨o, ho, r⟩ := t; exact .lst ax e (le _ _ w) ⟨o, k o ho, r⟩
 | rng a b e t => exact .rng a b e (k _ t)
 | val d j o ep kvs e w l vv hk da t =>
  obtain ⟨es, h1, h2, h3⟩ := hk
  obtain ⟨es', g1, g2, g3⟩ := dk d j es w h1
  obtain ⟨oI, ho, r⟩ := t
  exact .val d j o ep kvs e (le _ _ w) l vv ⟨es', g1, Je h2 g2, fun z => have z' : es.length = xs.length := Nat.le_antisymm (z ▸ g2) h2; (g3 (z.trans z'.symm)).trans (h3 z')⟩ da ⟨oI, k oI ho, r⟩
theorem vn {Q : Value -> Shared -> Prop} (C : Cv g.ω src cv) (e : eg H src = some xs) (hQ : ∀ I h', g.h.get? I = none -> (∀ b o, g.h.get? b = some o -> h'.get? b = some o) -> ItAt c.prog c.w src xs I 0 g.ω H h' -> Q (.ref I) { g.s with heap := h' }) : wpAny (model c.prog c.w) A (pyIter cv) Q E g.s := by
 have pu : ∀ (o' : Obj), ItAt c.prog c.w src xs g.h.objs.size 0 g.ω H (g.h.push o') -> Q (.ref g.h.objs.size) { g.s with heap := g.h.push o' } := fun o' it => hQ _ _ (dv _) (fun b o e => Js _ e) it
 have lst : ∀ (_ : ∀ H, cq src xs H -> bf H src = some xs) {k}, bf H src = some k -> wpAny (model c.prog c.w) A (pyIter cv) Q E g.s := fun hs k hk => by
  have hv : isH src = true := lT hk (fun q => q ▸ rfl) fun O q O => q ▸ rfl
  cases C with
  | @«at» a _ ha _ =>
   exact g.seq (cv := .ref a) (P := fun cv => cv = .ref a -> wpAny (model c.prog c.w) A (pyIter (.ref a)) Q E g.s) (.at ha hv) hk (fun p vs n hg hl r q => by
    cases q
    exact wpAny_pyIter_list (s := g.s) (items := vs.toArray) ⟨_, hg, rfl, _, rfl⟩ (pu _ (.lst a hs ha ⟨_, JE _ rfl, rfl, rfl⟩))) rfl
  | _ => exact Bool.noConfusion hv
 unfold eg at e
 cases h1 : eH src with
 | some k =>
  rw [h1] at e
  have q : ∀ H : HP, bf H src = H[k]? := fun H => asRef_el (P := fun v => bf H v = H[k]?) h1 rfl
  exact lst (fun H st => by unfold cq at st; rw [h1] at st; exact (q H).trans st) ((q H).trans e)
 | none =>
  rw [h1] at e
  cases h0 : iz src with
  | some k =>
   rw [h0] at e
   have hs : ∀ H, cq src xs H -> ∃ es, H[k]? = some es /\ es.length = xs.length := fun H st => by
    unfold cq at st
    rw [h1, h0] at st
    refine mpV (P := fun xs => ∃ es, H[k]? = some es /\ es.length = xs.length) st fun es h => ⟨es, h, ?_⟩
    rw [IZ]
   refine mpV (P := fun xs => (∀ H, cq src xs H -> ∃ es, H[k]? = some es /\ es.length = xs.length) -> (∀ o', ItAt c.prog c.w src xs g.h.objs.size 0 g.ω H (g.h.push o') -> Q (.ref g.h.objs.size) { g.s with heap := g.h.push o' }) -> wpAny (model c.prog c.w) A (pyIter cv) Q E g.s) e (fun es he hs pu => ?_) hs pu
   have hv : src = .itm k := itmO_el h0 rfl
   refine Cv.at_el (hv ▸ rfl) C fun ad had => ?_
   obtain ⟨o, ho, d, hd, rfl⟩ := g.inv.obj ad _ (had.trans (congrArg some hv))
   obtain ⟨od, hod, hl, hm, kvs, r, D⟩ := g.dcl hd he
   obtain ⟨ep, D⟩ := (D c.prog c.w g.h hod).dictAt
   refine wpAny_pyIter_values (s := g.s) ⟨_, ho, rfl, rfl⟩ D (pu _ (.val d k od ep kvs hs hd (by rw [IZ, r.len]) r.vals ⟨es, he, by rw [IZ]; exact IO _, fun O => Js _ hod⟩ (fun h' e => D.at' fun o' e' => by cases hod.symm.trans e'; exact e) ⟨_, JE _ rfl, rfl, rfl⟩))
  | none =>
  rw [h0] at e
  replace e : dr src = some xs := e
  unfold dr at e
  cases h2 : fR? src with
  | some p =>
   rw [h2] at e
   refine someV (P := fun xs => (∀ o', ItAt c.prog c.w src xs g.h.objs.size 0 g.ω H (g.h.push o') -> Q (.ref g.h.objs.size) { g.s with heap := g.h.push o' }) -> wpAny (model c.prog c.w) A (pyIter cv) Q E g.s) e (fun pu => ?_) pu
   refine g.rng (P := fun cv => wpAny (model c.prog c.w) A (pyIter cv) Q E g.s) (rngO_el (P := fun a => Cv g.ω a cv -> Cv g.ω (.range p.1 p.2) cv) h2 id C) fun a t u w O hr s1 s2 => ?_
   have b1 := iQ s1
   have b2 := iQ s2
   refine wpAny_pyIter_range (s := g.s) hr (small_one (bj 4741310865 b1.1) (bj 4741310881 b1.2) (bj 4741310865 b2.1) (bj 4741310881 b2.2)) (pu _ (.rng p.1 p.2 rfl ?_))
   rw [u6]
   show (g.h.push _).get? g.h.objs.size = _
   rw [JE _ rfl]
   simp [bH]
  | none =>
   rw [h2] at e
   cases h3 : dq src with
   | some ys =>
    rw [h3] at e
    have e3 : dq src = some xs := h3.trans e
    refine Cv.at_el rfl (asTup_el (P := fun a => Cv g.ω a cv -> Cv g.ω (.tup xs) cv) e3 id C) fun a ha => g.sq (g.inv.obj a _ ha) fun vs n hg hl r => ?_
    exact wpAny_pyIter_tuple (s := g.s) ⟨_, hg, rfl, _, rfl⟩ (pu _ (.tup a e3 (ha.trans (congrArg some (asTup_el (P := fun v => AV.tup xs = v) e3 rfl))) ⟨_, JE _ rfl, rfl, rfl⟩))
   | none =>
    rw [h3] at e
    have q : ∀ H : HP, bf H src = some xs := fun H => asLst_el (P := fun v => bf H v = some xs) e rfl
    exact lst (fun H O => q H) (q H)
theorem vo {Q : Option Value -> Shared -> Prop} (n : g.ω I = none /\ c.s₀.heap.get? I = none) (st : cq src xs H) (it : ItAt c.prog c.w src xs I i g.ω H g.h) (e : xs[i]? = some x) (hQ : ∀ v (g' : G c H), Le [I] g g' -> ItAt c.prog c.w src xs I (i + 1) g'.ω H g'.h -> Cv g'.ω x v -> Q (some v) g'.s) : wpAny (model c.prog c.w) A (pyNext (.ref I)) Q E g.s := by
 have fin : ∀ v h' tk, Heap.SameBut I g.h h' -> ItAt c.prog c.w src xs I (i + 1) g.ω H h' -> Cv g.ω x v -> Q (some v) { g.s with heap := h', toks := tk } := fun v h' tk hs it' C =>
  hQ v (g.mv [I] tk (fun b o q e => (hs.2 b fun r => q (I0.mpr r)).trans e) fun a m => I0.mp m ▸ n) (G.mv_le fun a m => I0.mp m ▸ it'.has) it' C
 cases it with
 | tup ax e1 w t => exact g.sq (T := "tuple") (xs := xs) (asTup_el (P := fun v => g.ω ax = some v -> ∃ o, g.h.get? ax = some o /\ Sq "tuple" g.ω xs o) e1 (g.inv.obj ax _) w) fun vs m hg O r => let ⟨v, hv, C⟩ := r.get e
   wpAny_pyNext_tuple_item (s := g.s) (items := vs.toArray) t ⟨_, hg, rfl, m, rfl⟩ (x := v) (List.getElem?_toArray.trans hv) fun h' t' hs => fin v h' g.tk hs (.tup ax e1 w t') C
 | lst ax e1 w t => exact g.seq (cv := .ref ax) (P := fun cv => cv = .ref ax -> wpAny (model c.prog c.w) A (pyNext (.ref I)) Q E g.s) (.at w (lT (e1 H st) (fun q => q ▸ rfl) fun O q O => q ▸ rfl)) (e1 H st) (fun p vs m hg O r q => by
   cases q
   obtain ⟨v, hv, C⟩ := r.get e
   exact wpAny_pyNext_list_item (s := g.s) (items := vs.toArray) t ⟨_, hg, rfl, m, rfl⟩ (x := v) (List.getElem?_toArray.trans hv) fun h' t' hs => fin v h' g.tk hs (.lst ax e1 w t') C) rfl
 | rng a b e1 t =>
  subst e1
  obtain ⟨rfl, hlt⟩ := DJ e
  refine wpAny_pyNext_range_item (s := g.s) t (am 0x119a2a595401a1 hlt) fun h' t' hs => fin _ h' _ hs (.rng a b rfl ?_) (.int _ _)
  have e1 : a + ((i + 1 : Nat) : Int) = a + (i : Int) + 1 := (Int.add_assoc a i 1).symm
  have e2 : ∀ n : Nat, (n : Int) - ((i + 1 : Nat) : Int) = (n : Int) - (i : Int) - 1 := fun n => by push_cast; exact am 0x1111a5954411a53954b0
  rw [e1, e2]; exact t'
 | val d k o ep kvs e1 w l vv hk da t =>
  obtain ⟨es, h1, h2⟩ := e1 H st
  obtain ⟨es', g1, g2, g3⟩ := hk
  cases h1.symm.trans g1
  obtain ⟨aI, v, hv, C⟩ := vv i x e
  refine wpAny_pyNext_values_item (s := g.s) t (da g.h (g3 h2)) hv fun h' t' hs => fin v h' g.tk hs (.val d k o ep kvs e1 w l vv ⟨es, h1, g2, fun O => (hs.2 d fun q => aJ n.1 (q ▸ w)).trans (g3 h2)⟩ da t') (C _)
theorem vp {Q : Option Value -> Shared -> Prop} (hh : A.handled = none) (st : cq src xs H) (it : ItAt c.prog c.w src xs I xs.length g.ω H g.h) (hQ : ∀ h', Heap.ExtBut I g.h h' -> Q none { g.s with heap := h' }) : wpAny (model c.prog c.w) A (pyNext (.ref I)) Q E g.s := by
 cases it with
 | tup ax e1 w t => exact g.sq (T := "tuple") (xs := xs) (asTup_el (P := fun v => g.ω ax = some v -> ∃ o, g.h.get? ax = some o /\ Sq "tuple" g.ω xs o) e1 (g.inv.obj ax _) w) fun vs m hg O r =>
   wpAny_pyNext_tuple_end (s := g.s) (items := vs.toArray) hh t ⟨_, hg, rfl, m, rfl⟩ (List.getElem?_toArray.trans (List.getElem?_eq_none (r.length ▸ IO _))) hQ
 | lst ax e1 w t => exact g.seq (cv := .ref ax) (P := fun cv => cv = .ref ax -> wpAny (model c.prog c.w) A (pyNext (.ref I)) Q E g.s) (.at w (lT (e1 H st) (fun q => q ▸ rfl) fun O q O => q ▸ rfl)) (e1 H st) (fun p vs m hg O r q => by
   cases q
   exact wpAny_pyNext_list_end (s := g.s) (items := vs.toArray) hh t ⟨_, hg, rfl, m, rfl⟩ (List.getElem?_toArray.trans (List.getElem?_eq_none (r.length ▸ IO _))) hQ) rfl
 | rng a b e1 t => exact wpAny_pyNext_range_end (s := g.s) hh t (az 69144761488) hQ
 | val d k o ep kvs e1 w l vv hk da t =>
  obtain ⟨es, h1, h2⟩ := e1 H st
  obtain ⟨es', g1, g2, g3⟩ := hk
  cases h1.symm.trans g1
  exact wpAny_pyNext_values_end (s := g.s) hh t (da g.h (g3 h2)) (by rw [l]; simp) hQ
theorem DK {Q : Value -> Shared -> Prop} {s : Shared} {ω : Wd} (it : ItAt c.prog c.w src xs I i ω H s.heap) (hQ : Q (.ref I) s) : wpAny (model c.prog c.w) A (pyIter (.ref I)) Q E s := by
 cases it with
 | tup ax _ _ t => exact wpAny_pyIter_tupleiter t hQ
 | lst ax _ _ t => exact wpAny_pyIter_listiter t hQ
 | rng a b _ t => exact wpAny_pyIter_rangeiter t hQ
 | val _ _ _ _ _ _ _ _ _ _ _ t => exact wpAny_pyIter_valiter t hQ
end
theorem p5 {env : Env} : ∀ (names : List (Str × NameKind)) (acc : List (Str × Addr)), (∀ y ∈ names, y.2 = .free -> ∃ c, env.cells.lookup y.1 = some c) ->
  ∃ cl, (forIn names acc (fun (x : Str × NameKind) (r : List (Str × Addr)) => if x.2 == .free then (do let a <- cellOf env x.1; pure (ForInStep.yield ((x.1, a) :: r))) else pure (ForInStep.yield r)) : Sem (List (Str × Addr))) = pure cl /\
   (∀ n c, (n, c) ∈ cl -> (n, c) ∈ acc ∨ env.cells.lookup n = some c) /\ (∀ n, ((n, NameKind.free) ∈ names ∨ (acc.lookup n).isSome = true) -> (cl.lookup n).isSome = true)
 | [], acc, _ => ⟨acc, by rw [List.forIn_nil], fun n c m => .inl m, fun n h => h.elim (fun m => nomatch m) id⟩
 | (x, k) :: r, acc, h => by
  by_cases hk : k = .free
  ·subst hk
   obtain ⟨c, hc⟩ := h (x, .free) Jj rfl
   obtain ⟨cl, h1, h2, h3⟩ := p5 r ((x, c) :: acc) (fun y m => h y (JB _ m))
   refine ⟨cl, ?_, fun n d m => ?_, fun n hn => ?_⟩
   ·rw [List.forIn_cons]
    simp only [beq_self_eq_true, if_true]
    have : cellOf env x = pure c := by unfold cellOf; rw [hc]
    rw [this]
    simpa using h1
   ·rcases h2 n d m with q | q
    ·rcases Jx.mp q with q | q
     ·cases q; exact .inr hc
     ·exact .inl q
    ·exact .inr q
   ·refine h3 n ?_
    rcases hn with m | m
    ·rcases Jx.mp m with q | q
     ·cases q; exact .inr (by simp [List.lookup_cons])
     ·exact .inl q
    ·right
     rw [List.lookup_cons]
     split
     ·rfl
     ·exact m
  ·obtain ⟨cl, h1, h2, h3⟩ := p5 r acc (fun y m => h y (JB _ m))
   refine ⟨cl, ?_, h2, fun n hn => h3 n (hn.imp_left fun m => ?_)⟩
   ·rw [List.forIn_cons]
    have : (k == NameKind.free) = false := by simpa using hk
    simp only [this, Bool.false_eq_true, if_false]
    simpa using h1
   ·rcases Jx.mp m with q | q
    ·cases q; exact absurd rfl hk
    ·exact q
theorem DL {env : Env} {sc : Scope} (h : ∀ y ∈ sc.names, y.2 = .free -> ∃ c, env.cells.lookup y.1 = some c) :
  ∃ cl, closureFor sc env = pure cl /\ (∀ n c, (n, c) ∈ cl -> env.cells.lookup n = some c) /\ (∀ n, (n, NameKind.free) ∈ sc.names -> (cl.lookup n).isSome = true) := by
 obtain ⟨cl, h1, h2, h3⟩ := p5 sc.names [] h
 refine ⟨cl, ?_, fun n c m => (h2 n c m).resolve_left (fun q => nomatch q), fun n m => h3 n (.inl m)⟩
 unfold closureFor
 rw [<- h1]
 have aI : ∀ f g : (Str × NameKind) -> List (Str × Addr) -> Sem (ForInStep (List (Str × Addr))), f = g -> ((forIn sc.names [] f : Sem (List (Str × Addr))) >>= fun r => pure r) = forIn sc.names [] g := by
  rintro f _ rfl
  exact bind_pure _
 refine aI _ _ ?_
 funext x r
 obtain ⟨a, b⟩ := x
 by_cases hb : b = NameKind.free
 ·subst hb; simp
 ·have : (b == NameKind.free) = false := by simpa using hb
  simp [this]
set_option tactic.hygienic true in
theorem p6 {sc : Scope} {env : Env} {y : Str} {k : NameKind} (h : sc.names.lookup y = some k) : (relabel sc env).names.lookup y = some k ∨ (k = .free /\ (relabel sc env).names.lookup y = some .cell) := by
 unfold relabel
 simp only
 generalize sc.names = names at h ⊢
 induction names with
 | nil => simp at h
 | cons x r ih =>
  obtain ⟨n, kk⟩ := x
  simp only [List.map_cons]
  cases hy : y == n with
  | true =>
   simp only [List.lookup_cons, hy] at h
   cases h
   split
   ·rename_i hc
    simp only [Bool.and_eq_true, beq_iff_eq] at hc
    simp only [List.lookup_cons, hy]
    exact .inr ⟨hc.1.1, trivial⟩
   ·simp only [List.lookup_cons, hy]
    exact .inl trivial
  | false =>
   simp only [List.lookup_cons, hy] at h
   split
   ·simp only [List.lookup_cons, hy]
    exact ih h
   ·simp only [List.lookup_cons, hy]
    exact ih h
noncomputable def without (ρ : an) (x : Str) : an := fun y => if y = x then none else ρ y
theorem DM (ρ : an) (x : Str) (v : AV) : upd (without ρ x) x v = upd ρ x v := by
 funext y
 rw [fN, fN]
 unfold without
 split <;> rfl
structure gK (fsc sc : Scope) (x : Str) : Prop where
 kind : sc.kind = .function
 own : sc.names.lookup x = some .local
 locs : ∀ y ∈ sc.names, y.2 = .local -> sc.names.lookup y.1 = some .local /\ (y.1 = x ∨ cG y.1 = true)
 cell : ∀ y ∈ sc.names, y.2 ≠ .cell
 free : ∀ y ∈ sc.names, y.2 = .free -> fP fsc y.1 = true
 odd : ∀ y ∈ sc.names, y.2 = .free -> cG y.1 = false
set_option tactic.hygienic true in
theorem DN {sc : Scope} {x : Str} (h : fP sc x = true) (h' : cG x = false) : dz sc x = true := by
 unfold fP at h; unfold dz
 rw [h']
 split at h
 ·rename_i e; rw [e]; rfl
 ·rename_i e; rw [e]; rfl
 ·exact Bool.noConfusion h
theorem DO {fsc sc : Scope} {x : Str} (h : ph fsc sc x = true) : gK fsc sc x := by
 unfold ph at h
 simp only [Bool.and_eq_true, decide_eq_true_eq, List.all_eq_true] at h
 obtain ⟨⟨h1, h2⟩, h3⟩ := h
 refine ⟨h1, h2, fun y m e => ?_, fun y m e => ?_, fun y m e => ?_, fun y m e => ?_⟩
 ·have := h3 y m; rw [e] at this
  simpa using this
 ·have := h3 y m; rw [e] at this; exact Bool.noConfusion this
 ·have := h3 y m; rw [e] at this; exact (I4.mp this).1
 ·have := h3 y m; rw [e] at this; exact (Bool.not_eq_true' _).mp (I4.mp this).2
set_option tactic.hygienic true in
def l7 {A : Around} {fsc sc : Scope} (f : Fr A fsc) {x : Str} (cs : gK fsc sc x) (C : Addr) (cl : List (Str × Addr)) (hcl : ∀ n a, (n, a) ∈ cl -> f.env.cells.lookup n = some a) : Fr A sc where
 env := compEnvC sc cl C f.env
 hnd := f.hnd
 un := f.un
 kind := cs.kind
 loc := fun y e => lookup_relabel_local e
 cel := fun y e => by
  unfold fP at e
  split at e
  ·rename_i q; exact absurd rfl (cs.cell _ (mem_of_lookup q))
  ·rename_i q
   rcases p6 (env := f.env) q with r | ⟨_, r⟩
   ·exact .inr r
   ·exact .inl r
  ·exact Bool.noConfusion e
 sto := fun y e => absurd rfl (cs.cell _ (mem_of_lookup e))
 glb := fun y e => by
  rcases p6 (env := f.env) e with r | ⟨q, r⟩
  ·exact r
  ·cases q
 gl := f.gl
 bl := f.bl
 apart := fun a b d ha hb => f.apart a b d (hcl _ _ (mem_of_lookup ha)) (hcl _ _ (mem_of_lookup hb))
set_option tactic.hygienic true in
theorem En.comp {c : Cx} {H : HP} {A : Around} {fsc sc : Scope} {f : Fr A fsc} {ρ : an} {g : G c H} {x : Str} {C : Addr} {cl : List (Str × Addr)} {m : Str -> Option Value} (ok : En f ρ g) (cs : gK fsc sc x) (hcl : ∀ n a, (n, a) ∈ cl -> f.env.cells.lookup n = some a)
  (hfr : ∀ n, (n, NameKind.free) ∈ sc.names -> (cl.lookup n).isSome = true) (hn : g.h.Ns C m) (hC : g.ω C = none /\ c.s₀.heap.get? C = none) : En (l7 f cs C cl hcl) (without ρ x) g where
 ns := ⟨m, hn⟩
 var := fun y hy => by
  unfold dz at hy
  split at hy
  ·rename_i q
   have hyx : y = x := (cs.locs _ (mem_of_lookup q) rfl).2.elim id fun r => by rw [r] at hy; exact Bool.noConfusion hy
   refine ⟨m y, .loc (lookup_relabel_local q) fun m' n' => iO n' hn y, fun v hv => ?_⟩
   unfold without at hv
   rw [Id hyx] at hv
   exact aJ rfl hv
  ·rename_i q; exact absurd rfl (cs.cell _ (mem_of_lookup q))
  ·rename_i q
   obtain ⟨a, ha⟩ := Option.isSome_iff_exists.mp (hfr y (mem_of_lookup q))
   have hy' : dz fsc y = true := by
    have := cs.free _ (mem_of_lookup q) rfl
    unfold fP at this; unfold dz
    split at this
    ·rename_i r; rw [r]; exact hy
    ·rename_i r; rw [r]; exact hy
    ·exact Bool.noConfusion this
   obtain ⟨ov, va, r⟩ := ok.var y hy'
   have hk : (compEnvC sc cl C f.env).kindOf y = some .cell ∨ (compEnvC sc cl C f.env).kindOf y = some .free := (p6 (env := f.env) q).elim .inr fun r => .inl r.2
   refine ⟨ov, ?_, fun v hv => r v ?_⟩
   ·cases va with
    | loc hl _ =>
     have := f.cel y (cs.free _ (mem_of_lookup q) rfl)
     rw [hl] at this
     rcases this with t | t <;> cases t
    | cel b _ hb hi => exact .cel a hk ha (Option.some.inj ((hcl y a (mem_of_lookup ha)).symm.trans hb) ▸ hi)
   ·unfold without at hv
    split at hv
    ·exact aJ rfl hv
    ·exact hv
  ·exact Bool.noConfusion hy
 there := fun n a m => ok.there n a (mem_of_lookup (hcl n a m))
 own := fun a m => by
  rcases lS m with rfl | ⟨n, m⟩
  ·exact hC
  ·exact ok.own a (iP (mem_of_lookup (hcl n a m)))
noncomputable abbrev eK (ifs : List Expr) (env : Env) (b : Bool) : Sem Bool :=
 forIn ifs b fun c r => if r = true then do let ok <- isTrue c env (eval c env); pure (ForInStep.yield ok) else pure (ForInStep.yield r)
section
variable {c : Cx} {A : Around} {sc : Scope} {f : Fr A sc} {ρ : an}
theorem vq (env : Env) : ∀ (ifs : List Expr), eK ifs env false = pure false
 | [] => by simp [eK]
 | c :: r => by
  have ih := vq env r
  unfold eK at ih ⊢
  rw [List.forIn_cons]
  simp only [Bool.false_eq_true, if_false]
  simpa using ih
theorem p7 {ev : Expr -> HP -> R Bool} (hs : pW c f ρ ev) : ∀ {ifs : List Expr}, SimB c f ρ (eK ifs f.env true) (bv .And (ifs.map ev))
 | [] => fun H b H' e g ok Q E k => by
  cases e
  unfold eK
  rw [List.forIn_nil]
  exact I8 (k g .refl)
 | x :: r => fun H b H' e g ok => bn e fun b1 H1 e1 e => fun Q E k => by
  unfold eK
  rw [List.forIn_cons]
  simp only [if_true]
  refine IV (IV (hs x H b1 H1 e1 g ok _ E fun g1 L1 => I8 ?_))
  cases b1 with
  | true => exact p7 hs H1 b H' e g1 (ok.le L1) Q E fun g2 L2 => k g2 (L1.trans L2)
  | false =>
   cases e
   exact wpAny_of_eq (vq f.env r) (k g1 L1)
end
end Mine.Internal
namespace Mine.Internal
open PySem PyProof.Rows PySem.Calls
theorem l8 {β : Type} {v : AV} {xs : List AV} {H : HP} {k : R β} {y : β × HP} {P : Prop} (h : dY v xs H k = some y) (kk : cq v xs H -> k = some y -> P) : P := by
 unfold dY at h
 by_cases q : cq v xs H
 ·rw [Id q] at h; exact kk q h
 ·rw [IU q] at h; exact aJ rfl h
theorem p8 {src : AV} {xs : List AV} {tst : an -> HP -> R Bool} {elt : an -> HP -> R AV} {x : Str} {ρ : an} : ∀ {vs : List AV} {H H' : HP} {ys : List AV}, dZ src xs tst elt x ρ vs H = some (ys, H') -> ys.length <= vs.length
 | [], H, H', ys, e => l8 e fun O e => by cases e; exact IO _
 | v :: vs, H, H', ys, e => l8 e fun O e => bn e fun b H1 e1 e => by
  cases b with
  | true =>
   refine bn e fun y H2 e3 e => bn e fun zs H3 e5 e => ?_
   cases e
   exact Nat.succ_le_succ (p8 e5)
  | false => exact Nat.le_succ_of_le (p8 e)
section
variable {c : Cx} {A : Around} {sc : Scope} {f : Fr A sc} {ρ : an}
structure CAd {H : HP} (f : Fr A sc) (D I : Addr) (g : G c H) : Prop where
 dc : D ∉ bN f.env
 ic : I ∉ bN f.env
 ne : I ≠ D
 i0 : g.ω I = none /\ c.s₀.heap.get? I = none
 d0 : g.ω D = none /\ c.s₀.heap.get? D = none
inductive DP {H₀ : HP} (f : Fr A sc) (D I : Addr) (src : AV) (xs ys : List AV) (tst : an -> HP -> R Bool) (el : an -> HP -> R AV) (x : Str) (ρ : an) (H' : HP) (g : G c H₀) (k : Nat) (s' : Shared) : Prop
 | mk (i : Nat) (H1 : HP) (g1 : G c H1) (done rest : List AV) (vs : List Value) (n : Nat) (hs : s' = g1.s) (hi : i <= xs.length) (hk : k = xs.length + 1 - i) (it : ItAt c.prog c.w src xs I i g1.ω H1 g1.h) (hD : g1.h.get? D = some (bB "list" vs n)) (cd : CvL g1.ω done vs)
   (ok : En f (without ρ x) g1) (ad : CAd f D I g1) (e : dZ src xs tst el x ρ (xs.drop i) H1 = some (rest, H')) (hy : ys = done ++ rest) (hl : done.length <= i) (L : Le [f.env.locals, D, I] g g1)
theorem CAd.le {H H' : HP} {D I : Addr} {g : G c H} {g' : G c H'} {own : List Addr} {oD oI : Obj} (ad : CAd f D I g) (L : Le own g g') (hD : g.h.get? D = some oD) (hI : g.h.get? I = some oI) : CAd f D I g' :=
 ⟨ad.dc, ad.ic, ad.ne, ⟨(L.keep I oI hI ad.i0.1).1, ad.i0.2⟩, ⟨(L.keep D oD hD ad.d0.1).1, ad.d0.2⟩⟩
set_option tactic.hygienic true in
theorem En.without {H : HP} {g : G c H} {x : Str} {v : AV} (ok : En f (upd ρ x v) g) : En f (Mine.Internal.without ρ x) g := ok.fewer fun y u r => by
 unfold Mine.Internal.without at r; rw [fN]
 split at r
 ·exact aJ rfl r
 ·rename_i q; rw [IU q]; exact r
set_option tactic.hygienic true in
theorem DQ {elt iter : Expr} {x : Str} {px : Pos} {ifs : List Expr} {pos : Pos} {tst : an -> HP -> R Bool} {el : an -> HP -> R AV} {D I : Addr} {src : AV} {xs ys : List AV} {H₀ H' : HP} {g : G c H₀} {R : Result -> Shared -> Prop}
  (hsz : xs.length <= aM) (hcx : sc.names.lookup x = some .local) (hod : cG x = false) (ht : ∀ ρ, SimB c f ρ (eK ifs f.env true) (tst ρ)) (he : ∀ ρ, Sim c f ρ (eval elt f.env) (el ρ)) (ad : CAd f D I g)
  (hit : ItAt c.prog c.w src xs I 0 g.ω H₀ g.h) (hD : g.h.get? D = some (bB "list" [] 0)) (ok : En f (without ρ x) g) (e : dZ src xs tst el x ρ xs H₀ = some (ys, H'))
  (hR : ∀ (g' : G c H') vs n, Le [f.env.locals, D, I] g g' -> CAd f D I g' -> g'.h.get? D = some (bB "list" vs n) -> CvL g'.ω ys vs -> (∃ m, g'.h.Ns f.env.locals m) -> ∀ h'', Heap.ExtBut I g'.h h'' -> R (.ok .next) { g'.s with heap := h'' }) :
  codeAny (model c.prog c.w) A (.compLoop (.ListComp elt [⟨.Name x px, iter, ifs, 0⟩] sc pos) 0 (.ref I) (.ref D) f.env) R g.s := by
 refine codeAny_compLoop_tests (DP f D I src xs ys tst el x ρ H' g) ?_ (xs.length + 1) ⟨0, H₀, g, [], ys, [], 0, rfl, Nat.zero_le _, rfl, hit, hD, .nil, ok, ad, e, rfl, IO _, .refl⟩
 clear hit hD ok e ad
 rintro k s' ⟨i, H1, g1, done, rest, vs, n, rfl, hi, rfl, it, hD, cd, ok, ad, e, rfl, hdl, L1⟩
 by_cases hlt : i < xs.length
 case neg =>
  have hi' : i = xs.length := Nat.le_antisymm hi (Nat.not_lt.mp hlt)
  subst hi'
  rw [List.drop_length] at e
  refine l8 e fun st e => ?_
  cases e
  refine vp f.hnd st it fun h'' hb => ?_
  rw [JA] at hR
  exact hR g1 vs n L1 ad hD cd ok.ns h'' hb
 case pos =>
  have hx : xs[i]? = some xs[i] := I3 hlt
  rw [List.drop_eq_getElem_cons hlt] at e
  generalize xs[i] = v at hx e
  refine l8 e fun st e => bn e fun b H2 e2 e => vo ad.i0 st it hx fun cv g2 L2 it2 cv2 => ?_
  obtain ⟨oI, hoI⟩ := it.has
  have hID : D ∉ [I] := fun m => ad.ne (I0.mp m).symm
  have hD2 := (L2.keep D _ hD ad.d0.1).2 hID
  have ad2 := ad.le L2 hD hoI
  have ok2 := ok.leO L2 fun b m q => ad.ic (I0.mp q ▸ m)
  have cd2 := L2.cvs cd
  have L12 : Le [f.env.locals, D, I] g g2 := L1.trans (L2.wide fun a m => JB _ (JB _ m))
  obtain ⟨oI2, hoI2⟩ := it2.has
  clear L2 cd ok ad hD it st L1 hID hoI oI
  show wpAny _ _ (assign (.Name x px) f.env cv) _ _ _
  refine wpAny_assign_Name (pP ok2 (by unfold bW; rw [hcx, hod]; rfl) cv2 fun a g3 ma ha L3 ok3 => ?_)
  obtain rfl := ha hcx
  rw [DM] at ok3
  have hIC : I ∉ [f.env.locals] := fun m => ad2.ic (I0.mp m ▸ Jj)
  have hDC : D ∉ [f.env.locals] := fun m => ad2.dc (I0.mp m ▸ Jj)
  have st : ∀ {H5 : HP} {g5 : G c H5}, Le [] g3 g5 -> Le [f.env.locals] g2 g5 := fun L => L3.trans L.up
  have kD : ∀ {H5 : HP} {g5 : G c H5}, Le [] g3 g5 -> g5.h.get? D = some (bB "list" vs n) := fun L => ((st L).keep D _ hD2 ad2.d0.1).2 hDC
  have kI : ∀ {H5 : HP} {g5 : G c H5}, Le [] g3 g5 -> g5.h.get? I = some oI2 := fun L => ((st L).keep I _ hoI2 ad2.i0.1).2 hIC
  have kt : ∀ {H5 : HP} {g5 : G c H5}, Le [] g3 g5 -> ItAt c.prog c.w src xs I (i + 1) g5.ω H5 g5.h := fun L => it2.to (st L).le (st L).dk fun o q => ((st L).keep I _ q ad2.i0.1).2 hIC
  have kL : ∀ {H5 : HP} {g5 : G c H5}, Le [] g3 g5 -> Le [f.env.locals, D, I] g g5 := fun L => L12.trans ((st L).wide fun a m => I0.mp m ▸ Jj)
  refine ht (upd ρ x v) H1 b H2 e2 g3 ok3 _ _ fun g4 L4 => ?_
  have hn : xs.length + 1 - (i + 1) < xs.length + 1 - i := by exact aN 0x11111b311c3933ca311b31a922 (I6 (IO _)) (I1 (am 0x11a9211a3119311 hlt))
  cases b with
  | false =>
   rw [IU Bool.false_ne_true]
   exact ⟨xs.length + 1 - (i + 1), hn, ⟨i + 1, H2, g4, done, rest, vs, n, rfl, hlt, rfl, kt L4, kD L4, (st L4).cvs cd2, (ok3.le L4).without, ad2.le (st L4) hD2 hoI2, e, rfl, Nat.le_succ_of_le hdl, kL L4⟩⟩
  | true =>
   rw [Id rfl]
   refine bn e fun y H3 e4 e => bn e fun rest' H4 e6 e => ?_
   cases e
   refine he (upd ρ x v) H2 y H3 e4 g4 (ok3.le L4) _ _ fun cy g5 L5 cvy => ?_
   have L35 := L4.trans L5
   have ad5 := ad2.le (st L35) hD2 hoI2
   have cd5 := ((st L35).cvs cd2).append (.cons cvy .nil)
   have hlen : vs.length = done.length := by
    have := cd5.length
    rw [I2, I2] at this
    exact Nat.succ.inj this
   refine wpAny_list_append_plain (s := g5.s) (items := vs.toArray) ⟨n, kD L35⟩ (fun h6 hp6 sb6 => ?_) (by rw [Jz, hlen]; exact Je (Je hdl hi) (Je hsz cP))
   obtain ⟨n6, hD6⟩ := hp6
   have kk : ∀ b o, b ∉ [D] -> g5.h.get? b = some o -> h6.get? b = some o := fun b o q e => (sb6.2 b fun r => q (I0.mpr r)).trans e
   let g6 : G c H3 := g5.mv [D] g5.tk kk fun a m => I0.mp m ▸ ad5.d0
   have L6 : Le [D] g5 g6 := G.mv_le fun a m => I0.mp m ▸ ⟨_, hD6⟩
   have hID : I ∉ [D] := fun m => ad5.ne (I0.mp m)
   refine ⟨xs.length + 1 - (i + 1), hn, ⟨i + 1, H3, g6, done ++ [y], rest', vs ++ [cy], n6, rfl, hlt, rfl, (kt L35).to L6.le L6.dk fun o q => (L6.keep I _ q ad5.i0.1).2 hID, ?_, L6.cvs cd5, ((ok3.le L35).leO L6 fun b m q => ad5.dc (I0.mp q ▸ m)).without, ad5.le L6 (kD L35) (kI L35), e6, ?_, ?_, (kL L35).trans (L6.wide fun a m => by rw [I0.mp m]; exact JB _ Jj)⟩⟩
   ·exact hD6.trans (by simp)
   ·rw [I5]; rfl
   ·rw [I2]; exact Nat.succ_le_succ hdl
structure CEnd {H H' : HP} (g : G c H) (g' : G c H') (D C : Addr) (ys : List AV) (vs : List Value) (n : Nat) : Prop where
 L : Le [] g g'
 nD : g.h.get? D = none
 nC : g.h.get? C = none
 oD : g'.ω D = none
 oC : g'.ω C = none
 ne : D ≠ C
 at' : g'.h.get? D = some (bB "list" vs n)
 cvs : CvL g'.ω ys vs
 ns : ∃ m, g'.h.Ns C m
 size : ys.length <= aM
set_option tactic.hygienic true in
theorem vr {csc : Scope} {elt iter : Expr} {x : Str} {px : Pos} {ifs : List Expr} {pos pos' : Pos} {tst : an -> HP -> R Bool} {el : an -> HP -> R AV} {it : HP -> R AV} {ys : List AV} {H H' : HP} {g : G c H} {use : Option (Value -> Sem Unit)} {Q E : Value -> Shared -> Prop}
  (cs : gK sc csc x) (hod : cG x = false) (hset : ∀ x, foldedSetIterable iter f.env x = pure x) (hi : Sim c f ρ (eval iter f.env) it) (ht : ∀ (f' : Fr A csc) ρ, SimB c f' ρ (eK ifs f'.env true) (tst ρ)) (he : ∀ (f' : Fr A csc) ρ, Sim c f' ρ (eval elt f'.env) (el ρ))
  (e : bg tst el x ρ it H = some (ys, H')) (ok : En f ρ g)
  (k : ∀ D C (g' : G c H') vs n, CEnd g g' D C ys vs n -> compPost (model c.prog c.w) A E use Q (.ref D) C (.ok .next) g'.s) :
  wpAny (model c.prog c.w) A (comprehension (.ListComp elt [⟨.Name x px, iter, ifs, 0⟩] csc pos) csc f.env pos' (newList []) false (eval iter f.env) use) Q E g.s := by
 refine bn e fun src H1 e1 e => lf e fun xs e2 e => cV e fun hsz e => ?_
 obtain ⟨cl, hclos, hcl, hfr⟩ := DL (env := f.env) (sc := csc) (fun y m q => by
  obtain ⟨ov, va, _⟩ := ok.var y.1 (DN (cs.free y m q) (cs.odd y m q))
  cases va with
  | loc hl _ =>
   have := f.cel y.1 (cs.free y m q)
   rw [hl] at this
   rcases this with t | t <;> cases t
  | cel a _ hl _ => exact ⟨a, hl⟩)
 refine wpAny_comprehension_free rfl hset hclos cs.kind (fun y m q => (cs.locs y m q).1) ?_
 refine hi H src H1 e1 g ok _ E fun cv g1 L1 cv1 => vn cv1 e2 fun I h2 hI hk2 it2 => ?_
 refine wpAny_newObj_type (wpAny_newFunctionEnv cs.cell (by intro y hy; cases hy) (fun h4 hns4 hsb4 => ?_) cs.kind)
 dsimp only at hI hns4 hsb4 ⊢
 generalize hH3 : h2.push { cls := .type "list", dict := none, data := .seq ([] : List Value).toArray } = h3 at hns4 hsb4 ⊢
 have hD3 : h3.get? h2.objs.size = some (bB "list" [] 0) := by rw [<- hH3]; exact JE _ rfl
 have hk3 : ∀ b o, h2.get? b = some o -> h3.get? b = some o := fun b o e => by rw [<- hH3]; exact Js _ e
 have hD2 : h2.get? h2.objs.size = none := dv _
 generalize h2.objs.size = D at hD3 hD2 ⊢
 have hC3 : h3.get? h3.objs.size = none := dv _
 have hk4 : ∀ b o, h3.get? b = some o -> h4.get? b = some o := fun b o e => hsb4.extBut b o (fun q => aJ hC3 (q ▸ e)) (Js _ e)
 generalize h3.objs.size = C at hC3 hns4 ⊢
 have back : ∀ {h h' : Heap} {a : Addr}, (∀ b o, h.get? b = some o -> h'.get? b = some o) -> h'.get? a = none -> h.get? a = none := fun {h h' a} k n => by
  cases q : h.get? a with
  | none => rfl
  | some o => exact aJ n (k _ _ q)
 have h2C := back hk3 hC3
 have h1D := back hk2 hD2
 have h1C := back hk2 h2C
 have k14 : ∀ b o, g1.h.get? b = some o -> h4.get? b = some o := fun b o q => hk4 _ _ (hk3 _ _ (hk2 _ _ q))
 obtain ⟨oI, hoI⟩ := it2.has
 have hID : I ≠ D := fun q => aJ hD2 (q ▸ hoI)
 have hIC : I ≠ C := fun q => aJ h2C (q ▸ hoI)
 have hDC : D ≠ C := fun q => aJ hC3 (q ▸ hD3)
 have it4 : ItAt c.prog c.w src xs I 0 g1.ω H1 h4 := it2.to (fun O O q => q) (fun b k es q e => ⟨es, e, IO _, fun O => by
  obtain ⟨ob, hob, _⟩ := g1.inv.obj b _ q
  exact (hk4 _ _ (hk3 _ _ (hk2 _ _ hob))).trans (hk2 _ _ hob).symm⟩) fun o q => hk4 _ _ (hk3 _ _ q)
 have hD4 := hk4 _ _ hD3
 clear hk2 hk3 hk4 hD2 hC3 h2C hoI it2 hD3 hH3 hsb4 oI
 have ok1 := ok.le L1
 have main : ∀ tk4, codeAny (model c.prog c.w) A (.compLoop (.ListComp elt [⟨.Name x px, iter, ifs, 0⟩] csc pos) 0 (.ref I) (.ref D) (compEnvC csc cl C f.env)) (compPost (model c.prog c.w) A E use Q (.ref D) C) { g1.s with heap := h4, toks := tk4 } := fun tk4 => by
  let g4 : G c H1 := g1.ks tk4 k14
  have L4 : Le [] g1 g4 := G.ks_le
  have ownNe : ∀ a, a ≠ C -> g1.h.get? a = none -> a ∉ bN (l7 f cs C cl hcl).env := fun a ne n m => (lS m).elim ne fun ⟨y, m⟩ => by
   obtain ⟨o, q⟩ := ok1.live a (iP (mem_of_lookup (hcl y a m)))
   exact aJ n q
  have okc : En (l7 f cs C cl hcl) (without ρ x) g4 := (ok1.le L4).comp cs hcl hfr hns4 ⟨g1.out h1C, g1.low h1C⟩
  refine DQ (f := l7 f cs C cl hcl) (g := g4) hsz cs.own hod (ht _) (he _) ⟨ownNe D hDC h1D, ownNe I hIC hI, hID, ⟨g1.out hI, g1.low hI⟩, ⟨g1.out h1D, g1.low h1D⟩⟩ it4 hD4 okc e fun g5 vs n L5 ad hD5 cv5 ns5 h6 hb => ?_
  have kk : ∀ b o, b ∉ [I] -> g5.h.get? b = some o -> h6.get? b = some o := fun b o q r => hb b o (fun q' => q (I0.mpr q')) r
  have L15 : Le [] g1 g5 := ((L4.up).trans L5).drop fun a m => .inr (by
   rcases Jx.mp m with rfl | m
   ·exact h1C
   rcases Jx.mp m with rfl | m
   ·exact h1D
   ·exact I0.mp m ▸ hI)
  let g6 : G c H' := g5.mv [I] g5.tk kk fun a m => I0.mp m ▸ ad.i0
  have L16 : Le [] g1 g6 := L15.mv fun a m => I0.mp m ▸ hI
  obtain ⟨mm, ns5⟩ := ns5
  obtain ⟨oC, hoC⟩ := lQ hns4
  exact k D C g6 vs n ⟨L1.trans L16, L1.back h1D, L1.back h1C, ad.d0.1, (L5.keep C oC hoC (g1.out h1C)).1, hDC, kk _ _ (fun m => hID (I0.mp m).symm) hD5, cv5, ⟨mm, ns5.at' fun o q => kk _ _ (fun m => hIC (I0.mp m).symm) q⟩, Je (p8 e) hsz⟩
 exact codeAny_compStart_list (main _) (DK it4 (main _))
def vt (m : Bool) (r : R (List AV)) : R AV := av r fun ys H => some (Vm m H (.list ys), Hm m H (.list ys))
theorem CEnd.go {H H' : HP} {g : G c H} {g' : G c H'} {D C : Addr} {ys : List AV} {vs : List Value} {n : Nat} {h2 : Heap} {m : Bool} {Q : Value -> Shared -> Prop} (x : CEnd g g' D C ys vs n) (hs : Heap.SameBut C g'.h h2) (k : K g (Hm m H' (.list ys)) (Vm m H' (.list ys)) Q) : Q (.ref D) { g'.s with heap := h2 } := by
 have kk : ∀ b o, b ∉ [C] -> g'.h.get? b = some o -> h2.get? b = some o := fun b o q r => (hs.2 b fun q' => q (I0.mpr q')).trans r
 exact K.reg (g := g'.mv [C] g'.tk kk fun a m => I0.mp m ▸ ⟨x.oC, g.low x.nC⟩) k (x.L.mv fun a m => I0.mp m ▸ x.nC) x.nD x.oD (kk _ _ (fun m => x.ne (I0.mp m)) x.at') (Sq.mk vs n x.size x.cvs) rfl rfl
theorem DR {csc : Scope} {elt iter : Expr} {x : Str} {px : Pos} {ifs : List Expr} {pos : Pos} {tst : an -> HP -> R Bool} {el : an -> HP -> R AV} {it : HP -> R AV} (cs : gK sc csc x) (hod : cG x = false) (hset : ∀ x, foldedSetIterable iter f.env x = pure x)
  (hi : Sim c f ρ (eval iter f.env) it) (ht : ∀ (f' : Fr A csc) ρ, SimB c f' ρ (eK ifs f'.env true) (tst ρ)) (he : ∀ (f' : Fr A csc) ρ, Sim c f' ρ (eval elt f'.env) (el ρ)) : SimF c f ρ (eval (.ListComp elt [⟨.Name x px, iter, ifs, 0⟩] csc pos) f.env) (fun H => dB (bg tst el x ρ it H)) := fun H v H' e g ok m => by
 refine bn e fun ys H1 e1 e => ?_
 cases e
 intro Q E k
 rw [eval_ListComp]
 refine vr (use := none) cs hod hset hi ht he e1 ok fun D C g' vs n x => ?_
 obtain ⟨mm, ns⟩ := x.ns
 exact ⟨mm, ns, fun h2 hs => x.go hs k⟩
end
end Mine.Internal
namespace Mine.Internal
open PySem PyProof.Rows PySem.Calls
set_option tactic.hygienic true in
noncomputable def FlOk (ω : Wd) : Fl -> Flow -> Prop
 | .next, .next => True
 | .ret v, .ret c => Cv ω v c
 | _, _ => False
@[elab_as_elim] theorem FlOk.next_el {ω : Wd} {cf : Flow} {P : Flow -> Prop} (h : FlOk ω .next cf) (k : P .next) : P cf := by
 cases cf <;> first | exact k | exact h.elim
@[elab_as_elim] theorem FlOk.ret_el {ω : Wd} {v : AV} {cf : Flow} {P : Flow -> Prop} (h : FlOk ω (.ret v) cf) (k : ∀ c, Cv ω v c -> P (.ret c)) : P cf := by
 cases cf <;> first | exact k _ h | exact h.elim
section
variable {c : Cx} {A : Around} {sc : Scope} {f : Fr A sc}
noncomputable def KS {H : HP} (f : Fr A sc) (g : G c H) (fl : Fl) (ρ' : an) (H' : HP) (Q : Flow -> Shared -> Prop) : Prop := ∀ cf (g' : G c H'), Le (bN f.env) g g' -> En f ρ' g' -> FlOk g'.ω fl cf -> Q cf g'.s
noncomputable def vu {H : HP} (f : Fr A sc) (t : Sem Flow) (g : G c H) (fl : Fl) (ρ' : an) (H' : HP) : Prop := ∀ Q E, KS f g fl ρ' H' Q -> wpAny (model c.prog c.w) A t Q E g.s
noncomputable def SimS (c : Cx) {A : Around} {sc : Scope} (f : Fr A sc) (t : Sem Flow) (r : an -> HP -> RS) : Prop := ∀ ρ H fl ρ' H', r ρ H = some (fl, ρ', H') -> ∀ g : G c H, En f ρ g -> vu f t g fl ρ' H'
theorem KS.after {H H1 H' : HP} {g : G c H} {g1 : G c H1} {fl : Fl} {ρ' : an} {Q : Flow -> Shared -> Prop} (k : KS f g fl ρ' H' Q) (L : Le (bN f.env) g g1) : KS f g1 fl ρ' H' Q := fun cf g' L' ok F => k cf g' (L.trans L') ok F
set_option tactic.hygienic true in
theorem DS {r : RS} {k : an -> HP -> RS} {x : Fl × an × HP} {P : Prop} (h : sq r k = some x) (k1 : ∀ ρ H, r = some (.next, ρ, H) -> k ρ H = some x -> P) (k2 : ∀ v ρ H, r = some (.ret v, ρ, H) -> x = (.ret v, ρ, H) -> P) : P := by
 match r, h with
 | some (.next, ρ, H), h => exact k1 ρ H rfl h
 | some (.ret v, ρ, H), h => exact k2 v ρ H rfl (Option.some.inj h).symm
set_option tactic.hygienic true in
theorem KS.seq {H H' : HP} {ρ' : an} {fl : Fl} {r : RS} {fk : an -> HP -> RS} {t : Sem Flow} {g : G c H} {E : Value -> Shared -> Prop} (e : sq r fk = some (fl, ρ', H')) (h : ∀ fl ρ1 H1, r = some (fl, ρ1, H1) -> vu f t g fl ρ1 H1) {Q' : Flow -> Shared -> Prop}
  (k1 : ∀ ρ1 H1 (g1 : G c H1), fk ρ1 H1 = some (fl, ρ', H') -> Le (bN f.env) g g1 -> En f ρ1 g1 -> Q' .next g1.s) (k2 : ∀ u cv (g1 : G c H'), fl = .ret u -> Le (bN f.env) g g1 -> En f ρ' g1 -> Cv g1.ω u cv -> Q' (.ret cv) g1.s) : wpAny (model c.prog c.w) A t Q' E g.s :=
 DS e (fun ρ1 H1 e1 e => h _ _ _ e1 Q' E fun cf g1 L1 ok1 F => FlOk.next_el (P := fun cf => Q' cf g1.s) F (k1 ρ1 H1 g1 e L1 ok1)) fun v ρ1 H1 e1 e => by
  cases e
  exact h _ _ _ e1 Q' E fun cf g1 L1 ok1 F => FlOk.ret_el (P := fun cf => Q' cf g1.s) F fun cv q => k2 v cv g1 rfl L1 ok1 q
theorem DT {pos : Pos} : SimS c f (exec (.Pass pos) f.env) aq := fun ρ H fl ρ' H' e g ok Q E k => by
 cases e
 exact wpAny_Pass (k _ g .refl ok trivial)
theorem DU {e : Expr} {pos : Pos} {r : an -> HP -> R AV} (he : ∀ ρ, Sim c f ρ (eval e f.env) (r ρ)) : SimS c f (exec (.Return (some e) pos) f.env) (fun ρ H => aC (r ρ H) ρ) := fun ρ H fl ρ' H' e g ok => bn e fun v H1 e1 e => by
 cases e
 exact fun Q E k => wpAny_Return_some (he ρ H v _ e1 g ok _ E fun cv g1 L1 C1 => k _ g1 L1.up (ok.le L1) C1)
theorem DV {pos : Pos} : SimS c f (exec (.Return none pos) f.env) (fun ρ H => aC (bZ H) ρ) := fun ρ H fl ρ' H' e g ok Q E k => by
 cases e
 exact wpAny_Return_none (k (.ret .none) g .refl ok Cv.none)
set_option tactic.hygienic true in
theorem DW {e : Expr} {pos : Pos} {r : an -> HP -> R AV} (hn : cg e = true) (hc : gG e = false) (he : ∀ ρ, Sim c f ρ (eval e f.env) (r ρ)) : SimS c f (exec (.Expr e pos) f.env) (fun ρ H => cT (r ρ H) ρ) := fun ρ H fl ρ' H' e' g ok => bn e' fun v H1 e1 e => cV e fun hv e => by
 cases e
 intro Q E k
 have hi : interactive f.env = false := by unfold interactive; rw [f.kind]; rfl
 refine wpAny_Expr (he ρ H v _ e1 g ok _ E fun cv g1 L1 C1 => ?_) hi ((ef hn).swap hc _ _ _)
 have kk := k .next g1 L1.up (ok.le L1) trivial
 cases Cs.of C1 hv <;> exact kk
theorem p9 {ρ : an} {x : Str} {v : AV} {cv : Value} {H : HP} {g : G c H} {Q : Unit -> Shared -> Prop} {E : Value -> Shared -> Prop} (ok : En f ρ g) (hx : bW sc x = true) (C : Cv g.ω v cv) (k : ∀ g' : G c H, Le (bN f.env) g g' -> En f (upd ρ x v) g' -> Q () g'.s) : wpAny (model c.prog c.w) A (storeName f.env x cv) Q E g.s :=
 pP ok hx C fun a g' ma O L ok' => k g' (L.wide fun b m => I0.mp m ▸ ma) ok'
theorem DX {x : Str} {q : Pos} {e : Expr} {pos : Pos} {r : an -> HP -> R AV} (hs : swapsWith e (some (.Name x q)) pos.line f.env = pure false) (hx : bW sc x = true) (he : ∀ ρ, Sim c f ρ (eval e f.env) (r ρ)) : SimS c f (exec (.Assign [.Name x q] e pos) f.env) (fun ρ H => asgN x (r ρ H) ρ) := fun ρ H fl ρ' H' e' g ok => bn e' fun v H1 e1 e => by
 cases e
 exact fun Q E k => wpAny_Assign_Name (he ρ H v _ e1 g ok _ E fun cv g1 L1 C1 => p9 (ok.le L1) hx C1 fun g2 L2 ok2 => k _ g2 (L1.up.trans L2) ok2 trivial) hs
set_option tactic.hygienic true in
theorem DY {x : Str} {q : Pos} {elt iter : Expr} {y : Str} {px : Pos} {ifs : List Expr} {csc : Scope} {cpos pos : Pos} {tst : an -> HP -> R Bool} {el : an -> HP -> R AV} {it : an -> HP -> R AV} (m : Bool)
  (hs : swapsWith (.ListComp elt [⟨.Name y px, iter, ifs, 0⟩] csc cpos) (some (.Name x q)) pos.line f.env = pure true) (hx : bW sc x = true) (cs : gK sc csc y) (hod : cG y = false) (hset : ∀ x, foldedSetIterable iter f.env x = pure x)
  (hi : ∀ ρ, Sim c f ρ (eval iter f.env) (it ρ)) (ht : ∀ (f' : Fr A csc) ρ, SimB c f' ρ (eK ifs f'.env true) (tst ρ)) (he : ∀ (f' : Fr A csc) ρ, Sim c f' ρ (eval elt f'.env) (el ρ)) :
  SimS c f (exec (.Assign [.Name x q] (.ListComp elt [⟨.Name y px, iter, ifs, 0⟩] csc cpos) pos) f.env) (fun ρ H => asgN x (vt m (bg tst el y ρ (it ρ) H)) ρ) := fun ρ H fl ρ' H' e' g ok => bn e' fun v H1 e1 e => bn e1 fun ys H2 e2 e3 => by
 cases e
 cases e3
 intro Q E k
 rw [exec_Assign_Name_used _ _ _ _ hs]
 refine IV (wpAny_standAt (IV ?_))
 show wpAny _ _ (do let _ <- comprehension (.ListComp elt [⟨.Name y px, iter, ifs, 0⟩] csc cpos) csc f.env _ (newList []) _ (eval iter f.env) (some (assign (.Name x q) f.env))) _ _ _
 refine IV (vr (use := some _) cs hod hset (hi ρ) ht he e2 ok fun D C g1 vs n w => ?_)
 show wpAny _ _ (assign (.Name x q) f.env (.ref D)) _ _ _
 obtain ⟨mm, ns⟩ := w.ns
 refine g1.regM m (v := .list ys) w.oD (g.low w.nD) w.at' (Sq.mk vs n w.size w.cvs) rfl rfl fun g2 es hω hL C2 => ?_
 have L2 := hL w.L w.nD
 rw [<- es]
 have eh : g2.h = g1.h := congrArg Shared.heap es
 have ns2 : g2.h.Ns C mm := eh ▸ ns
 have oC2 : g2.ω C = none := (hω C w.ne.symm).trans w.oC
 refine wpAny_assign_Name (pP (ok.le L2) hx C2 fun a g3 ma O L3 ok3 => ?_)
 have hCa : ∀ b ∈ bN f.env, b ≠ C := fun b mb q => by
  obtain ⟨o, ho⟩ := ok.live b mb
  exact aJ w.nC (q ▸ ho)
 obtain ⟨oC, hoC⟩ := lQ ns2
 have kC := L3.keep C oC hoC oC2
 have hCn : C ∉ [a] := fun r => hCa a ma (I0.mp r).symm
 refine ⟨mm, ns2.at' fun o q => (L3.keep C o q oC2).2 hCn, fun h4 hs4 => I8 (I8 ?_)⟩
 have kk : ∀ b o, b ∉ [C] -> g3.h.get? b = some o -> h4.get? b = some o := fun b o q r => (hs4.2 b fun q' => q (I0.mpr q')).trans r
 let g4 := g3.mv [C] g3.tk kk fun b m => I0.mp m ▸ ⟨kC.1, g.low w.nC⟩
 exact k .next g4 ((L2.up.trans (L3.wide fun b m => I0.mp m ▸ ma)).mv fun b m => I0.mp m ▸ w.nC) (ok3.to (g' := g4) (fun O O q => q) fun b mb o q => ⟨(ok3.own b mb).1, kk b o (fun m => hCa b mb (I0.mp m)) q⟩) trivial
theorem vw {e : Expr} {es : List Expr} {xs : List Str} {P : Prop} (h : fV (e :: es) = some xs) (k : ∀ x q ys, e = .Name x q -> xs = x :: ys -> fV es = some ys -> P) : P :=
 bd h fun x hx h => lV (P := fun e' => e = e' -> P) hx (fun q eq => mpV (P := fun xs' => xs = xs' -> P) h (fun ys hy exs => k x q ys eq exs hy) rfl) rfl
theorem vx {env : Env} : ∀ {es : List Expr} {xs : List Str}, fV es = some xs -> (assignEach es env).length = xs.length /\ (assignEach es env).findIdx? (·.1) = none
 | [], xs, h => by cases h; exact ⟨rfl, rfl⟩
 | e :: es, xs, h => vw h fun x q ys h1 h2 hy => by
  subst h1 h2
  obtain ⟨h1, h2⟩ := vx hy
  refine ⟨congrArg Nat.succ h1, ?_⟩
  show List.findIdx? (·.1) ((false, _) :: assignEach es env) = none
  rw [List.findIdx?_cons, h2]; rfl
theorem vy {E : Value -> Shared -> Prop} {H : HP} : ∀ {xs : List Str} {es : List Expr} {vs : List AV} {cs : List Value} {ρ ρ' : an} {g : G c H} {Q : Unit -> Shared -> Prop}, fV es = some xs -> xs.all (bW sc) = true -> bi ρ xs vs = some ρ' -> En f ρ g -> CvL g.ω vs cs ->
  (∀ g' : G c H, Le (bN f.env) g g' -> En f ρ' g' -> Q () g'.s) -> wpAny (model c.prog c.w) A (assignInOrder ((assignEach es f.env).map (·.2)) cs) Q E g.s
 | xs, [], vs, cs, ρ, ρ', g, Q, ht, hx, hu, ok, C, k => by
  cases ht
  cases C with
  | nil => cases hu; exact I8 (k g .refl ok)
  | cons _ _ => exact aJ rfl hu
 | xs, e :: es, vs, cs, ρ, ρ', g, Q, ht, hx, hu, ok, C, k => vw ht fun x q ys h1 h2 hy => by
  subst h1 h2
  cases C with
  | nil => exact aJ rfl hu
  | cons cv cr =>
   obtain ⟨hx1, hx2⟩ := I4.mp hx
   exact IV (wpAny_holding (wpAny_assign_Name (p9 ok hx1 cv fun g1 L1 ok1 => vy hy hx2 hu ok1 (L1.cvs cr) fun g2 L2 ok2 => k g2 (L1.trans L2) ok2)))
theorem qa : ∀ {xs : List Str} {vs : List AV} {ρ ρ' : an}, bi ρ xs vs = some ρ' -> vs.length = xs.length
 | [], [], _, _, _ => rfl
 | [], _ :: _, _, _, h => aJ rfl h
 | _ :: _, [], _, _, h => aJ rfl h
 | _ :: xs, _ :: vs, _, _, h => congrArg Nat.succ (qa h)
theorem vz {E : Value -> Shared -> Prop} {ρ : an} {t : Expr} {v : AV} {cv : Value} {ρ' : an} {H : HP} {g : G c H} {Q : Unit -> Shared -> Prop} (hb : fg sc t v ρ = some ρ') (ok : En f ρ g) (C : Cv g.ω v cv) (k : ∀ g' : G c H, Le (bN f.env) g g' -> En f ρ' g' -> Q () g'.s) : wpAny (model c.prog c.w) A (assign t f.env cv) Q E g.s := by
 unfold fg at hb
 cases hn : gF t with
 | some x =>
  rw [hn] at hb
  by_cases hx : bW sc x = true
  ·have hb : (if bW sc x = true then bb x else ff) v ρ = some ρ' := hb
   rw [Id hx] at hb
   cases hb
   exact lV (P := fun t => wpAny (model c.prog c.w) A (assign t f.env cv) Q E g.s) hn fun q => wpAny_assign_Name (p9 ok hx C k)
  ·have hb : (if bW sc x = true then bb x else ff) v ρ = some ρ' := hb
   rw [IU hx] at hb
   exact aJ rfl hb
 | none =>
  rw [hn] at hb
  cases he : (lL t).bind fV with
  | none => rw [he] at hb; exact aJ rfl hb
  | some xs =>
   rw [he] at hb
   by_cases hx : xs.all (bW sc) = true
   ·have hb : (if xs.all (bW sc) = true then bM xs else ff) v ρ = some ρ' := hb
    rw [Id hx] at hb
    refine bd he fun es h1 h2 => vb (P := fun t => wpAny (model c.prog c.w) A (assign t f.env cv) Q E g.s) h1 fun n q => bd hb fun vs h3 hu => ?_
    refine Cv.at_el rfl (asTup_el (P := fun v => Cv g.ω v cv -> Cv g.ω (.tup vs) cv) h3 id C) fun a ha => g.sq (g.inv.obj a _ ha) fun cs m hg O r => ?_
    obtain ⟨t1, t2⟩ := vx (env := f.env) h2
    refine wpAny_assign_Tuple (s := g.s) (items := cs.toArray) f.hnd ⟨_, hg, rfl, m, rfl⟩ (by rw [t1, Jz, r.length, qa hu]) t2 fun h' hb' => ?_
    have kk : ∀ b o, g.h.get? b = some o -> h'.get? b = some o := fun b o e => hb' b o (fun q => aJ (dv g.h) (q ▸ e)) e
    exact vy (g := g.ks g.tk kk) h2 hx hu (ok.le G.ks_le) r fun g2 L2 ok2 => k g2 ((G.ks_le).trans L2) ok2
   ·have hb : (if xs.all (bW sc) = true then bM xs else ff) v ρ = some ρ' := hb
    rw [IU hx] at hb
    exact aJ rfl hb
theorem DZ {es : List Expr} {n : Nat} {q : Pos} {e : Expr} {pos : Pos} {r : an -> HP -> R AV} (hn : cg e = true) (h4 : (kd e == 4) = false) (hc : gG e = false) (he : ∀ ρ, Sim c f ρ (eval e f.env) (r ρ)) : SimS c f (exec (.Assign [.Tuple es n q] e pos) f.env) (fun ρ H => asgT (fg sc (.Tuple es n q)) (r ρ H) ρ) := fun ρ H fl ρ' H' e' g ok =>
 bn e' fun v H1 e1 e => bd e fun ρ1 hb e => by
  cases e
  have hw := (ef hn).sole h4 hc es n q pos.line f.env
  exact fun Q E k => Assign_Tuple (he ρ H v _ e1 g ok _ E fun cv g1 L1 C1 => vz hb (ok.le L1) C1 fun g2 L2 ok2 => k _ g2 (L1.up.trans L2) ok2 trivial) hw.1 hw.2
theorem D0 {prog : Program} {w : World} {a : Addr} {vs : List Value} {n : Nat} {i : Int} {t : Tok} {v : Value} {s : Shared} {Q : Unit -> Shared -> Prop} {E : Value -> Shared -> Prop} (hg : s.heap.get? a = some (bB "list" vs n)) (h0 : 0 <= i) (hi : i.toNat < vs.length) (hfit : i < 2 ^ 63)
  (k : Q () { s with heap := s.heap.update a (Obj.mapSeq (·.setIfInBounds i.toNat v)) }) : wpAny (model prog w) A (PySem.setItem (.ref a) (.int i t) v) Q E s := by
 have hT : s.TypeIs (.ref a) "list" := ⟨_, hg, rfl⟩
 unfold PySem.setItem
 refine wpAny_holding (IV (wpAny_sequenceKey hT (by decide) (IV (wpAny_callSpecial?_slot (name := Str.ofString "__setitem__") hT slot_list_setitem
  (wpAny_call_entry slot_list_setitem hT entry_list_setitem ?_ (args_list_setitem _ _ _))))))
 show wpAny _ _ (Builtin.List.listSubscript? (.int i t) >>= _) _ _ s
 refine IV (wpAny_listSubscript_int (fitsIndex_of h0 hfit) ?_)
 clear hfit
 obtain ⟨j, rfl⟩ := Int.eq_ofNat_of_zero_le h0
 show wpAny _ _ ((seqItemAt a j >>= fun r => pure (r.map (j, ·))) >>= _) _ _ s
 refine IV (IV (wpAny_seqItemAt hg rfl (I8 ?_)))
 rw [Array.getElem?_eq_getElem (show j < vs.toArray.size from hi)]
 show wpAny _ _ (setSeqItemAt a j v >>= _) _ _ s
 exact IV (wpAny_setSeqItemAt hg rfl (I8 ⟨.none, rfl, I8 k⟩))
theorem D1 {o i v : AV} {co ci cv : Value} {H H' : HP} {g : G c H} {Q : Unit -> Shared -> Prop} {E : Value -> Shared -> Prop} (e : setItem H o i v = some H') (Co : Cv g.ω o co) (Ci : Cv g.ω i ci) (C : Cv g.ω v cv) (k : ∀ g' : G c H', Le [] g g' -> Q () g'.s) : wpAny (model c.prog c.w) A (PySem.setItem co ci cv) Q E g.s := by
 unfold setItem at e
 cases hd : dA o with
 | some d =>
  rw [hd] at e
  refine bd e fun i0 hi e => bd e fun es he e => cV e fun hs e => Ci.asInt hi fun t => ?_
  cases e
  refine Cv.asDct (P := fun co => wpAny (model c.prog c.w) A (PySem.setItem co _ cv) Q E g.s) Co hd fun p hp => ?_
  obtain ⟨hs1, hs3⟩ := I4.mp hs
  obtain ⟨hs2, hs3⟩ := I4.mp hs3
  have hst : ei es i0 v = es ++ [eI i0 v] := by
   unfold ei
   cases q : dJ i0 es with
   | true => rw [q] at hs3; cases hs3
   | false => rfl
  obtain ⟨o, ho, hl, m, kvs, r, D⟩ := g.dcl hp he
  refine wpAny_setItem_pairs (s := g.s) (intKind_is c.prog c.w i0 t) (D c.prog c.w g.h ho) (fun h4 hm hsb => ?_) (by rw [r.len]; exact Je hl cP)
  obtain ⟨o4, g4, dc⟩ := Dc.mk' (es := ei es i0 v) (Je (B0 _ _ _) (Jr hs2)) m (r.store (Cs.of C hs1)) hm
  exact k (g.put (g.tk + 1) hp rfl (fun b o r e => (hsb.2 b r).trans e) g4 ⟨_, JD (IX.mp he).1, dc⟩) (Le.put fun es' O h => by rw [he] at h; cases h; rw [hst, I2]; exact Nat.lt_succ_self _)
 | none =>
  rw [hd] at e
  refine bd e fun kk hk e => bd e fun i0 hi e => bd e fun xs hx e => cV e fun hs e => Ci.asInt hi fun t => ?_
  cases e
  obtain ⟨h1, h2⟩ := I4.mp hs
  have h1 := Jr h1
  have h3 : i0 = (i0.toNat : Int) := (I7 h1).symm
  have h2 : i0.toNat < xs.length := Int.ofNat_lt.mp (h3 ▸ Jr h2)
  refine Cv.at_el rfl (asRef_el (P := fun o => Cv g.ω o co -> Cv g.ω (.ref kk) co) hk id Co) fun p hp => g.sq (g.cel hp hx) fun vs n hg hl r => ?_
  exact D0 (s := g.s) hg h1 (r.length ▸ h2) (h3 ▸ u5 (Je (Nat.le_of_lt h2) hl)) (K.upd (Q := fun O => Q ()) (f := fun a => a.setIfInBounds i0.toNat cv) (ys := xs.set i0.toNat v) (v := .none) hp (g.klt hp) hg (fun O g' L O => k g' L) (by rw [List.length_set]; exact hl) (by simpa using r.set i0.toNat C) .none)
set_option tactic.hygienic true in
theorem D2 {o i e : Expr} {q pos : Pos} {fo fi fe : an -> HP -> R AV} (hn : cg e = true) (hc : gG e = false) (ho : ∀ ρ, Sim c f ρ (eval o f.env) (fo ρ)) (hi : ∀ ρ, Sim c f ρ (eval i f.env) (fi ρ)) (he : ∀ ρ, Sim c f ρ (eval e f.env) (fe ρ)) :
  SimS c f (exec (.Assign [.Subscript o i q] e pos) f.env) (fun ρ H => asgI (fo ρ) (fi ρ) (fe ρ) ρ H) := fun ρ H fl ρ' H' e' g ok =>
 bn e' fun v H1 e1 e => bn e fun ov H2 e2 e => bn e fun iv H3 e3 e => bd e fun H4 hset e => by
  cases e
  exact fun Q E k => wpAny_Assign_Subscript (he ρ H v H1 e1 g ok _ E fun cv g1 L1 C1 => ho ρ H1 ov H2 e2 g1 (ok.le L1) _ E fun co g2 L2 C2 => hi ρ H2 iv H3 e3 g2 (ok.le (L1.trans L2)) _ E fun ci g3 L3 C3 =>
   D1 hset (L3.cv C2) C3 (L3.cv (L2.cv C1)) fun g4 L4 => have L := (((L1.trans L2).trans L3).trans L4); k .next g4 L.up (ok.le L) trivial) ((ef hn).swap hc _ _ _)
theorem D3 {t : Expr} {b o : List Stmt} {pos : Pos} {r : an -> HP -> R Bool} {fb fo : an -> HP -> RS} (ht : ∀ ρ, SimB c f ρ (isTrue t f.env (eval t f.env)) (r ρ)) (hb : SimS c f (execs b f.env) fb) (ho : SimS c f (execs o f.env) fo) : SimS c f (exec (.If t b o pos) f.env) (fun ρ H => aW (r ρ H) (fb ρ) (fo ρ)) := fun ρ H fl ρ' H' e g ok =>
 bn e fun d H1 e1 e => fun Q E k => wpAny_If (ht ρ H d H1 e1 g ok _ E fun g1 L1 => by
  cases d
  ·exact ho ρ H1 fl ρ' H' e g1 (ok.le L1) Q E (k.after L1.up)
  ·exact hb ρ H1 fl ρ' H' e g1 (ok.le L1) Q E (k.after L1.up))
theorem D4 {st : Stmt} {rest : List Stmt} {r fk : an -> HP -> RS} (h1 : SimS c f (exec st f.env) r) (h2 : SimS c f (execs rest f.env) fk) : SimS c f (execs (st :: rest) f.env) (fun ρ H => sq (r ρ H) fk) := fun ρ H fl ρ' H' e g ok Q E k =>
 wpAny_execs_cons (KS.seq e (fun fl ρ1 H1 e1 => h1 ρ H fl ρ1 H1 e1 g ok) (fun ρ1 H1 g1 e1 L1 ok1 => h2 ρ1 H1 fl ρ' H' e1 g1 ok1 Q E (k.after L1)) fun u cv g1 hu L1 ok1 C => by subst hu; exact k (.ret cv) g1 L1 ok1 C)
inductive D5 {H : HP} (f : Fr A sc) (ft : an -> HP -> R Bool) (fb : an -> HP -> RS) (fl : Fl) (ρ' : an) (H' : HP) (g : G c H) (n : Nat) (s' : Shared) : Prop
 | mk (ρ1 : an) (H1 : HP) (g1 : G c H1) (hs : s' = g1.s) (e : c8 ft fb n ρ1 H1 = some (fl, ρ', H')) (ok : En f ρ1 g1) (L : Le (bN f.env) g g1)
set_option tactic.hygienic true in
theorem D6 {t : Expr} {b : List Stmt} {pos : Pos} {ft : an -> HP -> R Bool} {fb : an -> HP -> RS} {n : Nat} (ht : ∀ ρ, SimB c f ρ (isTrue t f.env (eval t f.env)) (ft ρ)) (hb : SimS c f (execs b f.env) fb) : SimS c f (exec (.While t b [] pos) f.env) (c8 ft fb n) := fun ρ H fl ρ' H' e g ok Q E k => by
 refine wpAny_While (codeAny_whileLoop (D5 f ft fb fl ρ' H' g) ?_ n ⟨ρ, H, g, rfl, e, ok, .refl⟩)
 clear e ok
 rintro n s' ⟨ρ1, H1, g1, rfl, e, ok, L1⟩
 cases n with
 | zero => exact aJ rfl e
 | succ n =>
  refine bn e fun d H2 e2 e => ht ρ1 H1 d H2 e2 g1 ok _ _ fun g2 L2 => ?_
  cases d with
  | false => cases e; exact I8 (k .next g2 (L1.trans L2.up) (ok.le L2) trivial)
  | true =>
   rw [Id rfl]
   exact KS.seq e (fun fl ρ3 H3 e3 => hb ρ1 H2 fl ρ3 H3 e3 g2 (ok.le L2)) (fun ρ3 H3 g3 e3 L3 ok3 => ⟨n, Nat.lt_succ_self _, ⟨ρ3, H3, g3, rfl, e3, ok3, L1.trans (L2.up.trans L3)⟩⟩) fun u cv g3 hu L3 ok3 C => by subst hu; exact k (.ret cv) g3 (L1.trans (L2.up.trans L3)) ok3 C
end
end Mine.Internal
namespace Mine.Internal
open PySem PyProof.Rows PySem.Calls
section
variable {c : Cx} {A : Around} {sc : Scope} {f : Fr A sc} {ρ : an} {H : HP} {g : G c H}
theorem Cv.handed {ω : Wd} {v : AV} {cv : Value} (C : Cv ω v cv) : handedOut cv = pure cv := by cases C <;> rfl
set_option tactic.hygienic true in
theorem vA {x : Str} (h : lI x = true) : typeLookup (.type "object") x = pure none := by
 unfold lI at h
 rw [typeLookup_type, builtinLookup_eq_fast]
 split at h
 ·rename_i e; rw [e]
 ·exact Bool.noConfusion h
theorem D7 {d : DefRec} (h : d ∈ c.C.fns ++ c.C.mets) : iH c.C d.name = some d := by
 have : ∀ (l : List DefRec), (l.map (·.name)).Nodup -> d ∈ l -> l.find? (fun e => decide (e.name = d.name)) = some d := fun l => by
  induction l with
  | nil => exact fun O m => nomatch m
  | cons a r ih =>
   intro nd m
   obtain ⟨n1, n2⟩ := List.nodup_cons.mp nd
   by_cases q : a.name = d.name
   ·rcases Jx.mp m with rfl | m
    ·exact List.find?_cons_of_pos (Jf rfl)
    ·exact absurd (Jm.mpr ⟨d, m, q.symm⟩) n1
   ·rw [List.find?_cons_of_neg (p := fun e : DefRec => decide (e.name = d.name)) (fun h => q (Jr h))]
    exact ih n2 ((Jx.mp m).resolve_left fun e => q (e ▸ rfl))
 exact this _ c.glb.nd h
inductive Cl (c : Cx) (r : ClsRec) : Prop
 | mk (N : Addr) (mN : Str -> Option Value) : c.mg r.name = some (.ref c.κ) -> PlainAt c.s₀.heap r c.κ N mN -> Cl c r
theorem l9 {r : ClsRec} (h : c.C.cls = some r) : Cl c r := let ⟨h1, N, mN, P⟩ := c.glb.cls r h; ⟨N, mN, h1, P⟩
theorem vB {r : ClsRec} {m : MethRec} {N : Addr} {mN : Str -> Option Value} (h : c.C.cls = some r) (P : PlainAt c.s₀.heap r c.κ N mN) (hm : m ∈ r.meths) :
  ∃ fa o, mN m.name = some (.ref fa) /\ c.s₀.heap.get? fa = some o /\ o.cls = .type "function" /\ lX c (lC r m) fa /\ (∃ fd, o.data = .func fd) /\ iH c.C (r.name ++ "." ++ m.name) = some (lC r m) := by
 obtain ⟨fa, o, pm, cd, doc, h1, h2, h3, h4, h5⟩ := P.meths m hm
 refine ⟨fa, o, h1, h2, h3, ⟨m.name, o, pm, cd, doc, h2, h4, h5⟩, ⟨_, h4⟩, D7 (d := lC r m) (Jw _ ?_)⟩
 unfold Cfg.mets
 rw [h]
 exact Jm.mpr ⟨m, hm, rfl⟩
inductive At (c : Cx) (g : G c H) (a : Addr) (k : Nat) (es : List AV) : Prop
 | mk (dx : Addr) (o : Obj) (m : Str -> Option Value) (ns : List Str) : g.ω dx = some (.obj k) -> g.h.get? a = some o -> o.dict = some dx -> o.cls = .ref c.κ -> g.h.Inst a c.κ m -> (∀ x v, bp es x = some v -> ∃ cv, m x = some cv /\ Cv g.ω v cv) -> (∀ x, bp es x = none -> m x = none) -> Within m ns -> ns.length = es.length -> es.length <= 1000 -> At c g a k es
theorem G.at {a : Addr} {k : Nat} {es : List AV} (g : G c H) (h : g.ω a = some (.ins k)) (he : H[k]? = some es) : At c g a k es := by
 obtain ⟨o, ho, dx, hd, h1, h2, h3⟩ := g.inv.obj a _ h
 obtain ⟨o', ho', es', he', m, ns, q1, q2, q3, q4, q5, q6⟩ := g.inv.obj dx _ hd
 cases he.symm.trans he'
 exact ⟨dx, o, m, ns, hd, ho, h2, h1, ⟨o, ho, h1, h3, .inr ⟨dx, h2, (fun e => by rw [e, h] at hd; cases hd), q1 _ ho'⟩⟩, q2, q3, q4, q5, q6⟩
theorem vC {x : Str} (h : gE c.C x = true) : ∃ r, c.C.cls = some r /\ x ∈ r.statics /\ typeLookup (.type "object") x = pure none := by
 unfold gE at h
 cases hc : c.C.cls with
 | none => rw [hc] at h; exact Bool.noConfusion h
 | some r =>
  rw [hc] at h
  obtain ⟨h1, h2⟩ := I4.mp h
  exact ⟨r, rfl, List.contains_iff_mem.mp h1, vA h2⟩
theorem D8 {ev : Expr -> HP -> R AV} {o : Expr} {x : Str} {pos : Pos} (hn : (gF o).isSome = true) (ha : gE c.C x = true) (hs : b4 c f ρ ev) : Sim c f ρ (eval (.Attribute o x pos) f.env) fun H => aY x (ev o H) := fun H v H' e g ok => by
 refine bn e fun a H1 e1 e => bd e fun k hk e => bd e fun es he e => bd e fun u hu e => ?_
 cases e
 intro Q E kk
 obtain ⟨n, hn⟩ := Option.isSome_iff_exists.mp hn
 obtain ⟨p, rfl⟩ : ∃ p, o = .Name n p := lV (P := fun o => ∃ p, o = .Name n p) hn fun p => ⟨p, rfl⟩
 refine Attribute_name ((hs _).1 H a _ e1 g ok _ E fun ca g1 L1 Ca => ?_)
 have hv : a = .ins k := insO_el hk rfl
 refine Cv.at_el (hv ▸ rfl) Ca fun ad had => ?_
 obtain ⟨dx, o, m, ns, _, _, _, _, I, q1, _⟩ := g1.at (had.trans (congrArg some hv)) he
 obtain ⟨cv, e1, e2⟩ := q1 x _ hu
 obtain ⟨r, hr, hst, hB⟩ := vC ha
 obtain ⟨N, mN, _, P⟩ := l9 hr
 have X := P.cls.keeps g1.inv.keep
 obtain ⟨nm, q, bs, sn, sub, col, dd, k0, k1, k2, k3, k5, hC⟩ := X.obj
 exact load_attr hC X.ns (P.quiet _ (JH _ (.tail _ (.head _)))) (P.quiet _ (Jw _ hst)) hB I e1 e2.handed ((kk.after L1).here _ e2)
theorem D9 {x : Str} {m : MethRec} (h : lJ c.C x = some m) : ∃ r, c.C.cls = some r /\ m ∈ r.meths /\ m.name = x /\ typeLookup (.type "object") x = pure none :=
 bd h fun r hr h => bd h fun m' hm h => ifV h fun ho => ⟨r, hr, List.mem_of_find?_eq_some hm, Jr (List.find?_some (p := fun m : MethRec => decide (m.name = x)) hm), vA ho⟩
theorem Ea {r : ClsRec} (h : c.C.cls = some r) : lK c.C = r.name := by unfold lK; rw [h]
theorem Eb {ev : Expr -> HP -> R AV} {Φ : aR} {af : Nat} {o : Expr} {x : Str} {ap pos : Pos} {es : List Expr} {mt : MethRec} (hΦ : fX c A Φ) (hm : iG o ap pos es = true) (hx : lJ c.C x = some mt) (hs : b4 c f ρ ev) :
  Sim c f ρ (eval (.Call (.Attribute o x ap) es [] pos) f.env) (cS Φ af x (lK c.C ++ "." ++ mt.name) (ev o) (es.map ev)) := fun H v H' e g ok => by
 refine bn e fun a H1 e1 e => bd e fun k hk e => bd e fun as he e => cV e fun hn e => bn e fun vs H2 e2 e Q E kk => ?_
 obtain ⟨r, hr, hmt, hnm, hB⟩ := D9 hx
 obtain ⟨N, mN, _, P⟩ := l9 hr
 obtain ⟨fa, of, h1, h2, h3, isf, ⟨fd, h4⟩, hdef⟩ := vB hr P hmt
 rw [p4 ((hs o).2 ⟨H, _, e1⟩) hm]
 refine IV ((hs o).1 H a H1 e1 g ok _ E fun ca g1 L1 Ca => IV (wpAny_standAt (IV (wpAny_holding ?_))))
 have hv : a = .ins k := insO_el hk rfl
 revert Ca
 refine fun Ca => Cv.at_el (P := fun ca => Cv g1.ω a ca -> wpAny (model c.prog c.w) A (getMethod ca x _) _ E g1.s) (hv ▸ rfl) Ca (fun ad had Ca => ?_) Ca
 obtain ⟨dx, o, m, ns, _, _, _, _, I, _, q2, _⟩ := g1.at (had.trans (congrArg some hv)) he
 have X := P.cls.keeps g1.inv.keep
 obtain ⟨nm, q, bs, sn, sub, col, dd, k0, k1, k2, k3, k5, hC⟩ := X.obj
 refine method_of hC X.ns (P.quiet _ (JH _ (.tail _ (.head _)))) (P.quiet _ (JH _ (.tail _ (.tail _ (.head _))))) (hnm ▸ h1) (g1.inv.keep _ _ h2) h3 hB I (q2 x (Option.isNone_iff_eq_none.mp hn)) ?_
 rw [Ea hr] at e
 exact callWith_function (first := [.ref ad]) (l0 (pos := pos) hs e2 (ok.le L1) fun cs g2 L2 C2 => ⟨⟨g2.inv.keep _ _ h2, h4⟩, hΦ.1 af _ (a :: vs) H2 v H' e _ fa hdef isf g2 (.ref ad :: cs) (.cons (L2.cv Ca) C2) Q E (kk.after (L1.trans L2))⟩)
theorem Ec {ω : Wd} {v : AV} {cv : Value} (h : cI v = true) (C : Cv ω v cv) : cv = .none := by
 cases v with
 | none => cases C with
  | none => rfl
  | «at» _ q => exact Bool.noConfusion q
 | _ => exact Bool.noConfusion h
theorem vD {x : Str} (h : jG c.C x = true) : ∃ r m, c.C.cls = some r /\ r.name = x /\ m ∈ r.meths /\ m.name = "__init__" := by
 unfold jG at h
 cases hc : c.C.cls with
 | none => rw [hc] at h; exact Bool.noConfusion h
 | some r =>
  rw [hc] at h
  obtain ⟨h1, h2⟩ := I4.mp h
  obtain ⟨m, hm, h3⟩ := List.any_eq_true.mp h2
  exact ⟨r, m, rfl, Jr h1, hm, Jr h3⟩
theorem G.made {P : Prop} (g : G c H) {h' : Heap} {x dx : Addr} (M : Heap.MadeObj g.h h' x dx c.κ) (k : ∀ g' : G c (H ++ [[]]), g'.s = { g.s with heap := h' } -> Le [] g g' -> Cv g'.ω (.ins H.length) (.ref x) -> P) : P := by
 obtain ⟨ox, hx, hcx, hncx, hdx⟩ := id M.inst
 have hd := M.dict ox hx
 rcases hdx with ⟨hn, _⟩ | ⟨d', hd', hne, hns⟩
 ·rw [hn] at hd; cases hd
 ·cases hd.symm.trans hd'
  let g1 : G c H := g.ks (h' := h') g.tk M.keeps
  obtain ⟨od, es, ep, eo, rest⟩ := id hns
  have ao : Ao g1.ω dx [] od := .mk (fun O => none) [] (fun h e => ⟨od, es, ep, e, rest⟩) (fun x v e => aJ rfl e) (fun O O => rfl) .nil rfl (Nat.zero_le _)
  let g2 : G c (H ++ [[]]) := g1.reg (v := .obj H.length) (g.out M.newD) eo (fun j ys q => by rw [List.getElem?_append_left (IX.mp q).1]; exact q) ⟨_, List.getElem?_concat_length, ao⟩ fun j q => by cases q; exact ⟨g.low M.newD, IO _⟩
  have n2 : g2.ω x = none := (iN _ _ (Ne.symm hne)).trans (g.out M.newX)
  exact k (g2.reg (v := .ins H.length) n2 hx (fun O O q => q) (.mk dx (iM _ _ _) hcx hd hncx) fun O q => aJ rfl q) rfl (Le.reg (Le.reg G.ks_le M.newD) M.newX) (.at (iM _ _ _) rfl)
theorem Ed {ev : Expr -> HP -> R AV} {Φ : aR} {af : Nat} {x : Str} {gp pos : Pos} {es : List Expr} (hΦ : fX c A Φ) (hg : fO sc x = true) (hx : jG c.C x = true) (hne : es.isEmpty = false) (hs : b4 c f ρ ev) :
  Sim c f ρ (eval (.Call (.Name x gp) es [] pos) f.env) (jD Φ af (x ++ "." ++ "__init__") (es.map ev)) := fun H v H' e g ok => by
 refine bn e fun vs H1 e1 e => bn e fun r H2 e2 e => cV e fun hr e => ?_
 cases e
 intro Q E kk
 obtain ⟨r, m, hc, rfl, hm, hnm⟩ := vD hx
 obtain ⟨N, mN, hmg, P⟩ := l9 hc
 obtain ⟨fa, of, h1, h2, h3, isf, _, hdef⟩ := vB hc P hm
 rw [hnm] at hdef h1
 obtain ⟨hk, hdb⟩ := pY f hg
 have hgl : g.s.heap.Ns f.env.globals c.mg := f.gl ▸ c.glb.top.g.keeps g.inv.keep
 cases es with
 | nil => exact Bool.noConfusion hne
 | cons a es =>
  refine Call_ (Name_function_global f.kind hk (loadGlobal_global hgl hmg ?_) hdb) pZ
  have st := lZ (pos := pos) hs e1
  have he : starEach (a :: es) f.env = (false, eval a f.env) :: starEach es f.env := bn e1 fun v H1 e1 O => (ef ((hs a).2 ⟨H, _, e1⟩)).star es f.env
  have hpl : (backTo pos (starEach es f.env)).any (·.1) = false := by
   rw [he] at st
   exact (Bool.or_eq_false_iff.mp st).2
  refine callWith_cls (h₀ := c.s₀.heap) P.cls (jK (pos := pos) hs e1 ok _ E fun cs g1 L1 C1 => ⟨g1.inv.keep, ?_⟩) he hpl
  have X := P.cls.keeps g1.inv.keep
  obtain ⟨nm, q, bs, sn, sub, col, dd, k0, k1, k2, k3, k5, hC⟩ := X.obj
  refine wpAny_call_obj_init PySem.F.objNew hC X.ns h1 (g1.inv.keep _ _ h2) h3 fun h' ox dx M => ?_
  refine g1.made M fun g2 es2 L2 C2 => ?_
  show wpAny (model c.prog c.w) (pX c A cs) (call (.ref fa) (.ref ox :: cs)) _ E { g1.s with heap := h' }
  rw [<- es2]
  refine hΦ.2 cs af _ _ _ _ _ e2 _ fa hdef isf g2 (.ref ox :: cs) (.cons C2 (C1.mono L2.le)) _ E fun cv g3 L3 C3 => ?_
  exact ⟨Ec hr C3, kk (.ref ox) g3 ((L1.trans L2).trans L3) (L3.cv C2)⟩
theorem vE {es : List AV} {x y : Str} {v : AV} : bp (es ++ [.tup [.str x, v]]) y = match bp es y with
  | some u => some u
  | none => if x = y then some v else none := by
 unfold bp
 rw [List.findSome?_append]
 cases es.findSome? (lH y) with
 | some u => rfl
 | none =>
  have e : lH y (.tup [.str x, v]) = if x = y then some v else none := rfl
  rw [List.findSome?_cons, e]
  by_cases q : x = y
  ·rw [Id q]; rfl
  ·rw [IU q]; rfl
theorem Ee {o v : AV} {co cv : Value} {x : Str} {H H' : HP} {g : G c H} {Q : Unit -> Shared -> Prop} {E : Value -> Shared -> Prop} (ha : gE c.C x = true) (e : fc H o x v = some H') (Co : Cv g.ω o co) (C : Cv g.ω v cv) (k : ∀ g' : G c H', Le [] g g' -> Q () g'.s) : wpAny (model c.prog c.w) A (setAttr co x cv) Q E g.s := by
 refine bd e fun j hj e => bd e fun es he e => cV e fun hs e => ?_
 cases e
 obtain ⟨s1, s2⟩ := I4.mp hs
 have s1 := Option.isNone_iff_eq_none.mp s1
 have hv : o = .ins j := insO_el hj rfl
 refine Cv.at_el (hv ▸ rfl) Co fun ad had => ?_
 obtain ⟨dx, ob, m, ns, hdx, ho, hod, hoc, I, q1, q2, q3, q4, q5⟩ := g.at (had.trans (congrArg some hv)) he
 obtain ⟨r, hr, hst, hB⟩ := vC ha
 obtain ⟨N, mN, _, P⟩ := l9 hr
 have X := P.cls.keeps g.inv.keep
 obtain ⟨nm, q, bs, sn, sub, col, dd, k0, k1, k2, k3, k5, hC⟩ := X.obj
 have hxC : ad ≠ c.κ := fun q => by
  rw [q] at ho
  cases hC.symm.trans ho
  exact nomatch hoc
 refine store_attr (t := g.tk) PySem.F.store_object hC X.ns (P.quiet _ (JH _ (.head _))) (P.quiet _ (Jw _ hst)) hB hxC I (fun h' tk' I' hk hsame => ?_) q3 (by rw [q4]; exact Je q5 (Je (by decide : 1000 <= aM) cP))
 obtain ⟨o₁, e₁, c₁, d₁, sl₁, dk₁⟩ := hsame ob ho
 have e₁ : h'.get? ad = some ob := by
  rw [e₁]
  have := (dk₁ dx hod).trans hod.symm
  cases o₁; cases ob
  cases c₁; cases d₁; cases sl₁; cases this; rfl
 obtain ⟨o', e', _, _, hd'⟩ := I'
 cases e₁.symm.trans e'
 rcases hd' with ⟨hn0, _⟩ | ⟨d', hd', _, hns'⟩
 ·rw [hod] at hn0; cases hn0
 ·cases hod.symm.trans hd'
  obtain ⟨od, es', ep, eo, rest⟩ := id hns'
  refine k (g.put (ys := es ++ [.tup [.str x, v]]) tk' hdx rfl (fun b o hb e => ?_) eo ⟨_, JD (IX.mp he).1, .mk _ (x :: ns) (fun h e => ⟨od, es', ep, e, rest⟩) (fun y u hu => ?_) (fun y hu => ?_) (q3.cons x cv) (by rw [I2, Jl, q4]; rfl) (by rw [I2]; exact Jr s2)⟩) (Le.put (by intro _ h _; exact aJ rfl h))
  ·by_cases hbx : b = ad
   ·subst hbx; cases ho.symm.trans e; exact e₁
   ·exact hk b o hbx (fun o₀ d₀ h0 h1 => by cases ho.symm.trans h0; cases hod.symm.trans h1; exact hb) e
  ·rw [vE] at hu
   by_cases q : y = x
   ·subst q
    rw [s1] at hu
    dsimp only at hu
    rw [Id rfl] at hu ⊢
    cases hu
    exact ⟨cv, rfl, C⟩
   ·rw [IU q]
    cases h : bp es y with
    | some u' => rw [h] at hu; cases hu; exact q1 y _ h
    | none => rw [h] at hu; dsimp only at hu; rw [if_neg (fun r => q r.symm)] at hu; cases hu
  ·rw [vE] at hu
   cases h : bp es y with
   | some u' => rw [h] at hu; cases hu
   | none =>
    rw [h] at hu
    dsimp only at hu
    by_cases q : y = x
    ·rw [Id q.symm] at hu; cases hu
    ·rw [IU q]; exact q2 y h
theorem Ef {o e : Expr} {x : Str} {q pos : Pos} {re ro : an -> HP -> R AV} (hn : cg e = true) (ha : gE c.C x = true) (he : ∀ ρ, Sim c f ρ (eval e f.env) (re ρ)) (ho : ∀ ρ, Sim c f ρ (eval o f.env) (ro ρ)) :
  SimS c f (exec (.Assign [.Attribute o x q] e pos) f.env) fun ρ H => asgA x (ro ρ) (re ρ) ρ H := fun ρ H fl ρ' H' e' g ok => bn e' fun v H1 e1 e' => bn e' fun ov H2 e2 e' => bd e' fun H3 e3 e' => by
 cases e'
 intro Q E k
 refine plainObj_wpAny_Assign_Attribute (he ρ H v H1 e1 g ok _ E fun cv g1 L1 Cv1 => ho ρ H1 ov H2 e2 g1 (ok.le L1) _ E fun co g2 L2 Co => Ee ha e3 Co (L2.cv Cv1) fun g3 L3 => ?_) ((ef hn).swA _ _ _ _ _)
 exact k _ g3 ((L1.trans L2).trans L3).up (ok.le ((L1.trans L2).trans L3)) trivial
end
end Mine.Internal
namespace Mine.Internal
open PySem PyProof.Rows PySem.Calls
section
variable {c : Cx} {A : Around} {sc : Scope} {f : Fr A sc}
theorem mf {I : Addr} {s : Shared} {n : String} {o : Obj} {a : Addr} {Q : Unit -> Shared -> Prop} {E : Value -> Shared -> Prop} (no : (["enumerate", "zip", "dict_itemiterator", "dict_reverseitemiterator", "odict_iterator", "itertools.zip_longest", "itertools.pairwise"].contains n) = false) (ho : s.heap.get? I = some o) (hc : o.cls = .type n) (vs : Array Value) (hd : o.data = .fields vs) (h : Q () s) (es : List Expr) (m : Nat) (p : Pos) :
  wpAny (model c.prog c.w) A (letOwnedTupleGo (.Tuple es m p) (.ref I) (.ref a)) Q E s := by
 show wpAny _ _ (do
  let o <- load I
  match o.cls, o.data with
  | .type n, .fields vs =>
   if (["enumerate", "zip", "dict_itemiterator", "dict_reverseitemiterator", "odict_iterator", "itertools.zip_longest", "itertools.pairwise"].contains n && vs[0]? == some (rawInt a)) = true then do
    rule "for.unpacks-the-owned-tuple"
    updateField I 0 .none
   else pure ()
  | _, _ => pure ()) _ _ _
 refine IV (wpAny_load ho ?_)
 rw [hc, hd]
 show wpAny _ _ (if (List.contains _ n && _) = true then _ else _) _ _ _
 rw [no, Bool.false_and, IU (by decide)]
 exact I8 h
theorem Eg {t : Expr} {src : AV} {xs : List AV} {I : Addr} {i : Nat} {H : HP} {g : G c H} {u : AV} {v : Value} {ρ ρ' : an} {Q : Unit -> Shared -> Prop} {E : Value -> Shared -> Prop} (hb : fg sc t u ρ = some ρ') (C : Cv g.ω u v) (it : ItAt c.prog c.w src xs I i g.ω H g.h) (h : Q () g.s) : wpAny (model c.prog c.w) A (letOwnedTupleGo t (.ref I) v) Q E g.s := by
 unfold fg at hb
 cases hn : gF t with
 | some x => exact lV (P := fun t => wpAny (model c.prog c.w) A (letOwnedTupleGo t (.ref I) v) Q E g.s) hn fun p => I8 h
 | none =>
  rw [hn] at hb
  cases he : (lL t).bind fV with
  | none => rw [he] at hb; exact aJ rfl hb
  | some ys =>
   rw [he] at hb
   refine bd he fun es h1 h2 => vb (P := fun t => wpAny (model c.prog c.w) A (letOwnedTupleGo t (.ref I) v) Q E g.s) h1 fun m p => ?_
   have hu : isH u = true := by
    by_cases hx : ys.all (bW sc) = true
    ·have hb : (if ys.all (bW sc) = true then bM ys else ff) u ρ = some ρ' := hb
     rw [Id hx] at hb
     exact bd hb fun vs h3 O => asTup_el (P := fun u => isH u = true) h3 rfl
    ·have hb : (if ys.all (bW sc) = true then bM ys else ff) u ρ = some ρ' := hb
     rw [IU hx] at hb
     exact aJ rfl hb
   refine C.at_el hu fun a O => ?_
   cases it with
   | tup ax _ _ t => obtain ⟨o, ho, hc, hd⟩ := t; exact mf (s := g.s) (by decide) ho hc _ hd h es m p
   | lst ax _ _ t => obtain ⟨o, ho, hc, hd⟩ := t; exact mf (s := g.s) (by decide) ho hc _ hd h es m p
   | rng a b _ t => exact mf (s := g.s) (by decide) t rfl _ rfl h es m p
   | val _ _ _ _ _ _ _ _ _ _ _ t => obtain ⟨o, ho, hc, hd⟩ := t; exact mf (s := g.s) (by decide) ho hc _ hd h es m p
inductive Eh {H : HP} (f : Fr A sc) (J : Addr) (src : AV) (xs : List AV) (fb : an -> HP -> RS) (tgt : AV -> an -> Option an) (fl : Fl) (ρ' : an) (H' : HP) (g : G c H) (n : Nat) (s' : Shared) : Prop
 | mk (i : Nat) (ρ3 : an) (H3 : HP) (g3 : G c H3) (hs : s' = g3.s) (hi : i <= xs.length) (hn : n = xs.length + 1 - i) (e : bT fb tgt (xs.drop i) ρ3 H3 = some (fl, ρ', H')) (it : ItAt c.prog c.w src xs J i g3.ω H3 g3.h) (hJ : g3.ω J = none) (ok : En f ρ3 g3) (L : Le (J :: bN f.env) g g3)
theorem qb {src : AV} {xs : List AV} (h : dr src = some xs) : (∀ H, cq src xs H) /\ ∀ H, eg H src = some xs := by
 have hr : eH src = none := by
  cases src <;> first | rfl | exact aJ rfl h
 have hi : iz src = none := by
  cases src <;> first | rfl | exact aJ rfl h
 exact ⟨fun H => by unfold cq; rw [hr, hi]; trivial, fun H => by unfold eg; rw [hr, hi]; exact h⟩
set_option tactic.hygienic true in
theorem Ei {t iter : Expr} {b : List Stmt} {pos : Pos} {it : an -> HP -> R AV} {fb : an -> HP -> RS} (hn : cg iter = true) (hi : ∀ ρ, Sim c f ρ (eval iter f.env) (it ρ)) (hb : SimS c f (execs b f.env) fb) :
  SimS c f (exec (.For t iter b [] pos) f.env) (fun ρ H => bJ fb (fg sc t) (it ρ) ρ H) := fun ρ H fl ρ' H' e g ok => bn e fun src H1 e1 e => lf e fun xs e3 e => fun Q E k => by
 obtain ⟨st, e3⟩ := qb e3
 refine wpAny_For (hi ρ H src H1 e1 g ok _ E fun cv g1 L1 C1 => vn C1 (e3 H1) fun J h2 hJ hk2 it2 => ?_) ((ef hn).set2 f.env)
 have ok1 := ok.le L1
 have hJo : J ∉ bN f.env := fun m => let ⟨o, q⟩ := ok1.live J m; aJ hJ q
 have hJ0 : c.s₀.heap.get? J = none := g1.low hJ
 have hJs : g.h.get? J = none := L1.back hJ
 have dropJ : ∀ {H' : HP} {g' : G c H'}, Le (J :: bN f.env) g g' -> Le (bN f.env) g g' := fun L => L.drop fun a m => (Jx.mp m).elim (fun q => .inr (q ▸ hJs)) .inl
 refine codeAny_forLoop_any (Eh f J src xs fb (fg sc t) fl ρ' H' g) ?_ (xs.length + 1) ⟨0, ρ, H1, g1.ks g1.tk hk2, rfl, Nat.zero_le _, rfl, e, it2, g1.out hJ, ok1.le G.ks_le, (L1.trans G.ks_le).up⟩
 clear e ok ok1 it2 L1 hk2 hJ C1 e1 e3
 rintro n s' ⟨i, ρ3, H3, g3, rfl, hi3, rfl, e, it3, hJ3, ok3, L3⟩
 by_cases hlt : i < xs.length
 case neg =>
  have hi' : i = xs.length := Nat.le_antisymm hi3 (Nat.not_lt.mp hlt)
  subst hi'
  rw [List.drop_length] at e
  cases e
  refine vp f.hnd (st _) it3 fun h4 hb4 => wpAny_execs_nil ?_
  have kk : ∀ b o, b ∉ [J] -> g3.h.get? b = some o -> h4.get? b = some o := fun b o q r => hb4 b o (fun q' => q (I0.mpr q')) r
  let g4 : G c _ := g3.mv [J] g3.tk kk fun a m => I0.mp m ▸ ⟨hJ3, hJ0⟩
  exact k .next g4 ((dropJ L3).mv fun a m => I0.mp m ▸ hJs) (ok3.to (g' := g4) (fun O O q => q) fun b mb o q => ⟨(ok3.own b mb).1, kk b o (fun m => hJo (I0.mp m ▸ mb)) q⟩) trivial
 case pos =>
  have hx : xs[i]? = some xs[i] := I3 hlt
  rw [List.drop_eq_getElem_cons hlt] at e
  generalize xs[i] = v at hx e
  refine bd e fun ρ4 hb4 e => vo ⟨hJ3, hJ0⟩ (st _) it3 hx fun cv g4 L4 it4 cv4 => Eg hb4 cv4 it4 ?_
  have ok4 := ok3.leO L4 fun b m q => hJo (I0.mp q ▸ m)
  refine vz hb4 ok4 cv4 fun g5 L5 ok5 => ?_
  obtain ⟨oJ, hoJ⟩ := it4.has
  obtain ⟨oJ3, hoJ3⟩ := it3.has
  have hJ4 : g4.ω J = none := (L4.keep J oJ3 hoJ3 hJ3).1
  have L34 : Le (J :: bN f.env) g g4 := L3.trans (L4.wide fun a m => I0.mp m ▸ Jj)
  refine KS.seq e (fun fl ρ6 H6 e6 => hb ρ4 H3 fl ρ6 H6 e6 g5 ok5) (fun ρ6 H6 g6 e6 L6 ok6 => ?_) fun u cv g6 hu L6 ok6 C => ?_
  ·have L46 := L5.trans L6
   exact ⟨xs.length + 1 - (i + 1), by exact aN 0x11111b311c3933ca311b31a922 (I6 (IO _)) (I1 (am 0x11a9211a3119311 hlt)), ⟨i + 1, ρ6, H6, g6, rfl, hlt, rfl, e6, it4.to L46.le L46.dk fun o q => (L46.keep J o q hJ4).2 hJo, (L46.keep J oJ hoJ hJ4).1, ok6, L34.trans (L46.wide fun a m => JB _ m)⟩⟩
  ·subst hu
   exact k (.ret cv) g6 (dropJ (L34.trans ((L5.trans L6).wide fun a m => JB _ m))) ok6 C
theorem Ej {v u : AV} {H H' : HP} {P : AV -> HP -> Prop} (e : pH v H = some (u, H')) (k : P (Vm true H v) (Hm true H v)) : P u H' := by
 unfold pH at e
 cases h : eZ v with
 | some xs =>
  rw [h] at e
  refine cV e fun O e => ?_
  have q : Vm true H v = .ref H.length /\ Hm true H v = H ++ [xs] := asLst_el (P := fun v => Vm true H v = .ref H.length /\ Hm true H v = H ++ [xs]) h ⟨rfl, rfl⟩
  cases e
  rw [q.1, q.2] at k
  exact k
 | none =>
  rw [h] at e
  have q : Vm true H v = v /\ Hm true H v = H := by cases v <;> first | exact ⟨rfl, rfl⟩ | exact aJ h rfl
  cases e
  rw [q.1, q.2] at k
  exact k
theorem mh {t : Sem Value} {r : HP -> R AV} {ρ : an} (m : Bool) (h : SimF c f ρ t r) : Sim c f ρ t fun H => bG m (r H) := by
 cases m with
 | false => exact h.sim
 | true => exact fun H v H' e g ok => bn e fun u H1 e1 e => Ej (P := fun v H' => Op A t g H' v) e (h H u H1 e1 g ok true)
theorem vF {x : Str} (h : iF x = true) : x ∈ bltNames := by
 rcases Bool.or_eq_true_iff.mp h with h | h
 ·rw [Jr h]; decide +kernel
 ·rcases Bool.or_eq_true_iff.mp h with h | h
  ·rw [Jr h]; decide +kernel
  ·rw [Jr h]; decide +kernel
theorem Ek {g : Str} {d : DefRec} (hd : gH c.C g = some d) : g ∉ bltNames := fun hx => by
 obtain ⟨_, hmg, _⟩ := p3 hd
 exact aJ (c.glb.blt g hx) hmg
noncomputable def EvOk (c : Cx) {A : Around} {sc : Scope} (f : Fr A sc) (ρ : an) {e : Expr} (v : VE e) (r : HP -> R AV) : Prop := Sim c f ρ (eval e f.env) r /\ ((∃ H x, r H = some x) -> (!(eJ v == 10)) = true)
theorem EvOk.none {ρ : an} {e : Expr} {v : VE e} : EvOk c f ρ v fun O => none := ⟨Sim.none, fun ⟨_, _, e⟩ => aJ rfl e⟩
theorem EvOk.pl {ρ : an} {e : Expr} {v : VE e} {r : HP -> R AV} (h : Sim c f ρ (eval e f.env) r) (h2 : (!(eJ v == 10)) = true) : EvOk c f ρ v r := ⟨h, fun O => h2⟩
theorem El {pos : Pos} {ρ : an} : Sim c f ρ (eval (.Dict [] [] pos) f.env) newD := fun H v H' e g ok => by
 cases e
 intro Q E k
 have na := dv g.h
 have hm : (g.h.objs.size == sysModules) = false := by
  obtain ⟨o, es, ep, ho, _⟩ := c.glb.top.g
  exact beq_false_of_ne (Nat.ne_of_gt (Nat.lt_trans (by decide : sysModules < mainGlobals) (Heap.lt_size (g.inv.keep _ _ ho))))
 refine wpAny_Dict_empty ?_
 let g1 : G c H := g.ks (h' := g.h.push { cls := .type "dict", data := .dict #[] }) g.tk fun b o e => Js _ e
 obtain ⟨o, ho, dc⟩ := Dc.mk' (p := c.prog) (w := c.w) (h := g1.h) (es := []) (Nat.zero_le _) hm .nil (Heap.DictOf.new _)
 exact k (.ref g.h.objs.size) (g1.reg (v := .dct H.length) (g.out na) ho (fun j ys q => by rw [List.getElem?_append_left (IX.mp q).1]; exact q) ⟨_, List.getElem?_concat_length, dc⟩ fun j q => by cases q; exact ⟨g.low na, IO _⟩) (Le.reg G.ks_le na) (.at (iM _ _ _) rfl)
theorem vG {fsc csc : Scope} {x : Str} {it : Expr} (h : jF fsc csc x it = true) : gK fsc csc x /\ cg it = true /\ cG x = false := by
 obtain ⟨h1, h2⟩ := I4.mp h
 obtain ⟨h2, h3⟩ := I4.mp h2
 exact ⟨DO h1, h2, (Bool.not_eq_true' _).mp h3⟩
noncomputable def mi (c : Cx) (A : Around) (ev : cU AV) : Prop := ∀ (fm : Fm) (f : Fr A fm.sc) (ρ : an), b4 c f ρ fun e => ev fm e ρ
noncomputable def mj (c : Cx) (A : Around) (ev : cU Bool) : Prop := ∀ (fm : Fm) (f : Fr A fm.sc) (ρ : an), pW c f ρ fun e => ev fm e ρ
theorem iS {p : Prop} [Decidable p] {ρ : an} {e : Expr} {v : VE e} {r : HP -> R AV} (h : p -> EvOk c f ρ v r) : EvOk c f ρ v fun H => if p then r H else none := by
 by_cases q : p
 ·simp only [if_pos q]; exact h q
 ·simp only [if_neg q]; exact EvOk.none
theorem Eo {fm : Fm} {f : Fr A fm.sc} {ρ : an} {ev : Bool -> cU AV} {evb : cU Bool} {elt : Expr} {x : Str} {px : Pos} {iter : Expr} {ifs : List Expr} {csc : Scope} {pos : Pos} (m : Bool) (h : ∀ m, mi c A (ev m)) (hb : mj c A evb) (hh : jF fm.sc csc x iter = true) :
  Sim c f ρ (eval (.ListComp elt [⟨.Name x px, iter, ifs, 0⟩] csc pos) f.env) fun H => lM m (pL fm (ev false) (ev m) evb ρ H elt x iter ifs csc) := by
 obtain ⟨cs, hn, ho⟩ := vG hh
 have hF := DR (f := f) (ρ := ρ) (px := px) (pos := pos) cs ho ((ef hn).set2 f.env) ((h false) fm f ρ iter).1 (fun f' ρ => p7 (ifs := ifs) (hb { fm with sc := csc } f' ρ)) fun f' ρ => ((h m) { fm with sc := csc } f' ρ elt).1
 cases m with
 | false => exact hF.sim
 | true =>
  refine fun H v H' e g ok => bn e fun ys H1 e1 e => ?_
  cases e
  exact hF H (.list ys) H1 (congrArg dB e1) g ok true
theorem Ep {Φ : aR} {m : Bool} {fm : Fm} {f : Fr A fm.sc} {ρ : an} {ev : Bool -> cU AV} {evb : cU Bool} (hΦ : fX c A Φ) (h : ∀ m, mi c A (ev m)) (hb : mj c A evb) {e : Expr} (v : VE e) : EvOk c f ρ v fun H => uA c.C Φ m fm ev evb ρ H v := by
 have hs := h false fm f ρ
 cases v with
 | const k n pos => exact .pl Dg rfl
 | name x pos => exact iS fun hx => .pl (Dh hx) rfl
 | bin l op r pos => exact .pl (mh m (Di (hs l).1 (hs r).1)) rfl
 | not x pos => exact .pl (Dj (hs x).1) rfl
 | neg x pos => exact .pl (Dk (hs x).1) rfl
 | bool op es pos => exact .pl (vi (pos := pos) hs) rfl
 | cmp l op r pos => exact .pl (Dt (hs l).1 hs) rfl
 | cmp2 l op r op' r' pos => exact .pl (Du (hs l).1 hs) rfl
 | list es pos => exact .pl (mh m (Dm hs)) rfl
 | tup es k pos => exact .pl (Do (h m fm f ρ)) rfl
 | sli o lo hi p pos => exact .pl (mh m (Dr (hs o).1 (vd hs) (vd hs))) rfl
 | sub o i pos => exact iS fun hi => .pl (Dp hi (hs o).1 (hs i).1) rfl
 | comp elt x px iter ifs csc pos => exact iS fun hh => .pl (Eo m h hb hh) rfl
 | call x gp args pos =>
  refine iS fun hg => .pl ?_ rfl
  show Sim c f ρ _ fun H => bG (m && iF x) (pJ c.C Φ fm x args (fun e H => ev false fm e ρ H) H)
  unfold pJ
  cases hd : gH c.C x with
  | some d =>
   rw [show iF x = false from Bool.eq_false_iff.mpr fun q => Ek hd (vF q), Bool.and_false]
   exact Dz hΦ hg hd hs
  | none =>
   by_cases hc : (jG c.C x && !args.isEmpty) = true
   ·simp only [if_pos hc]
    obtain ⟨h1, h2⟩ := I4.mp hc
    rw [show iF x = false from Bool.eq_false_iff.mpr fun q => by
     obtain ⟨r, _, hr, hn, _⟩ := vD h1
     have := (c.glb.cls r hr).1
     rw [hn, c.glb.blt x (vF q)] at this
     exact nomatch this]
    rw [Bool.and_false]
    exact Ed hΦ hg h1 ((Bool.not_eq_true' _).mp h2) hs
   simp only [if_neg hc]
   by_cases hi : x = "isinstance"
   ·subst hi
    rw [show iF "isinstance" = false from by decide +kernel, Bool.and_false]
    exact DE hg hs
   ·simp only [if_neg hi]
    exact mh _ (DD hg hs)
 | meth o x ap args pos =>
  refine iS fun hm => .pl ?_ rfl
  show Sim c f ρ _ fun H => pK c.C Φ fm.af x (fun H => ev false fm o ρ H) (args.map fun e H => ev false fm e ρ H) H
  unfold pK
  cases hx : lJ c.C x with
  | some mt => exact Eb hΦ hm hx hs
  | none => exact DI hm hs
 | attr o x pos => exact iS fun h => .pl (D8 (I4.mp h).1 (I4.mp h).2 hs) rfl
 | dict pos => exact .pl El rfl
 | other e => exact .none
theorem dD {ρ : an} {e : Expr} {r : HP -> R AV} (v : VE e) (h : Sim c f ρ (eval e f.env) r) (q : Nat.ble 11 (eJ v) = false) : SimB c f ρ (isTrue e f.env (eval e f.env)) fun H => if (!(eJ v == 10)) = true then aw (r H) else none := by
 by_cases ho : (!(eJ v == 10)) = true
 ·simp only [if_pos ho]; exact Dy ((u9 v ho).tru q f.env) h
 ·simp only [if_neg ho]; exact SimB.none
theorem Er {fm : Fm} {f : Fr A fm.sc} {ρ : an} {ev : cU AV} {evb : cU Bool} (h : mi c A ev) (hb : mj c A evb) {e : Expr} (v : VE e) : SimB c f ρ (isTrue e f.env (eval e f.env)) fun H => uB fm ev evb ρ H v := by
 have hs := h fm f ρ
 cases v with
 | not x pos => exact Dx (hb fm f ρ x)
 | bool op es pos => exact vj (hb fm f ρ)
 | cmp l op r pos => exact Dv (hs l).1 hs
 | cmp2 l op r op' r' pos => exact Dw (hs l).1 hs
 | const k n pos => exact dD (.const k n pos) (hs _).1 rfl
 | name x pos => exact dD (.name x pos) (hs _).1 rfl
 | bin l op r pos => exact dD (.bin l op r pos) (hs _).1 rfl
 | neg x pos => exact dD (.neg x pos) (hs _).1 rfl
 | list es pos => exact dD (.list es pos) (hs _).1 rfl
 | tup es k pos => exact dD (.tup es k pos) (hs _).1 rfl
 | sli o lo hi p pos => exact dD (.sli o lo hi p pos) (hs _).1 rfl
 | sub o i pos => exact dD (.sub o i pos) (hs _).1 rfl
 | comp elt x px iter ifs csc pos => exact dD (.comp elt x px iter ifs csc pos) (hs _).1 rfl
 | call x gp args pos => exact dD (.call x gp args pos) (hs _).1 rfl
 | meth o m ap args pos => exact dD (.meth o m ap args pos) (hs _).1 rfl
 | attr o m pos => exact dD (.attr o m pos) (hs _).1 rfl
 | dict pos => exact dD (.dict pos) (hs _).1 rfl
 | other e => exact dD (.other e) (hs _).1 rfl
theorem jL {Φ : aR} (hΦ : fX c A Φ) : ∀ d : Nat, (∀ m, mi c A (ez c.C Φ d m)) /\ mj c A (iI c.C Φ d)
 | 0 => ⟨fun O O O O O => EvOk.none, fun O O O O => SimB.none⟩
 | d + 1 => have ⟨h, hb⟩ := jL hΦ d; ⟨fun m fm f ρ e => Ep hΦ h hb (ey e), fun fm f ρ e => Er (h false) hb (ey e)⟩
theorem SimS.none {t : Sem Flow} : SimS c f t fun O O => none := fun O O O O O e => aJ rfl e
theorem iU {p : Prop} [Decidable p] {t : Sem Flow} {r : an -> HP -> RS} (h : p -> SimS c f t r) : SimS c f t fun ρ H => if p then r ρ H else none := by
 by_cases q : p
 ·simp only [if_pos q]; exact h q
 ·simp only [if_neg q]; exact SimS.none
theorem Es {e : Expr} (v : VE e) {P : Expr -> Prop} (h : (eJ v == 7) = true) (k : ∀ elt x px iter ifs csc pos, P (.ListComp elt [⟨.Name x px, iter, ifs, 0⟩] csc pos)) : P e := by
 cases v <;> first | exact Bool.noConfusion h | exact k _ _ _ _ _ _ _
theorem Et (m : Bool) (r : R (List AV)) : lM m r = vt m r := by cases m <;> rfl
theorem Eu {Φ : aR} {d : Nat} {m : Bool} {fm : Fm} {f : Fr A fm.sc} {x : Str} {q : Pos} {e : Expr} {pos : Pos} (hΦ : fX c A Φ) (hx : bW fm.sc x = true) (hn : cg e = true) : SimS c f (exec (.Assign [.Name x q] e pos) f.env) fun ρ H => asgN x (ez c.C Φ d m fm e ρ H) ρ := by
 have pl : swapsWith e (some (.Name x q)) pos.line f.env = pure false -> SimS c f (exec (.Assign [.Name x q] e pos) f.env) fun ρ H => asgN x (ez c.C Φ d m fm e ρ H) ρ := fun hs => DX hs hx fun ρ => ((jL hΦ d).1 m fm f ρ e).1
 by_cases hc : gG e = true
 ·revert pl
  refine Es (ey e) hc (P := fun e => (swapsWith e (some (.Name x q)) pos.line f.env = pure false -> SimS c f (exec (.Assign [.Name x q] e pos) f.env) fun ρ H => asgN x (ez c.C Φ d m fm e ρ H) ρ) -> SimS c f (exec (.Assign [.Name x q] e pos) f.env) fun ρ H => asgN x (ez c.C Φ d m fm e ρ H) ρ) fun elt y py iter ifs csc cpos pl => ?_
  cases d with
  | zero => exact SimS.none
  | succ d =>
   obtain ⟨b, hb⟩ : ∃ b, swapsWith (.ListComp elt [⟨.Name y py, iter, ifs, 0⟩] csc cpos) (some (.Name x q)) pos.line f.env = pure b := ⟨_, rfl⟩
   cases b with
   | false => exact pl hb
   | true =>
    obtain ⟨h, hbb⟩ := jL hΦ d
    show SimS c f _ fun ρ H => asgN x (if jF fm.sc csc y iter = true then lM m (pL fm (ez c.C Φ d false) (ez c.C Φ d m) (iI c.C Φ d) ρ H elt y iter ifs csc) else none) ρ
    by_cases hh : jF fm.sc csc y iter = true
    ·obtain ⟨cs, hn, ho⟩ := vG hh
     simp only [if_pos hh, Et]
     exact DY m hb hx cs ho ((ef hn).set2 f.env) (fun ρ => (h false fm f ρ iter).1) (fun f' ρ => p7 (hbb { fm with sc := csc } f' ρ)) fun f' ρ => (h m { fm with sc := csc } f' ρ elt).1
    ·simp only [if_neg hh]; exact SimS.none
 ·exact pl ((ef hn).swap (Bool.eq_false_iff.mpr hc) _ _ _)
noncomputable def vH (c : Cx) (A : Around) (ex : pM (List Stmt)) : Prop := ∀ (fm : Fm) (b : List Stmt) (f : Fr A fm.sc), SimS c f (execs b f.env) (ex fm b)
theorem Ev {Φ : aR} {d : Nat} {fm : Fm} {f : Fr A fm.sc} {exs : pM (List Stmt)} (hΦ : fX c A Φ) (hx : vH c A exs) {st : Stmt} (v : VS st) : SimS c f (exec st f.env) fun ρ H => uD c.C fm (ez c.C Φ d) (iI c.C Φ d) exs ρ H v := by
 have h := fun m e ρ => ((jL hΦ d).1 m fm f ρ e).1
 have hb := fun e ρ => (jL hΦ d).2 fm f ρ e
 cases v with
 | pass pos => exact DT
 | expr e pos => exact iU fun q => DW (I4.mp q).1 ((Bool.not_eq_true' _).mp (I4.mp q).2) (h false e)
 | ret e pos => exact DU (h _ e)
 | ret0 pos => exact DV
 | asgN x q e pos => exact iU fun r => Eu hΦ (I4.mp r).1 (I4.mp r).2
 | asgT es k q e pos => exact iU fun r => have ⟨r1, r⟩ := I4.mp r; have ⟨r2, r3⟩ := I4.mp r; DZ r1 ((Bool.not_eq_true' _).mp r2) ((Bool.not_eq_true' _).mp r3) (h false e)
 | asgA o x q e pos => exact iU fun r => Ef (I4.mp r).1 (I4.mp r).2 (h _ e) (h false o)
 | asgI o i q e pos => exact iU fun r => D2 (I4.mp r).1 ((Bool.not_eq_true' _).mp (I4.mp r).2) (h false o) (h false i) (h false e)
 | cond t b o pos => exact D3 (hb t) (hx fm b f) (hx fm o f)
 | loop t it b pos => exact iU fun r => Ei r (h false it) (hx fm b f)
 | whil t b pos => exact D6 (hb t) (hx fm b f)
 | other st => exact SimS.none
theorem vI {Φ : aR} (hΦ : fX c A Φ) : ∀ d : Nat, (∀ (fm : Fm) (st : Stmt) (f : Fr A fm.sc), SimS c f (exec st f.env) (uE c.C Φ d fm st)) /\ vH c A (iJ c.C Φ d)
 | 0 => ⟨fun O O O => SimS.none, fun O O O => SimS.none⟩
 | d + 1 => by
  obtain ⟨ih, ihs⟩ := vI hΦ d
  refine ⟨fun fm st f => Ev hΦ ihs (uC st), fun fm sts f => ?_⟩
  cases sts with
  | nil =>
   intro ρ H fl ρ' H' e g ok Q E k
   cases e
   exact wpAny_execs_nil (k _ g .refl ok trivial)
  | cons st rest => exact D4 (ih fm st f) (ihs fm rest f)
end
end Mine.Internal
namespace Mine.Internal
open PySem PyProof.Rows PySem.Calls
theorem Ew : ∀ {xs : List Str} {vs : List Value}, xs.Nodup -> vs.length = xs.length -> xs.filterMap (fun n => ((xs.zip vs).lookup n).map (n, ·)) = xs.zip vs := by
 have aI : ∀ (xs : List Str) (vs : List Value) (pre : List (Str × Value)), (∀ x ∈ xs, pre.lookup x = none) -> xs.Nodup -> vs.length = xs.length -> xs.filterMap (fun n => ((pre ++ xs.zip vs).lookup n).map (n, ·)) = xs.zip vs := by
  intro xs
  induction xs with
  | nil => intro vs pre _ _ _; simp
  | cons x xs ih =>
   intro vs pre hp hn hl
   cases vs with
   | nil => simp at hl
   | cons v vs =>
    simp only [List.zip_cons_cons, List.filterMap_cons]
    have h1 : (pre ++ (x, v) :: xs.zip vs).lookup x = some v := by
     rw [List.lookup_append, hp x Jj]; simp [List.lookup_cons]
    rw [h1]
    simp only [Option.map_some]
    have := ih vs (pre ++ [(x, v)]) (fun y m => by
     rw [List.lookup_append, hp y (JB _ m)]
     have : (y == x) = false := by
      have hne : y ≠ x := fun q => (List.nodup_cons.mp hn).1 (q ▸ m)
      simpa using hne
     simp [List.lookup_cons, this]) (List.nodup_cons.mp hn).2 (by simpa using hl)
    rw [I5] at this
    simpa using this
 intro xs vs hn hl
 simpa using aI xs vs [] (fun O O => rfl) hn hl
set_option tactic.hygienic true in
theorem vJ : ∀ {xs : List Str} {vs : List Value}, vs.length = xs.length -> ∀ x ∈ xs, ((xs.zip vs).lookup x).isSome = true
 | [], _, _, x, m => nomatch m
 | y :: xs, [], h, x, m => by simp at h
 | y :: xs, v :: vs, h, x, m => by
  rw [List.zip_cons_cons, List.lookup_cons]
  split
  ·rfl
  ·rename_i hy
   rcases Jx.mp m with rfl | m
   ·simp at hy
   ·exact vJ (by simpa using h) x m
set_option tactic.hygienic true in
theorem Ex {nm name : Str} {params : Arguments} {body : List Stmt} {scope : Scope} {pm code doc : Value} {xs : List Str} {vals : List Value} (hp : jH params = some xs) (hn : xs.Nodup) (hl : vals.length = xs.length) :
  bindArgs (methDef nm name params body scope pm code doc) ⟨vals, []⟩ = pure (xs.zip vals) := by
 obtain ⟨po, ar, va, ko, kd, kw, df⟩ := params
 unfold jH at hp
 split at hp
 case isFalse => cases hp
 rename_i q
 simp only [uF, Bool.and_eq_true, List.isEmpty_iff, Option.isNone_iff_eq_none] at q
 obtain ⟨rfl, rfl, rfl, rfl, rfl, rfl⟩ := q
 cases hp
 have hmiss : ((ar.map (·.arg)).filter fun n => ((((ar.map (·.arg)).zip vals).lookup n).isNone)) = [] := by
  rw [List.filter_eq_nil_iff]
  intro x m
  have := vJ hl x m
  simp [Option.isSome_iff_ne_none] at this ⊢
  exact this
 have hbind := Ew hn hl
 have h1 : ¬ ((decide (vals.length > (ar.map Arg.arg).length) && true) = true) := by rw [hl]; simp
 refine (IU h1).trans ?_
 rw [show ∀ k, List.drop k ((none : Option (Array Value)).getD #[]).toList = [] from fun k => List.drop_nil]
 have e1 : List.take ((ar.map Arg.arg).length - 0) (ar.map Arg.arg) = ar.map Arg.arg := List.take_length
 have h2 : ¬ ((!((List.take ((ar.map Arg.arg).length - 0) (ar.map Arg.arg)).filter fun n => ((((ar.map Arg.arg).zip vals).lookup n).isNone)).isEmpty) = true) := by rw [e1, hmiss]; simp
 have e2 : ((ar.map Arg.arg) ++ []).filterMap (fun n => (((ar.map Arg.arg).zip vals).lookup n).map (n, ·)) = (ar.map Arg.arg).zip vals := by rw [JA]; exact hbind
 refine (IU h2).trans ?_
 rw [show ∀ l : List Str, l.zip ([] : List Value) = [] from fun l => List.zip_nil_right]
 exact congrArg (pure : _ -> Sem (List (Str × Value))) e2
theorem qc : ∀ {names : List (Str × NameKind)} {lo : Nat} {acc : List (Str × Addr)}, (names.map (·.1)).Nodup -> (acc.map (·.1)).Nodup -> (∀ x ∈ acc.map (·.1), x ∉ names.map (·.1)) -> ((cellsFrom lo names acc).map (·.1)).Nodup
 | [], lo, acc, _, h, _ => h
 | (x, k) :: r, lo, acc, hn, ha, hd => by
  obtain ⟨h1, h2⟩ := List.nodup_cons.mp hn
  unfold cellsFrom
  split
  ·refine qc h2 (List.nodup_cons.mpr ⟨fun m => hd x m (by simp), ha⟩) fun y m => ?_
   rcases Jx.mp m with rfl | m
   ·exact h1
   ·exact fun q => hd y m (JB _ q)
  ·exact qc h2 ha fun y m q => hd y m (JB _ q)
set_option tactic.hygienic true in
theorem ml : ∀ {names : List (Str × NameKind)} {lo : Nat} {acc : List (Str × Addr)} {n : Str}, ((n, NameKind.cell) ∈ names ∨ (acc.lookup n).isSome = true) -> ((cellsFrom lo names acc).lookup n).isSome = true
 | [], lo, acc, n, h => h.elim (fun m => nomatch m) id
 | (x, k) :: r, lo, acc, n, h => by
  unfold cellsFrom
  split
  ·refine ml ?_
   rcases h with m | m
   ·rcases Jx.mp m with q | q
    ·cases q; exact .inr (by simp)
    ·exact .inl q
   ·right
    rw [List.lookup_cons]
    split
    ·rfl
    ·exact m
  ·rename_i hk
   refine ml (h.imp_left fun m => ?_)
   rcases Jx.mp m with q | q
   ·cases q; exact absurd rfl hk
   ·exact q
theorem Ey {α : Type} {l : List (Str × α)} {n : Str} {c : α} (hn : (l.map (·.1)).Nodup) (m : (n, c) ∈ l) : l.lookup n = some c := by
 induction l with
 | nil => cases m
 | cons xv r ih =>
  obtain ⟨x, v⟩ := xv
  obtain ⟨h1, h2⟩ := List.nodup_cons.mp hn
  rw [List.lookup_cons]
  rcases Jx.mp m with q | q
  ·cases q; simp
  ·have : (n == x) = false := by
    have hne : n ≠ x := fun e => h1 (e ▸ Jm.mpr ⟨_, q, rfl⟩)
    simpa using hne
   rw [this]
   exact ih h2 q
section
variable {ω : Wd} {kind : Str -> Option NameKind}
theorem qd {B : (Str -> Option NameKind) -> List (Str × Value) -> (Str -> Option Value) -> Str -> Option Value} {ok : Str -> Prop}
  (hB : ∀ x v l m, ∃ m', B kind ((x, v) :: l) m = B kind l m' /\ ∀ y, ok y -> m' y = if y = x then some v else m y) (h0 : ∀ m, B kind [] m = m) :
  ∀ {xs : List Str} {vs : List AV} {cs : List Value} {ρ ρ' : an} {m : Str -> Option Value}, bi ρ xs vs = some ρ' -> CvL ω vs cs -> (∀ y v, ok y -> ρ y = some v -> ∃ a, m y = some a /\ Cv ω v a) -> ∀ y v, ok y -> ρ' y = some v -> ∃ a, B kind (xs.zip cs) m y = some a /\ Cv ω v a
 | [], vs, cs, ρ, ρ', m, hu, C, hm => by
  cases C with
  | nil => cases hu; rw [List.zip_nil_left, h0]; exact hm
  | cons _ _ => exact aJ rfl hu
 | x :: xs, vs, cs, ρ, ρ', m, hu, C, hm => by
  cases C with
  | nil => exact aJ rfl hu
  | cons c1 cr =>
   obtain ⟨m', e, hm'⟩ := hB x _ (xs.zip _) m
   rw [List.zip_cons_cons, e]
   refine qd hB h0 (m := m') hu cr fun y u ky r => ?_
   rw [hm' y ky]
   rw [fN] at r
   by_cases q : y = x
   ·rw [Id q] at r ⊢; cases r; exact ⟨_, rfl, c1⟩
   ·rw [IU q] at r ⊢; exact hm y u ky r
theorem Ez {xs : List Str} {vs : List AV} {cs : List Value} {ρ : an} (hu : bi aF xs vs = some ρ) (C : CvL ω vs cs) : ∀ y v, kind y = some .local -> ρ y = some v -> ∃ a, bindL kind (xs.zip cs) (fun O => none) y = some a /\ Cv ω v a :=
 qd (B := bindL) (ok := fun y => kind y = some .local) (fun x v l m => ⟨_, rfl, fun y hy => by
  by_cases q : y = x
  ·subst q; rw [Id hy]
  ·rw [IU q]
   split
   ·exact IU q
   ·rfl⟩) (fun O => rfl) hu C fun O O O r => aJ rfl r
theorem EA {xs : List Str} {vs : List AV} {cs : List Value} {ρ : an} (hu : bi aF xs vs = some ρ) (C : CvL ω vs cs) : ∀ y v, kind y ≠ some .local -> ρ y = some v -> ∃ a, bindC kind (xs.zip cs) (fun O => none) y = some a /\ Cv ω v a :=
 qd (B := bindC) (ok := fun y => kind y ≠ some .local) (fun x v l m => ⟨_, rfl, fun y hy => by
  by_cases q : y = x
  ·subst q; rw [IU hy]
  ·rw [IU q]
   split
   ·rfl
   ·exact IU q⟩) (fun O => rfl) hu C fun O O O r => aJ rfl r
end
structure qe (d : DefRec) : Prop where
 kind : d.scope.kind = .function
 co : d.scope.isCoroutine = false
 gen : d.scope.isGenerator = false
 args : ∀ a ∈ d.params.args, bW d.scope a.arg = true
 free : ∀ y ∈ d.scope.names, y.2 ≠ .free
 names : (d.scope.names.map (·.1)).Nodup
 argN : (d.params.args.map (·.arg)).Nodup
theorem EB {d : DefRec} (h : lO d = true) : qe d := by
 unfold lO at h
 simp only [Bool.and_eq_true, decide_eq_true_eq, List.all_eq_true, Bool.not_eq_true'] at h
 obtain ⟨h1, h2, h3, h4, h5, h6, h7⟩ := h
 exact ⟨h1, h2, h3, h4, fun y m => by simpa using h5 y m, h6, h7⟩
theorem EC {a : Arguments} {xs : List Str} (h : jH a = some xs) : xs = a.args.map (·.arg) := by
 unfold jH at h
 split at h
 ·exact (Option.some.inj h).symm
 ·cases h
section
variable {c : Cx}
noncomputable abbrev dw (nm : Str) (d : DefRec) (pm code doc : Value) (s : Shared) (fa : Addr) : Env := callEnvC (methDef nm d.name d.params d.body d.scope pm code doc) s.heap.objs.size fa
set_option tactic.hygienic true in
def ED {nm : Str} {A : Around} {d : DefRec} {pm code doc : Value} {fa : Addr} {s s₁ : Shared} {mm mc : Str -> Option Value} (f : qe d) (hA : A.handled = none) (hu : A.units + 100 < cLine) (x : InCallC s (dw nm d pm code doc s fa).locals mm (dw nm d pm code doc s fa).cells mc s₁) : Fr A d.scope where
 env := dw nm d pm code doc s fa
 hnd := hA
 un := hu
 kind := f.kind
 loc := fun O e => e
 cel := fun y e => by
  unfold fP at e
  split at e
  ·rename_i q; exact .inl q
  ·rename_i q; exact .inr q
  ·exact Bool.noConfusion e
 sto := fun O e => e
 glb := fun O e => e
 gl := rfl
 bl := rfl
 apart := fun y z a hy hz => name_of_addr x.apart (mem_of_lookup hy) (mem_of_lookup hz)
theorem vK {nm : Str} {H : HP} {g : G c H} {d : DefRec} {pm code doc : Value} {fa : Addr} {s₁ : Shared} {mm mc : Str -> Option Value} (x : InCallC g.s (dw nm d pm code doc g.s fa).locals mm (dw nm d pm code doc g.s fa).cells mc s₁) : ∀ a ∈ bN (dw nm d pm code doc g.s fa), g.h.get? a = none := fun a m => by
 have hge : g.h.objs.size <= a := by
  rcases lS m with rfl | ⟨n, m⟩
  ·exact IO _
  ·exact Nat.le_of_lt (x.above n a m)
 cases e : g.h.get? a with
 | none => rfl
 | some o => exact absurd (Heap.lt_size e) (Nat.not_lt.mpr hge)
set_option tactic.hygienic true in
theorem En.call {nm : Str} {A : Around} {H : HP} {d : DefRec} {pm code doc : Value} {fa : Addr} {xs : List Str} {vs : List AV} {cs : List Value} {ρ : an} {g : G c H} {s₁ : Shared} {g₁ : G c H} (f : qe d) (hA : A.handled = none) (hun : A.units + 100 < cLine) (hu : bi aF xs vs = some ρ) (C : CvL g.ω vs cs)
  (x : InCallC g.s (dw nm d pm code doc g.s fa).locals (bindL (dw nm d pm code doc g.s fa).kindOf (xs.zip cs) fun O => none) (dw nm d pm code doc g.s fa).cells (bindC (dw nm d pm code doc g.s fa).kindOf (xs.zip cs) fun O => none) s₁) (h1 : g₁.h = s₁.heap) (h2 : g₁.ω = g.ω) :
  En (ED (A := A) f hA hun x) ρ g₁ where
 ns := ⟨_, h1 ▸ x.toInCall.ns⟩
 var := fun y hy => by
  have ns := x.toInCall.ns
  rw [<- h1] at ns
  unfold dz at hy
  split at hy
  ·rename_i q
   refine ⟨_, .loc q fun m n => iO n ns y, fun v r => ?_⟩
   obtain ⟨cv, e, qv⟩ := Ez (kind := (dw nm d pm code doc g.s fa).kindOf) hu C y v q r
   exact ⟨cv, e, h2 ▸ qv⟩
  ·rename_i q
   obtain ⟨a, ha⟩ := Option.isSome_iff_exists.mp (ml (lo := g.s.heap.objs.size + 1) (acc := []) (.inl (mem_of_lookup q)))
   refine ⟨_, .cel a (.inl q) ha (h1 ▸ x.cell y a ha), fun v r => ?_⟩
   obtain ⟨cv, e, qv⟩ := EA (kind := (dw nm d pm code doc g.s fa).kindOf) hu C y v (fun t => by
    have t : d.scope.names.lookup y = some .local := t
    rw [q] at t; cases t) r
   exact ⟨cv, e, h2 ▸ qv⟩
  ·rename_i q; exact absurd rfl (f.free _ (mem_of_lookup q))
  ·exact Bool.noConfusion hy
 there := fun n a m => ⟨_, h1 ▸ x.cell n a (Ey (qc (lo := g.s.heap.objs.size + 1) (acc := []) f.names List.nodup_nil (fun O m => nomatch m)) m)⟩
 own := fun a m => by
  have hn : g.h.get? a = none := vK x a m
  rw [h2]
  exact ⟨g.out hn, g.low hn⟩
theorem G.noRef (g : G c []) {u : AV} : ∀ {cv : Value} (H' : HP), Cv g.ω u cv -> fz H' u = some u := by
 refine AV.rec (motive_1 := fun u => ∀ {cv : Value} (H' : HP), Cv g.ω u cv -> fz H' u = some u) (motive_2 := fun us => ∀ {cs : List Value} (H' : HP), CvL g.ω us cs -> bk (bu H' 4) us = some us) ?_ ?_ ?_ ?_ ?_ ?_ ?_ ?_ ?_ ?_ ?_ ?_ ?_ ?_ u
 ·exact fun O O => rfl
 ·exact fun O O O O => rfl
 ·exact fun O O O O => rfl
 ·exact fun O O O O => rfl
 ·exact fun xs ih cv H' C => C.at_el rfl fun a ha => g.sq (g.inv.obj a _ ha) fun vs n O O r => congrArg (Option.map AV.tup) (ih H' r)
 ·exact fun xs ih cv H' C => C.at_el rfl fun a ha => g.sq (g.inv.obj a _ ha) fun vs n O O r => congrArg (Option.map AV.list) (ih H' r)
 ·exact fun O O O O O => rfl
 ·exact fun k cv H' C => C.at_el rfl fun a ha => let ⟨_, _, _, h, _⟩ := g.inv.obj a _ ha; nomatch h
 ·exact fun k cv H' C => C.at_el rfl fun a ha => let ⟨_, _, _, h, _⟩ := g.inv.obj a _ ha; nomatch h
 ·exact fun k cv H' C => C.at_el rfl fun a ha => let ⟨_, _, _, h, _⟩ := g.inv.obj a _ ha; nomatch h
 ·exact fun k cv H' C => C.at_el rfl fun a ha => let ⟨_, _, d, h, _⟩ := g.inv.obj a _ ha; let ⟨_, _, _, h, _⟩ := g.inv.obj d _ h; nomatch h
 ·exact fun k cv H' C => C.at_el rfl fun a ha => let ⟨_, _, d, h, _, _, _⟩ := g.inv.obj a _ ha; let ⟨_, _, _, h, _⟩ := g.inv.obj d _ h; nomatch h
 ·exact fun O O => rfl
 ·exact fun x xs ix ir cs H' C => C.cons_el fun a r q C => by
   have h1 : dp (bu H' 4) x = some x := ix H' q
   simp only [bk, h1, ir H' C]; rfl
theorem Le.frz {g : G c []} {H' : HP} {g' : G c H'} (L : Le [] g g') : Le [] g g'.frz :=
 ⟨fun a v e => by
  show (g'.ω a).bind (fz H') = some v
  rw [L.le a v e]
  obtain ⟨o, _, ob⟩ := g.inv.obj a v e
  exact g.noRef H' (.at e ob.isH), fun b o e n => ⟨by show (g'.ω b).bind (fz H') = none; rw [(L.keep b o e n).1]; rfl, (L.keep b o e n).2⟩, fun O O O m => iK m, fun b k es O e => aJ rfl e⟩
theorem EE {r : RS} {v : AV} {H' : HP} {P : AV -> HP -> Prop} (e : cC r = some (v, H')) (k : ∀ v0 ρ H1, r = some (.ret v0, ρ, H1) -> fz H1 v0 = some v -> P v []) : P v H' := by
 match r, e with
 | some (.ret v0, ρ, H1), e =>
  replace e : (match fz H1 v0 with | some v => some (v, []) | none => none) = some (v, H') := e
  cases h : fz H1 v0 with
  | none => rw [h] at e; exact aJ rfl e
  | some u => rw [h] at e; cases e; exact k v0 ρ H1 rfl h
set_option tactic.hygienic true in
theorem EG {r : RS} {v : AV} {H' : HP} {P : AV -> HP -> Prop} (e : ba r = some (v, H')) (k : ∀ fl ρ H1, r = some (fl, ρ, H1) -> P (match fl with | .ret v => v | .next => .none) H1) : P v H' := by
 match r, e with
 | some (.ret v0, ρ, H1), e => cases e; exact k _ ρ _ rfl
 | some (.next, ρ, H1), e => cases e; exact k _ ρ _ rfl
set_option tactic.hygienic true in
theorem qf : ∀ (n : Nat) (A : Around), A.depth + 2 * n < recursionLimit -> A.units + 6 * n + 200 < cLine -> A.handled = none -> lY c A (ai c.C n)
 | 0, _, _, _, _ => fun O O O O O O e => aJ rfl e
 | n + 1, A, hd, hu, hh => by
  intro af f vs H v H' e d fa hdef isf g cs C
  refine bd e fun d' hfn e => bd e fun xs hxs e => bd e fun ρ hρ e => ?_
  cases hdef.symm.trans hfn
  obtain ⟨nm, o, pm, code, doc, ho, hdat, hcd⟩ := isf
  have hmem : d ∈ c.C.fns ++ c.C.mets := List.mem_of_find?_eq_some hfn
  have fo := EB (c.glb.fok d hmem)
  have hxa := EC hxs
  have hlen : cs.length = xs.length := C.length.trans (qa hρ)
  have body : ∀ (b' : Nat) (fl : Fl) (ρ' : an) (H1 : HP), iJ c.C (ai c.C n) lN ⟨f, d.scope, b'⟩ d.body ρ H = some (fl, ρ', H1) -> Op A (call (.ref fa) cs) g H1 (match fl with | .ret v => v | .next => .none) := by
   intro b' fl ρ' H1 e1 Q E k
   refine wpAny_call (codeAny_call_cells (ay 0x11a11b326932a921 hd) (g.inv.keep _ _ ho) hdat (c.glb.top.nolimit.keeps g.inv.keep) (hcd.keeps g.inv.keep) rfl (Ex hxs (hxa ▸ fo.argN) hlen) rfl ?_ (fun s₁ x => ?_) fo.co fo.gen fo.kind)
   ·intro y hy
    obtain ⟨a, ma, hy⟩ := Jm.mp (hxa ▸ (List.of_mem_zip hy).1)
    have := fo.args a ma
    rw [hy] at this
    unfold bW at this
    split at this
    ·rename_i q; exact .inl q
    ·rename_i q; exact .inr ⟨q, ml (.inl (mem_of_lookup q))⟩
    ·exact Bool.noConfusion this
   ·obtain ⟨h₁, tk₁, hs₁⟩ := x.toInCall.same
    have keep := x.toInCall.keep
    subst hs₁
    let g₁ : G c H := g.ks tk₁ keep
    have ok := En.call (A := A.deeper (dw nm d pm code doc g.s fa)) (g₁ := g₁) fo hh (by show A.units + 3 + 100 < cLine; exact ay 0x11ac8211b3669332a6423193321 hu) hρ C x rfl rfl
    refine (vI (Φ := ai c.C n) ⟨qf n (A.deeper (dw nm d pm code doc g.s fa)) (by show A.depth + 1 + 2 * n < recursionLimit; exact ay 0x11b11a326932ba261193321 hd) (by show A.units + 3 + 6 * n + 200 < cLine; exact ay 0x11bc8211a3669332bc82a6631933321 hu) hh, fun vals => qf n (pX c (A.deeper (dw nm d pm code doc g.s fa)) vals) (by show A.depth + 1 + 1 + 2 * n < recursionLimit; exact ay 0x11b11a326932ba261111933321 hd) (by show A.units + 3 + 1 + 6 * n + 200 < cLine; exact ay 0x11bc8211a3669332bc82a6611319333321 hu) hh⟩ lN).2 ⟨f, d.scope, b'⟩ d.body _ ρ H fl ρ' H1 e1 g₁ ok _ _ fun cf g2 L2 ok2 F2 => ?_
    have L02 : Le [] g g2 := ((G.ks_le : Le [] g g₁).up.trans L2).drop fun a m => .inr (vK x a m)
    cases fl with
    | next => refine FlOk.next_el F2 ?_; exact k .none g2 L02 .none
    | ret v => refine FlOk.ret_el F2 fun cv q => ?_; exact k cv g2 L02 q
  unfold uG at e
  cases hf : c.C.frz.contains f with
  | true =>
   rw [hf] at e
   cases H with
   | cons _ _ => exact aJ rfl e
   | nil => exact EE (P := fun v H' => Op A (call (.ref fa) cs) g H' v) e fun v0 ρ' H1 e1 hv Q E k => body 0 _ ρ' H1 e1 Q E fun cv g2 L2 C2 => k cv g2.frz L2.frz (C2.fz hv)
  | false =>
   rw [hf] at e
   exact EG (P := fun v H' => Op A (call (.ref fa) cs) g H' v) e fun fl ρ' H1 e1 => body af fl ρ' H1 e1
end
end Mine.Internal
namespace Mine.Internal
open PySem PySem.W PyProof.Rows PySem.Calls
theorem vL {R : WRecords} : ∀ {xs : List WData}, WShape.hasItems R xs .int = true -> ∃ ns : List Int, xs = ns.map WData.int
 | [], _ => ⟨[], rfl⟩
 | x :: xs, h => by
  simp only [WShape.hasItems, Bool.and_eq_true] at h
  obtain ⟨ns, e⟩ := vL h.2
  obtain ⟨i, rfl⟩ := hasW_int h.1
  exact ⟨i :: ns, by rw [e]; rfl⟩
theorem vM {P : Params} {h : Heap} {ω : Wd} : ∀ {ns : List Int} {vs : List Value}, WellAll P h vs (ns.map WData.int) -> CvL ω (ns.map AV.int) vs
 | [], vs, x => by cases x; exact .nil
 | n :: ns, vs, x => by
  cases x with
  | cons a r =>
   cases a
   exact .cons (.int _ _) (vM r)
set_option tactic.hygienic true in
theorem walk_of {l : OpenLaw} {q : Program} {loose : List Str} {XP : (Str -> Option Value) -> Heap -> Prop} {YP : World -> Heap -> Prop} {d : DefRec} {m : Nat} (C : Cfg) (N : Nat) (hm : l.most = some m) (hb : l.bound = none) (hm' : m <= aM) (hN : N < 250)
  (hfn : C.fns = recsOf q) (hfo : (C.fns ++ C.mets).all lO = true) (hcl : C.cls = none ∨ C.cls = (plainsOf q (looseW q loose)).head?) (hnd : ((C.fns ++ C.mets).map (·.name)).Nodup) (hld : (gH C d.name).isSome = true)
  (hbl : (bltNames.all fun x => !(startupNames.contains x || ((looseW q loose).contains x || (((recsOf q).map (·.name)).contains x || (((litsOf q).map (·.1)).contains x || ((clssOf q (looseW q loose)).map (·.name)).contains x))))) = true)
  (hlaw : ∀ ns : List Int, ns.length <= m -> ∃ H', ai C N 0 d.name [.list (ns.map AV.int)] [] = some (.bool true, H')) :
  WalkO q loose XP YP l.row.toRowW d [] fun f vs => PySem.call f vs := by
 intro w s₀ s₁ mg mb Gr Y fa o pm cd doc dV kV ho hd hcd hD hmg hg args vals as hpre hlay hrd hwl hlo
 have T := Gr.T
 obtain ⟨κ, hκ⟩ : ∃ κ, ∀ r, C.cls = some r -> mg r.name = some (.ref κ) /\ ∃ N mN, PlainAt s₁.heap r κ N mN := by
  cases hc : C.cls with
  | none => exact ⟨0, fun r e => nomatch e⟩
  | some r =>
   have hm : r ∈ plainsOf q (looseW q loose) := by
    rcases hcl with h | h
    ·rw [hc] at h; cases h
    ·exact List.mem_of_mem_head? (h.symm.trans hc)
   obtain ⟨Ca, N, mN, h1, P⟩ := Gr.TE.topC r hm
   exact ⟨Ca, fun r' e => by cases e; exact ⟨h1, N, mN, P⟩⟩
 obtain ⟨h1, h2⟩ := pre_splitW hpre
 obtain ⟨x, r, rfl, hx, hr⟩ := hasAllW_cons (e := .list .int) (es := []) h1
 have := hasAllW_nil hr
 subst this
 obtain ⟨xs, rfl, hxs⟩ := hasW_list hx
 obtain ⟨ns, rfl⟩ := vL hxs
 have hlen : ns.length <= m := by
  have h2 : WTm.holds l.row.toRowW.records l.pre { args := [.list (ns.map WData.int)] } = true := h2
  unfold OpenLaw.pre at h2
  rw [hm, hb] at h2
  have h3 := (holds_andW h2).1
  simp [WTm.holds, WTm.value] at h3
  cases hl : less? (WData.int (m : Int)) (WData.int (ns.length : Int)) with
  | none => rw [hl] at h3; simp at h3
  | some b =>
   rw [hl] at h3
   cases b with
   | true => simp at h3
   | false =>
    have hl : some (decide ((m : Int) < (ns.length : Int))) = some false := hl
    simp at hl
    exact am 4740720913 hl
 obtain ⟨H', hev⟩ := hlaw ns hlen
 cases hwl with
 | cons a r =>
  cases r
  cases a with
  | list hgx hwx =>
   rename_i la vs
   have Gl : uH C κ q (looseW q loose) (ExcName.means s₀.heap) mg mb s₁.heap := ⟨T, fun d m => hfn ▸ m, fun d m => List.all_eq_true.mp hfo d m, hκ, fun x m => by
    have := List.all_eq_true.mp hbl x m
    simp only [Bool.not_eq_true', Bool.or_eq_false_iff, List.contains_eq_mem, decide_eq_false_iff_not] at this
    obtain ⟨q1, q2, q3, q4, q5⟩ := this
    exact T.free x q1 q2 q3 q4 q5, hnd⟩
   have hΦ : lY ⟨l.row.toRowW.prog, w, s₁, C, q, looseW q loose, ExcName.means s₀.heap, mg, mb, κ, Gl⟩ callerA (ai C N) := qf N callerA (by
    have : callerA.depth < 400 := by decide +kernel
    unfold recursionLimit; exact am 0x12101902792fa2a203e827a269322 hN this) (by
    have : callerA.units = 4 := rfl
    unfold cLine; exact am 0x1614193fa2a226ac27c82a6693322 hN this) rfl
   have hl : (ns.map AV.int).length <= aM := by rw [IZ]; exact Je hlen hm'
   have one : ∀ a v, (if a = la then some (AV.list (ns.map AV.int)) else none) = some v -> a = la /\ v = .list (ns.map AV.int) := fun a v e => by
    by_cases q : a = la
    ·rw [Id q] at e; exact ⟨q, (Option.some.inj e).symm⟩
    ·rw [IU q] at e; exact aJ rfl e
   let g : G ⟨l.row.toRowW.prog, w, s₁, C, q, looseW q loose, ExcName.means s₀.heap, mg, mb, κ, Gl⟩ [] := ⟨s₁.heap, s₁.toks, fun a => if a = la then some (.list (ns.map AV.int)) else none, ⟨fun O O e => e,
    fun a v e => by obtain ⟨q1, q2⟩ := one a v e; subst q2; rw [q1]; exact ⟨_, hgx, Sq.mk _ _ hl (vM hwx)⟩, fun a v k e hk => aJ (o := cell v) ((one a v e).2 ▸ rfl) hk, fun a b v u k e O hk O => aJ (o := cell v) ((one a v e).2 ▸ rfl) hk⟩⟩
   have hcv : CvL g.ω [.list (ns.map AV.int)] [.ref la] := .cons (.at (Id rfl) rfl) .nil
   obtain ⟨d', hd'⟩ := Option.isSome_iff_exists.mp hld
   obtain ⟨fa', hm', isf⟩ := p3 (c := ⟨l.row.toRowW.prog, w, s₁, C, q, looseW q loose, ExcName.means s₀.heap, mg, mb, κ, Gl⟩) hd'
   cases hmg.symm.trans hm'
   refine hΦ 0 d.name _ [] _ H' hev d' fa (vk hd') isf g [.ref la] hcv _ _ fun cv g' L C' => ?_
   refine C'.bool_el ?_
   refine GoodW.toG ⟨.inl ⟨.bool true, .bool true, [], rfl, fun O => rfl, .bool true, ?_, fun O => ⟨List.nodup_nil, fun O m => nomatch m⟩⟩, g'.inv.keep, rfl, hg⟩
   show (WShape.has [] (.bool true) .bool && (WTm.eq .res (.lit (.bool true))).holds [] { args := [.list (ns.map WData.int)], res := some (.bool true), after := [.list (ns.map WData.int)] }) = true
   simp [WShape.has, WShape.arms, WTm.holds, WTm.value]
   rw [show same (WData.bool true) (WData.bool true) = true from by simp [same]]
end Mine.Internal
namespace Mine.Internal
open PySem PyProof.Rows
def aK (b : BF) (es : List (HP -> R AV)) (H : HP) : R AV := av (bo es H) fun vs H => bS (c7 b vs H) H
def bx (af : Nat) (m : LM) (o : HP -> R AV) (es : List (HP -> R AV)) (H : HP) : R AV :=
 av (o H) fun v H => if e9 H v then av (bo es H) fun vs H => iD m v vs H else none
theorem Qn (a b : String) : (Str.ofString a = Str.ofString b) = (a = b) := by
 apply propext
 constructor
 ·intro h
  rw [Str.ofString_eq_toList, Str.ofString_eq_toList] at h
  injection h with h
  have h := List.toArray_inj h
  have : ∀ (l m : List Char), l.map Char.toNat = m.map Char.toNat -> l = m := by
   intro l
   induction l with
   | nil => intro m h; cases m <;> simp at h ⊢
   | cons c l ih =>
    intro m h
    cases m with
    | nil => simp at h
    | cons d m =>
     simp only [List.map_cons, List.cons.injEq] at h
     rw [ih m h.2, Char.toNat_inj.mp h.1]
  exact String.toList_inj.mp (this _ _ h)
 ·rintro rfl; rfl
theorem Qa {α β : Type} (a : α) (H : HP) (f : α -> HP -> Option β) : av (some (a, H)) f = f a H := rfl
theorem Qb {α : Type} (a : α) (H : HP) : bS (some a) H = some (a, H) := rfl
set_option tactic.hygienic true in
theorem Qc (ρ : an) (H : HP) (k : an -> HP -> RS) : sq (some (.next, ρ, H)) k = k ρ H := rfl
theorem Qd (v : AV) (ρ : an) (H : HP) (k : an -> HP -> RS) : sq (some (.ret v, ρ, H)) k = some (.ret v, ρ, H) := rfl
theorem Qe (H : HP) (a b : HP -> RS) : aW (some (true, H)) a b = a H := rfl
theorem Qf (H : HP) (a b : HP -> RS) : aW (some (false, H)) a b = b H := rfl
theorem Qj (ρ : an) (x : Str) (v : AV) (H : HP) : ae (upd ρ x v) x H = some (v, H) := by simp [ae, fN, bS]
theorem cx {ρ : an} {x : Str} {v : AV} {H : HP} (h : ρ x = some v) : ae ρ x H = some (v, H) := by simp [ae, bS, h]
theorem Ql (ρ : an) (x : Str) (v : AV) : upd ρ x v x = some v := by simp [fN]
theorem Zk (ρ : an) (x y : Str) (v : AV) : upd ρ x v y = cond (aL y == aL x) (some v) (ρ y) := rfl
theorem Zj (ρ : an) (x : Str) (H : HP) : ae ρ x H = bS (ρ x) H := rfl
noncomputable def bq : an -> HP -> R Bool := fun O H => some (true, H)
set_option tactic.hygienic true in
theorem Qg (H : HP) (ρ : an) : cT (some (.none, H)) ρ = some (.next, ρ, H) := rfl
theorem Qh (v : AV) (ρ : an) (H : HP) : ba (some (.ret v, ρ, H)) = some (v, H) := rfl
set_option tactic.hygienic true in
theorem Qi (ρ : an) (H : HP) : ba (some (.next, ρ, H)) = some (.none, H) := rfl
theorem Qq (H : HP) : bo [] H = some ([], H) := rfl
theorem Qr (e : HP -> R AV) (es : List (HP -> R AV)) (H : HP) : bo (e :: es) H = av (e H) fun v H => av (bo es H) fun vs H => some (v :: vs, H) := rfl
theorem Qs (v : AV) (H : HP) : c7 .len [v] H = bI H v := rfl
theorem Qt (b : Int) (H : HP) : c7 .range [.int b] H = if bA b = true then some (.range 0 b) else none := rfl
theorem Qu (xs : List AV) (H : HP) : c7 .list [.list xs] H = some (.list xs) := rfl
theorem Qv (a b : Int) (H : HP) : c7 .list [.range a b] H = jA a b := rfl
theorem Qw (v : AV) (H : HP) : c7 .tuple [v] H = (bf H v).map AV.tup := rfl
theorem Qx (xs : List AV) (H : HP) : c7 .all [.list xs] H = (fT xs).map fun bs => AV.bool (bs.all id) := rfl
theorem Qy (b : Bool) (H : HP) : c7 .int [.bool b] H = some (.int (if b = true then 1 else 0)) := by cases b <;> rfl
theorem Qz (H : HP) (xs : List AV) : bY H (.tup xs) = some xs := rfl
theorem QA (H : HP) (xs : List AV) : bY H (.list xs) = some xs := rfl
theorem eA {H : HP} {k : Nat} {xs : List AV} (h : H[k]? = some xs) : bY H (.ref k) = some xs := h
theorem QB (H : HP) (xs : List AV) : bf H (.list xs) = some xs := rfl
theorem QC (xs : List AV) : dr (.list xs) = some xs := rfl
theorem QF (a : AV) (op : CmpOp) (r : HP -> R AV) (H : HP) : aH a [op] [r] H = av (r H) fun b H => av (bS (cO op a b H) H) fun c H => some (.bool c, H) := rfl
theorem QG (x y : Int) (H : HP) : cO .Lt (.int x) (.int y) H = some (decide (x < y)) := rfl
theorem QH (x y : Int) (H : HP) : cO .LtE (.int x) (.int y) H = some (decide (x <= y)) := rfl
theorem QI (x y : Int) (H : HP) : cO .Gt (.int x) (.int y) H = some (decide (y < x)) := rfl
theorem QJ (x y : Int) (H : HP) : cO .GtE (.int x) (.int y) H = some (decide (y <= x)) := rfl
theorem Q4 (xs : List Str) (vs : List AV) (ρ : an) : bM xs (.tup vs) ρ = bi ρ xs vs := rfl
theorem QK (a b : AV) (H : HP) : cO .Eq a b H = dW H a b := rfl
theorem QL (a b : AV) (H : HP) : cO .NotEq a b H = (dW H a b).map (!·) := rfl
theorem QM (a b : AV) (H : HP) : cO .In a b H = cN H a b := rfl
theorem QN (a b : AV) (H : HP) : cO .NotIn a b H = (cN H a b).map (!·) := rfl
theorem QO (a : AV) (H : HP) : cO .Is a .none H = some (cI a) := rfl
theorem QP (a : AV) (H : HP) : cO .IsNot a .none H = some (!cI a) := rfl
theorem QQ : cI .none = true := rfl
theorem QR (i : Int) : cI (.int i) = false := rfl
theorem QS (i : List AV) : cI (.tup i) = false := rfl
theorem QW (b : Bool) : dU (.bool b) = some b := rfl
theorem QX (H : HP) : bv .And [] H = some (true, H) := rfl
theorem QY (H : HP) : bv .Or [] H = some (false, H) := rfl
theorem QZ (e : HP -> R Bool) (es : List (HP -> R Bool)) (H : HP) : bv .And (e :: es) H = av (e H) fun b H => bif b then bv .And es H else some (false, H) := by
 show av _ _ = av _ _
 congr 1; funext b H; cases b <;> rfl
theorem Q0 (e : HP -> R Bool) (es : List (HP -> R Bool)) (H : HP) : bv .Or (e :: es) H = av (e H) fun b H => bif b then some (true, H) else bv .Or es H := by
 show av _ _ = av _ _
 congr 1; funext b H; cases b <;> rfl
theorem Q1 (op : BoolOp) (e : HP -> R AV) (H : HP) : ew op [e] H = e H := rfl
theorem Q2 (e e' : HP -> R AV) (es : List (HP -> R AV)) (H : HP) : ew .And (e :: e' :: es) H = av (e H) fun v H => av (bS (dU v) H) fun b H => bif b then ew .And (e' :: es) H else some (.bool false, H) := by
 show av _ _ = av _ _
 congr 1; funext v H; congr 1; funext b H; cases b <;> rfl
theorem Q7 (H : HP) : bG true (some (.list [], H)) = some (.ref H.length, H ++ [[]]) := rfl
theorem Qo (x y : Int) (H : HP) : ct .Add (.int x) (.int y) H = some (.int (x + y)) := rfl
theorem Qp (x y : Int) (H : HP) : ct .Sub (.int x) (.int y) H = some (.int (x - y)) := rfl
theorem bK {x y : Int} {H : HP} (h : 0 < y) : ct .Mod (.int x) (.int y) H = some (.int (x % y)) := by
 show (if y = 0 then none else some (AV.int (x.fmod y))) = _
 rw [IU (by exact aG 0x11901a019e1 h), Int.fmod_eq_emod_of_nonneg _ (by exact aG 0x11901a90191 h)]
theorem dE {x y : Int} {H : HP} (h : 0 < y) (h' : y < 1073741824) : ct .FloorDiv (.int x) (.int y) H = some (.int (x / y)) := by
 have h1 : decide (y = 0) = false := decide_eq_false (aG 0x11901a019e1 h)
 have h2 : pj y = true := Jf (by lia)
 show (if (decide (y = 0) || !pj y) = true then none else some (AV.int (x.fdiv y))) = _
 rw [h1, h2, IU (by decide), Int.fdiv_eq_ediv_of_nonneg _ (by exact aG 0x11901a90191 h)]
theorem vN {x y : Int} {H : HP} (h : bA x = true) (h' : bA y = true) : ct .Mult (.int x) (.int y) H = some (.int (x * y)) := by
 show (if (bA x && bA y) = true then _ else _) = _
 rw [h, h']; rfl
theorem gL {x : Int} (h : -4611686018427387903 <= x) (h' : x <= 4611686018427387903) : bA x = true := by
 unfold bA lE; exact Jf ⟨h, h'⟩
theorem EH {n : Nat} {i : Int} (h : 0 <= i) (h' : i < (n : Int)) : idx n i = some i.toNat := by simp [idx, h, h']
theorem Zg (H : HP) (a b : Int) : dW H (.int a) (.int b) = some (decide (a = b)) := rfl
theorem Zl (H : HP) (a b : Str) : dW H (.str a) (.str b) = some (aL a == aL b) := rfl
theorem iV (a : String) : PyData.strOk (Str.ofString a) = true := by
 rw [Str.ofString_eq_toList]
 simp only [PyData.strOk]
 rw [Array.all_eq_true]
 intro i hi
 simp only [List.size_toArray, List.length_map] at hi
 simp only [List.getElem_toArray, List.getElem_map, decide_eq_true_eq]
 have := (a.toList[i]).valid
 have h2 : (a.toList[i]).toNat = (a.toList[i]).val.toNat := rfl
 rw [h2]
 rcases this with q | q
 ·have : (a.toList[i]).val.toNat < 0xd800 := q
  exact az 0x11d800279211000037921 q
 ·exact q.2
theorem vO (a : String) : ∀ bs : List String, ((c4 (bs.map fun b => AV.str (Str.ofString b))).any fun y => PyData.eqv y (cM (.str (Str.ofString a)))) = bs.any fun b => decide (b = a)
 | [] => rfl
 | b :: bs => by
  show ((Str.ofString b == Str.ofString a) || _) = (decide (b = a) || _)
  rw [vO a bs]
  congr 1
  by_cases h : b = a
  ·subst h; simp
  ·have : ¬ Str.ofString b = Str.ofString a := by rw [Qn]; exact h
   simp [h, this]
theorem vP (H : HP) (a : String) (bs : List String) : cN H (.str (Str.ofString a)) (.list (bs.map fun b => .str (Str.ofString b))) = some (bs.any fun b => decide (b = a)) := by
 have h1 : bR cB (.list (bs.map fun b => AV.str (Str.ofString b))) = true := by
  refine List.all_eq_true.mpr fun x m => ?_
  obtain ⟨b, _, rfl⟩ := Jm.mp m
  exact iV b
 have h2 : bR cB (.str (Str.ofString a)) = true := iV a
 show (if (bR cB (.list (bs.map fun b => AV.str (Str.ofString b))) && bR cB (.str (Str.ofString a))) = true then _ else _) = _
 rw [h1, h2, <- vO]; rfl
theorem vQ (H : HP) (a : AV) (xs : List AV) : cN H a (.tup xs) = cN H a (.list xs) := rfl
theorem fh {H : HP} {o : AV} {xs : List AV} {i : Int} (h : bY H o = some xs) (h0 : 0 <= i) (h1 : i < (xs.length : Int)) : aS H o (.int i) = xs[i.toNat]? := by
 show ((bY H o).bind fun xs => (idx xs.length i).bind fun j => xs[j]?) = _
 rw [h]
 show ((idx xs.length i).bind fun j => xs[j]?) = _
 rw [EH h0 h1]; rfl
theorem dK {H : HP} {o : AV} {xs : List AV} {i : Nat} {v : AV} (h : bY H o = some xs) (h1 : xs[i]? = some v) : aS H o (.int (i : Int)) = some v := by
 have := (IX.mp h1).1
 rw [fh h (by exact az 26542480) (by exact am 0x11a92a595a1 this)]; simpa using h1
theorem Q8 (H : HP) (x0 : AV) (xs : List AV) : aS H (.tup (x0 :: xs)) (.int 0) = some x0 := dK (i := 0) rfl rfl
theorem Q9 (H : HP) (x0 x1 : AV) (xs : List AV) : aS H (.tup (x0 :: x1 :: xs)) (.int 1) = some x1 := dK (i := 1) rfl rfl
theorem Za (H : HP) (x0 x1 x2 : AV) (xs : List AV) : aS H (.tup (x0 :: x1 :: x2 :: xs)) (.int 2) = some x2 := dK (i := 2) rfl rfl
theorem Zb (H : HP) (x0 x1 x2 x3 : AV) (xs : List AV) : aS H (.tup (x0 :: x1 :: x2 :: x3 :: xs)) (.int 3) = some x3 := dK (i := 3) rfl rfl
theorem Zc (H : HP) (x0 : AV) (xs : List AV) : aS H (.list (x0 :: xs)) (.int 0) = some x0 := dK (i := 0) rfl rfl
theorem Zd (H : HP) (x0 x1 : AV) (xs : List AV) : aS H (.list (x0 :: x1 :: xs)) (.int 1) = some x1 := dK (i := 1) rfl rfl
theorem Ze (H : HP) (x0 x1 x2 : AV) (xs : List AV) : aS H (.list (x0 :: x1 :: x2 :: xs)) (.int 2) = some x2 := dK (i := 2) rfl rfl
theorem iW {β : Type} {v : AV} {xs : List AV} {H : HP} {k : R β} (h : cq v xs H) : dY v xs H k = k := by unfold dY; rw [Id h]
theorem EI {src : AV} {xs : List AV} (h : dr src = some xs) (H : HP) : cq src xs H := (qb h).1 H
theorem vR {src : AV} {xs : List AV} (h : dr src = some xs) (H : HP) : eg H src = some xs := (qb h).2 H
theorem EJ {src : AV} {xs : List AV} {H : HP} (h : eg H src = some xs) : cq src xs H := by
 unfold eg at h; unfold cq
 cases q : eH src with
 | none =>
  cases q2 : iz src with
  | none => trivial
  | some k => rw [q, q2] at h; exact h
 | some k => rw [q] at h; exact h
theorem vS {elt : an -> HP -> R AV} {x : Str} {ρ : an} {H : HP} {src : AV} {xs : List AV} (f : AV -> AV) (hs : cq src xs H) : ∀ {vs : List AV}, (∀ v ∈ vs, elt (upd ρ x v) H = some (f v, H)) -> dZ src xs bq elt x ρ vs H = some (vs.map f, H)
 | [], _ => iW hs
 | v :: vs, he => by
  refine (iW hs).trans ?_
  show av (elt (upd ρ x v) H) _ = _
  rw [he v Jj]
  show av (dZ src xs bq elt x ρ vs H) _ = _
  rw [vS f hs (fun u m => he u (JB _ m))]
  rfl
theorem mo {elt : an -> HP -> R AV} {x : Str} {ρ : an} {it : HP -> R AV} {H : HP} {src : AV} {xs : List AV} (f : AV -> AV) (hi : it H = some (src, H)) (hx : eg H src = some xs) (hl : xs.length <= aM)
  (he : ∀ v ∈ xs, elt (upd ρ x v) H = some (f v, H)) : bg bq elt x ρ it H = some (xs.map f, H) := by
 simp only [bg, hi, Qa, hx, Qb, hl, if_true]
 exact vS f (EJ hx) he
theorem jM {elt : an -> HP -> R AV} {x : Str} {ρ : an} {it : HP -> R AV} {H : HP} {src : AV} {xs : List AV} (f : AV -> AV) (hi : it H = some (src, H)) (hx : dr src = some xs) (hl : xs.length <= aM)
  (he : ∀ v ∈ xs, elt (upd ρ x v) H = some (f v, H)) : bg bq elt x ρ it H = some (xs.map f, H) := mo f hi (vR hx H) hl he
set_option tactic.hygienic true in
theorem vT {body : an -> HP -> RS} {tgt : AV -> an -> Option an} {xs : List AV} (P : Nat -> an -> HP -> Prop) (step : ∀ i v ρ H, xs[i]? = some v -> P i ρ H -> ∃ ρ1 ρ' H', tgt v ρ = some ρ1 /\ body ρ1 H = some (.next, ρ', H') /\ P (i + 1) ρ' H') :
  ∀ {vs : List AV} {i : Nat} {ρ : an} {H : HP}, vs = xs.drop i -> P i ρ H -> ∃ ρ' H', bT body tgt vs ρ H = some (.next, ρ', H') /\ P (i + vs.length) ρ' H'
 | [], i, ρ, H, _, h => ⟨ρ, H, rfl, h⟩
 | v :: vs, i, ρ, H, hv, h => by
  have hi : i < xs.length := by
   rcases Nat.lt_or_ge i xs.length with q | q
   ·exact q
   ·rw [List.drop_eq_nil_of_le q] at hv; cases hv
  rw [List.drop_eq_getElem_cons hi] at hv
  injection hv with hv1 hv2
  obtain ⟨ρ1, ρ', H', e1, e2, e4⟩ := step i v ρ H (by rw [I3 hi, hv1]) h
  obtain ⟨ρ2, H2, e5, e6⟩ := vT P step hv2 e4
  refine ⟨ρ2, H2, ?_, ?_⟩
  ·simp only [bT, e1, Jk, e2, Qc, e5]
  ·rw [Jl, Nat.add_comm vs.length, <- Nat.add_assoc]; exact e6
set_option tactic.hygienic true in
theorem iX {body : an -> HP -> RS} {tgt : AV -> an -> Option an} {it : HP -> R AV} {ρ : an} {H H1 : HP} {src : AV} {xs : List AV} (P : Nat -> an -> HP -> Prop) (hi : it H = some (src, H1)) (hx : dr src = some xs) (h0 : P 0 ρ H1)
  (step : ∀ i v ρ H, xs[i]? = some v -> P i ρ H -> ∃ ρ1 ρ' H', tgt v ρ = some ρ1 /\ body ρ1 H = some (.next, ρ', H') /\ P (i + 1) ρ' H') : ∃ ρ' H', bJ body tgt it ρ H = some (.next, ρ', H') /\ P xs.length ρ' H' := by
 obtain ⟨ρ', H', e, p⟩ := vT P step (vs := xs) (i := 0) rfl h0
 rw [Nat.zero_add] at p
 exact ⟨ρ', H', by simp only [bJ, hi, Qa, hx, Qb, e], p⟩
noncomputable def iL (l : List Int) : AV := .list (l.map AV.int)
noncomputable def iT (l : List Int) : AV := .tup (l.map AV.int)
theorem EK (xs : List AV) : fT (xs.map fun O => AV.bool true) = some (xs.map fun O => true) := by
 induction xs with
 | nil => rfl
 | cons a r ih => simp only [List.map_cons, fT, ih, dU, Option.map_some, Option.bind_some]
theorem EL (xs : List AV) : (xs.map fun O => true).all id = true := by simp
theorem iY {n : Nat} (h : n <= aM) : bA (n : Int) = true := by
 unfold aM at h
 exact gL (az 0x1953fffffffffffffff8701490) (az 0x1110000037913fffffffffffffff879591 h)
theorem iZ (n : Nat) : bH 0 (n : Int) = (List.range n).map fun (i : Nat) => AV.int (i : Int) := by
 simp [bH]
theorem vU {n : Nat} {v : AV} (h : v ∈ bH 0 (n : Int)) : ∃ i : Nat, i < n /\ v = .int (i : Int) := by
 rw [iZ] at h
 obtain ⟨i, hi, rfl⟩ := Jm.mp h
 exact ⟨i, List.mem_range.mp hi, rfl⟩
theorem gM (n : Nat) : (bH 0 (n : Int)).length = n := by rw [iZ]; simp
noncomputable def vV : AV -> Bool
 | .none => true
 | .int _ => true
 | .str s => PyData.strOk s
 | _ => false
def gO : Nat -> AV -> Bool
 | 0, v => vV v
 | n + 1, v => match v with
  | .tup xs => decide (xs.length <= aM) && xs.all (gO n)
  | .list xs => decide (xs.length <= aM) && xs.all (gO n)
  | v => vV v
end Mine.Internal
namespace Mine.Internal
open PySem PyProof.Rows
noncomputable def bL (b n : Nat) : List AV := (List.range n).map fun i => AV.ref (b + i)
theorem fj (b n : Nat) : (bL b n).length = n := by simp [bL]
theorem mq {b n i : Nat} (h : i < n) : (bL b n)[i]? = some (.ref (b + i)) := by simp [bL, h]
theorem vW (b n : Nat) : bL b (n + 1) = .ref b :: bL (b + 1) n := by
 simp only [bL, List.range_succ_eq_map, List.map_cons, List.map_map]
 congr 1
 apply List.map_congr_left
 intro i _
 simp only [Function.comp]
 congr 1
 exact am 0x11a1193311a39330
theorem vX {elt : an -> HP -> R AV} {x : Str} {ρ : an} {src : AV} {xs : List AV} (g : AV -> List AV) (hs : ∀ H, cq src xs H) : ∀ {vs : List AV} {H : HP}, (∀ v ∈ vs, ∀ H, elt (upd ρ x v) H = some (.ref H.length, H ++ [g v])) ->
  dZ src xs bq elt x ρ vs H = some (bL H.length vs.length, H ++ vs.map g)
 | [], H, _ => by rw [dZ, iW (hs _)]; simp [bL]
 | v :: vs, H, he => by
  refine (iW (hs _)).trans ?_
  show av (elt (upd ρ x v) H) _ = _
  rw [he v Jj]
  show av (dZ src xs bq elt x ρ vs (H ++ [g v])) _ = _
  rw [vX g hs fun u m => he u (JB _ m)]
  simp only [Qa, List.length_append, Jc, Jd, Nat.zero_add, Ja]
  rw [vW]
  simp
theorem qg {elt : an -> HP -> R AV} {src : AV} {xs : List AV} {x : Str} {ρ : an} {it : HP -> R AV} {H : HP} (g : AV -> List AV) (hi : it H = some (src, H)) (hx : dr src = some xs) (hl : xs.length <= aM)
  (he : ∀ v ∈ xs, ∀ H, elt (upd ρ x v) H = some (.ref H.length, H ++ [g v])) :
  bg bq elt x ρ it H = some (bL H.length xs.length, H ++ xs.map g) := by
 simp only [bg, hi, Qa, vR hx, Qb, hl, if_true]
 exact vX g (EI hx) he
theorem EM {elt : an -> HP -> R AV} {src : AV} {xs : List AV} {x : Str} {ρ : an} {it : HP -> R AV} {H : HP} (hi : it H = some (src, H)) (hx : dr src = some xs) (hl : xs.length <= aM)
  (he : ∀ v H, elt (upd ρ x v) H = some (.ref H.length, H ++ [[]])) :
  bg bq elt x ρ it H = some (bL H.length xs.length, H ++ List.replicate xs.length []) := by
 have := qg (elt := elt) (x := x) (ρ := ρ) (fun O => []) hi hx hl fun v O => he v
 rw [this]; simp [List.map_const']
noncomputable def aE (l : List Int) : List AV := l.map AV.int
def aD (H : HP) (rows : List (List Int)) : HP := H ++ rows.map aE ++ [bL H.length rows.length]
theorem dL (H : HP) (rows : List (List Int)) : (aD H rows).length = H.length + rows.length + 1 := by simp [aD]; exact am 0x1111a93311a39330
theorem ms {H T : HP} {rows : List (List Int)} {j : Nat} {row : List Int} (h : rows[j]? = some row) : (aD H rows ++ T)[H.length + j]? = some (aE row) := by
 have hj := (IX.mp h).1
 rw [List.getElem?_append_left (by rw [dL]; exact ay 0x11ba211b933a9321 hj)]
 unfold aD
 rw [List.getElem?_append_left (by simp; exact am 4740786465 hj), List.getElem?_append_right (by exact am 27867408)]
 simp [h]
theorem fp {H T : HP} {rows : List (List Int)} : (aD H rows ++ T)[H.length + rows.length]? = some (bL H.length rows.length) := by
 rw [List.getElem?_append_left (by rw [dL]; exact am 0x111a933a9320)]
 unfold aD
 rw [List.getElem?_append_right (by simp)]
 simp
theorem jN {H T : HP} {rows : List (List Int)} {j : Nat} {row : List Int} (h : j < rows.length) : bF (aD H rows ++ T) (H.length + j) (aE row) = aD H (rows.set j row) ++ T := by
 unfold bF aD
 rw [List.set_append_left _ _ (by simp; exact am 0x11a9211a3921 h), List.set_append_left _ _ (by simp; exact am 4740786465 h), List.set_append_right _ _ (by exact am 27867408)]
 simp [List.map_set]
theorem vY {g : Nat -> Option AV} : ∀ (l : List Int), bk g (l.map AV.int) = some (l.map AV.int)
 | [] => rfl
 | a :: r => by
  show (bk g (r.map AV.int)).map _ = _
  rw [vY r]; rfl
theorem vZ {n k : Nat} {H : HP} {l : List Int} (h : H[k]? = some (aE l)) : bu H (n + 1) k = some (iL l) := by
 simp only [bu, h, aE, vY]; rfl
theorem v4 {n : Nat} {H : HP} : ∀ {lo : Nat} {rows : List (List Int)}, (∀ j row, rows[j]? = some row -> H[lo + j]? = some (aE row)) -> bk (bu H (n + 1)) (bL lo rows.length) = some (rows.map iL)
 | lo, [], _ => rfl
 | lo, r :: rows, h => by
  rw [Jl, vW]
  have h1 : dp (bu H (n + 1)) (.ref lo) = some (iL r) := vZ (k := lo) (h 0 r rfl)
  simp only [bk, h1]
  rw [v4 (lo := lo + 1) (rows := rows) (fun j row e => by
   have := h (j + 1) row (by simpa using e)
   rw [show lo + 1 + j = lo + (j + 1) by exact am 0x1111a393a1193330]; exact this)]
  rfl
theorem mu {n : Nat} {H T : HP} {rows : List (List Int)} : bu (aD H rows ++ T) (n + 2) (H.length + rows.length) = some (.list (rows.map iL)) := by
 have := v4 (n := n) (H := aD H rows ++ T) (lo := H.length) (rows := rows) (fun j row e => ms e)
 rw [bu, fp]
 show (bk (bu (aD H rows ++ T) (n + 1)) _).map _ = _
 rw [this]; rfl
mutual
theorem EN : ∀ {n : Nat} {v : AV}, bR n v = true -> PyData.eqv (cM v) (cM v) = true
 | _, .none, _ => rfl
 | _, .bool b, _ => by show (b == b) = true; simp
 | _, .int b, _ => by show (b == b) = true; simp
 | _, .str b, _ => by show (b == b) = true; simp
 | n + 1, .tup xs, h => qh (n := n) h
 | n + 1, .list xs, h => qh (n := n) h
 | 0, .tup xs, h => Bool.noConfusion h
 | 0, .list xs, h => Bool.noConfusion h
 | n, .range _ _, h => by cases n <;> exact Bool.noConfusion h
 | n, .ref _, h => by cases n <;> exact Bool.noConfusion h
 | n, .dct _, h => by cases n <;> exact Bool.noConfusion h
 | n, .obj _, h => by cases n <;> exact Bool.noConfusion h
 | n, .itm _, h => by cases n <;> exact Bool.noConfusion h
 | n, .ins _, h => by cases n <;> exact Bool.noConfusion h
theorem qh : ∀ {n : Nat} {vs : List AV}, vs.all (bR n) = true -> PyData.eqvAll (c4 vs) (c4 vs) = true
 | _, [], _ => rfl
 | n, v :: vs, h => by
  obtain ⟨h1, h2⟩ := I4.mp h
  exact I4.mpr ⟨EN h1, qh h2⟩
end
theorem qj {n : Nat} (l : List Int) : bR (n + 1) (iL l) = true := by
 refine List.all_eq_true.mpr fun x m => ?_
 obtain ⟨i, _, rfl⟩ := Jm.mp m
 cases n <;> rfl
mutual
theorem i4 {g : Nat -> Option AV} : ∀ {v : AV}, v.noRef = true -> dp g v = some v
 | .none, _ => rfl
 | .bool _, _ => rfl
 | .int _, _ => rfl
 | .str _, _ => rfl
 | .range _ _, _ => rfl
 | .tup xs, h => by show (bk g xs).map _ = _; rw [mw h]; rfl
 | .list xs, h => by show (bk g xs).map _ = _; rw [mw h]; rfl
 | .ref _, h => Bool.noConfusion h
 | .dct _, h => Bool.noConfusion h
 | .obj _, h => Bool.noConfusion h
theorem mw {g : Nat -> Option AV} : ∀ {v : List AV}, dm v = true -> bk g v = some v
 | [], _ => rfl
 | a :: r, h => by
  obtain ⟨h1, h2⟩ := I4.mp h
  simp only [bk, i4 h1, mw h2, Option.map_some]
end
theorem noRefs_iff {xs : List AV} : dm xs = true ↔ ∀ x ∈ xs, x.noRef = true := by
 induction xs with
 | nil => simp [dm]
 | cons a r ih => simp [dm, ih]
theorem qk (l : List Int) : (iL l).noRef = true := by
 simp only [iL, AV.noRef, noRefs_iff]
 intro x m
 obtain ⟨i, _, rfl⟩ := Jm.mp m
 rfl
theorem EO (l : List Int) : (iT l).noRef = true := by
 simp only [iT, AV.noRef, noRefs_iff]
 intro x m
 obtain ⟨i, _, rfl⟩ := Jm.mp m
 rfl
theorem EP {H : HP} {v : AV} {xs : List AV} (h : bf H v = some xs) : bY H v = some xs := by
 cases v with
 | list ys => exact h
 | ref k => exact h
 | _ => cases h
theorem jO (H : HP) (b s : List (List Int)) : aD (aD H b) s = aD H b ++ (s.map aE ++ [bL (aD H b).length s.length]) := by
 rw [aD, I5]
theorem v5 {H : HP} {b s : List (List Int)} {j : Nat} {row : List Int} (h : b[j]? = some row) : (aD (aD H b) s)[H.length + j]? = some (aE row) := by rw [jO]; exact ms h
theorem EQ {H : HP} {b s : List (List Int)} : (aD (aD H b) s)[H.length + b.length]? = some (bL H.length b.length) := by rw [jO]; exact fp
theorem v6 {H : HP} {s : List (List Int)} {j : Nat} {row : List Int} (h : s[j]? = some row) : (aD H s)[H.length + j]? = some (aE row) := by
 have := ms (H := H) (T := []) h; rwa [JA] at this
theorem v7 {H : HP} {s : List (List Int)} : (aD H s)[H.length + s.length]? = some (bL H.length s.length) := by
 have := fp (H := H) (T := []) (rows := s); rwa [JA] at this
theorem v8 {H : HP} {rows : List (List Int)} {j : Nat} {row : List Int} (h : j < rows.length) : bF (aD H rows) (H.length + j) (aE row) = aD H (rows.set j row) := by
 have := jN (H := H) (T := []) (row := row) h; rwa [JA, JA] at this
theorem v9 {H : HP} {b s : List (List Int)} {j : Nat} {row : List Int} (h : j < b.length) : bF (aD (aD H b) s) (H.length + j) (aE row) = aD (aD H (b.set j row)) s := by
 rw [jO, jN h, jO]
 simp [dL]
theorem gP {m : LM} {k : Nat} {vs xs ys : List AV} {H : HP} (hk : H[k]? = some xs) {u : AV} (h : dX H m xs vs = some (u, ys)) : iD m (.ref k) vs H = some (u, bF H k ys) := by
 show ((H[k]?).bind fun xs => (dX H m xs vs).bind fun p => some (p.1, bF H k p.2)) = _
 rw [hk]
 show ((dX H m xs vs).bind fun p => some (p.1, bF H k p.2)) = _
 rw [h]; rfl
theorem i5 {af k : Nat} {o : HP -> R AV} {es : List (HP -> R AV)} {H : HP} {l : List Int} {t : Int} (ho : o H = some (.ref k, H)) (he : bo es H = some ([.int t], H)) (hk : H[k]? = some (aE l)) (hl : l.length < aM) :
  bx af .append o es H = some (.none, bF H k (aE (l ++ [t]))) := by
 have h : dX H .append (aE l) [.int t] = some (.none, aE (l ++ [t])) := by
  show (if (aE l).length < aM then _ else _) = _
  rw [Id (by rw [aE, IZ]; exact hl)]; simp [aE]
 have hs : e9 H (.ref k) = true := by show (H[k]?).isSome = true; rw [hk]; rfl
 simp only [bx, ho, Qa, hs, if_true, he, gP hk h]
theorem ER {af k : Nat} {o : HP -> R AV} {es : List (HP -> R AV)} {H : HP} {l : List Int} {t : Int} (ho : o H = some (.ref k, H)) (he : bo es H = some ([.int 0, .int t], H)) (hk : H[k]? = some (aE l)) (hl : l.length < aM) :
  bx af .insert o es H = some (.none, bF H k (aE (t :: l))) := by
 have h : dX H .insert (aE l) [.int 0, .int t] = some (.none, aE (t :: l)) := by
  show (if (decide ((0 : Int) = 0) && decide ((aE l).length < aM)) = true then _ else _) = _
  rw [Jf (by rw [aE, IZ]; exact hl : (aE l).length < aM)]; rfl
 have hs : e9 H (.ref k) = true := by show (H[k]?).isSome = true; rw [hk]; rfl
 simp only [bx, ho, Qa, hs, if_true, he, gP hk h]
theorem ql {x : Int} : ∀ {b : List (List Int)} {j : Nat} {row row' : List Int}, b[j]? = some row -> row'.Perm (x :: row) -> (b.set j row').flatten.Perm (x :: b.flatten)
 | [], j, row, row', h, _ => by simp at h
 | r :: b, 0, row, row', h, p => by
  simp at h; subst h
  simp only [List.set_cons_zero, List.flatten_cons]
  exact (p.append_right _)
 | r :: b, j + 1, row, row', h, p => by
  simp only [List.set_cons_succ, List.flatten_cons]
  have ih := ql (b := b) (j := j) (by simpa using h) p
  exact (ih.append_left r).trans (List.perm_middle)
structure PlanOk (size aA i : Nat) (aa ag : List (List Int)) : Prop where
 lb : aa.length = size
 ls : ag.length = aA
 br : ∀ (j : Nat) (row : List Int), aa[j]? = some row -> row.length <= i /\ ∀ t ∈ row, (j : Int) < t /\ t < (i : Int)
 st : ∀ (j : Nat) (row : List Int), ag[j]? = some row -> row.length <= i /\ ∀ t ∈ row, 0 <= t /\ t < (i : Int)
 nd : (aa.flatten ++ ag.flatten).Nodup
theorem PlanOk.mem {size aA i : Nat} {aa ag : List (List Int)} (p : PlanOk size aA i aa ag) : ∀ t ∈ aa.flatten ++ ag.flatten, t < (i : Int) := by
 intro t m
 rcases List.mem_append.mp m with m | m
 ·obtain ⟨row, hr, ht⟩ := List.mem_flatten.mp m
  obtain ⟨j, hj, e⟩ := List.mem_iff_getElem.mp hr
  exact ((p.br j row (by rw [I3 hj, e])).2 t ht).2
 ·obtain ⟨row, hr, ht⟩ := List.mem_flatten.mp m
  obtain ⟨j, hj, e⟩ := List.mem_iff_getElem.mp hr
  exact ((p.st j row (by rw [I3 hj, e])).2 t ht).2
theorem PlanOk.skip {size aA i : Nat} {aa ag : List (List Int)} (p : PlanOk size aA i aa ag) : PlanOk size aA (i + 1) aa ag :=
 ⟨p.lb, p.ls, fun j row e => ⟨by have := (p.br j row e).1; exact am 0x11a9111a3911 this, fun t m => by have := (p.br j row e).2 t m; exact ⟨aV 0x11995a995a1 this.1, aV 0x11959a119359a1 this.2⟩⟩, fun j row e => ⟨by have := (p.st j row e).1; exact am 0x11a9111a3911 this, fun t m => by have := (p.st j row e).2 t m; exact ⟨aG 0x11901990191 this.1, aV 0x11959a119359a1 this.2⟩⟩, p.nd⟩
set_option tactic.hygienic true in
theorem PlanOk.brood {size aA i j : Nat} {aa ag : List (List Int)} {row row' : List Int} (p : PlanOk size aA i aa ag) (e : aa[j]? = some row) (hj : j < i) (hp : row'.Perm ((i : Int) :: row)) : PlanOk size aA (i + 1) (aa.set j row') ag where
 lb := by simp [p.lb]
 ls := p.ls
 br := fun j' r e' => by
  rw [JF] at e'
  split at e'
  ·rename_i q
   split at e'
   ·cases e'
    subst q
    have h := p.br j row e
    refine ⟨by rw [hp.length_eq]; simp; exact h.1, fun t m => ?_⟩
    rcases Jx.mp (hp.mem_iff.mp m) with rfl | m
    ·exact ⟨am 0x11a92a595a1 hj, az 73437386144⟩
    ·have := h.2 t m; exact ⟨aV 0x11995a995a1 this.1, aV 0x11959a119359a1 this.2⟩
   ·cases e'
  ·have h := p.br j' r e'
   exact ⟨by exact am 0x11a9111a3911 h.1, fun t m => by have := h.2 t m; exact ⟨aV 0x11995a995a1 this.1, aV 0x11959a119359a1 this.2⟩⟩
 st := fun j' r e' => by have h := p.st j' r e'; exact ⟨by exact am 0x11a9111a3911 h.1, fun t m => by have := h.2 t m; exact ⟨aG 0x11901990191 this.1, aV 0x11959a119359a1 this.2⟩⟩
 nd := by
  refine (((ql e hp).append_right _).nodup_iff).mpr ?_
  refine List.nodup_cons.mpr ⟨fun m => ?_, p.nd⟩
  have := p.mem _ m; exact az 425286257 this
set_option tactic.hygienic true in
theorem PlanOk.starts {size aA i j : Nat} {aa ag : List (List Int)} {row row' : List Int} (p : PlanOk size aA i aa ag) (e : ag[j]? = some row) (hp : row'.Perm ((i : Int) :: row)) : PlanOk size aA (i + 1) aa (ag.set j row') where
 lb := p.lb
 ls := by simp [p.ls]
 br := fun j' r e' => by have h := p.br j' r e'; exact ⟨by exact am 0x11a9111a3911 h.1, fun t m => by have := h.2 t m; exact ⟨aV 0x11995a995a1 this.1, aV 0x11959a119359a1 this.2⟩⟩
 st := fun j' r e' => by
  rw [JF] at e'
  split at e'
  ·rename_i q
   split at e'
   ·cases e'
    subst q
    have h := p.st j row e
    refine ⟨by rw [hp.length_eq]; simp; exact h.1, fun t m => ?_⟩
    rcases Jx.mp (hp.mem_iff.mp m) with rfl | m
    ·exact ⟨az 26542480, az 73437386144⟩
    ·have := h.2 t m; exact ⟨aG 0x11901990191 this.1, aV 0x11959a119359a1 this.2⟩
   ·cases e'
  ·have h := p.st j' r e'
   exact ⟨by exact am 0x11a9111a3911 h.1, fun t m => by have := h.2 t m; exact ⟨aG 0x11901990191 this.1, aV 0x11959a119359a1 this.2⟩⟩
 nd := by
  refine ((((ql e hp).append_left aa.flatten).trans List.perm_middle).nodup_iff).mpr ?_
  refine List.nodup_cons.mpr ⟨fun m => ?_, p.nd⟩
  have := p.mem _ m; exact az 425286257 this
noncomputable def dF (ns : List Int) (k : Int) : Int := if k < (ns.length : Int) then ns.getD k.toNat 0 else 0
theorem Q5 (ys : List AV) (H : HP) : dB (some (ys, H)) = some (.list ys, H) := rfl
theorem Q6 (ys : List AV) (H : HP) : dC (some (ys, H)) = some (.ref H.length, H ++ [ys]) := rfl
theorem bC {n : Nat} (h : n <= 1000000) : n <= aM := Je h (by decide)
end Mine.Internal
namespace Mine.Internal
structure Rw where
 h : Int
 t : Int
 p : List Int
set_option genCtorIdx false in
inductive St where
 | free | lowered | rests
 | last (s : Int)
 | mends (t : Int) (o : Option Int)
 | holds (t n : Int)
 | wrote (t n : Int)
 | looks (k : Int)
 | seen (k h : Int)
 | reads (k h : Int)
 | tries (k h t : Int)
noncomputable def St.ctorIdx (x : St) : Nat := @St.casesOn (fun O => Nat) x 0 1 2 (fun O => 3) (fun O O => 4) (fun O O => 5) (fun O O => 6) (fun O => 7) (fun O O => 8) (fun O O => 9) (fun O O O => 10)
set_option genCtorIdx false in
inductive Evt where
 | none
 | own (w : Nat) (x : Int)
 | taken (w a : Nat) (x : Int)
 | put (w : Nat) (y : Int)
 | done (w : Nat) (x : Int)
 | rests (w : Nat)
noncomputable def Evt.ctorIdx (x : Evt) : Nat := @Evt.casesOn (fun O => Nat) x 0 (fun O O => 1) (fun O O O => 2) (fun O O => 3) (fun O O => 4) (fun O => 5)
inductive Go (aa : List (List Int)) (rows : List Rw) (sts : List St) (w : Nat) : Nat -> Rw -> St -> Evt -> Prop
 | free {r : Rw} (hr : rows[w]? = some r) (hs : sts[w]? = some .free) : Go aa rows sts w w ⟨r.h, r.t - 1, r.p⟩ .lowered .none
 | low1 {r : Rw} {x : Int} (hr : rows[w]? = some r) (hs : sts[w]? = some .lowered) (h : r.h < r.t) (hx : r.p[r.t.toNat]? = some x) : Go aa rows sts w w r (.holds x 0) (.own w x)
 | low2 {r : Rw} (hr : rows[w]? = some r) (hs : sts[w]? = some .lowered) (h : r.h = r.t) : Go aa rows sts w w r (.last r.t) .none
 | low3 {r : Rw} (hr : rows[w]? = some r) (hs : sts[w]? = some .lowered) (h : r.t < r.h) : Go aa rows sts w w r (.mends (r.t + 1) none) .none
 | last1 {r : Rw} {x : Int} (hr : rows[w]? = some r) (hs : sts[w]? = some (.last r.h)) (hx : r.p[r.h.toNat]? = some x) : Go aa rows sts w w ⟨r.h + 1, r.t, r.p⟩ (.mends (r.h + 1) (some x)) (.own w x)
 | last2 {r : Rw} {q : Int} (hr : rows[w]? = some r) (hs : sts[w]? = some (.last q)) (h : r.h ≠ q) : Go aa rows sts w w r (.mends (q + 1) none) .none
 | mends1 {r : Rw} {q x : Int} (hr : rows[w]? = some r) (hs : sts[w]? = some (.mends q (some x))) : Go aa rows sts w w ⟨r.h, q, r.p⟩ (.holds x 0) .none
 | mends2 {r : Rw} {q : Int} (hr : rows[w]? = some r) (hs : sts[w]? = some (.mends q none)) (h : rows.length = 1) : Go aa rows sts w w ⟨r.h, q, r.p⟩ .rests (.rests w)
 | mends3 {r : Rw} {q : Int} (hr : rows[w]? = some r) (hs : sts[w]? = some (.mends q none)) (h : rows.length ≠ 1) : Go aa rows sts w w ⟨r.h, q, r.p⟩ (.looks 1) .none
 | wrote {r : Rw} {t m y : Int} {row : List Int} (hr : rows[w]? = some r) (hs : sts[w]? = some (.wrote t m)) (hb : aa[t.toNat]? = some row) (hy : row[m.toNat]? = some y) : Go aa rows sts w w ⟨r.h, r.t + 1, r.p⟩ (.holds t (m + 1)) (.put w y)
 | done {r : Rw} {t m : Int} {row : List Int} (hr : rows[w]? = some r) (hs : sts[w]? = some (.holds t m)) (hb : aa[t.toNat]? = some row) (hm : m = (row.length : Int)) : Go aa rows sts w w r .free (.done w t)
 | write {r : Rw} {t m y : Int} {k : Nat} {row : List Int} (hr : rows[w]? = some r) (hs : sts[w]? = some (.holds t m)) (hb : aa[t.toNat]? = some row) (hm : m < (row.length : Int)) (hy : row[m.toNat]? = some y) (hk : r.t = (k : Int)) : Go aa rows sts w w ⟨r.h, r.t, r.p.take k ++ [y] ++ r.p.drop (k + 1)⟩ (.wrote t m) .none
 | looks {ra : Rw} {k : Int} {a : Nat} (hs : sts[w]? = some (.looks k)) (ha : ((w : Int) + k) % (rows.length : Int) = (a : Int)) (hr : rows[a]? = some ra) : Go aa rows sts w a ra (.seen k ra.h) .none
 | seen1 {ra : Rw} {k q : Int} {a : Nat} (hs : sts[w]? = some (.seen k q)) (ha : ((w : Int) + k) % (rows.length : Int) = (a : Int)) (hr : rows[a]? = some ra) (h : q < ra.t) : Go aa rows sts w a ra (.reads k q) .none
 | seen2 {ra : Rw} {k q : Int} {a : Nat} (hs : sts[w]? = some (.seen k q)) (ha : ((w : Int) + k) % (rows.length : Int) = (a : Int)) (hr : rows[a]? = some ra) (h : ¬ q < ra.t) (h2 : (rows.length : Int) <= k + 1) : Go aa rows sts w a ra .rests (.rests w)
 | seen3 {ra : Rw} {k q : Int} {a : Nat} (hs : sts[w]? = some (.seen k q)) (ha : ((w : Int) + k) % (rows.length : Int) = (a : Int)) (hr : rows[a]? = some ra) (h : ¬ q < ra.t) (h2 : ¬ (rows.length : Int) <= k + 1) : Go aa rows sts w a ra (.looks (k + 1)) .none
 | reads {ra : Rw} {k q x : Int} {a : Nat} (hs : sts[w]? = some (.reads k q)) (ha : ((w : Int) + k) % (rows.length : Int) = (a : Int)) (hr : rows[a]? = some ra) (hx : ra.p[q.toNat]? = some x) : Go aa rows sts w a ra (.tries k q x) .none
 | tries1 {ra : Rw} {k x : Int} {a : Nat} (hs : sts[w]? = some (.tries k ra.h x)) (ha : ((w : Int) + k) % (rows.length : Int) = (a : Int)) (hr : rows[a]? = some ra) : Go aa rows sts w a ⟨ra.h + 1, ra.t, ra.p⟩ (.holds x 0) (.taken w a x)
 | tries2 {ra : Rw} {k q x : Int} {a : Nat} (hs : sts[w]? = some (.tries k q x)) (ha : ((w : Int) + k) % (rows.length : Int) = (a : Int)) (hr : rows[a]? = some ra) (h : ra.h ≠ q) : Go aa rows sts w a ra (.looks k) .none
noncomputable def te (r : Rw) (s : St) : Int := match s with
 | .lowered => r.t + 1
 | .last _ => r.t + 1
 | .mends t _ => t
 | _ => r.t
def aX (r : Rw) (s : St) : List Int := (r.p.drop r.h.toNat).take ((te r s).toNat - r.h.toNat)
noncomputable def IT (s : St) : List Int := match s with
 | .mends _ (some x) => [x]
 | .holds t _ => [t]
 | .wrote t _ => [t]
 | _ => []
theorem gQ {m : Int} (h : 0 <= m) : (m + 1).toNat = m.toNat + 1 := by
 obtain ⟨x, rfl⟩ := Int.eq_ofNat_of_zero_le h; rfl
theorem wa {a t : Nat} (h : a + 1 <= t) : t - a = t - (a + 1) + 1 := by
 obtain ⟨d, hd⟩ := Nat.exists_eq_add_of_le h
 rw [hd, Nat.add_sub_cancel_left, Nat.add_assoc, Nat.add_sub_cancel_left, Nat.add_comm]
theorem ES {a t : Int} (h0 : 0 <= a) (hl : a < t) : t.toNat - a.toNat = t.toNat - (a + 1).toNat + 1 := by
 have h := Int.toNat_le_toNat (Int.add_one_le_of_lt hl)
 rw [gQ h0] at h ⊢
 exact wa h
theorem ET {a b : Int} (h0 : 0 <= a) (hl : a <= b) : (b + 1).toNat - a.toNat = b.toNat - a.toNat + 1 := by
 rw [gQ (Jp h0 hl)]
 exact Nat.succ_sub (Int.toNat_le_toNat hl)
theorem EU {a b : Int} (hl : a <= b) : a.toNat + (b.toNat - a.toNat) = b.toNat := Nat.add_sub_of_le (Int.toNat_le_toNat hl)
theorem EV {a : Int} (h : 0 < a) : 1 <= a.toNat := Int.toNat_le_toNat h
theorem EW {x y : Int} {d : Nat} (h : x <= y + (d : Int)) : x.toNat <= y.toNat + d := Int.toNat_le.mpr (Jp h (Int.add_le_add_right (Ju y) d))
theorem EX {L : Nat} {m : Int} (h0 : 0 <= m) (h : m < (L : Int)) : L - m.toNat = L - (m + 1).toNat + 1 := by
 rw [gQ h0]
 exact wa ((Int.toNat_lt h0).mpr h)
theorem mz {p : List Int} {k : Nat} {y : Int} (h : k <= p.length) : (p.take k ++ [y] ++ p.drop (k + 1)).length = max p.length (k + 1) := by
 rw [I2, I2, List.length_take, List.length_drop, List.length_singleton, Nat.min_eq_left h]
 rcases Nat.lt_or_ge k p.length with q | q
 ·rw [Nat.add_sub_of_le q, Nat.max_eq_left q]
 ·rw [Nat.sub_eq_zero_of_le (Nat.le_succ_of_le q), Nat.max_eq_right (Nat.le_succ_of_le q)]
noncomputable def br (aa : List (List Int)) (t : Int) : List Int := (aa[t.toNat]?).getD []
end Mine.Internal
namespace Mine.Internal
structure wb (aa : List (List Int)) (r : Rw) (s : St) : Prop where
 h0 : 0 <= r.h
 he : r.h <= te r s
 tl : r.t <= te r s
 el : te r s <= (r.p.length : Int)
 ho : ∀ t n, s = .holds t n -> 0 <= n /\ n <= ((br aa t).length : Int)
 wr : ∀ t n, s = .wrote t n -> 0 <= n /\ n < ((br aa t).length : Int) /\ r.t < (r.p.length : Int) /\ r.p[r.t.toNat]? = (br aa t)[n.toNat]?
 la : ∀ q, s = .last q -> r.t = q
structure Thief (W : Nat) (ra : Rw) (sa : St) (s : St) : Prop where
 see : ∀ k q, s = .seen k q -> q <= ra.h
 rea : ∀ k q, s = .reads k q -> q <= ra.h /\ (q = ra.h -> q < te ra sa)
 tri : ∀ k q x, s = .tries k q x -> q <= ra.h /\ (q = ra.h -> q < te ra sa /\ ra.p[q.toNat]? = some x)
noncomputable def lk (s : St) : Option Int := match s with
 | .looks k => some k
 | .seen k _ => some k
 | .reads k _ => some k
 | .tries k _ _ => some k
 | _ => none
noncomputable def bD (W w : Nat) (k : Int) : Nat := (((w : Int) + k) % (W : Int)).toNat
theorem d4 {r r' : Rw} {s s' : St} (h1 : r'.h = r.h) (h2 : te r' s' = te r s) (h3 : r'.p = r.p) : aX r' s' = aX r s := by
 unfold aX; rw [h1, h2, h3]
theorem mA {r : Rw} {s s' : St} {x : Int} (h0 : 0 <= r.h) (he : te r s = te r s' + 1) (hl : r.h <= te r s') (hx : r.p[(te r s').toNat]? = some x) : aX r s = aX r s' ++ [x] := by
 unfold aX
 have e : (te r s).toNat - r.h.toNat = (te r s').toNat - r.h.toNat + 1 := by rw [he]; exact ET h0 hl
 rw [e, List.take_add_one]
 congr 1
 rw [List.getElem?_drop]
 have : r.h.toNat + ((te r s').toNat - r.h.toNat) = (te r s').toNat := EU hl
 rw [this, hx]; rfl
theorem mB {r : Rw} {s s' : St} {x : Int} (h0 : 0 <= r.h) (hl : r.h < te r s) (he : te ⟨r.h + 1, r.t, r.p⟩ s' = te r s) (hx : r.p[r.h.toNat]? = some x) : aX r s = x :: aX ⟨r.h + 1, r.t, r.p⟩ s' := by
 unfold aX
 rw [he]
 have e : (te r s).toNat - r.h.toNat = (te r s).toNat - (r.h + 1).toNat + 1 := ES h0 hl
 have hlt := (IX.mp hx).1
 have hx' := (IX.mp hx).2
 rw [e, List.drop_eq_getElem_cons hlt, List.take_succ_cons, hx']
 congr 2
 have : (r.h + 1).toNat = r.h.toNat + 1 := gQ h0
 show _ = (List.drop (r.h + 1).toNat r.p)
 rw [this]
theorem wc {r : Rw} {s s' : St} {k : Nat} {y : Int} (h0 : 0 <= r.h) (hk : r.t = (k : Int)) (hkl : k <= r.p.length) (h1 : te r s = r.t) (h2 : te ⟨r.h, r.t, r.p.take k ++ [y] ++ r.p.drop (k + 1)⟩ s' = r.t) (he : r.h <= r.t) :
  aX ⟨r.h, r.t, r.p.take k ++ [y] ++ r.p.drop (k + 1)⟩ s' = aX r s := by
 unfold aX
 rw [h1, h2]
 show ((r.p.take k ++ [y] ++ r.p.drop (k + 1)).drop r.h.toNat).take (r.t.toNat - r.h.toNat) = (r.p.drop r.h.toNat).take (r.t.toNat - r.h.toNat)
 have hkt : r.t.toNat = k := by exact aZ 0x10110191995b9599a59ba933 hk (Ju _) (I7 (aV 0x91959b90191 hk))
 have hh : r.h.toNat <= k := by exact fJ 0x1111a95b9a9a59ba913 hk he (I7 (aG 0x11901990191 h0))
 rw [hkt]
 rw [<- List.drop_take, <- List.drop_take]
 congr 1
 rw [I5, List.take_append_of_le_length (by simp; exact am 0x919a3a911 (Nat.min_eq_left (am 4740720913 hkl))), List.take_take, Nat.min_self]
end Mine.Internal
namespace Mine.Internal
set_option tactic.hygienic true in
theorem i6 {rows : List Rw} {w : Nat} {r : Rw} (h : rows[w]? = some r) : rows.set w r = rows := by
 apply List.ext_getElem?
 intro i
 rw [JF]
 split
 ·rename_i q; subst q; rw [h]; simp [(List.getElem?_eq_some_iff.mp h).1]
 ·rfl
theorem fY {aa : List (List Int)} {t : Int} {row : List Int} (h : aa[t.toNat]? = some row) : br aa t = row := by unfold br; rw [h]; rfl
end Mine.Internal
namespace Mine.Internal
structure Yd (aa : List (List Int)) (rows : List Rw) (sts : List St) : Prop where
 len : rows.length = sts.length
 loc : ∀ (j : Nat) (r : Rw) (s : St), rows[j]? = some r -> sts[j]? = some s -> wb aa r s
 thf : ∀ (w : Nat) (s : St) (k : Int), sts[w]? = some s -> lk s = some k -> 1 <= k /\ k < (rows.length : Int) /\ ∀ ra sa, rows[bD rows.length w k]? = some ra -> sts[bD rows.length w k]? = some sa -> Thief rows.length ra sa s
theorem EY {W w : Nat} {k : Int} (hW : 0 < W) : bD W w k < W := by
 unfold bD
 have h1 := Int.emod_nonneg ((w : Int) + k) (by exact az 0x1190120195e1 hW : (W : Int) ≠ 0)
 have h2 := Int.emod_lt_of_pos ((w : Int) + k) (by exact az 0x1190129501a1 hW : 0 < (W : Int))
 exact aZ 0x111995ba59aa922 h2 (I7 (aG 0x11901990191 h1))
theorem i7 {W w : Nat} {k : Int} (hw : w < W) (h1 : 1 <= k) (h2 : k < (W : Int)) : bD W w k ≠ w := by
 unfold bD
 intro h
 by_cases q : (w : Int) + k < (W : Int)
 ·rw [Int.emod_eq_of_lt (by exact aV 0x11911999530191 h1) q] at h; exact aZ 0x111959a539a93911973 h1 h (Ju _)
 ·have e : ((w : Int) + k) % (W : Int) = (w : Int) + k - W := by
   have : ((w : Int) + k - W + W) % (W : Int) = ((w : Int) + k - W) % (W : Int) := by simp
   rw [show (w : Int) + k = (w : Int) + k - W + W by exact aZ 0x11a5a59953439953b0, this, Int.emod_eq_of_lt (by exact aZ 0x11a59953da5995340191 q) (by exact aZ 0x111a59aa92a5a599534a2 hw h2)]; exact aZ 0x11a5a5a59953434a599534b0
  rw [e] at h; exact il 0x191959b534a5bba3959a73 h2 h (I7 (aZ 0x11a59953da5995340191 q))
noncomputable def Mono (r : Rw) (s : St) (r2 : Rw) (s2 : St) : Prop := r.h <= r2.h /\ (r2.h = r.h -> r.h < te r s -> r.h < te r2 s2 /\ r2.p[r.h.toNat]? = r.p[r.h.toNat]?)
theorem Mono.same {r r2 : Rw} {s s2 : St} (h1 : r2.h = r.h) (h2 : te r2 s2 = te r s) (h3 : r2.p = r.p) : Mono r s r2 s2 := ⟨by exact bj 0x919aba991 h1, fun O q => ⟨by exact eF 0x191b9ababa9a2 h2 q, by rw [h3]⟩⟩
inductive Kind (aa : List (List Int)) (rows : List Rw) (sts : List St) (w : Nat) (a : Nat) (r' : Rw) (s' : St) : Prop
 | own (r : Rw) (s : St) (e : a = w) (hr : rows[w]? = some r) (hs : sts[w]? = some s) (m : Mono r s r' s') (l : wb aa r' s') (k : lk s' = none ∨ (s' = .looks 1 /\ rows.length ≠ 1))
 | look (s : St) (k : Int) (ra : Rw) (e : a = bD rows.length w k) (hs : sts[w]? = some s) (hk : lk s = some k) (hra : rows[a]? = some ra) (er : r' = ra ∨ (r' = ⟨ra.h + 1, ra.t, ra.p⟩ /\ ∃ x, s = .tries k ra.h x /\ s' = .holds x 0))
   (te' : ∀ r : Rw, te r s' = te r s) (ho : ∀ t n, s' = .holds t n -> n = 0) (nw : (∀ t n, s' ≠ .wrote t n) /\ ∀ q, s' ≠ .last q) (kk : ∀ k', lk s' = some k' -> (k' = k ∨ (k' = k + 1 /\ k + 1 < (rows.length : Int) /\ s' = .looks k')))
   (t : ∀ sa, sts[a]? = some sa -> ra.t <= te ra sa -> Thief rows.length ra sa s -> (r' = ra -> Thief rows.length ra sa s'))
theorem Go.kind {aa : List (List Int)} {rows : List Rw} {sts : List St} {w a : Nat} {r' : Rw} {s' : St} {e : Evt} (g : Go aa rows sts w a r' s' e) (y : Yd aa rows sts) : Kind aa rows sts w a r' s' := by
 have att : ∀ {k : Int} {a : Nat}, ((w : Int) + k) % (rows.length : Int) = (a : Int) -> a = bD rows.length w k := fun h => by unfold bD; rw [h]; rfl
 cases g with
 | @free r hr hs =>
  have l := y.loc w r _ hr hs
  have h1 : r.h <= r.t := l.he
  have h2 : r.t <= (r.p.length : Int) := l.el
  refine .own r _ rfl hr hs (Mono.same rfl (by show r.t - 1 + 1 = r.t; exact aG 0x1191111943b0) rfl) ⟨l.h0, by show r.h <= r.t - 1 + 1; exact bj 0x11a991111a43991 h1, by show r.t - 1 <= r.t - 1 + 1; exact aG 0x11111943119490, by show r.t - 1 + 1 <= (r.p.length : Int); exact aV 0x11959995111194391 h2, fun O O q => (St.noConfusion q), fun O O q => (St.noConfusion q), fun O q => (St.noConfusion q)⟩ (.inl rfl)
 | @low1 _ x hr hs h hx =>
  have l := y.loc w r' _ hr hs
  have h2 : r'.t + 1 <= (r'.p.length : Int) := l.el
  exact .own r' _ rfl hr hs ⟨I9 _, fun O O => ⟨h, rfl⟩⟩ ⟨l.h0, by show r'.h <= r'.t; exact bj 4741310865 h, I9 _, by show r'.t <= _; exact aV 0x11951193995991 h2, fun t n q => by cases q; exact ⟨bt 16843152, az 26542480⟩, fun O O q => (St.noConfusion q), fun O q => (St.noConfusion q)⟩ (.inl rfl)
 | low2 hr hs h =>
  have l := y.loc w r' _ hr hs
  exact .own r' _ rfl hr hs (Mono.same rfl rfl rfl) ⟨l.h0, l.he, l.tl, l.el, fun O O q => (St.noConfusion q), fun O O q => (St.noConfusion q), fun O q => by cases q; rfl⟩ (.inl rfl)
 | low3 hr hs h =>
  have l := y.loc w r' _ hr hs
  exact .own r' _ rfl hr hs (Mono.same rfl rfl rfl) ⟨l.h0, l.he, l.tl, l.el, fun O O q => (St.noConfusion q), fun O O q => (St.noConfusion q), fun O q => (St.noConfusion q)⟩ (.inl rfl)
 | @last1 r x hr hs hx =>
  have l := y.loc w r _ hr hs
  have hq := l.la _ rfl
  have h0 := l.h0
  have h2 : r.t + 1 <= (r.p.length : Int) := l.el
  exact .own r _ rfl hr hs ⟨by show r.h <= r.h + 1; exact aG 286865808, fun q => absurd q (by show ¬ r.h + 1 = r.h; exact aG 420582368)⟩ ⟨by show 0 <= r.h + 1; exact aG 0x11901911930191 h0, I9 _, by show r.t <= r.h + 1; exact bj 0x11a9b11a3991 hq, by show r.h + 1 <= (r.p.length : Int); exact dQ 0x1919511a399ab95119392 hq h2, fun O O q => (St.noConfusion q), fun O O q => (St.noConfusion q), fun O q => (St.noConfusion q)⟩ (.inl rfl)
 | @last2 _ q hr hs h =>
  have l := y.loc w r' _ hr hs
  have hq := l.la _ rfl
  have e1 : r'.h <= r'.t + 1 := l.he
  have e2 : r'.t + 1 <= (r'.p.length : Int) := l.el
  exact .own r' _ rfl hr hs (Mono.same rfl (by show q + 1 = r'.t + 1; exact bj 0x91119ab11a31193b1 hq) rfl) ⟨l.h0, by show r'.h <= q + 1; exact eF 0x11111b399abb11a3992 hq e1, by show r'.t <= q + 1; exact bj 0x11a9b11a3991 hq, by show q + 1 <= (r'.p.length : Int); exact dQ 0x1919511a399ab95119392 hq e2, fun O O q => (St.noConfusion q), fun O O q => (St.noConfusion q), fun O q => (St.noConfusion q)⟩ (.inl rfl)
 | @mends1 r q x hr hs =>
  have l := y.loc w r _ hr hs
  exact .own r _ rfl hr hs (Mono.same rfl rfl rfl) ⟨l.h0, l.he, I9 _, l.el, fun O O q => by cases q; exact ⟨bt 16843152, az 26542480⟩, fun O O q => (St.noConfusion q), fun O q => (St.noConfusion q)⟩ (.inl rfl)
 | @mends2 r q hr hs h =>
  have l := y.loc w r _ hr hs
  exact .own r _ rfl hr hs (Mono.same rfl rfl rfl) ⟨l.h0, l.he, I9 _, l.el, fun O O q => (St.noConfusion q), fun O O q => (St.noConfusion q), fun O q => (St.noConfusion q)⟩ (.inl rfl)
 | @mends3 r q hr hs h =>
  have l := y.loc w r _ hr hs
  exact .own r _ rfl hr hs (Mono.same rfl rfl rfl) ⟨l.h0, l.he, I9 _, l.el, fun O O q => (St.noConfusion q), fun O O q => (St.noConfusion q), fun O q => (St.noConfusion q)⟩ (.inr ⟨rfl, h⟩)
 | @wrote r t m yv row hr hs hb hy =>
  have l := y.loc w r _ hr hs
  obtain ⟨q1, q2, q3, q4⟩ := l.wr t m rfl
  have h1 : r.h <= r.t := l.he
  exact .own r _ rfl hr hs ⟨I9 _, fun O O => ⟨by show r.h < r.t + 1; exact bj 0x11a9911a39a1 h1, rfl⟩⟩ ⟨l.h0, by show r.h <= r.t + 1; exact bj 0x11a9911a3991 h1, I9 _, by show r.t + 1 <= (r.p.length : Int); exact aV 0x11959a95119391 q3, fun O O q => by cases q; exact ⟨aG 0x11901911930191 q1, aV 0x11959a95119391 q2⟩, fun O O q => (St.noConfusion q), fun O q => (St.noConfusion q)⟩ (.inl rfl)
 | done hr hs hb hm =>
  have l := y.loc w r' _ hr hs
  exact .own r' _ rfl hr hs (Mono.same rfl rfl rfl) ⟨l.h0, l.he, l.tl, l.el, fun O O q => (St.noConfusion q), fun O O q => (St.noConfusion q), fun O q => (St.noConfusion q)⟩ (.inl rfl)
 | @write r t m yv k row hr hs hb hm hy hk =>
  have l := y.loc w r _ hr hs
  have h0 := l.h0
  have h1 : r.h <= r.t := l.he
  have h2 : r.t <= (r.p.length : Int) := l.el
  have h3 := l.ho t m rfl
  have lenN : (r.p.take k ++ [yv] ++ r.p.drop (k + 1)).length = max r.p.length (k + 1) := mz (aZ 0x191a599959ba912 hk h2)
  have kt : r.t.toNat = k := by exact aZ 0x10110191995b9599a59ba933 hk (Ju _) (I7 (aV 0x91959b90191 hk))
  have atk : (r.p.take k ++ [yv] ++ r.p.drop (k + 1))[k]? = some yv := by
   rw [I5, List.getElem?_append_right (by simp; exact am 4740720913 (Nat.min_le_left _ _))]
   have : k - (r.p.take k).length = 0 := by simp; exact ay 0x191001ba933ba301932 (Nat.min_eq_left (aZ 0x191a599959ba912 hk h2)) (I1 (am 4740720913 (Nat.min_le_left _ _)))
   rw [this]; rfl
  refine .own r _ rfl hr hs ⟨I9 _, fun O q => ⟨q, ?_⟩⟩ ⟨h0, h1, I9 _, by show r.t <= ((r.p.take k ++ [yv] ++ r.p.drop (k + 1)).length : Int); rw [lenN]; exact aZ 0x111911a31a59b95992 hk (Nat.le_max_right _ _), fun O O q => (St.noConfusion q), fun t' n' q => ?_, fun O q => (St.noConfusion q)⟩ (.inl rfl)
  ·have q : r.h < r.t := q
   show (r.p.take k ++ [yv] ++ r.p.drop (k + 1))[r.h.toNat]? = _
   rw [I5, List.getElem?_append_left (by simp; exact tD 0x91111ba3a95b9aab59ba924 hk q (I7 (aG 0x11901990191 h0)) (Nat.min_eq_left (aZ 0x191a599959ba912 hk h2))), List.getElem?_take]
   rw [Id (by exact fJ 0x1111a95b9aaa59ba923 hk q (I7 (aG 0x11901990191 h0)))]
  ·cases q
   refine ⟨h3.1, by rw [fY hb]; exact hm, by show r.t < ((r.p.take k ++ [yv] ++ r.p.drop (k + 1)).length : Int); rw [lenN]; exact aZ 0x111911a31a59b959a2 hk (Nat.le_max_right _ _), ?_⟩
   show (r.p.take k ++ [yv] ++ r.p.drop (k + 1))[r.t.toNat]? = _
   rw [kt, atk, fY hb, hy]
 | @looks _ k a hs ha hr =>
  exact .look _ k r' (att ha) hs rfl hr (.inl rfl) (fun O => rfl) (fun O O q => (St.noConfusion q)) ⟨fun O O q => (St.noConfusion q), fun O q => (St.noConfusion q)⟩ (fun k' q => .inl (by cases q; rfl)) fun sa O O O O => ⟨fun O O q => by cases q; exact I9 _, fun O O q => (St.noConfusion q), fun O O O q => (St.noConfusion q)⟩
 | @seen1 _ k q a hs ha hr h =>
  exact .look _ k r' (att ha) hs rfl hr (.inl rfl) (fun O => rfl) (fun O O q => (St.noConfusion q)) ⟨fun O O q => (St.noConfusion q), fun O q => (St.noConfusion q)⟩ (fun k' q => .inl (by cases q; rfl)) fun sa O tl t O => ⟨fun O O q => (St.noConfusion q), fun O O q => by cases q; exact ⟨t.see _ _ rfl, fun O => by exact eF 0x111ab9b9aa9a2 h tl⟩, fun O O O q => (St.noConfusion q)⟩
 | @seen2 _ k q a hs ha hr h h2 =>
  exact .look _ k r' (att ha) hs rfl hr (.inl rfl) (fun O => rfl) (fun O O q => (nomatch q)) ⟨fun O O q => (nomatch q), fun O q => (nomatch q)⟩ (fun k' q => (nomatch q)) fun sa O O O O => ⟨fun O O q => (nomatch q), fun O O q => (nomatch q), fun O O O q => (nomatch q)⟩
 | @seen3 _ k q a hs ha hr h h2 =>
  exact .look _ k r' (att ha) hs rfl hr (.inl rfl) (fun O => rfl) (fun O O q => (St.noConfusion q)) ⟨fun O O q => (St.noConfusion q), fun O q => (St.noConfusion q)⟩ (fun k' q => .inr (by cases q; exact ⟨rfl, by exact aV 0x11119395c951193a1 h2, rfl⟩)) fun sa O O O O => ⟨fun O O q => (St.noConfusion q), fun O O q => (St.noConfusion q), fun O O O q => (St.noConfusion q)⟩
 | @reads _ k q x a hs ha hr hx =>
  exact .look _ k r' (att ha) hs rfl hr (.inl rfl) (fun O => rfl) (fun O O q => (St.noConfusion q)) ⟨fun O O q => (St.noConfusion q), fun O q => (St.noConfusion q)⟩ (fun k' q => .inl (by cases q; rfl)) fun sa O tl t O => ⟨fun O O q => (St.noConfusion q), fun O O q => (St.noConfusion q), fun O O O q => by cases q; exact ⟨(t.rea _ _ rfl).1, fun h => ⟨(t.rea _ _ rfl).2 h, hx⟩⟩⟩
 | @tries1 ra k x a hs ha hr =>
  exact .look _ k ra (att ha) hs rfl hr (.inr ⟨rfl, x, rfl, rfl⟩) (fun O => rfl) (fun O O q => by cases q; rfl) ⟨fun O O q => (nomatch q), fun O q => (nomatch q)⟩ (fun k' q => (nomatch q)) fun sa O O O q => absurd (congrArg Rw.h q) (by show ¬ ra.h + 1 = ra.h; exact aG 420582368)
 | @tries2 _ k q x a hs ha hr h =>
  exact .look _ k r' (att ha) hs rfl hr (.inl rfl) (fun O => rfl) (fun O O q => (St.noConfusion q)) ⟨fun O O q => (St.noConfusion q), fun O q => (St.noConfusion q)⟩ (fun k' q => .inl (by cases q; rfl)) fun sa O O O O => ⟨fun O O q => (St.noConfusion q), fun O O q => (St.noConfusion q), fun O O O q => (St.noConfusion q)⟩
end Mine.Internal
namespace Mine.Internal
theorem Thief.mono {W : Nat} {ra r2 : Rw} {sa s2 s : St} (t : Thief W ra sa s) (m : Mono ra sa r2 s2) : Thief W r2 s2 s where
 see := fun k q e => Jp (t.see k q e) m.1
 rea := fun k q e => by
  obtain ⟨h1, h2⟩ := t.rea k q e
  refine ⟨Jp h1 m.1, fun h => ?_⟩
  have : r2.h = ra.h := by have := m.1; exact eF 0x91110019a99bbab9a9b3 h1 h this
  have hq : q = ra.h := by exact eF 0x119901abbb9ba99a9b3 h1 h this
  rw [hq]; exact (m.2 this (hq ▸ h2 hq)).1
 tri := fun k q x e => by
  obtain ⟨h1, h2⟩ := t.tri k q x e
  refine ⟨Jp h1 m.1, fun h => ?_⟩
  have : r2.h = ra.h := by have := m.1; exact eF 0x91110019a99bbab9a9b3 h1 h this
  have hq : q = ra.h := by exact eF 0x119901abbb9ba99a9b3 h1 h this
  subst hq
  obtain ⟨g1, g2⟩ := h2 rfl
  obtain ⟨m1, m2⟩ := m.2 this g1
  exact ⟨m1, m2.trans g2⟩
theorem we {W : Nat} {ra : Rw} {sa : St} {k : Int} : Thief W ra sa (.looks k) := ⟨fun O O q => (St.noConfusion q), fun O O q => (St.noConfusion q), fun O O O q => (St.noConfusion q)⟩
section
variable {aa : List (List Int)} {rows : List Rw} {sts : List St} {w a : Nat} {r' : Rw} {s' : St}
theorem Kind.ne (K : Kind aa rows sts w a r' s') (y : Yd aa rows sts) (hw : w < rows.length) : a = w ∨ (a ≠ w /\ a < rows.length) := by
 cases K with
 | own r s e => exact .inl e
 | look s k ra e hs hk hra =>
  obtain ⟨h1, h2, _⟩ := y.thf w s k hs hk
  exact .inr ⟨e ▸ i7 hw h1 h2, (IX.mp hra).1⟩
theorem Kind.mono (K : Kind aa rows sts w a r' s') (y : Yd aa rows sts) (hw : w < rows.length) {i : Nat} {r : Rw} {s : St} (hr : rows[i]? = some r) (hs : sts[i]? = some s) :
  ∃ r2 s2, (rows.set a r')[i]? = some r2 /\ (sts.set w s')[i]? = some s2 /\ Mono r s r2 s2 := by
 have hil := (IX.mp hr).1
 have hisl := (IX.mp hs).1
 have hne := K.ne y hw
 cases K with
 | own r0 s0 e hr0 hs0 m l k =>
  subst e
  by_cases q : a = i
  ·subst q
   rw [hr0] at hr; cases hr
   rw [hs0] at hs; cases hs
   exact ⟨r', s', by simp [hil], by simp [hisl], m⟩
  ·exact ⟨r, s, by rw [Jq q]; exact hr, by rw [Jq q]; exact hs, Mono.same rfl rfl rfl⟩
 | look s0 k ra e hs0 hk hra er te' ho nw kk t =>
  obtain ⟨haw, hal⟩ : a ≠ w /\ a < rows.length := hne.resolve_left (by
   obtain ⟨h1, h2, _⟩ := y.thf w s0 k hs0 hk
   exact e ▸ i7 hw h1 h2)
  by_cases q : a = i
  ·subst q
   rw [hra] at hr; cases hr
   refine ⟨r', s, by simp [hil], by rw [Jq (Ne.symm haw)]; exact hs, ?_⟩
   rcases er with rfl | ⟨rfl, _⟩
   ·exact Mono.same rfl rfl rfl
   ·exact ⟨by show r.h <= r.h + 1; exact aG 286865808, fun q => absurd q (by show ¬ r.h + 1 = r.h; exact aG 420582368)⟩
  ·by_cases p : w = i
   ·subst p
    rw [hs0] at hs; cases hs
    exact ⟨r, s', by rw [Jq q]; exact hr, by simp [hisl], Mono.same rfl (te' r) rfl⟩
   ·exact ⟨r, s, by rw [Jq q]; exact hr, by rw [Jq p]; exact hs, Mono.same rfl rfl rfl⟩
theorem Kind.yd (K : Kind aa rows sts w a r' s') (y : Yd aa rows sts) (hw : w < rows.length) : Yd aa (rows.set a r') (sts.set w s') where
 len := by simp [y.len]
 loc := fun j r s hr hs => by
  have hne := K.ne y hw
  have hjl := (IX.mp hr).1
  rw [List.length_set] at hjl
  have hjs : j < sts.length := y.len ▸ hjl
  cases K with
  | own r0 s0 e hr0 hs0 m l k =>
   subst e
   by_cases q : a = j
   ·subst q
    rw [JD hjl] at hr; cases hr
    rw [JD hjs] at hs; cases hs
    exact l
   ·rw [Jq q] at hr hs
    exact y.loc j r s hr hs
  | look s0 k ra e hs0 hk hra er te' ho nw kk t =>
   obtain ⟨b1, b2, th⟩ := y.thf w s0 k hs0 hk
   have haw : a ≠ w := e ▸ i7 hw b1 b2
   by_cases q : a = j
   ·subst q
    rw [JD hjl] at hr; cases hr
    rw [Jq (Ne.symm haw)] at hs
    have l := y.loc a ra s hra hs
    rcases er with rfl | ⟨rfl, x, rfl, rfl⟩
    ·exact l
    ·have t1 := ((th ra s (by rw [<- e]; exact hra) (by rw [<- e]; exact hs)).tri k _ x rfl).2 rfl
     have e1 : te ⟨ra.h + 1, ra.t, ra.p⟩ s = te ra s := by cases s <;> rfl
     have h0 := l.h0
     exact ⟨by show 0 <= ra.h + 1; exact aG 0x11901911930191 h0, by rw [e1]; show ra.h + 1 <= te ra s; have := t1.1; exact bj 0x11a9aa119391 t1.1, by rw [e1]; exact l.tl, by rw [e1]; exact l.el, l.ho, l.wr, l.la⟩
   ·rw [Jq q] at hr
    by_cases p : w = j
    ·subst p
     rw [JD hjs] at hs; cases hs
     have l := y.loc w r s0 hr hs0
     exact ⟨l.h0, by rw [te']; exact l.he, by rw [te']; exact l.tl, by rw [te']; exact l.el, fun t n q => by rw [ho t n q]; exact ⟨bt 16843152, az 26542480⟩, fun t n q => absurd q (nw.1 t n), fun q' q => absurd q (nw.2 q')⟩
    ·rw [Jq p] at hs
     exact y.loc j r s hr hs
 thf := fun u s k hs hk => by
  have hW : (rows.set a r').length = rows.length := List.length_set
  rw [hW]
  have hul : u < sts.length := by have := (IX.mp hs).1; rwa [List.length_set] at this
  by_cases p : w = u
  ·subst p
   rw [JD hul] at hs; cases hs
   cases K with
   | own r0 s0 e hr0 hs0 m l k' =>
    rcases k' with q | ⟨rfl, q⟩
    ·rw [q] at hk; cases hk
    ·cases hk
     exact ⟨by exact bt 17895824, by exact (Nat.lt_or_gt_of_ne q).elim (fun q8 => am 0x11011929a29511a2 hw q8) fun q8 => az 0x1191129511a1 q8, fun O O O O => we⟩
   | look s0 k0 ra e hs0 hk0 hra er te' ho nw kk t =>
    obtain ⟨b1, b2, th⟩ := y.thf w s0 k0 hs0 hk0
    have haw : a ≠ w := e ▸ i7 hw b1 b2
    have hal := (IX.mp hra).1
    rcases kk k hk with rfl | ⟨rfl, q, rfl⟩
    ·refine ⟨b1, b2, fun r2 s2 h1 h2 => ?_⟩
     rw [<- e] at h1 h2 th
     rw [JD hal] at h1; cases h1
     rw [Jq (Ne.symm haw)] at h2
     rcases er with rfl | ⟨_, x, _, rfl⟩
     ·exact t s2 h2 (y.loc a r' s2 hra h2).tl (th r' s2 hra h2) rfl
     ·cases hk
    ·exact ⟨by exact aG 0x11911911931191 b1, q, fun O O O O => we⟩
  ·rw [Jq p] at hs
   obtain ⟨b1, b2, th⟩ := y.thf u s k hs hk
   refine ⟨b1, b2, fun r2 s2 h1 h2 => ?_⟩
   have hi : bD rows.length u k < rows.length := EY (aV 0x111959a911990122 b1 b2)
   obtain ⟨r, hr⟩ : ∃ r, rows[bD rows.length u k]? = some r := ⟨_, I3 hi⟩
   obtain ⟨sa, hsa⟩ : ∃ s, sts[bD rows.length u k]? = some s := ⟨_, I3 (y.len ▸ hi)⟩
   obtain ⟨r3, s3, g1, g2, m⟩ := K.mono y hw hr hsa
   rw [h1] at g1; cases g1
   rw [h2] at g2; cases g2
   exact (th r sa hr hsa).mono m
end
end Mine.Internal
namespace Mine.Internal
noncomputable def dy (F : Rw -> St -> Nat) : List Rw -> List St -> Nat
 | r :: rows, s :: sts => F r s + dy F rows sts
 | _, _ => 0
theorem qm (F : Rw -> St -> Nat) : ∀ {rows : List Rw} {sts : List St} {j : Nat} {r r' : Rw} {s : St}, rows[j]? = some r -> sts[j]? = some s -> dy F (rows.set j r') sts + F r s = dy F rows sts + F r' s
 | [], _, _, _, _, _, h, _ => nomatch h
 | _ :: _, [], _, _, _, _, _, h => nomatch h
 | _ :: _, _ :: _, 0, _, _, _, h, h' => by cases h; cases h'; simp only [List.set_cons_zero, dy]; exact ay 0x119ab33ba93330
 | _ :: rows, _ :: sts, j + 1, r, r', s, h, h' => by
  have := qm F (rows := rows) (sts := sts) (j := j) (r := r) (r' := r') (s := s) h h'
  simp only [List.set_cons_succ, dy]; exact a7 0x1191dc3ba33dc933ba93331 this
theorem mC (F : Rw -> St -> Nat) : ∀ {rows : List Rw} {sts : List St} {j : Nat} {r : Rw} {s s' : St}, rows[j]? = some r -> sts[j]? = some s -> dy F rows (sts.set j s') + F r s = dy F rows sts + F r s'
 | [], _, _, _, _, _, h, _ => nomatch h
 | _ :: _, [], _, _, _, _, _, h => nomatch h
 | _ :: _, _ :: _, 0, _, _, _, h, h' => by cases h; cases h'; simp only [List.set_cons_zero, dy]; exact ay 0x119ab33ba93330
 | _ :: rows, _ :: sts, j + 1, r, s, s', h, h' => by
  have := mC F (rows := rows) (sts := sts) (j := j) (r := r) (s := s) (s' := s') h h'
  simp only [List.set_cons_succ, dy]; exact a7 0x1191dc3ba33dc933ba93331 this
theorem EZ (F : Rw -> St -> Nat) {rows : List Rw} {sts : List St} {w a : Nat} {r ra r' : Rw} {s s' sa : St} (hne : a ≠ w) (hr : rows[w]? = some r) (hs : sts[w]? = some s) (hra : rows[a]? = some ra) (hsa : sts[a]? = some sa) :
  dy F (rows.set a r') (sts.set w s') + F r s + F ra sa = dy F rows sts + F r s' + F r' sa := by
 have h1 := mC F (s' := s') hr hs
 have h2 := qm F (rows := rows) (sts := sts.set w s') (r' := r') hra (by rw [Jq (Ne.symm hne)]; exact hsa)
 exact eT 0x111991ef3b933dc3af33edc33ba93332 h1 h2
theorem E0 (F : Rw -> St -> Nat) {rows : List Rw} {sts : List St} {w : Nat} {r r' : Rw} {s s' : St} (hr : rows[w]? = some r) (hs : sts[w]? = some s) : dy F (rows.set w r') (sts.set w s') + F r s = dy F rows sts + F r' s' := by
 have hl := (IX.mp hs).1
 have h1 := mC F (s' := s') hr hs
 have h2 := qm F (rows := rows) (sts := sts.set w s') (r' := r') (s := s') hr (by simp [hl])
 exact dI 0x111991cd3e933eb3ad33cb3a9332 h1 h2
section
variable (aa : List (List Int)) (V : Int -> Nat)
noncomputable def wS (l : List Int) : Nat := (l.map V).sum
noncomputable def eS (l : List Int) : Nat := (l.map fun c => V c + 1).sum
def Wh (s : St) : Nat := match s with
 | .mends _ (some x) => eS V (br aa x)
 | .holds t n => eS V ((br aa t).drop n.toNat)
 | .wrote t n => eS V ((br aa t).drop n.toNat) - 1
 | _ => 0
def Gw (r : Rw) (s : St) : Nat := wS V (aX r s) + Wh aa V s
def RR (rows : List Rw) (sts : List St) : Nat := dy (Gw aa V) rows sts
end
noncomputable def tk (e : Evt) : Nat := match e with
 | .own _ _ => 1
 | .taken _ _ _ => 1
 | _ => 0
noncomputable def ck (C : Int -> Nat) (e : Evt) : Nat := match e with
 | .own _ x => C x
 | .taken _ _ x => C x
 | _ => 0
section
variable {aa : List (List Int)} {C V : Int -> Nat} {rows : List Rw} {sts : List St} {w a : Nat} {r' : Rw} {s' : St} {e : Evt}
theorem mD (l : List Int) (x : Int) : wS V (l ++ [x]) = wS V l + V x := by simp [wS]
theorem i8 (l : List Int) (x : Int) : wS V (x :: l) = V x + wS V l := by simp [wS]
theorem wf {l : List Int} {m : Int} {y : Int} (h0 : 0 <= m) (h : l[m.toNat]? = some y) : eS V (l.drop m.toNat) = V y + 1 + eS V (l.drop (m + 1).toNat) := by
 obtain ⟨hl, e⟩ := IX.mp h
 rw [List.drop_eq_getElem_cons hl, e, gQ h0]
 simp [eS]
theorem wg (r : Rw) (s : St) : te ⟨r.h + 1, r.t, r.p⟩ s = te r s := by cases s <;> rfl
structure mE (aa : List (List Int)) (C V : Int -> Nat) (rows : List Rw) (sts : List St) (w a : Nat) (r' : Rw) (s' : St) (e : Evt) (ra : Rw) : Prop where
 at' : rows[a]? = some ra
 hd : r'.h <= ra.h + (tk e : Int)
 wt : RR aa V (rows.set a r') (sts.set w s') + ck C e + r'.p.length <= RR aa V rows sts + ra.p.length
 pl : ra.p.length <= r'.p.length
theorem fZ {r : Rw} {s : St} (hr : rows[w]? = some r) (hs : sts[w]? = some s) (hp : r.p.length <= r'.p.length) (hd : r'.h <= r.h + (tk e : Int)) (h : Gw aa V r' s' + ck C e + r'.p.length <= Gw aa V r s + r.p.length) : mE aa C V rows sts w w r' s' e r :=
 ⟨hr, hd, by have := E0 (Gw aa V) (r' := r') (s' := s') hr hs; unfold RR; exact eT 0x111ec3f933df3bae331dc3ba93312 h this, hp⟩
theorem jP {s : St} (hr : rows[w]? = some r') (hs : sts[w]? = some s) (h : Gw aa V r' s' + ck C e <= Gw aa V r' s) : mE aa C V rows sts w w r' s' e r' := fZ hr hs (IO _) (aV 425277840) (aN 0x11ca931bc3ba93311 h)
theorem i9 {r : Rw} {s : St} (hr : rows[w]? = some r) (hs : sts[w]? = some s) (ha : rows[a]? = some r') (he : ck C e = 0) (h : Gw aa V r s' <= Gw aa V r s) : mE aa C V rows sts w a r' s' e r' :=
 ⟨ha, Int.le_add_of_nonneg_right (Int.natCast_nonneg _), by rw [i6 ha]; have := mC (Gw aa V) (s' := s') hr hs; unfold RR; exact dI 0x1111dc3e933ed101a3bc3ba93313 he h this, IO _⟩
theorem dG {r r2 : Rw} {s s2 : St} (h1 : r2.h = r.h) (h2 : te r2 s2 = te r s) (h3 : r2.p = r.p) (hw : Wh aa V s2 <= Wh aa V s) : Gw aa V r2 s2 <= Gw aa V r s := by
 unfold Gw; rw [d4 h1 h2 h3]; exact ay 0x11ba1b93a9311 hw
theorem Go.eff (hV : ∀ x, eS V (br aa x) + C x <= V x) (g : Go aa rows sts w a r' s' e) (y : Yd aa rows sts) (hw : w < rows.length) : ∃ ra, mE aa C V rows sts w a r' s' e ra := by
 obtain ⟨rw', hrw⟩ : ∃ r, rows[w]? = some r := ⟨_, I3 hw⟩
 cases g with
 | @free r hr hs => exact ⟨r, fZ hr hs (IO _) (by show r.h <= _; simp [tk]) (by have := dG (aa := aa) (V := V) (r := r) (r2 := ⟨r.h, r.t - 1, r.p⟩) (s := .free) (s2 := .lowered) rfl (by show r.t - 1 + 1 = r.t; exact aG 0x1191111943b0) rfl (IO _); show _ + 0 + r.p.length <= _; exact ay 0x11b91ab3a0193311 this)⟩
 | @low1 _ x hr hs h hx =>
  refine ⟨r', jP hr hs ?_⟩
  have l := y.loc w r' _ hr hs
  have c := mA (r := r') (s := .lowered) (s' := .holds x 0) (x := x) l.h0 rfl (by show r'.h <= r'.t; exact bj 4741310865 h) hx
  have := hV x
  show wS V (aX r' (.holds x 0)) + eS V ((br aa x).drop 0) + C x <= wS V (aX r' .lowered) + 0
  rw [c, mD, List.drop_zero]; exact aN 0x11cba3101c933ba93311 this
 | low2 hr hs h => exact ⟨r', jP hr hs (dG rfl rfl rfl (IO _))⟩
 | low3 hr hs h => exact ⟨r', jP hr hs (dG rfl rfl rfl (IO _))⟩
 | @last1 r x hr hs hx =>
  refine ⟨r, fZ hr hs (IO _) (by show r.h + 1 <= r.h + 1; exact aG 0x11193119390) ?_⟩
  have l := y.loc w r _ hr hs
  have hq := l.la _ rfl
  have c := mB (r := r) (s := .last r.h) (s' := .mends (r.h + 1) (some x)) (x := x) l.h0 (by show r.h < r.t + 1; exact bj 0x919ab11a39a1 hq) (by show r.h + 1 = r.t + 1; exact bj 0x91119ab11a31193b1 hq) hx
  have := hV x
  show wS V (aX ⟨r.h + 1, r.t, r.p⟩ (.mends (r.h + 1) (some x))) + eS V (br aa x) + C x + r.p.length <= wS V (aX r (.last r.h)) + 0 + r.p.length
  rw [c, i8]; exact a7 0x11dba31c019d333cba933311 this
 | @last2 _ q hr hs h =>
  have hq := (y.loc w r' _ hr hs).la _ rfl
  exact ⟨r', jP hr hs (dG rfl (by show q + 1 = r'.t + 1; exact bj 0x91119ab11a31193b1 hq) rfl (IO _))⟩
 | @mends1 r q x hr hs =>
  refine ⟨r, fZ hr hs (IO _) (by show r.h <= r.h + 0; exact aG 270088592) ?_⟩
  have := dG (aa := aa) (V := V) (r := r) (r2 := ⟨r.h, q, r.p⟩) (s := .mends q (some x)) (s2 := .holds x 0) rfl rfl rfl (by show eS V ((br aa x).drop 0) <= eS V (br aa x); rw [List.drop_zero]; exact IO _)
  show _ + 0 + r.p.length <= _; exact ay 0x11b91ab3a0193311 this
 | @mends2 r q hr hs h =>
  refine ⟨r, fZ hr hs (IO _) (by show r.h <= r.h + 0; exact aG 270088592) ?_⟩
  have := dG (aa := aa) (V := V) (r := r) (r2 := ⟨r.h, q, r.p⟩) (s := .mends q none) (s2 := .rests) rfl rfl rfl (IO _)
  show _ + 0 + r.p.length <= _; exact ay 0x11b91ab3a0193311 this
 | @mends3 r q hr hs h =>
  refine ⟨r, fZ hr hs (IO _) (by show r.h <= r.h + 0; exact aG 270088592) ?_⟩
  have := dG (aa := aa) (V := V) (r := r) (r2 := ⟨r.h, q, r.p⟩) (s := .mends q none) (s2 := .looks 1) rfl rfl rfl (IO _)
  show _ + 0 + r.p.length <= _; exact ay 0x11b91ab3a0193311 this
 | @wrote r t m yv row hr hs hb hy =>
  refine ⟨r, fZ hr hs (IO _) (by show r.h <= r.h + 0; exact aG 270088592) ?_⟩
  have l := y.loc w r _ hr hs
  obtain ⟨q1, q2, q3, q4⟩ := l.wr t m rfl
  rw [fY hb, hy] at q4
  have c := mA (r := r) (s := .lowered) (s' := .wrote t m) (x := yv) l.h0 rfl l.he q4
  have c2 : aX ⟨r.h, r.t + 1, r.p⟩ (.holds t (m + 1)) = aX r .lowered := d4 rfl rfl rfl
  have c3 := wf (V := V) q1 (by rw [fY hb]; exact hy : (br aa t)[m.toNat]? = some yv)
  show wS V (aX ⟨r.h, r.t + 1, r.p⟩ (.holds t (m + 1))) + eS V ((br aa t).drop (m + 1).toNat) + 0 + r.p.length <= wS V (aX r (.wrote t m)) + (eS V ((br aa t).drop m.toNat) - 1) + r.p.length
  rw [c2, c, mD, c3]; exact a7 0x1111d3b11a331cd933c01ba9333311 (I6 (IO _))
 | @done _ t m row hr hs hb hm =>
  refine ⟨r', jP hr hs (dG rfl rfl rfl (Nat.zero_le _))⟩
 | @write r t m yv k row hr hs hb hm hy hk =>
  have l := y.loc w r _ hr hs
  have h2 : r.t <= (r.p.length : Int) := l.el
  refine ⟨r, fZ hr hs (by show r.p.length <= (r.p.take k ++ [yv] ++ r.p.drop (k + 1)).length; rw [mz (by exact aZ 0x191a599959ba912 hk h2)]; exact Nat.le_max_left _ _) (by show r.h <= r.h + 0; exact aG 270088592) ?_⟩
  have h3 := l.ho t m rfl
  have lenN : (r.p.take k ++ [yv] ++ r.p.drop (k + 1)).length = max r.p.length (k + 1) := mz (aZ 0x191a599959ba912 hk h2)
  have c := wc (r := r) (s := .holds t m) (s' := .wrote t m) (k := k) (y := yv) l.h0 hk (aZ 0x191a599959ba912 hk h2) rfl rfl l.he
  have c3 := wf (V := V) h3.1 (by rw [fY hb]; exact hy : (br aa t)[m.toNat]? = some yv)
  show wS V (aX ⟨r.h, r.t, r.p.take k ++ [yv] ++ r.p.drop (k + 1)⟩ (.wrote t m)) + (eS V ((br aa t).drop m.toNat) - 1) + 0 + (r.p.take k ++ [yv] ++ r.p.drop (k + 1)).length <= wS V (aX r (.holds t m)) + eS V ((br aa t).drop m.toNat) + r.p.length
  rw [c, lenN, c3]; exact (Nat.le_total _ _).elim (fun q0 => Bk 0x1119111f3b3d11c3311a33e599f59bed11c33933b01a933314 hk h2 (I1 (am 0x1a119331110)) (Nat.max_eq_right (am 0x1111a39111a3911 q0))) fun q0 => dI 0x111eb3d11c3311a33ed11c33933b01a933312 (I1 (am 0x1a119331110)) (Nat.max_eq_left (am 0x11a11931a119311 q0))
 | looks hs ha hr => exact ⟨r', i9 hrw hs hr rfl (dG rfl rfl rfl (IO _))⟩
 | seen1 hs ha hr h => exact ⟨r', i9 hrw hs hr rfl (dG rfl rfl rfl (IO _))⟩
 | seen2 hs ha hr h h2 => exact ⟨r', i9 hrw hs hr rfl (dG rfl rfl rfl (IO _))⟩
 | seen3 hs ha hr h h2 => exact ⟨r', i9 hrw hs hr rfl (dG rfl rfl rfl (IO _))⟩
 | reads hs ha hr hx => exact ⟨r', i9 hrw hs hr rfl (dG rfl rfl rfl (IO _))⟩
 | tries2 hs ha hr h => exact ⟨r', i9 hrw hs hr rfl (dG rfl rfl rfl (IO _))⟩
 | @tries1 ra k x a hs ha hr =>
  have ea : a = bD rows.length w k := by unfold bD; rw [ha]; rfl
  obtain ⟨k1, k2, kt⟩ := y.thf w _ k hs rfl
  have hne : a ≠ w := ea ▸ i7 hw k1 k2
  have hal := (IX.mp hr).1
  obtain ⟨sa, hsa⟩ : ∃ sa, sts[a]? = some sa := ⟨_, I3 (y.len ▸ hal)⟩
  obtain ⟨_, t2⟩ := (kt ra sa (ea ▸ hr) (ea ▸ hsa)).tri k ra.h x rfl
  obtain ⟨t3, t4⟩ := t2 rfl
  have l := y.loc a ra sa hr hsa
  have c := mB (r := ra) (s := sa) (s' := sa) (x := x) l.h0 t3 (wg ra sa) t4
  refine ⟨ra, hr, by show ra.h + 1 <= ra.h + 1; exact aG 0x11193119390, ?_, IO _⟩
  have t := EZ (Gw aa V) (r' := ⟨ra.h + 1, ra.t, ra.p⟩) (s' := .holds x 0) hne hrw hs hr hsa
  have := hV x
  have g1 : Gw aa V rw' (.holds x 0) = wS V (aX rw' (.tries k ra.h x)) + eS V (br aa x) := by
   show wS V (aX rw' (.holds x 0)) + eS V ((br aa x).drop 0) = _
   rw [List.drop_zero]; rfl
  have g2 : Gw aa V rw' (.tries k ra.h x) = wS V (aX rw' (.tries k ra.h x)) := rfl
  have g3 : Gw aa V ra sa = V x + wS V (aX ⟨ra.h + 1, ra.t, ra.p⟩ sa) + Wh aa V sa := by unfold Gw; rw [c, i8]
  have g4 : Gw aa V ⟨ra.h + 1, ra.t, ra.p⟩ sa = wS V (aX ⟨ra.h + 1, ra.t, ra.p⟩ sa) + Wh aa V sa := rfl
  show RR aa V _ _ + C x + ra.p.length <= _
  unfold RR
  exact Bh 0x1991111483840348381833e328d308283f318a08320fc33ed9333bc3ba93316 t this g1 g2 g3 g4
end
end Mine.Internal
namespace Mine.Internal
noncomputable def cE (rows : List Rw) (i : Nat) : Int := match rows[i]? with
 | some r => r.h
 | none => 0
def pc (aa : List (List Int)) (W : Nat) (rows : List Rw) (u : Nat) (s : St) : Nat := match s with
 | .rests => 0
 | .free => 2 * W + 6
 | .lowered => 2 * W + 5
 | .last _ => 2 * W + 4
 | .mends _ none => 2 * W + 3
 | .mends _ (some x) => 2 * W + 8 + 2 * (br aa x).length
 | .holds t n => 2 * W + 7 + 2 * ((br aa t).length - n.toNat)
 | .wrote t n => 2 * W + 6 + 2 * ((br aa t).length - n.toNat)
 | .looks k => 2 * ((W : Int) - k).toNat + 4
 | .seen k q => 2 * ((W : Int) - k).toNat + 4 * (cE rows (bD W u k) - q).toNat + 3
 | .reads k q => 2 * ((W : Int) - k).toNat + 4 * (cE rows (bD W u k) - q).toNat + 2
 | .tries k q _ => 2 * ((W : Int) - k).toNat + 4 * (cE rows (bD W u k) - q).toNat + 1
theorem wh {aa : List (List Int)} {W d : Nat} {rows rows' : List Rw} (hh : ∀ i, cE rows' i <= cE rows i + (d : Int)) (u : Nat) (s : St) : pc aa W rows' u s <= pc aa W rows u s + 4 * d := by
 have hs : ∀ (k q : Int) (c : Nat), 2 * ((W : Int) - k).toNat + 4 * (cE rows' (bD W u k) - q).toNat + c <= 2 * ((W : Int) - k).toNat + 4 * (cE rows (bD W u k) - q).toNat + c + 4 * d := fun k q c => by
  have h1 := EW (x := cE rows' (bD W u k) - q) (y := cE rows (bD W u k) - q) (d := d) (by have := hh (bD W u k); exact Bi 0x1195b39995ab43a9491 this)
  generalize (cE rows' (bD W u k) - q).toNat = x1 at *
  generalize (cE rows (bD W u k) - q).toNat = x2 at *
  generalize ((W : Int) - k).toNat = x3
  clear hh
  exact a7 0x41dc3a1d46bc46926333ba469263311 h1
 cases s with
 | mends t o => cases o <;> exact Nat.le_add_right _ _
 | seen k q => exact hs k q 3
 | reads k q => exact hs k q 2
 | tries k q x => exact hs k q 1
 | _ => exact Nat.le_add_right _ _
section
variable {aa : List (List Int)} {V : Int -> Nat} {rows : List Rw} {sts : List St} {w a : Nat} {r' : Rw} {s' : St} {e : Evt}
theorem E2 {ra : Rw} (ha : rows[a]? = some ra) {d : Nat} (h : r'.h <= ra.h + (d : Int)) (i : Nat) : cE (rows.set a r') i <= cE rows i + (d : Int) := by
 unfold cE
 by_cases q : a = i
 ·subst q
  have hl := (IX.mp ha).1
  rw [ha, JF]
  simp only [hl, if_true]
  exact h
 ·rw [Jq q]; exact aV 425277840
theorem wi {ra : Rw} (ha : rows[a]? = some ra) : cE rows a = ra.h := by unfold cE; rw [ha]
theorem c9 {s t : St} {o : Option St} (h : o = some s) (h' : o = some t) : s = t := Option.some.inj (h.symm.trans h')
theorem Go.pcS {W : Nat} (g : Go aa rows sts w a r' s' e) (y : Yd aa rows sts) (hW : rows.length = W) (ht : tk e = 0) {s : St} (hs : sts[w]? = some s) : pc aa W rows w s' + 1 <= pc aa W rows w s := by
 have att : ∀ {k : Int} {a : Nat}, ((w : Int) + k) % (rows.length : Int) = (a : Int) -> a = bD W w k := fun h => by unfold bD; rw [<- hW, h]; rfl
 cases g with
 | free hr hs' => rw [c9 hs hs']; exact IO _
 | low1 => cases ht
 | low2 hr hs' h => rw [c9 hs hs']; exact IO _
 | low3 hr hs' h => rw [c9 hs hs']; show 2 * W + 3 + 1 <= 2 * W + 5; exact az 0x151926311319263310
 | last1 => cases ht
 | last2 hr hs' h => rw [c9 hs hs']; exact IO _
 | @mends1 r q x hr hs' => rw [c9 hs hs']; show 2 * W + 7 + 2 * ((br aa x).length - (0 : Int).toNat) + 1 <= 2 * W + 8 + 2 * (br aa x).length; exact ay 0x21ba1b26819263311a267192633311 (Nat.sub_le _ _)
 | mends2 hr hs' h => rw [c9 hs hs']; show 0 + 1 <= 2 * W + 3; exact az 0x13192631101310
 | mends3 hr hs' h => rw [c9 hs hs']; show 2 * ((W : Int) - 1).toNat + 4 + 1 <= 2 * W + 3; have := (IX.mp hr).1; exact am 0x2111a5495b31a26311419263311 (I7 (ay 0x111ab29a3119540192 hW this))
 | @wrote r t m yv row hr hs' hb hy =>
  have l := (y.loc w r _ hr hs').wr t m rfl
  rw [c9 hs hs']
  show 2 * W + 7 + 2 * ((br aa t).length - (m + 1).toNat) + 1 <= 2 * W + 6 + 2 * ((br aa t).length - m.toNat)
  rw [EX l.1 l.2.1]
  generalize (br aa t).length - (m + 1).toNat = x
  clear l att y
  exact am 0x111a326619263311a267192633310
 | @done _ t m row hr hs' hb hm => rw [c9 hs hs']; show 2 * W + 6 + 1 <= 2 * W + 7 + 2 * ((br aa t).length - m.toNat); exact am 0x1a26719263311619263310
 | write hr hs' hb hm hy hk => rw [c9 hs hs']; show _ <= 2 * W + 7 + _; show 2 * W + 6 + _ + 1 <= _; exact am 0x1a26719263311a266192633310
 | @looks _ k a hs' ha hr =>
  rw [c9 hs hs']
  show 2 * ((W : Int) - k).toNat + 4 * (cE rows (bD W w k) - r'.h).toNat + 3 + 1 <= 2 * ((W : Int) - k).toNat + 4
  rw [<- att ha, wi hr]; exact aZ 0x41994a5b4192631131a4692633311 (I7 (aG 429130128))
 | seen1 hs' ha hr h => rw [c9 hs hs']; exact IO _
 | @seen2 _ k q a hs' ha hr h h2 => rw [c9 hs hs']; exact Nat.le_add_left _ _
 | @seen3 _ k q a hs' ha hr h h2 =>
  have hk := (y.thf w _ k hs' rfl).2.1
  rw [c9 hs hs']
  have h3 : ((W : Int) - (k + 1)).toNat + 1 = ((W : Int) - k).toNat := by rw [<- gQ (by exact aZ 0x1111193a5c9a311939540192 hW h2)]; congr 1; exact aV 0x1199541111939543b0
  show 2 * ((W : Int) - (k + 1)).toNat + 4 + 1 <= 2 * ((W : Int) - k).toNat + 4 * (cE rows (bD W w k) - q).toNat + 3
  rw [<- h3]
  generalize ((W : Int) - (k + 1)).toNat = x1
  generalize (cE rows (bD W w k) - q).toNat = x2
  clear h3 hk h2 h
  exact am 0x131a461193263311419263310
 | reads hs' ha hr hx => rw [c9 hs hs']; exact IO _
 | tries1 => cases ht
 | @tries2 _ k q x a hs' ha hr h =>
  have ea := att ha
  have hal := (IX.mp hr).1
  obtain ⟨sa, hsa⟩ : ∃ sa, sts[a]? = some sa := ⟨_, I3 (y.len ▸ hal)⟩
  have ht := (y.thf w _ k hs' rfl).2.2 r' sa (by rw [hW, <- ea]; exact hr) (by rw [hW, <- ea]; exact hsa)
  have hq := (ht.tri k q x rfl).1
  rw [c9 hs hs']
  show 2 * ((W : Int) - k).toNat + 4 + 1 <= 2 * ((W : Int) - k).toNat + 4 * (cE rows (bD W w k) - q).toNat + 1
  rw [<- ea, wi hr]
  have h3 := EV (a := r'.h - q) (by exact (Int.lt_or_gt_of_ne h).elim (fun q8 => bj 0x110a9a9a9a9401a2 hq q8) fun q8 => bj 0x119aaa9401a1 q8)
  generalize (r'.h - q).toNat = x1 at *
  generalize ((W : Int) - k).toNat = x2
  clear hq ht ea hal h
  exact am 0x41a11111a469263311419263311 h3
def Cw (aa : List (List Int)) (W : Nat) (x : Int) : Nat := 2 * W + 9 + 2 * (br aa x).length
theorem Go.pcT {W : Nat} (g : Go aa rows sts w a r' s' e) (ht : tk e ≠ 0) (rows' : List Rw) : pc aa W rows' w s' + 1 <= ck (Cw aa W) e := by
 cases g with
 | @low1 _ x => show 2 * W + 7 + 2 * ((br aa x).length - (0 : Int).toNat) + 1 <= 2 * W + 9 + 2 * (br aa x).length; exact ay 0x21ba1b26919263311a267192633311 (Nat.sub_le _ _)
 | @last1 _ x => show 2 * W + 8 + 2 * (br aa x).length + 1 <= 2 * W + 9 + 2 * (br aa x).length; exact am 0x1a26919263311a268192633310
 | @tries1 _ _ x => show 2 * W + 7 + 2 * ((br aa x).length - (0 : Int).toNat) + 1 <= 2 * W + 9 + 2 * (br aa x).length; exact ay 0x21ba1b26919263311a267192633311 (Nat.sub_le _ _)
 | _ => exact absurd rfl ht
theorem E3 {W : Nat} (ht : tk e ≠ 0) : 4 <= ck (Cw aa W) e := by
 cases e <;> first | exact absurd rfl ht | (show 4 <= 2 * W + 9 + _; exact am 0x1a2691926334110)
def psi (aa : List (List Int)) (V : Int -> Nat) (W : Nat) (rows : List Rw) (sts : List St) (u : Nat) (s : St) : Nat := pc aa W rows u s + RR aa V rows sts
theorem Go.psi {W : Nat} (hV : ∀ x, eS V (br aa x) + Cw aa W x <= V x) (g : Go aa rows sts w a r' s' e) (y : Yd aa rows sts) (hw : w < rows.length) (hW : rows.length = W) {s : St} (hs : sts[w]? = some s) :
  psi aa V W (rows.set a r') (sts.set w s') w s' + 1 <= psi aa V W rows sts w s /\ ∀ u t, psi aa V W (rows.set a r') (sts.set w s') u t <= psi aa V W rows sts u t := by
 obtain ⟨ra, f⟩ := g.eff hV y hw
 have f1 := E2 f.at' f.hd
 have f2 := f.wt
 have f3 := f.pl
 unfold Mine.Internal.psi
 by_cases q : tk e = 0
 ·have h1 := g.pcS y hW q hs
  have h3 : ∀ u t, pc aa W (rows.set a r') u t <= pc aa W rows u t := fun u t => by
   have := wh (aa := aa) (W := W) (d := tk e) f1 u t; exact ay 0x141b46a39101b3a912 q this
  refine ⟨?_, fun u t => ?_⟩
  ·have := h3 w s'; exact kQ 0x11112091b12031ef1fc3eda331cb311a93314 f2 f3 h1 this
  ·have := h3 u t; exact eT 0x1111b91ef1fc3eda331cb3a9313 f2 f3 this
 ·have q1 : tk e = 1 := by cases e <;> first | rfl | exact absurd rfl q
  have h1 := g.pcT (W := W) q (rows.set a r')
  have h2 := E3 (aa := aa) (W := W) q
  refine ⟨by exact eT 0x1111d11931ef1fc3eda331cb311a93313 f2 f3 h1, fun u t => ?_⟩
  have := wh (aa := aa) (W := W) (d := tk e) f1 u t
  exact kQ 0x114112046b391d4111203ef1fc3eda331cb3a9315 f2 f3 q1 h2 this
end
end Mine.Internal
namespace Mine.Internal
def qo (aa : List (List Int)) (z : List Int × List Int) : List Int × List Int := match z.1.getLast? with
 | some t => (z.1.dropLast ++ br aa t, z.2 ++ [t])
 | none => z
def a9 (aa : List (List Int)) (L0 : List Int) : Nat -> List Int × List Int
 | 0 => (L0, [])
 | n + 1 => qo aa (a9 aa L0 n)
section
variable {aa : List (List Int)} {L0 : List Int} {size : Nat}
theorem mF (ws : List Int) (t : Int) (D : List Int) : qo aa (ws ++ [t], D) = (ws ++ br aa t, D ++ [t]) := by
 unfold qo; simp
theorem E4 {n : Nat} {ws D : List Int} {t : Int} (h : a9 aa L0 n = (ws ++ [t], D)) : a9 aa L0 (n + 1) = (ws ++ br aa t, D ++ [t]) := by
 rw [a9, h, mF]
theorem qp {c U : Int -> Nat} (hU : ∀ x, U x = c x + wS U (br aa x)) : ∀ n, wS U (a9 aa L0 n).1 + wS c (a9 aa L0 n).2 = wS U L0
 | 0 => rfl
 | n + 1 => by
  have ih := qp hU n
  rw [a9]
  rcases e : a9 aa L0 n with ⟨L, D⟩
  rw [e] at ih
  rcases List.eq_nil_or_concat L with rfl | ⟨ws, t, rfl⟩
  ·exact ih
  ·rw [List.concat_eq_append] at *
   rw [mF]
   simp only [wS, List.map_append, List.sum_append_nat, List.map_cons, List.map_nil, List.sum_cons, List.sum_nil] at ih ⊢
   have := hU t
   simp only [wS] at this
   exact dI 0x911191ac3e3db01e39333d01c3b3a93332 ih this
structure d5 (aa : List (List Int)) (L0 : List Int) (size : Nat) : Prop where
 len : aa.length = size
 br : ∀ x, 0 <= x -> ∀ y ∈ br aa x, x < y /\ y < (size : Int)
 st : ∀ y ∈ L0, 0 <= y /\ y < (size : Int)
 nd : (aa.flatten ++ L0).Nodup
theorem ja {x y : Int} (h : y ∈ br aa x) : br aa x ∈ aa /\ x.toNat < aa.length := by
 unfold br at h ⊢
 cases q : aa[x.toNat]? with
 | none => rw [q] at h; cases h
 | some row => exact ⟨List.mem_of_getElem? q, (IX.mp q).1⟩
theorem E6 (f : d5 aa L0 size) {x x' y : Int} (h0 : 0 <= x) (h0' : 0 <= x') (hne : x ≠ x') (h : y ∈ br aa x) (h' : y ∈ br aa x') : False := by
 have p := (List.pairwise_flatten.mp (List.nodup_append.mp f.nd).1).2
 have hx := (ja h).2
 have hx' := (ja h').2
 have e : br aa x = aa[x.toNat] := by unfold br; rw [I3 hx]; rfl
 have e' : br aa x' = aa[x'.toNat] := by unfold br; rw [I3 hx']; rfl
 rw [List.pairwise_iff_getElem] at p
 rw [e] at h; rw [e'] at h'
 rcases Nat.lt_or_gt_of_ne (by exact (Int.lt_or_gt_of_ne hne).elim (fun q8 => fJ 0x1119995ba5a9a9aa963 q8 (Ju _) (I7 (aG 0x11901990191 h0))) fun q8 => fJ 0x11119a5b95a9a9aa963 q8 (Ju _) (I7 (aG 0x11901990191 h0')) : x.toNat ≠ x'.toNat) with q | q
 ·exact p _ _ hx hx' q y h y h' rfl
 ·exact p _ _ hx' hx q y h' y h rfl
structure Ci (aa : List (List Int)) (L0 : List Int) (size : Nat) (z : List Int × List Int) : Prop where
 pm : (z.2 ++ z.1).Perm (L0 ++ (z.2.map (Mine.Internal.br aa)).flatten)
 nd : (z.2 ++ z.1).Nodup
 bd : ∀ y ∈ z.2 ++ z.1, 0 <= y /\ y < (size : Int)
theorem d6 (f : d5 aa L0 size) : ∀ n, Ci aa L0 size (a9 aa L0 n)
 | 0 => ⟨by simp [a9], by simpa [a9] using (List.nodup_append.mp f.nd).2.1, by simpa [a9] using f.st⟩
 | n + 1 => by
  have ih := d6 f n
  rw [a9]
  rcases e : a9 aa L0 n with ⟨L, D⟩
  rw [e] at ih
  rcases List.eq_nil_or_concat L with rfl | ⟨ws, t, rfl⟩
  ·exact ih
  ·rw [List.concat_eq_append] at *
   rw [mF]
   have hb : ∀ y ∈ D ++ [t], 0 <= y /\ y < (size : Int) := fun y m => ih.bd y (by
    rcases List.mem_append.mp m with m | m
    ·exact JH _ m
    ·exact Jw _ (Jw _ m))
   have hD : (D ++ [t]).Nodup := List.Nodup.sublist ((List.Sublist.refl D).append (List.sublist_append_right ws [t])) ih.nd
   have pm : ((D ++ [t]) ++ (ws ++ br aa t)).Perm (L0 ++ ((D ++ [t]).map (br aa)).flatten) := by
    have h := (ih.pm.append_right (br aa t))
    rw [List.map_append, List.flatten_append, List.map_cons, List.map_nil, List.flatten_cons, List.flatten_nil, JA, <- I5 L0]
    refine List.Perm.trans ?_ h
    show ((D ++ [t]) ++ (ws ++ br aa t)).Perm ((D ++ (ws ++ [t])) ++ br aa t)
    rw [<- I5]
    refine List.Perm.append_right _ ?_
    rw [I5]
    exact List.Perm.append_left D List.perm_append_comm
   have nb : ∀ x y, 0 <= x -> y ∈ br aa x -> y ∈ aa.flatten := fun x y O h => List.mem_flatten.mpr ⟨_, (ja h).1, h⟩
   have nd : (L0 ++ ((D ++ [t]).map (br aa)).flatten).Nodup := by
    refine List.nodup_append.mpr ⟨(List.nodup_append.mp f.nd).2.1, ?_, fun x hx y hy q => ?_⟩
    ·refine List.pairwise_flatten.mpr ⟨fun l hl => ?_, ?_⟩
     ·obtain ⟨x, hx, rfl⟩ := Jm.mp hl
      cases q : br aa x with
      | nil => exact .nil
      | cons a r => rw [<- q]; exact (List.pairwise_flatten.mp (List.nodup_append.mp f.nd).1).1 _ (ja (y := a) (by rw [q]; exact Jj)).1
     ·refine List.pairwise_map.mpr (List.Pairwise.imp_of_mem (fun {a b} ha hb' hne => ?_) hD)
      intro x hx y hy q
      subst q
      exact E6 f (hb a ha).1 (hb b hb').1 hne hx hy
    ·subst q
     obtain ⟨l, hl, hy⟩ := List.mem_flatten.mp hy
     obtain ⟨d, hd, rfl⟩ := Jm.mp hl
     exact (List.nodup_append.mp f.nd).2.2 _ (nb d x (hb d hd).1 hy) x hx rfl
   refine ⟨pm, pm.nodup_iff.mpr nd, fun y m => ?_⟩
   rcases List.mem_append.mp (pm.mem_iff.mp m) with m | m
   ·exact f.st y m
   ·obtain ⟨l, hl, hy⟩ := List.mem_flatten.mp m
    obtain ⟨d, hd, rfl⟩ := Jm.mp hl
    have := f.br d (hb d hd).1 y hy
    have := hb d hd
    lia
theorem qq : ∀ (n : Nat) (l : List Int), l.Nodup -> (∀ x ∈ l, 0 <= x /\ x < (n : Int)) -> l.length <= n
 | 0, l, _, h => by
  cases l with
  | nil => exact IO _
  | cons a r => have := h a Jj; exact aV 0x1100159a901901912 this.1 this.2
 | n + 1, l, nd, h => by
  have := qq n (l.erase (n : Int)) (nd.erase _) (fun x m => by
   have h1 := h x (List.mem_of_mem_erase m)
   have : x ≠ (n : Int) := fun q => by subst q; exact List.Nodup.not_mem_erase nd m
   exact ⟨aG 0x11901990191 h1.1, (Int.lt_or_gt_of_ne this).elim (fun q8 => aV 0x11959a959a1 q8) fun q8 => aV 0x110995a119359a959a2 h1.2 q8⟩)
  have := List.le_length_erase (a := (n : Int)) (l := l)
  exact aN 0x111111c391bc1ab111a3913 (by assumption) this (I6 (IO _))
theorem Ci.len {z : List Int × List Int} (c : Ci aa L0 size z) : z.2.length + z.1.length <= size := by
 have := qq size _ c.nd c.bd
 rwa [I2] at this
theorem wj {n : Nat} (h : ∀ k, k < n -> (a9 aa L0 k).1 ≠ []) : (a9 aa L0 n).2.length = n := by
 induction n with
 | zero => rfl
 | succ n ih =>
  have := ih fun k q => h k (am 0x11a9211a3921 q)
  rw [a9]
  rcases e : a9 aa L0 n with ⟨L, D⟩
  rw [e] at this
  rcases List.eq_nil_or_concat L with rfl | ⟨ws, t, rfl⟩
  ·exact absurd (by rw [e]) (h n (az 286865696))
  ·rw [List.concat_eq_append, mF]; simp at this ⊢; exact this
theorem wn (f : d5 aa L0 size) : ∃ n, n <= size /\ (a9 aa L0 n).1 = [] /\ ∀ k, k < n -> (a9 aa L0 k).1 ≠ [] := by
 have hex : ∃ n, (a9 aa L0 n).1 = [] := by
  refine Classical.byContradiction fun q => ?_
  have h : ∀ k, (a9 aa L0 k).1 ≠ [] := fun k e => q ⟨k, e⟩
  have h1 := wj (n := size + 1) fun k O => h k
  have h2 := (d6 f (size + 1)).len
  exact ay 0x19ab93111a39372 h1 h2
 obtain ⟨n, h1, h2⟩ : ∃ n, (a9 aa L0 n).1 = [] /\ ∀ k, k < n -> (a9 aa L0 k).1 ≠ [] := by
  obtain ⟨m, hm⟩ := hex
  induction m using Nat.strongRecOn with
  | _ m ih =>
   by_cases q : ∃ k, k < m /\ (a9 aa L0 k).1 = []
   ·obtain ⟨k, hk, e⟩ := q; exact ih k hk e
   ·exact ⟨m, hm, fun k hk e => q ⟨k, hk, e⟩⟩
 refine ⟨n, ?_, h1, h2⟩
 have h3 := wj h2
 have h4 := (d6 f n).len
 exact aN 0x191acb319b3a912 h3 h4
def Uf (aa : List (List Int)) (c : Int -> Nat) : Nat -> Int -> Nat
 | 0, x => c x
 | n + 1, x => c x + wS (Uf aa c n) (br aa x)
theorem wo {c : Int -> Nat} (hl : aa.length = size) (hb : ∀ x, ∀ y ∈ br aa x, x.toNat < y.toNat) : ∀ (n m : Nat) (x : Int), size - x.toNat <= n -> size - x.toNat <= m -> Uf aa c n x = Uf aa c m x := by
 have e0 : ∀ x : Int, size - x.toNat <= 0 -> br aa x = [] := fun x h => by
  unfold br; rw [List.getElem?_eq_none (by exact aN 0x1111ac3b101c1b93a913 hl h (I6 (IO _)))]; rfl
 have e1 : ∀ m x, br aa x = [] -> Uf aa c m x = c x := fun m x h => by
  cases m with
  | zero => rfl
  | succ m => rw [Uf, h]; rfl
 intro n
 induction n with
 | zero => intro m x h1 h2; rw [e1 _ _ (e0 x h1), e1 _ _ (e0 x h1)]
 | succ n ih =>
  intro m x h1 h2
  cases m with
  | zero => rw [e1 _ _ (e0 x h2), e1 _ _ (e0 x h2)]
  | succ m =>
   rw [Uf, Uf]
   congr 1
   unfold wS
   congr 1
   refine List.map_congr_left fun y hy => ?_
   have := hb x y hy
   have := (ja hy).2
   exact ih m y (by exact (Nat.le_total _ _).elim (fun q0 => am 73040898321 (Nat.sub_eq_zero_of_le (am 4740720913 q0))) fun q0 => dI 0x11111ed933cb3e1dc211a3b1a914 h1 (by assumption) (I6 (IO _)) (I1 (am 4740720913 q0))) (by exact (Nat.le_total _ _).elim (fun q0 => am 73040898321 (Nat.sub_eq_zero_of_le (am 4740720913 q0))) fun q0 => dI 0x11111ed933cb3e1dc211a3b1a914 h2 (by assumption) (I6 (IO _)) (I1 (am 4740720913 q0)))
theorem wp (c : Int -> Nat) (f : d5 aa L0 size) : ∃ U : Int -> Nat, ∀ x, U x = c x + wS U (br aa x) := by
 have hb : ∀ x, ∀ y ∈ br aa x, x.toNat < y.toNat := fun x y hy => by
  have e : br aa (x.toNat : Int) = br aa x := by unfold br; rw [Jt]
  have := f.br (x.toNat : Int) (az 26542480) y (by rw [e]; exact hy)
  exact aZ 0x111a599995aa922 this.1 (Ju _)
 refine ⟨fun x => Uf aa c (size - x.toNat) x, fun x => ?_⟩
 show Uf aa c (size - x.toNat) x = _
 rw [wo f.len hb (size - x.toNat) (size - x.toNat + 1) x (IO _) (az 286865680), Uf]
 congr 1
 unfold wS
 congr 1
 refine List.map_congr_left fun y hy => ?_
 have := hb x y hy
 exact wo f.len hb _ _ y (by exact (Nat.le_total _ _).elim (fun q0 => am 73040898321 (Nat.sub_eq_zero_of_le (am 4740720913 q0))) fun q0 => a7 0x1111dc933ba3d1cb2a913 this (I6 (IO _)) (I1 (am 4740720913 q0))) (IO _)
noncomputable def qr (t x : Int) : Nat := if x = t then 1 else 0
theorem qs (t : Int) : ∀ l : List Int, wS (qr t) l = l.count t
 | [] => rfl
 | a :: l => by
  rw [i8, qs t l, List.count_cons]
  unfold qr
  by_cases q : a = t
  ·rw [Id q, Id (by simpa using q)]; exact az 0x111193911330
  ·rw [IU q, IU (by simpa using q)]; exact az 0x110193901330
end
end Mine.Internal
namespace Mine.Internal
set_option genCtorIdx false in
inductive E5 where
 | own (w x : Int)
 | taken (w a x : Int)
 | put (w y : Int)
 | done (w x : Int)
 | rests (w : Int)
noncomputable def E5.ctorIdx (x : E5) : Nat := @E5.casesOn (fun O => Nat) x (fun O O => 0) (fun O O O => 1) (fun O O => 2) (fun O O => 3) (fun O => 4)
noncomputable def E5.w (e : E5) : Int := match e with
 | .own w _ => w
 | .taken w _ _ => w
 | .put w _ => w
 | .done w _ => w
 | .rests w => w
structure S3 where
 rows : List (List Int)
 hs : List (Option (Int × Int))
 rs : List Bool
noncomputable def S3.h (s : S3) (i : Nat) : Option (Int × Int) := s.hs.getD i none
noncomputable def S3.r (s : S3) (i : Nat) : List Int := s.rows.getD i []
def de (aa : List (List Int)) (s : S3) (i : Nat) (e : E5) : Option S3 := match e with
 | .rests _ => if s.h i = none /\ s.r i = [] then some ⟨s.rows, s.hs, s.rs.set i true⟩ else none
 | .own _ x => if s.h i = none /\ (s.r i).getLast? = some x then some ⟨s.rows.set i (s.r i).dropLast, s.hs.set i (some (x, 0)), s.rs⟩ else none
 | .taken w a x => if s.h i = none /\ a ≠ w /\ 0 <= a /\ a < (s.rows.length : Int) /\ (s.r a.toNat).head? = some x then some ⟨s.rows.set a.toNat (s.r a.toNat).tail, s.hs.set i (some (x, 0)), s.rs⟩ else none
 | .put _ y => match s.h i with
  | some p => if (br aa p.1)[p.2.toNat]? = some y then some ⟨s.rows.set i (s.r i ++ [y]), s.hs.set i (some (p.1, p.2 + 1)), s.rs⟩ else none
  | none => none
 | .done _ x => match s.h i with
  | some p => if (br aa p.1).length <= p.2.toNat /\ p.1 = x then some ⟨s.rows, s.hs.set i none, s.rs⟩ else none
  | none => none
def cj (aa : List (List Int)) (s : S3) (e : E5) : Option S3 := if 0 <= e.w /\ e.w < (s.rows.length : Int) /\ s.rs.getD e.w.toNat false = false then de aa s e.w.toNat e else none
def run (aa : List (List Int)) : S3 -> List E5 -> Option S3
 | s, [] => some s
 | s, e :: es => (cj aa s e).bind fun s => run aa s es
noncomputable def fq (e : Evt) : E5 := match e with
 | .none => .rests 0
 | .own w x => .own (w : Int) x
 | .taken w a x => .taken (w : Int) (a : Int) x
 | .put w y => .put (w : Int) y
 | .done w x => .done (w : Int) x
 | .rests w => .rests (w : Int)
noncomputable def bE (s : Option St) : Bool := match s with
 | some .rests => true
 | _ => false
noncomputable def hld (s : St) : Option (Int × Int) := match s with
 | .mends _ (some x) => some (x, 0)
 | .holds t n => some (t, n)
 | .wrote t n => some (t, n)
 | _ => none
def Sy (rows : List Rw) (sts : List St) : S3 := ⟨List.zipWith aX rows sts, sts.map hld, sts.map fun s => bE (some s)⟩
noncomputable def jb (r : Rw) (s : St) : Prop := match s with
 | .last q => q <= r.h
 | .mends q none => q <= r.h
 | .looks _ => r.t <= r.h
 | .seen _ _ => r.t <= r.h
 | .reads _ _ => r.t <= r.h
 | .tries _ _ _ => r.t <= r.h
 | .rests => r.t <= r.h
 | _ => True
noncomputable def Em (rows : List Rw) (sts : List St) : Prop := ∀ (j : Nat) (r : Rw) (s : St), rows[j]? = some r -> sts[j]? = some s -> jb r s
theorem E7 {r : Rw} {s : St} (h : jb r s) : jb ⟨r.h + 1, r.t, r.p⟩ s := by
 cases s with
 | mends q o => cases o with
  | none => exact Jp h (Int.le_add_one (I9 _))
  | some x => exact h
 | last q => exact Jp h (Int.le_add_one (I9 _))
 | looks _ => exact Jp h (Int.le_add_one (I9 _))
 | seen _ _ => exact Jp h (Int.le_add_one (I9 _))
 | reads _ _ => exact Jp h (Int.le_add_one (I9 _))
 | tries _ _ _ => exact Jp h (Int.le_add_one (I9 _))
 | rests => exact Jp h (Int.le_add_one (I9 _))
 | _ => exact h
theorem jc {r : Rw} {s : St} (h : te r s <= r.h) : aX r s = [] := by
 unfold aX
 rw [Nat.sub_eq_zero_of_le (Int.toNat_le_toNat h)]; rfl
theorem eB {α : Type} {l : List α} {i : Nat} {x : α} (h : l[i]? = some x) : l.set i x = l := by
 obtain ⟨hi, rfl⟩ := IX.mp h
 exact List.set_getElem_self hi
theorem wq : ∀ (rows : List Rw) (sts : List St) (i : Nat) (r : Rw) (s : St), List.zipWith aX (rows.set i r) (sts.set i s) = (List.zipWith aX rows sts).set i (aX r s)
 | [], _, _, _, _ => by simp
 | _ :: _, [], _, _, _ => by simp
 | _ :: _, _ :: _, 0, _, _ => rfl
 | _ :: rows, _ :: sts, i + 1, r, s => congrArg (_ :: ·) (wq rows sts i r s)
section
variable {aa : List (List Int)} {rows : List Rw} {sts : List St} {w a : Nat} {r r' ra : Rw} {s s' sa : St} {e : Evt}
theorem jQ (hr : rows[w]? = some r) (hs : sts[w]? = some s) : (List.zipWith aX rows sts)[w]? = some (aX r s) := by
 rw [List.getElem?_zipWith, hr, hs]
theorem mG (hr : rows[w]? = some r) (hs : sts[w]? = some s) : (Sy rows sts).r w = aX r s := by
 show (List.zipWith aX rows sts).getD w [] = _
 rw [JI, jQ hr hs]; rfl
theorem jR (hs : sts[w]? = some s) : (Sy rows sts).h w = hld s := by
 show (sts.map hld).getD w none = _
 rw [JI, JC, hs]; rfl
theorem gR (hr : rows[w]? = some r) (hs : sts[w]? = some s) (r' : Rw) (s' : St) : Sy (rows.set w r') (sts.set w s') = ⟨(Sy rows sts).rows.set w (aX r' s'), (Sy rows sts).hs.set w (hld s'), (Sy rows sts).rs.set w (bE (some s'))⟩ := by
 unfold Sy
 rw [wq, List.map_set, List.map_set]
theorem E8 (hr : rows[w]? = some r) (hs : sts[w]? = some s) (s' : St) : Sy rows (sts.set w s') = ⟨(Sy rows sts).rows.set w (aX r s'), (Sy rows sts).hs.set w (hld s'), (Sy rows sts).rs.set w (bE (some s'))⟩ := by
 have := gR hr hs r s'
 rwa [i6 hr] at this
theorem mH (hs : sts[w]? = some s) : (Sy rows sts).rs[w]? = some (bE (some s)) := by
 show (sts.map fun s => bE (some s))[w]? = _
 rw [JC, hs]; rfl
theorem qt (hs : sts[w]? = some s) : (Sy rows sts).hs[w]? = some (hld s) := by
 show (sts.map hld)[w]? = _
 rw [JC, hs]; rfl
theorem f0 (hr : rows[w]? = some r) (hs : sts[w]? = some s) (h1 : aX r' s' = aX r s) (h2 : hld s' = hld s) (h3 : bE (some s') = bE (some s)) : Sy (rows.set w r') (sts.set w s') = Sy rows sts := by
 rw [gR hr hs, h1, h2, h3, eB (mH hs), eB (qt hs)]
 show S3.mk ((List.zipWith aX rows sts).set w (aX r s)) _ _ = _
 rw [eB (jQ hr hs)]; rfl
theorem wu (h : rows.length = sts.length) : (Sy rows sts).rows.length = rows.length := by
 show (List.zipWith aX rows sts).length = _
 rw [List.length_zipWith, <- h, Nat.min_self]
theorem jS (hl : rows.length = sts.length) (hs : sts[w]? = some s) (hn : bE (some s) = false) {e : E5} (he : e.w = (w : Int)) : cj aa (Sy rows sts) e = de aa (Sy rows sts) w e := by
 have hw := (IX.mp hs).1
 unfold cj
 rw [he, wu hl, Id ⟨Int.natCast_nonneg _, by exact ay 0x191b92ba3a595a2 hl hw, by rw [Jt, JI, mH hs, hn]; rfl⟩, Jt]
theorem mI (hs : sts[w]? = some s) (hn : bE (some s) = false) : (Sy rows sts).rs.set w false = (Sy rows sts).rs := eB (by rw [mH hs, hn])
noncomputable def says (aa : List (List Int)) (S S' : S3) (e : Evt) : Prop := match e with
 | .none => S' = S
 | e => cj aa S (fq e) = some S'
theorem ww (hl : rows.length = sts.length) (hr : rows[w]? = some r) (hs : sts[w]? = some s) (hn : bE (some s) = false) (hh : hld s = none) {x : Int} (hc : aX r s = aX r' s' ++ [x]) (h2 : hld s' = some (x, 0)) (h3 : bE (some s') = false) : says aa (Sy rows sts) (Sy (rows.set w r') (sts.set w s')) (.own w x) := by
 show cj aa (Sy rows sts) (.own (w : Int) x) = _
 rw [jS hl hs hn rfl]
 show (if (Sy rows sts).h w = none /\ ((Sy rows sts).r w).getLast? = some x then _ else _) = _
 rw [jR hs, mG hr hs, hc, Id ⟨hh, by simp⟩, gR hr hs, h2, h3, mI hs hn, List.dropLast_concat]
theorem wx (hl : rows.length = sts.length) (hr : rows[w]? = some r) (hs : sts[w]? = some s) (hn : bE (some s) = false) (hh : hld s = none) (hc : aX r s = []) (hc' : aX r' .rests = []) : says aa (Sy rows sts) (Sy (rows.set w r') (sts.set w .rests)) (.rests w) := by
 show cj aa (Sy rows sts) (.rests (w : Int)) = _
 rw [jS hl hs hn rfl]
 show (if (Sy rows sts).h w = none /\ ((Sy rows sts).r w) = [] then _ else _) = _
 rw [jR hs, mG hr hs, Id ⟨hh, hc⟩, gR hr hs, hc', <- hc]
 congr 2
 ·exact (eB (jQ hr hs)).symm
 ·exact (eB ((qt hs).trans (congrArg some hh))).symm
theorem wy {r : Rw} {s : St} {k : Int} (h : lk s = some k) : te r s = r.t := by cases s <;> first | rfl | cases h
theorem wz {r : Rw} {s : St} {k : Int} (h : lk s = some k) (he : jb r s) : r.t <= r.h := by cases s <;> first | exact he | cases h
theorem wA {s : St} {k : Int} (h : lk s = some k) : hld s = none := by cases s <;> first | rfl | cases h
theorem wB {s : St} {k : Int} (h : lk s = some k) : bE (some s) = false := by cases s <;> first | rfl | cases h
theorem Em.own (E : Em rows sts) (h : jb r' s') : Em (rows.set w r') (sts.set w s') := fun j r s h1 h2 => by
 by_cases q : w = j
 ·subst q
  rw [JF] at h1 h2
  simp only [if_true] at h1 h2
  split at h1
  ·split at h2
   ·cases h1; cases h2; exact h
   ·cases h2
  ·cases h1
 ·rw [Jq q] at h1 h2
  exact E j r s h1 h2
theorem Em.st (E : Em rows sts) (h : ∀ r, rows[w]? = some r -> jb r s') : Em rows (sts.set w s') := fun j r s h1 h2 => by
 by_cases q : w = j
 ·subst q
  rw [JF] at h2
  simp only [if_true] at h2
  split at h2
  ·cases h2; exact h r h1
  ·cases h2
 ·rw [Jq q] at h2
  exact E j r s h1 h2
theorem Em.row (E : Em rows sts) (ha : rows[a]? = some ra) : Em (rows.set a ⟨ra.h + 1, ra.t, ra.p⟩) sts := fun j r s h1 h2 => by
 by_cases q : a = j
 ·subst q
  rw [JF] at h1
  simp only [if_true] at h1
  split at h1
  ·cases h1; exact E7 (E a ra s ha h2)
  ·cases h1
 ·rw [Jq q] at h1
  exact E j r s h1 h2
theorem jT (E : Em rows sts) (hrw : rows[w]? = some r) (hs : sts[w]? = some s) {k k' : Int} (hk : lk s = some k) (hk' : lk s' = some k') (ha : rows[a]? = some r') : Em (rows.set a r') (sts.set w s') /\ says aa (Sy rows sts) (Sy (rows.set a r') (sts.set w s')) .none := by
 rw [i6 ha]
 have e0 := wz hk (E w r s hrw hs)
 refine ⟨E.st fun r2 h2 => ?_, ?_⟩
 ·rw [hrw] at h2; cases h2
  cases s' <;> first | exact e0 | cases hk'
 ·have := f0 (s' := s') hrw hs (r' := r) (d4 rfl (by rw [wy hk, wy hk']) rfl) (by rw [wA hk, wA hk']) (by rw [wB hk, wB hk'])
  rw [i6 hrw] at this
  exact this
theorem Go.sim (g : Go aa rows sts w a r' s' e) (y : Yd aa rows sts) (E : Em rows sts) (hw : w < rows.length) : Em (rows.set a r') (sts.set w s') /\ says aa (Sy rows sts) (Sy (rows.set a r') (sts.set w s')) e := by
 obtain ⟨rw', hrw⟩ : ∃ r, rows[w]? = some r := ⟨_, I3 hw⟩
 cases g with
 | @free r hr hs => exact ⟨E.own trivial, f0 hr hs (d4 rfl (by show r.t - 1 + 1 = r.t; exact aG 0x1191111943b0) rfl) rfl rfl⟩
 | @low1 _ x hr hs h hx =>
  have l := y.loc w r' _ hr hs
  exact ⟨E.own trivial, ww y.len hr hs rfl rfl (mA (r := r') (s := .lowered) (s' := .holds x 0) (x := x) l.h0 rfl (Int.le_of_lt h) hx) rfl rfl⟩
 | low2 hr hs h => exact ⟨E.own (Int.le_of_eq h.symm), f0 hr hs (d4 rfl rfl rfl) rfl rfl⟩
 | low3 hr hs h => exact ⟨E.own (Int.add_one_le_of_lt h), f0 hr hs (d4 rfl rfl rfl) rfl rfl⟩
 | @last1 r x hr hs hx =>
  have l := y.loc w r _ hr hs
  have hq := l.la _ rfl
  have c := mB (r := r) (s := .last r.h) (s' := .mends (r.h + 1) (some x)) (x := x) l.h0 (by show r.h < r.t + 1; exact bj 0x919ab11a39a1 hq) (by show r.h + 1 = r.t + 1; exact bj 0x91119ab11a31193b1 hq) hx
  have c0 : aX ⟨r.h + 1, r.t, r.p⟩ (.mends (r.h + 1) (some x)) = [] := jc (I9 _)
  exact ⟨E.own trivial, ww y.len hr hs rfl rfl (by rw [c, c0]; rfl) rfl rfl⟩
 | @last2 _ q hr hs h =>
  have hq := (y.loc w r' _ hr hs).la _ rfl
  have he : q <= r'.h := E w r' _ hr hs
  exact ⟨E.own (by show q + 1 <= r'.h; exact (Int.lt_or_gt_of_ne h).elim (fun q8 => bj 0x1109aaa99a119392 he q8) fun q8 => bj 0x11a9aa119391 q8), f0 hr hs (d4 rfl (by show q + 1 = r'.t + 1; exact bj 0x91119ab11a31193b1 hq) rfl) rfl rfl⟩
 | @mends1 r q x hr hs => exact ⟨E.own trivial, f0 hr hs (d4 rfl rfl rfl) rfl rfl⟩
 | @mends2 r q hr hs h =>
  have he : q <= r.h := E w r _ hr hs
  exact ⟨E.own he, wx y.len hr hs rfl rfl (jc he) (jc he)⟩
 | @mends3 r q hr hs h =>
  have he : q <= r.h := E w r _ hr hs
  exact ⟨E.own he, f0 hr hs (d4 rfl rfl rfl) rfl rfl⟩
 | @wrote r t m yv row hr hs hb hy =>
  have l := y.loc w r _ hr hs
  obtain ⟨q1, q2, q3, q4⟩ := l.wr t m rfl
  rw [fY hb, hy] at q4
  have c := mA (r := r) (s := .lowered) (s' := .wrote t m) (x := yv) l.h0 rfl l.he q4
  have c2 : aX ⟨r.h, r.t + 1, r.p⟩ (.holds t (m + 1)) = aX r .lowered := d4 rfl rfl rfl
  refine ⟨E.own trivial, ?_⟩
  show cj aa (Sy rows sts) (.put (w : Int) yv) = _
  rw [jS y.len hs rfl rfl]
  show (match (Sy rows sts).h w with | some p => _ | none => none) = _
  rw [jR hs]
  show (if (br aa t)[m.toNat]? = some yv then some (S3.mk ((Sy rows sts).rows.set w ((Sy rows sts).r w ++ [yv])) _ _) else none) = _
  rw [fY hb, Id hy, mG hr hs, gR hr hs, c2, c, show bE (some (.holds t (m + 1))) = false from rfl, mI hs rfl]
  rfl
 | @done _ t m row hr hs hb hm =>
  refine ⟨E.own trivial, ?_⟩
  show cj aa (Sy rows sts) (.done (w : Int) t) = _
  rw [jS y.len hs rfl rfl]
  show (match (Sy rows sts).h w with | some p => _ | none => none) = _
  rw [jR hs]
  show (if (br aa t).length <= m.toNat /\ t = t then some (S3.mk (Sy rows sts).rows _ _) else none) = _
  rw [fY hb, Id ⟨by exact aZ 0x191a599959ba912 hm (Ju _), rfl⟩, gR hr hs, show bE (some .free) = false from rfl, mI hs rfl]
  congr 2
  exact (eB ((jQ hr hs).trans (congrArg some (d4 rfl rfl rfl)))).symm
 | @write r t m yv k row hr hs hb hm hy hk =>
  have l := y.loc w r _ hr hs
  have h2 : r.t <= (r.p.length : Int) := l.el
  exact ⟨E.own trivial, f0 hr hs (wc (r := r) (s := .holds t m) (s' := .wrote t m) (k := k) (y := yv) l.h0 hk (aZ 0x191a599959ba912 hk h2) rfl rfl l.he) rfl rfl⟩
 | looks hs ha hr => exact jT E hrw hs rfl rfl hr
 | seen1 hs ha hr h => exact jT E hrw hs rfl rfl hr
 | @seen2 _ k q a hs ha hr h h2 =>
  rw [i6 hr]
  have he := wz rfl (E w rw' _ hrw hs)
  have := wx (aa := aa) (r' := rw') y.len hrw hs rfl rfl (jc he) (jc he)
  rw [i6 hrw] at this
  exact ⟨E.st fun r2 h2 => by rw [hrw] at h2; cases h2; exact he, this⟩
 | seen3 hs ha hr h h2 => exact jT E hrw hs rfl rfl hr
 | reads hs ha hr hx => exact jT E hrw hs rfl rfl hr
 | tries2 hs ha hr h => exact jT E hrw hs rfl rfl hr
 | @tries1 ra k x a hs ha hr =>
  have ea : a = bD rows.length w k := by unfold bD; rw [ha]; rfl
  obtain ⟨k1, k2, kt⟩ := y.thf w _ k hs rfl
  have hne : a ≠ w := ea ▸ i7 hw k1 k2
  have hal := (IX.mp hr).1
  obtain ⟨sa, hsa⟩ : ∃ sa, sts[a]? = some sa := ⟨_, I3 (y.len ▸ hal)⟩
  obtain ⟨_, t2⟩ := (kt ra sa (ea ▸ hr) (ea ▸ hsa)).tri k ra.h x rfl
  obtain ⟨t3, t4⟩ := t2 rfl
  have l := y.loc a ra sa hr hsa
  have c := mB (r := ra) (s := sa) (s' := sa) (x := x) l.h0 t3 (wg ra sa) t4
  refine ⟨Em.row (Em.st (s' := .holds x 0) E fun r2 O => trivial) hr, ?_⟩
  show cj aa (Sy rows sts) (.taken (w : Int) (a : Int) x) = _
  rw [jS y.len hs rfl rfl]
  show (if (Sy rows sts).h w = none /\ (a : Int) ≠ (w : Int) /\ 0 <= (a : Int) /\ (a : Int) < ((Sy rows sts).rows.length : Int) /\ ((Sy rows sts).r (a : Int).toNat).head? = some x then some (S3.mk ((Sy rows sts).rows.set (a : Int).toNat ((Sy rows sts).r (a : Int).toNat).tail) _ _) else none) = _
  rw [Jt, jR hs, mG hr hsa, wu y.len, c, Id ⟨rfl, by exact (Nat.lt_or_gt_of_ne hne).elim (fun q8 => am 0x19a92a595e1 q8) fun q8 => am 0x119a2a595e1 q8, Int.natCast_nonneg _, by exact am 0x11a92a595a1 hal, rfl⟩]
  have hrw' : (rows.set a ⟨ra.h + 1, ra.t, ra.p⟩)[w]? = some rw' := by rw [Jq hne]; exact hrw
  have h1 := E8 hrw' hs (.holds x 0)
  have h2 := gR hr hsa ⟨ra.h + 1, ra.t, ra.p⟩ sa
  rw [eB hsa] at h2
  rw [h1, h2, eB (qt hsa), eB (mH hsa), show bE (some (.holds x 0)) = false from rfl, mI hs rfl]
  congr 2
  refine (eB ?_).symm
  rw [Jq hne]
  exact (jQ hrw hs).trans (congrArg some (d4 rfl rfl rfl))
end
end Mine.Internal
namespace Mine.Internal
theorem qu (c : Int -> Nat) (l l' : List Int) : wS c (l ++ l') = wS c l + wS c l' := by simp [wS]
theorem wC (V : Int -> Nat) : ∀ l : List Int, eS V l = wS V l + l.length
 | [] => rfl
 | x :: l => by
  have ih := wC V l
  simp only [eS, wS, List.map_cons, List.sum_cons, List.length_cons] at *
  exact aN 0x1191cb3a311c3b933a1193331 ih
theorem wD (aa : List (List Int)) (k : Nat) : ∀ l : List Int, wS (fun x => k + 3 * (br aa x).length) l = k * l.length + 3 * (l.map (br aa)).flatten.length
 | [] => rfl
 | x :: l => by
  have ih := wD aa k l
  rw [i8, ih, List.map_cons, List.flatten_cons, I2, Jl, Nat.mul_add, Nat.mul_add]
  lia
theorem E9 {aa : List (List Int)} {L0 : List Int} {size : Nat} (W : Nat) (f : d5 aa L0 size) : ∃ V : Int -> Nat, (∀ x, eS V (br aa x) + Cw aa W x <= V x) /\ wS V L0 <= (2 * W + 12) * size := by
 obtain ⟨V, hV⟩ := wp (fun x => 2 * W + 9 + 3 * (br aa x).length) f
 refine ⟨V, fun x => ?_, ?_⟩
 ·rw [hV x, wC]; unfold Cw; exact ay 0x19a3691b26333a2691b2633a93310
 ·obtain ⟨n, _, hn, _⟩ := wn f
  have h2 := qp (L0 := L0) hV n
  have ci := d6 f n
  have h4 := ci.pm.length_eq
  have h3 := ci.len
  rw [hn] at h2 h3 h4
  rw [wD] at h2
  have h5 : wS V [] = 0 := rfl
  rw [JA, I2] at h4
  rw [List.length_nil, Nat.add_zero] at h3
  have h6 := Nat.mul_le_mul_left (2 * W + 9) h3
  have h7 : (2 * W + 12) * size = (2 * W + 9) * size + 3 * size := by rw [<- Nat.add_mul]
  generalize (2 * W + 9) * size = a at *
  generalize (2 * W + 9) * (a9 aa L0 n).2.length = b at *
  exact Bf 0x19913b200819d36083f33e3703a301f3eb1dc3b3a916 h4 h3 h5 h7 h2 h6
theorem f7 {α : Type} (f : α -> Nat) : ∀ {l : List α} {i : Nat} {a : α} (b : α), l[i]? = some a -> ((l.set i b).map f).sum + f a = (l.map f).sum + f b
 | [], _, _, _, h => nomatch h
 | _ :: _, 0, _, _, h => by cases h; simp only [List.set_cons_zero, List.map_cons, List.sum_cons]; exact ay 0x119ab33ba93330
 | _ :: l, i + 1, a, b, h => by
  have := f7 f (l := l) (i := i) b h
  simp only [List.set_cons_succ, List.map_cons, List.sum_cons]; exact a7 0x1191dc3ba33dc933ba93331 this
section
variable (aa : List (List Int)) (c U : Int -> Nat)
def hW (o : Option (Int × Int)) : Nat := match o with
 | some p => c p.1 + wS U ((br aa p.1).drop p.2.toNat)
 | none => 0
def RZ (s : S3) : Nat := (s.rows.map (wS U)).sum + (s.hs.map (hW aa c U)).sum
noncomputable def f8 (e : E5) : List Int := match e with
 | .done _ x => [x]
 | _ => []
end
section
variable {aa : List (List Int)} {c U : Int -> Nat} {s s' : S3} {e : E5}
theorem S3.at_r {i : Nat} (h : i < s.rows.length) : s.rows[i]? = some (s.r i) := by
 unfold S3.r; rw [JI, I3 h]; rfl
theorem S3.at_h {i : Nat} (h : i < s.hs.length) : s.hs[i]? = some (s.h i) := by
 unfold S3.h; rw [JI, I3 h]; rfl
theorem cF {α : Type} {p : Prop} [Decidable p] {a b : α} (h : (if p then some a else none) = some b) : p /\ a = b := by
 by_cases q : p
 ·rw [Id q] at h; exact ⟨q, Option.some.inj h⟩
 ·rw [IU q] at h; cases h
theorem Fa (hU : ∀ x, U x = c x + wS U (br aa x)) (hl : s.hs.length = s.rows.length) (hn : ∀ p, some p ∈ s.hs -> 0 <= p.2) (h : cj aa s e = some s') : s'.hs.length = s'.rows.length /\ (∀ p, some p ∈ s'.hs -> 0 <= p.2) /\ RZ aa c U s' + wS c (f8 e) = RZ aa c U s := by
 obtain ⟨hw, h⟩ : e.w.toNat < s.rows.length /\ de aa s e.w.toNat e = some s' := by
  unfold cj at h
  by_cases q : 0 <= e.w /\ e.w < (s.rows.length : Int) /\ s.rs.getD e.w.toNat false = false
  ·rw [Id q] at h; exact ⟨by exact aZ 0x111995ba59aa922 q.2.1 (I7 (aG 0x11901990191 q.1)), h⟩
  ·rw [IU q] at h; cases h
 generalize e.w.toNat = i at hw h
 have ar := S3.at_r hw
 have ah := S3.at_h (by rw [hl]; exact hw : i < s.hs.length)
 have nw : ∀ o : Option (Int × Int), (∀ p, o = some p -> 0 <= p.2) -> ∀ p, some p ∈ s.hs.set i o -> 0 <= p.2 := fun o ho p m => (List.mem_or_eq_of_mem_set m).elim (hn p) fun q => ho p q.symm
 cases e with
 | rests w => obtain ⟨_, rfl⟩ := cF h; exact ⟨hl, hn, rfl⟩
 | own w x =>
  obtain ⟨⟨q1, q2⟩, rfl⟩ := cF h
  refine ⟨by simpa using hl, nw _ fun p q => by cases q; exact I9 _, ?_⟩
  have s1 := f7 (wS U) (s.r i).dropLast ar
  have s2 := f7 (hW aa c U) (some (x, 0)) ah
  have s3 : wS U (s.r i) = wS U (s.r i).dropLast + U x := by
   obtain ⟨l, hl⟩ : ∃ l, s.r i = l ++ [x] := by
    rcases List.eq_nil_or_concat (s.r i) with q | ⟨l, u, q⟩
    ·rw [q] at q2; cases q2
    ·rw [q, List.concat_eq_append, List.getLast?_concat] at q2; cases q2; exact ⟨l, by rw [q, List.concat_eq_append]⟩
   rw [hl, List.dropLast_concat, mD]
  have s4 : hW aa c U (some (x, 0)) = U x := (hU x).symm
  rw [q1] at s2
  have s5 : hW aa c U none = 0 := rfl
  have s6 : wS c (f8 (.own w x)) = 0 := rfl
  unfold RZ
  dsimp only
  exact tC 0x1019111019199101b302031808318f3e308d40a33fc3e933dc3ba93336 s1 s2 s3 s4 s5 s6
 | taken w a x =>
  obtain ⟨⟨q1, _, q2, q3, q4⟩, rfl⟩ := cF h
  refine ⟨by simpa using hl, nw _ fun p q => by cases q; exact I9 _, ?_⟩
  have s1 := f7 (wS U) (s.r a.toNat).tail (S3.at_r (by exact aZ 0x111995ba59aa922 q3 (I7 (aG 0x11901990191 q2)) : a.toNat < s.rows.length))
  have s2 := f7 (hW aa c U) (some (x, 0)) ah
  have s3 : wS U (s.r a.toNat) = wS U (s.r a.toNat).tail + U x := by
   cases q : s.r a.toNat with
   | nil => rw [q] at q4; cases q4
   | cons b l => rw [q] at q4; cases q4; rw [i8, List.tail_cons]; exact am 75601974064
  have s4 : hW aa c U (some (x, 0)) = U x := (hU x).symm
  rw [q1] at s2
  have s5 : hW aa c U none = 0 := rfl
  have s6 : wS c (f8 (.taken w a x)) = 0 := rfl
  unfold RZ
  dsimp only
  exact tC 0x1019111019199101b302031808318f3e308d40a33fc3e933dc3ba93336 s1 s2 s3 s4 s5 s6
 | put w y =>
  cases q : s.h i with
  | none => unfold de at h; rw [q] at h; cases h
  | some p =>
   unfold de at h
   rw [q] at h
   obtain ⟨q1, rfl⟩ := cF h
   have h0 := hn p (by rw [<- q]; exact List.mem_of_getElem? ah)
   refine ⟨by simpa using hl, nw _ fun p' q => by cases q; show 0 <= p.2 + 1; exact aG 0x11901911930191 h0, ?_⟩
   have s1 := f7 (wS U) (s.r i ++ [y]) ar
   have s2 := f7 (hW aa c U) (some (p.1, p.2 + 1)) ah
   rw [q] at s2
   rw [mD] at s1
   have s3 : wS U ((br aa p.1).drop p.2.toNat) = U y + wS U ((br aa p.1).drop (p.2 + 1).toNat) := by
    obtain ⟨hl, e⟩ := IX.mp q1
    rw [List.drop_eq_getElem_cons hl, e, gQ h0, i8]
   have s4 : hW aa c U (some p) = c p.1 + wS U ((br aa p.1).drop p.2.toNat) := rfl
   have s5 : hW aa c U (some (p.1, p.2 + 1)) = c p.1 + wS U ((br aa p.1).drop (p.2 + 1).toNat) := rfl
   have s6 : wS c (f8 (.put w y)) = 0 := rfl
   unfold RZ
   dsimp only
   exact Bg 0x1199111091199101b328383083183840328f318308d40a33fe3c3e933dc3ba93336 s1 s2 s3 s4 s5 s6
 | done w x =>
  cases q : s.h i with
  | none => unfold de at h; rw [q] at h; cases h
  | some p =>
   unfold de at h
   rw [q] at h
   obtain ⟨⟨q1, rfl⟩, rfl⟩ := cF h
   refine ⟨by simpa using hl, nw _ (fun p q => nomatch q), ?_⟩
   have s2 := f7 (hW aa c U) none ah
   rw [q] at s2
   have s3 : hW aa c U (some p) = c p.1 := by
    show c p.1 + wS U ((br aa p.1).drop p.2.toNat) = _
    rw [List.drop_of_length_le q1]; rfl
   have s5 : hW aa c U none = 0 := rfl
   have s6 : wS c (f8 (.done w p.1)) = c p.1 := by simp [f8, wS]
   unfold RZ
   dsimp only
   exact eT 0x1191190191fb301e3fd3ec3da33c93ba93334 s2 s3 s5 s6
theorem wE (hU : ∀ x, U x = c x + wS U (br aa x)) : ∀ (es : List E5) (s s' : S3), s.hs.length = s.rows.length -> (∀ p, some p ∈ s.hs -> 0 <= p.2) -> run aa s es = some s' -> RZ aa c U s' + wS c (es.map f8).flatten = RZ aa c U s
 | [], s, s', _, _, h => by cases h; rfl
 | e :: es, s, s', hl, hn, h => by
  unfold run at h
  cases q : cj aa s e with
  | none => rw [q] at h; cases h
  | some s1 =>
   rw [q] at h
   obtain ⟨k1, k2, k3⟩ := Fa hU hl hn q
   have := wE hU es s1 s' k1 k2 h
   rw [List.map_cons, List.flatten_cons, qu]
   exact a7 0x111991db933cad33cba39332 k3 this
end
end Mine.Internal
set_option maxRecDepth 100000
set_option maxHeartbeats 8000000
namespace Mine.Internal
open PySem PyProof.Rows
noncomputable abbrev aj : Type := aR -> Nat -> an -> HP -> RS
noncomputable abbrev bh : Type := aR -> Nat -> an -> HP -> R AV
noncomputable abbrev wF : Type := aR -> Nat -> an -> HP -> R Bool
noncomputable def d7 : Nat := 100000
def CC : Cfg := { fns := recsOf PySem.Challenge.pw_uf040021_13, muts := [("_law_plan_by", "_law_brood"), ("_law_plan_by", "_law_starts"), ("woven_all", "events"), ("finished", "events"), ("Ledger.__init__", "lines"), ("Ledger.__init__", "held"), ("Ledger.__init__", "puts"), ("Ledger.__init__", "resting"), ("_law_replayed", "_law_rows"), ("_law_replayed", "_law_holds"), ("_law_replayed", "_law_rests"), ("coming", "waiting"), ("_law_coming", "_law_found"), ("_law_coming", "_law_waits"), ("_law_long", "_law_brood")], frz := ["_law_plan_by", "woven", "finished", "_law_replayed", "are_right", "_law_long", "_law_coming"], loops := d7, cls := (plainsOf PySem.Challenge.pw_uf040021_13 []).head? }
def wG : aj := fun P b r H =>
 sq (aC (aB .Add (fun H => aB .Add (fun H => bX (ae r "rows") bZ (ae r "number") H) (fun H => aT [(ae r "row")] H) H) (fun H => bX (ae r "rows") (fun H => aB .Add (ae r "number") (fun H => some (AV.int 1, H)) H) bZ H) H) r) aq
def wH (P : aR) (b : Nat) (arows anumber arow : AV) (H : HP) : R AV :=
 ba (wG P b (upd (upd (upd aF "rows" arows) "number" anumber) "row" arow) H)
theorem Fb (n b : Nat) (arows anumber arow : AV) (H : HP) : ai CC (n+1) b "with_row" [arows, anumber, arow] H = wH (ai CC n) b arows anumber arow H := by kernel_rfl
def wI : aj := fun P b r H =>
 sq (aC (aB .Mod (fun H => aB .Add (ae r "worker") (ae r "looks") H) (ae r "many") H) r) aq
def wJ (P : aR) (b : Nat) (aworker alooks amany : AV) (H : HP) : R AV :=
 ba (wI P b (upd (upd (upd aF "worker" aworker) "looks" alooks) "many" amany) H)
theorem Fc (n b : Nat) (aworker alooks amany : AV) (H : HP) : ai CC (n+1) b "other_of" [aworker, alooks, amany] H = wJ (ai CC n) b aworker alooks amany H := by kernel_rfl
def wK : aj := fun P b r H =>
 sq (aC (aT [(fun H => aT [(fun H => some (AV.str "rests", H))] H), (fun H => aT [(fun H => some (AV.str "rests", H)), (ae r "worker")] H)] H) r) aq
def wL : aj := fun P b r H =>
 sq (aC (aT [(fun H => aT [(fun H => some (AV.str "looks", H)), (ae r "looks")] H), (fun H => some (AV.none, H))] H) r) aq
def qw : aj := fun P b r H =>
 sq (aW (aw (av (ae r "looks" H) (fun a H => aH a [.GtE] [(ae r "many")] H))) (wK P b r) (aq r)) (wL P b)
def qx (P : aR) (b : Nat) (aworker alooks amany : AV) (H : HP) : R AV :=
 ba (qw P b (upd (upd (upd aF "worker" aworker) "looks" alooks) "many" amany) H)
theorem wM (n b : Nat) (aworker alooks amany : AV) (H : HP) : ai CC (n+1) b "search" [aworker, alooks, amany] H = qx (ai CC n) b aworker alooks amany H := by kernel_rfl
def wN : aj := fun P b r H =>
 sq (aC (aT [(fun H => aP P b "with_row" [(ae r "rows"), (ae r "worker"), (fun H => aT [(ae r "head"), (fun H => aB .Sub (ae r "tail") (fun H => some (AV.int 1, H)) H), (ae r "places")] H)] H), (fun H => aT [(fun H => some (AV.str "lowered", H))] H), (fun H => some (AV.none, H))] H) r) aq
def wO : aj := fun P b r H =>
 sq (aC (aT [(ae r "rows"), (fun H => aT [(fun H => some (AV.str "holds", H)), (fun H => au (ae r "places") (ae r "tail") H), (fun H => some (AV.int 0, H))] H), (fun H => aT [(fun H => some (AV.str "own", H)), (ae r "worker"), (fun H => au (ae r "places") (ae r "tail") H)] H)] H) r) aq
def wP : aj := fun P b r H =>
 sq (aC (aT [(ae r "rows"), (fun H => aT [(fun H => some (AV.str "last", H)), (ae r "head")] H), (fun H => some (AV.none, H))] H) r) aq
def wQ : aj := fun P b r H =>
 sq (aC (aT [(ae r "rows"), (fun H => aT [(fun H => some (AV.str "mends", H)), (fun H => aB .Add (ae r "tail") (fun H => some (AV.int 1, H)) H), (fun H => some (AV.none, H))] H), (fun H => some (AV.none, H))] H) r) aq
def qy : aj := fun P b r H =>
 sq (aW (aw (av (ae r "head" H) (fun a H => aH a [.Eq] [(ae r "tail")] H))) (wP P b r) (aq r)) (wQ P b)
def mJ : aj := fun P b r H =>
 sq (aW (aw (av (ae r "head" H) (fun a H => aH a [.Lt] [(ae r "tail")] H))) (wO P b r) (aq r)) (qy P b)
def wR : aj := fun P b r H =>
 sq (aC (aT [(fun H => aP P b "with_row" [(ae r "rows"), (ae r "worker"), (fun H => aT [(fun H => aB .Add (ae r "head") (fun H => some (AV.int 1, H)) H), (ae r "tail"), (ae r "places")] H)] H), (fun H => aT [(fun H => some (AV.str "mends", H)), (fun H => aB .Add (ae r "seen") (fun H => some (AV.int 1, H)) H), (ae r "task")] H), (fun H => aT [(fun H => some (AV.str "own", H)), (ae r "worker"), (ae r "task")] H)] H) r) aq
def wT : aj := fun P b r H =>
 sq (asgN "task" (au (ae r "places") (ae r "seen") H) r) (wR P b)
def wU : aj := fun P b r H =>
 sq (aC (aT [(ae r "rows"), (fun H => aT [(fun H => some (AV.str "mends", H)), (fun H => aB .Add (ae r "seen") (fun H => some (AV.int 1, H)) H), (fun H => some (AV.none, H))] H), (fun H => some (AV.none, H))] H) r) aq
def qz : aj := fun P b r H =>
 sq (aW (aw (av (ae r "head" H) (fun a H => aH a [.Eq] [(ae r "seen")] H))) (wT P b r) (aq r)) (wU P b)
def qA : aj := fun P b r H =>
 sq (asgN "seen" (au (ae r "state") (fun H => some (AV.int 1, H)) H) r) (qz P b)
def wV : aj := fun P b r H =>
 sq (aC (aT [(ae r "rows"), (fun H => aT [(fun H => some (AV.str "holds", H)), (fun H => au (ae r "state") (fun H => some (AV.int 2, H)) H), (fun H => some (AV.int 0, H))] H), (fun H => some (AV.none, H))] H) r) aq
def wW : aj := fun P b r H =>
 sq (aC (aT [(ae r "rows"), (ae r "state"), (ae r "event")] H) r) aq
def wX : aj := fun P b r H =>
 sq (asgT (bM ["state", "event"]) (aP P b "search" [(ae r "worker"), (fun H => some (AV.int 1, H)), (fun H => aK .len [(ae r "rows")] H)] H) r) (wW P b)
def qB : aj := fun P b r H =>
 sq (aW (aw (av (au (ae r "state") (fun H => some (AV.int 2, H)) H) (fun a H => aH a [.IsNot] [(fun H => some (AV.none, H))] H))) (wV P b r) (aq r)) (wX P b)
def qC : aj := fun P b r H =>
 sq (asgN "rows" (aP P b "with_row" [(ae r "rows"), (ae r "worker"), (fun H => aT [(ae r "head"), (fun H => au (ae r "state") (fun H => some (AV.int 1, H)) H), (ae r "places")] H)] H) r) (qB P b)
def jU : aj := fun P b r H =>
 sq (aW (aw (av (au (ae r "state") (fun H => some (AV.int 0, H)) H) (fun a H => aH a [.Eq] [(fun H => some (AV.str "last", H))] H))) (qA P b r) (aq r)) (qC P b)
def f9 : aj := fun P b r H =>
 sq (aW (aw (av (au (ae r "state") (fun H => some (AV.int 0, H)) H) (fun a H => aH a [.Eq] [(fun H => some (AV.str "lowered", H))] H))) (mJ P b r) (aq r)) (jU P b)
def fu : aj := fun P b r H =>
 sq (aW (aw (av (au (ae r "state") (fun H => some (AV.int 0, H)) H) (fun a H => aH a [.Eq] [(fun H => some (AV.str "free", H))] H))) (wN P b r) (aq r)) (f9 P b)
def fw : aj := fun P b r H =>
 sq (asgT (bM ["head", "tail", "places"]) (au (ae r "rows") (ae r "worker") H) r) (fu P b)
def fx (P : aR) (b : Nat) (aworker astate arows : AV) (H : HP) : R AV :=
 ba (fw P b (upd (upd (upd aF "worker" aworker) "state" astate) "rows" arows) H)
theorem gc (n b : Nat) (aworker astate arows : AV) (H : HP) : ai CC (n+1) b "own_step" [aworker, astate, arows] H = fx (ai CC n) b aworker astate arows H := by kernel_rfl
def wY : aj := fun P b r H =>
 sq (aC (aT [(ae r "rows"), (fun H => aT [(fun H => some (AV.str "seen", H)), (ae r "looks"), (ae r "head")] H), (fun H => some (AV.none, H))] H) r) aq
def wZ : aj := fun P b r H =>
 sq (aC (aT [(ae r "rows"), (fun H => aT [(fun H => some (AV.str "reads", H)), (ae r "looks"), (fun H => au (ae r "state") (fun H => some (AV.int 2, H)) H)] H), (fun H => some (AV.none, H))] H) r) aq
def w0 : aj := fun P b r H =>
 sq (aC (aT [(ae r "rows"), (ae r "state"), (ae r "event")] H) r) aq
def w2 : aj := fun P b r H =>
 sq (asgT (bM ["state", "event"]) (aP P b "search" [(ae r "worker"), (fun H => aB .Add (ae r "looks") (fun H => some (AV.int 1, H)) H), (fun H => aK .len [(ae r "rows")] H)] H) r) (w0 P b)
def qD : aj := fun P b r H =>
 sq (aW (aw (av (au (ae r "state") (fun H => some (AV.int 2, H)) H) (fun a H => aH a [.Lt] [(ae r "tail")] H))) (wZ P b r) (aq r)) (w2 P b)
def w3 : aj := fun P b r H =>
 sq (aC (aT [(ae r "rows"), (fun H => aT [(fun H => some (AV.str "tries", H)), (ae r "looks"), (fun H => au (ae r "state") (fun H => some (AV.int 2, H)) H), (fun H => au (ae r "places") (fun H => au (ae r "state") (fun H => some (AV.int 2, H)) H) H)] H), (fun H => some (AV.none, H))] H) r) aq
def w4 : aj := fun P b r H =>
 sq (aC (aT [(ae r "rows"), (fun H => aT [(fun H => some (AV.str "looks", H)), (ae r "looks")] H), (fun H => some (AV.none, H))] H) r) aq
def w5 : aj := fun P b r H =>
 sq (aC (aT [(fun H => aP P b "with_row" [(ae r "rows"), (ae r "other"), (fun H => aT [(fun H => aB .Add (ae r "head") (fun H => some (AV.int 1, H)) H), (ae r "tail"), (ae r "places")] H)] H), (fun H => aT [(fun H => some (AV.str "holds", H)), (ae r "task"), (fun H => some (AV.int 0, H))] H), (fun H => aT [(fun H => some (AV.str "taken", H)), (ae r "worker"), (ae r "other"), (ae r "task")] H)] H) r) aq
def w6 : aj := fun P b r H =>
 sq (asgN "task" (au (ae r "state") (fun H => some (AV.int 3, H)) H) r) (w5 P b)
def qE : aj := fun P b r H =>
 sq (aW (aw (av (ae r "head" H) (fun a H => aH a [.NotEq] [(fun H => au (ae r "state") (fun H => some (AV.int 2, H)) H)] H))) (w4 P b r) (aq r)) (w6 P b)
def mK : aj := fun P b r H =>
 sq (aW (aw (av (au (ae r "state") (fun H => some (AV.int 0, H)) H) (fun a H => aH a [.Eq] [(fun H => some (AV.str "reads", H))] H))) (w3 P b r) (aq r)) (qE P b)
def jd : aj := fun P b r H =>
 sq (aW (aw (av (au (ae r "state") (fun H => some (AV.int 0, H)) H) (fun a H => aH a [.Eq] [(fun H => some (AV.str "seen", H))] H))) (qD P b r) (aq r)) (mK P b)
def gT : aj := fun P b r H =>
 sq (aW (aw (av (au (ae r "state") (fun H => some (AV.int 0, H)) H) (fun a H => aH a [.Eq] [(fun H => some (AV.str "looks", H))] H))) (wY P b r) (aq r)) (jd P b)
def gU : aj := fun P b r H =>
 sq (asgT (bM ["head", "tail", "places"]) (au (ae r "rows") (ae r "other") H) r) (gT P b)
def gV : aj := fun P b r H =>
 sq (asgN "other" (aP P b "other_of" [(ae r "worker"), (ae r "looks"), (fun H => aK .len [(ae r "rows")] H)] H) r) (gU P b)
def gW : aj := fun P b r H =>
 sq (asgN "looks" (au (ae r "state") (fun H => some (AV.int 1, H)) H) r) (gV P b)
def gX (P : aR) (b : Nat) (aworker astate arows : AV) (H : HP) : R AV :=
 ba (gW P b (upd (upd (upd aF "worker" aworker) "state" astate) "rows" arows) H)
theorem je (n b : Nat) (aworker astate arows : AV) (H : HP) : ai CC (n+1) b "other_step" [aworker, astate, arows] H = gX (ai CC n) b aworker astate arows H := by kernel_rfl
def w7 : aj := fun P b r H =>
 sq (aC (aT [(ae r "rows"), (fun H => aT [(fun H => some (AV.str "holds", H)), (ae r "task"), (fun H => aB .Add (ae r "n") (fun H => some (AV.int 1, H)) H)] H), (fun H => aT [(fun H => some (AV.str "put", H)), (ae r "worker"), (fun H => au (fun H => au (ae r "brood") (ae r "task") H) (ae r "n") H)] H)] H) r) aq
def w8 : aj := fun P b r H =>
 sq (asgN "rows" (aP P b "with_row" [(ae r "rows"), (ae r "worker"), (fun H => aT [(ae r "head"), (fun H => aB .Add (ae r "tail") (fun H => some (AV.int 1, H)) H), (ae r "places")] H)] H) r) (w7 P b)
def w9 : aj := fun P b r H =>
 sq (aC (aT [(ae r "rows"), (fun H => aT [(fun H => some (AV.str "free", H))] H), (fun H => aT [(fun H => some (AV.str "done", H)), (ae r "worker"), (ae r "task")] H)] H) r) aq
def xa : aj := fun P b r H =>
 sq (aC (aT [(fun H => aP P b "with_row" [(ae r "rows"), (ae r "worker"), (fun H => aT [(ae r "head"), (ae r "tail"), (ae r "places")] H)] H), (fun H => aT [(fun H => some (AV.str "wrote", H)), (ae r "task"), (ae r "n")] H), (fun H => some (AV.none, H))] H) r) aq
def xb : aj := fun P b r H =>
 sq (asgN "places" (aB .Add (fun H => aB .Add (fun H => bX (ae r "places") bZ (ae r "tail") H) (fun H => aT [(fun H => au (fun H => au (ae r "brood") (ae r "task") H) (ae r "n") H)] H) H) (fun H => bX (ae r "places") (fun H => aB .Add (ae r "tail") (fun H => some (AV.int 1, H)) H) bZ H) H) r) (xa P b)
def qF : aj := fun P b r H =>
 sq (aW (aw (av (ae r "n" H) (fun a H => aH a [.Eq] [(fun H => aK .len [(fun H => au (ae r "brood") (ae r "task") H)] H)] H))) (w9 P b r) (aq r)) (xb P b)
def mL : aj := fun P b r H =>
 sq (aW (aw (av (au (ae r "state") (fun H => some (AV.int 0, H)) H) (fun a H => aH a [.Eq] [(fun H => some (AV.str "wrote", H))] H))) (w8 P b r) (aq r)) (qF P b)
def mM : aj := fun P b r H =>
 sq (asgN "n" (au (ae r "state") (fun H => some (AV.int 2, H)) H) r) (mL P b)
def mO : aj := fun P b r H =>
 sq (asgN "task" (au (ae r "state") (fun H => some (AV.int 1, H)) H) r) (mM P b)
def mP : aj := fun P b r H =>
 sq (asgT (bM ["head", "tail", "places"]) (au (ae r "rows") (ae r "worker") H) r) (mO P b)
def mQ (P : aR) (b : Nat) (abrood aworker astate arows : AV) (H : HP) : R AV :=
 ba (mP P b (upd (upd (upd (upd aF "brood" abrood) "worker" aworker) "state" astate) "rows" arows) H)
theorem qG (n b : Nat) (abrood aworker astate arows : AV) (H : HP) : ai CC (n+1) b "task_step" [abrood, aworker, astate, arows] H = mQ (ai CC n) b abrood aworker astate arows H := by kernel_rfl
def Fd : aj := fun P b r H =>
 sq (/- no form: Raise -/ none) aq
def Fe : aj := fun P b r H =>
 sq (/- no form: Raise -/ none) aq
def xc : aj := fun P b r H =>
 sq (asgT (bM ["rows", "state", "event"]) (aP P b "own_step" [(ae r "worker"), (ae r "state"), (ae r "rows")] H) r) aq
def xd : aj := fun P b r H =>
 sq (asgT (bM ["rows", "state", "event"]) (aP P b "task_step" [(fun H => au (ae r "plan") (fun H => some (AV.int 0, H)) H), (ae r "worker"), (ae r "state"), (ae r "rows")] H) r) aq
def xe : aj := fun P b r H =>
 sq (asgT (bM ["rows", "state", "event"]) (aP P b "other_step" [(ae r "worker"), (ae r "state"), (ae r "rows")] H) r) aq
def qH : aj := fun P b r H =>
 sq (aW (aw (av (au (ae r "state") (fun H => some (AV.int 0, H)) H) (fun a H => aH a [.In] [(fun H => aT [(fun H => some (AV.str "holds", H)), (fun H => some (AV.str "wrote", H))] H)] H))) (xd P b r) (xe P b r)) aq
def mR : aj := fun P b r H =>
 sq (aC (aT [(fun H => aT [(ae r "rows"), (fun H => aB .Add (fun H => aB .Add (fun H => bX (ae r "states") bZ (ae r "worker") H) (fun H => aT [(ae r "state")] H) H) (fun H => bX (ae r "states") (fun H => aB .Add (ae r "worker") (fun H => some (AV.int 1, H)) H) bZ H) H)] H), (ae r "event")] H) r) aq
def mS : aj := fun P b r H =>
 sq (aW (aw (av (au (ae r "state") (fun H => some (AV.int 0, H)) H) (fun a H => aH a [.In] [(fun H => aT [(fun H => some (AV.str "free", H)), (fun H => some (AV.str "lowered", H)), (fun H => some (AV.str "last", H)), (fun H => some (AV.str "mends", H))] H)] H))) (xc P b r) (qH P b r)) (mR P b)
def mT : aj := fun P b r H =>
 sq (aW (aw (av (au (ae r "state") (fun H => some (AV.int 0, H)) H) (fun a H => aH a [.Eq] [(fun H => some (AV.str "rests", H))] H))) (Fe P b r) (aq r)) (mS P b)
def mU : aj := fun P b r H =>
 sq (asgN "state" (au (ae r "states") (ae r "worker") H) r) (mT P b)
def mV : aj := fun P b r H =>
 sq (aW (bv .Or [(fun H => aw (av (ae r "worker" H) (fun a H => aH a [.Lt] [(fun H => some (AV.int 0, H))] H))), (fun H => aw (av (ae r "worker" H) (fun a H => aH a [.GtE] [(fun H => aK .len [(ae r "states")] H)] H)))] H) (Fd P b r) (aq r)) (mU P b)
def mW : aj := fun P b r H =>
 sq (asgT (bM ["rows", "states"]) (ae r "yard" H) r) (mV P b)
def mX (P : aR) (b : Nat) (aplan ayard aworker : AV) (H : HP) : R AV :=
 ba (mW P b (upd (upd (upd aF "plan" aplan) "yard" ayard) "worker" aworker) H)
theorem qI (n b : Nat) (aplan ayard aworker : AV) (H : HP) : ai CC (n+1) b "stepped" [aplan, ayard, aworker] H = mX (ai CC n) b aplan ayard aworker H := by kernel_rfl
def qJ : bh := fun P b r H =>
 aT [(fun H => some (AV.int 0, H)), (fun H => aK .len [(ae r "tasks")] H), (fun H => aK .tuple [(ae r "tasks")] H)] H
def qK : bh := fun P b r H =>
 au (ae r "plan") (fun H => some (AV.int 1, H)) H
def qL : bh := fun P b r H =>
 aT [(fun H => some (AV.str "free", H))] H
def qM : bh := fun P b r H =>
 ae r "rows" H
def xf : aj := fun P b r H =>
 sq (aC (aT [(ae r "rows"), (fun H => aK .tuple [(fun H => dB (bg bq (qL P b) "row" r (qM P b r) H))] H)] H) r) aq
def xg : aj := fun P b r H =>
 sq (asgN "rows" (aK .tuple [(fun H => dB (bg bq (qJ P b) "tasks" r (qK P b r) H))] H) r) (xf P b)
def xh (P : aR) (b : Nat) (aplan : AV) (H : HP) : R AV :=
 ba (xg P b (upd aF "plan" aplan) H)
theorem Ff (n b : Nat) (aplan : AV) (H : HP) : ai CC (n+1) b "started" [aplan] H = xh (ai CC n) b aplan H := by kernel_rfl
def qN : bh := fun P b r H =>
 av (au (ae r "state") (fun H => some (AV.int 0, H)) H) (fun a H => aH a [.Eq] [(fun H => some (AV.str "rests", H))] H)
def qO : bh := fun P b r H =>
 au (ae r "yard") (fun H => some (AV.int 1, H)) H
def xi : aj := fun P b r H =>
 sq (aC (aK .all [(fun H => dB (bg bq (qN P b) "state" r (qO P b r) H))] H) r) aq
def xj (P : aR) (b : Nat) (ayard : AV) (H : HP) : R AV :=
 ba (xi P b (upd aF "yard" ayard) H)
theorem Fg (n b : Nat) (ayard : AV) (H : HP) : ai CC (n+1) b "is_over" [ayard] H = xj (ai CC n) b ayard H := by kernel_rfl
def xk : aj := fun P b r H =>
 sq (cT (bx b .append (ae r "events") [(ae r "event")] H) r) aq
def mY : aj := fun P b r H =>
 sq (aW (aw (av (ae r "event" H) (fun a H => aH a [.IsNot] [(fun H => some (AV.none, H))] H))) (xk P b r) (aq r)) aq
def xl : aj := fun P b r H =>
 sq (asgT (bM ["yard", "event"]) (aP P b "stepped" [(ae r "plan"), (ae r "yard"), (ae r "worker")] H) r) (mY P b)
def gf : aj := fun P b r H =>
 sq (aW (aw (av (au (fun H => au (fun H => au (ae r "yard") (fun H => some (AV.int 1, H)) H) (ae r "worker") H) (fun H => some (AV.int 0, H)) H) (fun a H => aH a [.NotEq] [(fun H => some (AV.str "rests", H))] H))) (xl P b r) (aq r)) aq
def qP : bh := fun P b r H =>
 ae r "weaving" H
def xm : aj := fun P b r H =>
 sq (aC (aT [(ae r "yard"), (ae r "events")] H) r) aq
def xn : aj := fun P b r H =>
 sq (bJ (gf P b) (bb "worker") (qP P b r) r H) (xm P b)
def xo : aj := fun P b r H =>
 sq (asgN "events" (bG true (a8 [] H)) r) (xn P b)
def xp (P : aR) (b : Nat) (aplan ayard aweaving : AV) (H : HP) : R AV :=
 ba (xo P b (upd (upd (upd aF "plan" aplan) "yard" ayard) "weaving" aweaving) H)
theorem Fh (n b : Nat) (aplan ayard aweaving : AV) (H : HP) : ai CC (n+1) b "woven_all" [aplan, ayard, aweaving] H = xp (ai CC n) b aplan ayard aweaving H := by kernel_rfl
def Fi : aj := fun P b r H =>
 sq (/- no form: Raise -/ none) aq
def mZ : aj := fun P b r H =>
 sq (aW (bv .Or [(fun H => aw (av (ae r "worker" H) (fun a H => aH a [.Lt] [(fun H => some (AV.int 0, H))] H))), (fun H => aw (av (ae r "worker" H) (fun a H => aH a [.GtE] [(fun H => aK .len [(fun H => au (ae r "yard") (fun H => some (AV.int 1, H)) H)] H)] H)))] H) (Fi P b r) (aq r)) aq
def qQ : bh := fun P b r H =>
 ae r "weaving" H
def xq : aj := fun P b r H =>
 sq (aC (aP P b "woven_all" [(ae r "plan"), (ae r "yard"), (ae r "weaving")] H) r) aq
def qR : aj := fun P b r H =>
 sq (bJ (mZ P b) (bb "worker") (qQ P b r) r H) (xq P b)
def Fj (P : aR) (b : Nat) (aplan ayard aweaving : AV) (H : HP) : R AV :=
 (match H with | [] => cC (qR P 0 (upd (upd (upd aF "plan" aplan) "yard" ayard) "weaving" aweaving) []) | _ :: _ => none)
theorem Fk (n b : Nat) (aplan ayard aweaving : AV) (H : HP) : ai CC (n+1) b "woven" [aplan, ayard, aweaving] H = Fj (ai CC n) b aplan ayard aweaving H := by kernel_rfl
def xr : aj := fun P b r H =>
 sq (cT (bx b .extend (ae r "events") [(ae r "more")] H) r) aq
def jf : aj := fun P b r H =>
 sq (asgT (bM ["yard", "more"]) (aP P b "woven_all" [(ae r "plan"), (ae r "yard"), (fun H => aK .list [(fun H => aK .range [(fun H => aK .len [(fun H => au (ae r "yard") (fun H => some (AV.int 1, H)) H)] H)] H)] H)] H) r) (xr P b)
def qS : aj := fun P b r H =>
 sq (aC (aT [(ae r "yard"), (ae r "events")] H) r) aq
def Fn : aj := fun P b r H =>
 sq (c8 (fun r H => cD (aw (aP P b "is_over" [(ae r "yard")] H))) (jf P b) d7 r H) (qS P b)
def Fo : aj := fun P b r H =>
 sq (asgN "events" (bG true (a8 [] H)) r) (Fn P b)
def xt (P : aR) (b : Nat) (aplan ayard : AV) (H : HP) : R AV :=
 (match H with | [] => cC (Fo P 0 (upd (upd aF "plan" aplan) "yard" ayard) []) | _ :: _ => none)
theorem Fp (n b : Nat) (aplan ayard : AV) (H : HP) : ai CC (n+1) b "finished" [aplan, ayard] H = xt (ai CC n) b aplan ayard H := by kernel_rfl
def m3 : aj := fun P b r H =>
 sq (asgN "waiting" (bG true (aB .Add (fun H => ae r "waiting" H) (fun H => aK .list [(fun H => ae r "tasks" H)] H) H)) r) aq
def qT : bh := fun P b r H =>
 ae r "starts" H
def xu : aj := fun P b r H =>
 sq (asgN "waiting" (bG true (aB .Add (fun H => ae r "waiting" H) (fun H => aK .list [(fun H => au (fun H => ae r "brood" H) (fun H => ae r "task" H) H)] H) H)) r) aq
def xw : aj := fun P b r H =>
 sq (asgI (fun H => ae r "found" H) (fun H => ae r "task" H) (fun H => some (AV.bool true, H)) r H) (xu P b)
def m4 : aj := fun P b r H =>
 sq (asgN "task" (bx b .pop (fun H => ae r "waiting" H) [] H) r) (xw P b)
def xx : aj := fun P b r H =>
 sq (aC (aK .sorted [(fun H => aK .list [(fun H => ae r "found" H)] H)] H) r) aq
def qU : aj := fun P b r H =>
 sq (c8 (fun r H => aw (av (ae r "waiting" H) (fun a H => aH a [.NotEq] [(fun H => a8 [] H)] H))) (m4 P b) d7 r H) (xx P b)
def qV : aj := fun P b r H =>
 sq (asgN "found" (newD H) r) (qU P b)
def qW : aj := fun P b r H =>
 sq (bJ (m3 P b) (bb "tasks") (qT P b r) r H) (qV P b)
def xy : aj := fun P b r H =>
 sq (asgN "waiting" (bG true (a8 [] H)) r) (qW P b)
def xz : aj := fun P b r H =>
 sq (asgT (bM ["brood", "starts"]) (ae r "plan" H) r) (xy P b)
def qX (P : aR) (b : Nat) (aplan : AV) (H : HP) : R AV :=
 ba (xz P b (upd aF "plan" aplan) H)
theorem Fq (n b : Nat) (aplan : AV) (H : HP) : ai CC (n+1) b "coming" [aplan] H = qX (ai CC n) b aplan H := by kernel_rfl
def Fs : aj := fun P b r H =>
 sq (aC (some (AV.bool false, H)) r) aq
def fy : aj := fun P b r H =>
 sq (aW (cD (aw (cS P b "goes" "Ledger.goes" (fun H => ae r "ledger" H) [(fun H => ae r "event" H)] H))) (Fs P b r) (aq r)) aq
def qY : bh := fun P b r H =>
 ae r "events" H
def Ft : aj := fun P b r H =>
 sq (aC (some (AV.bool true, H)) r) aq
def qZ : aj := fun P b r H =>
 sq (bJ (fy P b) (bb "event") (qY P b r) r H) (Ft P b)
def m5 : aj := fun P b r H =>
 sq (asgN "ledger" (jD P b "Ledger.__init__" [(fun H => ae r "plan" H)] H) r) (qZ P b)
def Fu (P : aR) (b : Nat) (aplan aevents : AV) (H : HP) : R AV :=
 (match H with | [] => cC (m5 P 0 (upd (upd aF "plan" aplan) "events" aevents) []) | _ :: _ => none)
theorem Fv (n b : Nat) (aplan aevents : AV) (H : HP) : ai CC (n+1) b "are_right" [aplan, aevents] H = Fu (ai CC n) b aplan aevents H := by kernel_rfl
def xA : aj := fun P b r H =>
 sq (asgI (fun H => ae r "found" H) (fun H => au (fun H => ae r "event" H) (fun H => some (AV.int 2, H)) H) (fun H => au (fun H => ae r "event" H) (fun H => some (AV.int 1, H)) H) r H) aq
def eL : aj := fun P b r H =>
 sq (aW (aw (av (au (fun H => ae r "event" H) (fun H => some (AV.int 0, H)) H) (fun a H => aH a [.Eq] [(fun H => some (AV.str "done", H))] H))) (xA P b r) (aq r)) aq
def q7 : bh := fun P b r H =>
 ae r "events" H
def xB : aj := fun P b r H =>
 sq (aC (ae r "found" H) r) aq
def xC : aj := fun P b r H =>
 sq (bJ (eL P b) (bb "event") (q7 P b r) r H) (xB P b)
def xD : aj := fun P b r H =>
 sq (asgN "found" (newD H) r) (xC P b)
def xE (P : aR) (b : Nat) (aevents : AV) (H : HP) : R AV :=
 ba (xD P b (upd aF "events" aevents) H)
theorem Fw (n b : Nat) (aevents : AV) (H : HP) : ai CC (n+1) b "done_by" [aevents] H = xE (ai CC n) b aevents H := by kernel_rfl
def m6 : wF := fun P b r H =>
 bv .And [(fun H => aw (av (ae r "task" H) (fun a H => aH a [.NotIn] [(fun H => ae r "found" H)] H)))] H
def rc : bh := fun P b r H =>
 ae r "task" H
def m7 : bh := fun P b r H =>
 aP P b "coming" [(fun H => ae r "plan" H)] H
def xF : aj := fun P b r H =>
 sq (aC (dB (bg (m6 P b) (rc P b) "task" r (m7 P b r) H)) r) aq
def xG : aj := fun P b r H =>
 sq (asgN "found" (aP P b "done_by" [(fun H => ae r "events" H)] H) r) (xF P b)
def xH (P : aR) (b : Nat) (aplan aevents : AV) (H : HP) : R AV :=
 ba (xG P b (upd (upd aF "plan" aplan) "events" aevents) H)
theorem Fx (n b : Nat) (aplan aevents : AV) (H : HP) : ai CC (n+1) b "undone" [aplan, aevents] H = xH (ai CC n) b aplan aevents H := by kernel_rfl
def xI : aj := fun P b r H =>
 sq (aC (au (ae r "_law_script") (ae r "_law_k") H) r) aq
def xJ : aj := fun P b r H =>
 sq (aC (some (AV.int 0, H)) r) aq
def rf : aj := fun P b r H =>
 sq (aW (aw (av (ae r "_law_k" H) (fun a H => aH a [.Lt] [(fun H => aK .len [(ae r "_law_script")] H)] H))) (xI P b r) (aq r)) (xJ P b)
def rg (P : aR) (b : Nat) (alaw_script alaw_k : AV) (H : HP) : R AV :=
 ba (rf P b (upd (upd aF "_law_script" alaw_script) "_law_k" alaw_k) H)
theorem Fy (n b : Nat) (alaw_script alaw_k : AV) (H : HP) : ai CC (n+1) b "_law_cell_at" [alaw_script, alaw_k] H = rg (ai CC n) b alaw_script alaw_k H := by kernel_rfl
def m8 : bh := fun P b r H =>
 bG true (a8 [] H)
def m9 : bh := fun P b r H =>
 aK .range [(fun H => ae r "_law_size" H)] H
def ng : bh := fun P b r H =>
 bG true (a8 [] H)
def nh : bh := fun P b r H =>
 aK .range [(fun H => ae r "_law_many" H)] H
def xK : aj := fun P b r H =>
 sq (cT (bx b .append (fun H => au (fun H => ae r "_law_brood" H) (fun H => aB .Mod (fun H => aB .FloorDiv (fun H => ae r "_law_way" H) (fun H => some (AV.int 5, H)) H) (fun H => ae r "_law_task" H) H) H) [(fun H => ae r "_law_task" H)] H) r) aq
def xL : aj := fun P b r H =>
 sq (cT (bx b .insert (fun H => au (fun H => ae r "_law_brood" H) (fun H => aB .Sub (fun H => ae r "_law_task" H) (fun H => some (AV.int 1, H)) H) H) [(fun H => some (AV.int 0, H)), (fun H => ae r "_law_task" H)] H) r) aq
def xM : aj := fun P b r H =>
 sq (cT (bx b .append (fun H => au (fun H => ae r "_law_starts" H) (fun H => aB .Mod (fun H => aB .FloorDiv (fun H => ae r "_law_way" H) (fun H => some (AV.int 25, H)) H) (fun H => au (fun H => a8 [(fun H => some (AV.int 1, H)), (fun H => ae r "_law_many" H)] H) (fun H => aB .Mod (fun H => aB .FloorDiv (fun H => ae r "_law_cell" H) (fun H => some (AV.int 4000, H)) H) (fun H => some (AV.int 2, H)) H) H) H) H) [(fun H => ae r "_law_task" H)] H) r) aq
def ri : aj := fun P b r H =>
 sq (aW (aw (av (aB .Mod (fun H => ae r "_law_way" H) (fun H => some (AV.int 25, H)) H) (fun a H => aH a [.NotEq] [(fun H => some (AV.int 23, H))] H))) (xM P b r) (aq r)) aq
def ni : aj := fun P b r H =>
 sq (aW (bv .And [(fun H => aw (av (aB .Mod (fun H => ae r "_law_way" H) (fun H => some (AV.int 5, H)) H) (fun a H => aH a [.Eq] [(fun H => some (AV.int 2, H))] H))), (fun H => aw (av (ae r "_law_task" H) (fun a H => aH a [.Gt] [(fun H => some (AV.int 0, H))] H)))] H) (xL P b r) (ri P b r)) aq
def jg : aj := fun P b r H =>
 sq (aW (bv .And [(fun H => aw (av (aB .Mod (fun H => ae r "_law_way" H) (fun H => some (AV.int 5, H)) H) (fun a H => aH a [.Lt] [(fun H => some (AV.int 2, H))] H))), (fun H => aw (av (ae r "_law_task" H) (fun a H => aH a [.Gt] [(fun H => some (AV.int 0, H))] H)))] H) (xK P b r) (ni P b r)) aq
def jV : aj := fun P b r H =>
 sq (asgN "_law_way" (aB .Add (fun H => aP P b "_law_cell_at" [(fun H => ae r "_law_script" H), (fun H => aB .Add (fun H => aB .Add (fun H => ae r "_law_first" H) (fun H => some (AV.int 1, H)) H) (fun H => ae r "_law_task" H) H)] H) (fun H => aB .Mult (fun H => ae r "_law_task" H) (fun H => aB .Mod (fun H => aB .FloorDiv (fun H => ae r "_law_cell" H) (fun H => some (AV.int 30000, H)) H) (fun H => some (AV.int 50, H)) H) H) H) r) (jg P b)
def nj : bh := fun P b r H =>
 aK .range [(fun H => ae r "_law_size" H)] H
def xN : aj := fun P b r H =>
 sq (aC (aT [(fun H => ae r "_law_brood" H), (fun H => ae r "_law_starts" H)] H) r) aq
def xO : aj := fun P b r H =>
 sq (bJ (jV P b) (bb "_law_task") (nj P b r) r H) (xN P b)
def xP : aj := fun P b r H =>
 sq (asgN "_law_starts" (dC (bg bq (ng P b) "_law_worker" r (nh P b r) H)) r) (xO P b)
def xQ : aj := fun P b r H =>
 sq (asgN "_law_brood" (dC (bg bq (m8 P b) "_law_task" r (m9 P b r) H)) r) (xP P b)
def xR : aj := fun P b r H =>
 sq (asgN "_law_size" (aB .Mod (fun H => aB .FloorDiv (fun H => ae r "_law_cell" H) (fun H => some (AV.int 144, H)) H) (fun H => aB .Add (fun H => ae r "_law_most" H) (fun H => some (AV.int 1, H)) H) H) r) (xQ P b)
def xS : aj := fun P b r H =>
 sq (asgN "_law_many" (aB .Add (fun H => some (AV.int 1, H)) (fun H => aB .Mod (fun H => ae r "_law_cell" H) (fun H => au (fun H => a8 [(fun H => some (AV.int 4, H)), (fun H => some (AV.int 4, H)), (fun H => some (AV.int 12, H))] H) (fun H => aB .Mod (fun H => aB .FloorDiv (fun H => ae r "_law_cell" H) (fun H => some (AV.int 48, H)) H) (fun H => some (AV.int 3, H)) H) H) H) H) r) (xR P b)
def rj : aj := fun P b r H =>
 sq (asgN "_law_cell" (aP P b "_law_cell_at" [(fun H => ae r "_law_script" H), (fun H => ae r "_law_first" H)] H) r) (xS P b)
def Fz (P : aR) (b : Nat) (alaw_script alaw_first alaw_most : AV) (H : HP) : R AV :=
 (match H with | [] => cC (rj P 0 (upd (upd (upd aF "_law_script" alaw_script) "_law_first" alaw_first) "_law_most" alaw_most) []) | _ :: _ => none)
theorem FA (n b : Nat) (alaw_script alaw_first alaw_most : AV) (H : HP) : ai CC (n+1) b "_law_plan_by" [alaw_script, alaw_first, alaw_most] H = Fz (ai CC n) b alaw_script alaw_first alaw_most H := by kernel_rfl
def rm : bh := fun P b r H =>
 aB .Mod (fun H => aB .Add (ae r "_law_k") (fun H => aB .FloorDiv (ae r "_law_cell") (fun H => some (AV.int 7, H)) H) H) (ae r "_law_many") H
def rn : bh := fun P b r H =>
 aK .range [(ae r "_law_many")] H
def xT : aj := fun P b r H =>
 sq (asgN "_law_weaving" (aB .Add (ae r "_law_weaving") (fun H => dB (bg bq (rm P b) "_law_k" r (rn P b r) H)) H) r) aq
def xU : aj := fun P b r H =>
 sq (asgN "_law_weaving" (aB .Add (ae r "_law_weaving") (fun H => aB .Mult (fun H => a8 [(fun H => aB .Mod (fun H => aB .FloorDiv (ae r "_law_cell") (fun H => some (AV.int 7, H)) H) (ae r "_law_many") H)] H) (fun H => aB .Add (fun H => some (AV.int 1, H)) (fun H => aB .Mod (fun H => aB .FloorDiv (fun H => aB .FloorDiv (ae r "_law_cell") (fun H => some (AV.int 7, H)) H) (ae r "_law_many") H) (fun H => some (AV.int 30, H)) H) H) H) H) r) aq
def xV : aj := fun P b r H =>
 sq (asgN "_law_weaving" (aB .Add (ae r "_law_weaving") (fun H => aB .Mult (fun H => a8 [(fun H => aB .Mod (fun H => aB .FloorDiv (ae r "_law_cell") (fun H => some (AV.int 7, H)) H) (ae r "_law_many") H)] H) (fun H => aB .Add (fun H => some (AV.int 1, H)) (fun H => aB .Mod (ae r "_law_cell") (fun H => some (AV.int 7, H)) H) H) H) H) r) aq
def rq : aj := fun P b r H =>
 sq (aW (aw (av (aB .Mod (ae r "_law_cell") (fun H => some (AV.int 7, H)) H) (fun a H => aH a [.Eq] [(fun H => some (AV.int 5, H))] H))) (xU P b r) (xV P b r)) aq
def gY : aj := fun P b r H =>
 sq (aW (aw (av (aB .Mod (ae r "_law_cell") (fun H => some (AV.int 7, H)) H) (fun a H => aH a [.Eq] [(fun H => some (AV.int 6, H))] H))) (xT P b r) (rq P b r)) aq
def nl : bh := fun P b r H =>
 ae r "_law_cells" H
def xW : aj := fun P b r H =>
 sq (aC (ae r "_law_weaving" H) r) aq
def xX : aj := fun P b r H =>
 sq (bJ (gY P b) (bb "_law_cell") (nl P b r) r H) (xW P b)
def xY : aj := fun P b r H =>
 sq (asgN "_law_weaving" (a8 [] H) r) (xX P b)
def xZ (P : aR) (b : Nat) (alaw_cells alaw_many : AV) (H : HP) : R AV :=
 ba (xY P b (upd (upd aF "_law_cells" alaw_cells) "_law_many" alaw_many) H)
theorem FB (n b : Nat) (alaw_cells alaw_many : AV) (H : HP) : ai CC (n+1) b "_law_weaving_by" [alaw_cells, alaw_many] H = xZ (ai CC n) b alaw_cells alaw_many H := by kernel_rfl
def x4 : aj := fun P b r H =>
 sq (asgN "_law_waits" (bG true (aB .Add (fun H => ae r "_law_waits" H) (fun H => au (fun H => au (fun H => ae r "_law_plan" H) (fun H => some (AV.int 0, H)) H) (fun H => ae r "_law_task" H) H) H)) r) aq
def x5 : aj := fun P b r H =>
 sq (cT (bx b .append (fun H => ae r "_law_found" H) [(fun H => ae r "_law_task" H)] H) r) (x4 P b)
def np : aj := fun P b r H =>
 sq (asgN "_law_task" (bx b .pop (fun H => ae r "_law_waits" H) [] H) r) (x5 P b)
def x6 : aj := fun P b r H =>
 sq (aC (aK .sorted [(fun H => ae r "_law_found" H)] H) r) aq
def ru : aj := fun P b r H =>
 sq (c8 (fun r H => aw (av (ae r "_law_waits" H) (fun a H => aH a [.NotEq] [(fun H => a8 [] H)] H))) (np P b) d7 r H) (x6 P b)
def x7 : aj := fun P b r H =>
 sq (asgN "_law_waits" (bG true (aK .sum [(fun H => au (fun H => ae r "_law_plan" H) (fun H => some (AV.int 1, H)) H), (fun H => a8 [] H)] H)) r) (ru P b)
def nq : aj := fun P b r H =>
 sq (asgN "_law_found" (bG true (a8 [] H)) r) (x7 P b)
def FC (P : aR) (b : Nat) (alaw_plan : AV) (H : HP) : R AV :=
 (match H with | [] => cC (nq P 0 (upd aF "_law_plan" alaw_plan) []) | _ :: _ => none)
theorem FD (n b : Nat) (alaw_plan : AV) (H : HP) : ai CC (n+1) b "_law_coming" [alaw_plan] H = FC (ai CC n) b alaw_plan H := by kernel_rfl
def rx : bh := fun P b r H =>
 bG true (aK .list [(ae r "_law_row")] H)
def ry : bh := fun P b r H =>
 au (ae r "_law_plan") (fun H => some (AV.int 1, H)) H
def rz : bh := fun P b r H =>
 bG false (some (AV.none, H))
def rA : bh := fun P b r H =>
 ae r "_law_rows" H
def rB : bh := fun P b r H =>
 bG false (some (AV.bool false, H))
def rC : bh := fun P b r H =>
 ae r "_law_rows" H
def FE : aj := fun P b r H =>
 sq (aC (some (AV.none, H)) r) aq
def x8 : aj := fun P b r H =>
 sq (asgI (ae r "_law_rests") (ae r "_law_w") (fun H => av (ae r "_law_word" H) (fun a H => aH a [.Eq] [(fun H => some (AV.str "rests", H))] H)) r H) aq
def jW : aj := fun P b r H =>
 sq (aW (bv .Or [(fun H => aw (av (ae r "_law_w" H) (fun a H => aH a [.Lt] [(fun H => some (AV.int 0, H))] H))), (fun H => aw (av (ae r "_law_w" H) (fun a H => aH a [.GtE] [(fun H => aK .len [(ae r "_law_rows")] H)] H))), (fun H => aw (au (ae r "_law_rests") (ae r "_law_w") H)), (fun H => cD (aw (aP P b "_law_gone" [(ae r "_law_plan"), (ae r "_law_rows"), (ae r "_law_holds"), (ae r "_law_event")] H)))] H) (FE P b r) (aq r)) (x8 P b)
def gg : aj := fun P b r H =>
 sq (asgT (bM ["_law_word", "_law_w"]) (bX (ae r "_law_event") bZ (fun H => some (AV.int 2, H)) H) r) (jW P b)
def rD : bh := fun P b r H =>
 ae r "_law_events" H
def rE : aj := fun P b r H =>
 sq (aC (aT [(ae r "_law_rows"), (ae r "_law_holds"), (ae r "_law_rests")] H) r) aq
def rF : aj := fun P b r H =>
 sq (bJ (gg P b) (bb "_law_event") (rD P b r) r H) (rE P b)
def x9 : aj := fun P b r H =>
 sq (asgN "_law_rests" (dC (bg bq (rB P b) "_law_row" r (rC P b r) H)) r) (rF P b)
def yb : aj := fun P b r H =>
 sq (asgN "_law_holds" (dC (bg bq (rz P b) "_law_row" r (rA P b r) H)) r) (x9 P b)
def nt : aj := fun P b r H =>
 sq (asgN "_law_rows" (dC (bg bq (rx P b) "_law_row" r (ry P b r) H)) r) (yb P b)
def FF (P : aR) (b : Nat) (alaw_plan alaw_events : AV) (H : HP) : R AV :=
 (match H with | [] => cC (nt P 0 (upd (upd aF "_law_plan" alaw_plan) "_law_events" alaw_events) []) | _ :: _ => none)
theorem FG (n b : Nat) (alaw_plan alaw_events : AV) (H : HP) : ai CC (n+1) b "_law_replayed" [alaw_plan, alaw_events] H = FF (ai CC n) b alaw_plan alaw_events H := by kernel_rfl
def yc : aj := fun P b r H =>
 sq (aC (ew .And [(fun H => av (ae r "_law_held" H) (fun a H => aH a [.Is] [(fun H => some (AV.none, H))] H)), (fun H => av (au (ae r "_law_rows") (ae r "_law_w") H) (fun a H => aH a [.Eq] [(fun H => a8 [] H)] H))] H) r) aq
def FH : aj := fun P b r H =>
 sq (aC (some (AV.bool false, H)) r) aq
def FI : aj := fun P b r H =>
 sq (aC (some (AV.bool false, H)) r) aq
def ye : aj := fun P b r H =>
 sq (aC (av (ae r "_law_task" H) (fun a H => aH a [.Eq] [(fun H => au (ae r "_law_event") (fun H => fU (some (AV.int 1, H))) H)] H)) r) aq
def rG : aj := fun P b r H =>
 sq (asgI (ae r "_law_holds") (ae r "_law_w") (fun H => aT [(ae r "_law_task"), (fun H => some (AV.int 0, H))] H) r H) (ye P b)
def nu : aj := fun P b r H =>
 sq (asgN "_law_task" (bx b .pop (fun H => au (ae r "_law_rows") (ae r "_law_other") H) [(fun H => aB .Mult (fun H => bx b .index (fun H => a8 [(fun H => some (AV.str "taken", H)), (fun H => some (AV.str "own", H))] H) [(ae r "_law_word")] H) (fun H => fU (some (AV.int 1, H))) H)] H) r) (rG P b)
def jh : aj := fun P b r H =>
 sq (aW (bv .Or [(fun H => cD (aw (av (some (AV.int 0, H)) (fun a H => eu a [.LtE, .Lt] [(ae r "_law_other"), (fun H => aK .len [(ae r "_law_rows")] H)] H)))), (fun H => aw (av (au (ae r "_law_rows") (ae r "_law_other") H) (fun a H => aH a [.Eq] [(fun H => a8 [] H)] H)))] H) (FI P b r) (aq r)) (nu P b)
def gZ : aj := fun P b r H =>
 sq (aW (bv .Or [(fun H => aw (av (ae r "_law_held" H) (fun a H => aH a [.IsNot] [(fun H => some (AV.none, H))] H))), (fun H => bv .And [(fun H => aw (av (ae r "_law_word" H) (fun a H => aH a [.Eq] [(fun H => some (AV.str "taken", H))] H))), (fun H => aw (av (ae r "_law_other" H) (fun a H => aH a [.Eq] [(ae r "_law_w")] H)))] H)] H) (FH P b r) (aq r)) (jh P b)
def rH : aj := fun P b r H =>
 sq (asgN "_law_other" (au (fun H => a8 [(ae r "_law_w"), (fun H => au (ae r "_law_event") (fun H => some (AV.int 2, H)) H)] H) (fun H => aK .int [(fun H => av (ae r "_law_word" H) (fun a H => aH a [.Eq] [(fun H => some (AV.str "taken", H))] H))] H) H) r) (gZ P b)
def FJ : aj := fun P b r H =>
 sq (aC (some (AV.bool false, H)) r) aq
def yf : aj := fun P b r H =>
 sq (aC (av (bX (ae r "_law_left") bZ (fun H => some (AV.int 1, H)) H) (fun a H => aH a [.Eq] [(fun H => a8 [(fun H => au (ae r "_law_event") (fun H => some (AV.int 2, H)) H)] H)] H)) r) aq
def yg : aj := fun P b r H =>
 sq (cT (bx b .append (fun H => au (ae r "_law_rows") (ae r "_law_w") H) [(fun H => au (ae r "_law_event") (fun H => some (AV.int 2, H)) H)] H) r) (yf P b)
def yh : aj := fun P b r H =>
 sq (asgI (ae r "_law_holds") (ae r "_law_w") (fun H => aT [(fun H => au (ae r "_law_held") (fun H => some (AV.int 0, H)) H), (fun H => aB .Add (fun H => au (ae r "_law_held") (fun H => some (AV.int 1, H)) H) (fun H => some (AV.int 1, H)) H)] H) r H) (yg P b)
def yi : aj := fun P b r H =>
 sq (aC (ew .And [(fun H => av (ae r "_law_left" H) (fun a H => aH a [.Eq] [(fun H => a8 [] H)] H)), (fun H => av (au (ae r "_law_held") (fun H => some (AV.int 0, H)) H) (fun a H => aH a [.Eq] [(fun H => au (ae r "_law_event") (fun H => some (AV.int 2, H)) H)] H))] H) r) aq
def yj : aj := fun P b r H =>
 sq (asgI (ae r "_law_holds") (ae r "_law_w") (fun H => some (AV.none, H)) r H) (yi P b)
def nv : aj := fun P b r H =>
 sq (aW (aw (av (ae r "_law_word" H) (fun a H => aH a [.Eq] [(fun H => some (AV.str "put", H))] H))) (yh P b r) (aq r)) (yj P b)
def yk : aj := fun P b r H =>
 sq (asgN "_law_left" (bX (fun H => au (fun H => au (ae r "_law_plan") (fun H => some (AV.int 0, H)) H) (fun H => au (ae r "_law_held") (fun H => some (AV.int 0, H)) H) H) (fun H => au (ae r "_law_held") (fun H => some (AV.int 1, H)) H) bZ H) r) (nv P b)
def jX : aj := fun P b r H =>
 sq (aW (aw (av (ae r "_law_held" H) (fun a H => aH a [.Is] [(fun H => some (AV.none, H))] H))) (FJ P b r) (aq r)) (yk P b)
def nx : aj := fun P b r H =>
 sq (aW (aw (av (ae r "_law_word" H) (fun a H => aH a [.In] [(fun H => a8 [(fun H => some (AV.str "own", H)), (fun H => some (AV.str "taken", H))] H)] H))) (rH P b r) (aq r)) (jX P b)
def cW : aj := fun P b r H =>
 sq (aW (aw (av (ae r "_law_word" H) (fun a H => aH a [.Eq] [(fun H => some (AV.str "rests", H))] H))) (yc P b r) (aq r)) (nx P b)
def yl : aj := fun P b r H =>
 sq (asgN "_law_held" (au (ae r "_law_holds") (ae r "_law_w") H) r) (cW P b)
def ym : aj := fun P b r H =>
 sq (asgT (bM ["_law_word", "_law_w"]) (bX (ae r "_law_event") bZ (fun H => some (AV.int 2, H)) H) r) (yl P b)
def rI (P : aR) (b : Nat) (alaw_plan alaw_rows alaw_holds alaw_event : AV) (H : HP) : R AV :=
 ba (ym P b (upd (upd (upd (upd aF "_law_plan" alaw_plan) "_law_rows" alaw_rows) "_law_holds" alaw_holds) "_law_event" alaw_event) H)
theorem FK (n b : Nat) (alaw_plan alaw_rows alaw_holds alaw_event : AV) (H : HP) : ai CC (n+1) b "_law_gone" [alaw_plan, alaw_rows, alaw_holds, alaw_event] H = rI (ai CC n) b alaw_plan alaw_rows alaw_holds alaw_event H := by kernel_rfl
def ny : bh := fun P b r H =>
 bG true (a8 [] H)
def rJ : bh := fun P b r H =>
 aK .range [(fun H => some (AV.int 200, H))] H
def nz : aj := fun P b r H =>
 sq (cT (bx b .append (fun H => au (ae r "_law_brood") (fun H => au (fun H => a8 [(fun H => aB .Sub (ae r "_law_task") (fun H => some (AV.int 1, H)) H), (fun H => aB .FloorDiv (fun H => aB .Sub (ae r "_law_task") (fun H => some (AV.int 1, H)) H) (fun H => some (AV.int 2, H)) H), (fun H => some (AV.int 0, H))] H) (fun H => aB .Mod (ae r "_law_cell") (fun H => some (AV.int 3, H)) H) H) H) [(ae r "_law_task")] H) r) aq
def yo : bh := fun P b r H =>
 aK .range [(fun H => some (AV.int 1, H)), (fun H => some (AV.int 200, H))] H
def yp : aj := fun P b r H =>
 sq (aC (aT [(ae r "_law_brood"), (fun H => bX (fun H => a8 [(fun H => a8 [(fun H => some (AV.int 0, H))] H), (fun H => a8 [] H), (fun H => a8 [] H)] H) bZ (fun H => aB .Add (fun H => some (AV.int 1, H)) (fun H => aB .Mod (fun H => aB .FloorDiv (ae r "_law_cell") (fun H => some (AV.int 3, H)) H) (fun H => some (AV.int 3, H)) H) H) H)] H) r) aq
def yq : aj := fun P b r H =>
 sq (bJ (nz P b) (bb "_law_task") (yo P b r) r H) (yp P b)
def rK : aj := fun P b r H =>
 sq (asgN "_law_brood" (dC (bg bq (ny P b) "_law_task" r (rJ P b r) H)) r) (yq P b)
def FL (P : aR) (b : Nat) (alaw_cell : AV) (H : HP) : R AV :=
 (match H with | [] => cC (rK P 0 (upd aF "_law_cell" alaw_cell) []) | _ :: _ => none)
theorem FM (n b : Nat) (alaw_cell : AV) (H : HP) : ai CC (n+1) b "_law_long" [alaw_cell] H = FL (ai CC n) b alaw_cell H := by kernel_rfl
def rL : bh := fun P b r H =>
 aB .Mod (fun H => aB .Add (ae r "_law_cell") (fun H => aB .Mult (ae r "_law_k") (fun H => au (fun H => a8 [(fun H => some (AV.int 1, H)), (fun H => aB .Sub (ae r "_law_many") (fun H => some (AV.int 1, H)) H)] H) (fun H => aB .Mod (fun H => aB .FloorDiv (ae r "_law_cell") (fun H => some (AV.int 12, H)) H) (fun H => some (AV.int 2, H)) H) H) H) H) (ae r "_law_many") H
def rM : bh := fun P b r H =>
 aK .range [(ae r "_law_many")] H
def yr : aj := fun P b r H =>
 sq (aC (aT [(ae r "_law_yard"), (ae r "_law_events")] H) r) aq
def yt : aj := fun P b r H =>
 sq (asgN "_law_events" (aB .Add (ae r "_law_events") (ae r "_law_more") H) r) aq
def yu : aj := fun P b r H =>
 sq (asgT (bM ["_law_yard", "_law_more"]) (aP P b "woven" [(ae r "_law_plan"), (ae r "_law_yard"), (ae r "_law_turn")] H) r) (yt P b)
def g0 : aj := fun P b r H =>
 sq (aW (aw (aP P b "is_over" [(ae r "_law_yard")] H)) (yr P b r) (aq r)) (yu P b)
def rN : bh := fun P b r H =>
 aK .range [(fun H => some (AV.int 4000, H))] H
def FN : aj := fun P b r H =>
 sq (aC (aT [(ae r "_law_yard"), (ae r "_law_events")] H) r) aq
def yw : aj := fun P b r H =>
 sq (bJ (g0 P b) (bb "_law_k") (rN P b r) r H) (FN P b)
def yx : aj := fun P b r H =>
 sq (asgN "_law_events" (a8 [] H) r) (yw P b)
def yy : aj := fun P b r H =>
 sq (asgN "_law_turn" (aB .Add (ae r "_law_turn") (fun H => aB .Mult (fun H => a8 [(fun H => au (ae r "_law_turn") (fun H => some (AV.int 0, H)) H)] H) (fun H => aB .Mod (fun H => aB .FloorDiv (ae r "_law_cell") (fun H => some (AV.int 24, H)) H) (fun H => some (AV.int 9, H)) H) H) H) r) (yx P b)
def yz : aj := fun P b r H =>
 sq (asgN "_law_turn" (dB (bg bq (rL P b) "_law_k" r (rM P b r) H)) r) (yy P b)
def yA : aj := fun P b r H =>
 sq (asgN "_law_many" (aK .len [(fun H => au (ae r "_law_plan") (fun H => some (AV.int 1, H)) H)] H) r) (yz P b)
def yB (P : aR) (b : Nat) (alaw_plan alaw_yard alaw_cell : AV) (H : HP) : R AV :=
 ba (yA P b (upd (upd (upd aF "_law_plan" alaw_plan) "_law_yard" alaw_yard) "_law_cell" alaw_cell) H)
theorem FO (n b : Nat) (alaw_plan alaw_yard alaw_cell : AV) (H : HP) : ai CC (n+1) b "_law_to_the_end" [alaw_plan, alaw_yard, alaw_cell] H = yB (ai CC n) b alaw_plan alaw_yard alaw_cell H := by kernel_rfl
def yC : aj := fun P b r H =>
 sq (asgN "_law_plan" (aP P b "_law_long" [(fun H => aP P b "_law_cell_at" [(fun H => ae r "_law_script" H), (fun H => some (AV.int 1, H))] H)] H) r) aq
def yD : aj := fun P b r H =>
 sq (asgT (bM ["_law_yard", "_law_more"]) (aP P b "finished" [(fun H => ae r "_law_plan" H), (fun H => ae r "_law_yard" H)] H) r) aq
def yE : aj := fun P b r H =>
 sq (asgT (bM ["_law_yard", "_law_more"]) (aP P b "_law_to_the_end" [(fun H => ae r "_law_plan" H), (fun H => ae r "_law_yard" H), (fun H => aB .FloorDiv (fun H => ae r "_law_cell" H) (fun H => some (AV.int 2, H)) H)] H) r) aq
def rO : wF := fun P b r H =>
 bv .And [(fun H => aw (av (au (fun H => ae r "_law_event" H) (fun H => some (AV.int 0, H)) H) (fun a H => aH a [.Eq] [(fun H => some (AV.str "done", H))] H)))] H
def rP : bh := fun P b r H =>
 au (fun H => ae r "_law_event" H) (fun H => some (AV.int 2, H)) H
def rQ : bh := fun P b r H =>
 ae r "_law_events" H
def FP : aj := fun P b r H =>
 sq (aC (some (AV.bool false, H)) r) aq
def FQ : aj := fun P b r H =>
 sq (aC (some (AV.bool false, H)) r) aq
def nA : aj := fun P b r H =>
 sq (aW (aw (av (ae r "_law_head" H) (fun a H => aH a [.Lt] [(fun H => ae r "_law_tail" H)] H))) (FQ P b r) (aq r)) aq
def nB : bh := fun P b r H =>
 au (fun H => ae r "_law_yard" H) (fun H => some (AV.int 0, H)) H
def FR : aj := fun P b r H =>
 sq (aC (some (AV.bool false, H)) r) aq
def rR : bh := fun P b r H =>
 av (some (AV.int 0, H)) (fun a H => eu a [.LtE, .Lt] [(fun H => ae r "_law_w" H), (fun H => ae r "_law_many" H)] H)
def yF : bh := fun P b r H =>
 pE (fun H => ae r "_law_by" H) [] H
def rS : aj := fun P b r H =>
 sq (aC (ew .And [(fun H => av (aK .sorted [(fun H => ae r "_law_by" H)] H) (fun a H => aH a [.Eq] [(fun H => ae r "_law_due" H)] H)), (fun H => av (aP P b "undone" [(fun H => ae r "_law_plan" H), (fun H => ae r "_law_events" H)] H) (fun a H => aH a [.Eq] [(fun H => a8 [] H)] H)), (fun H => aK .all [(fun H => dB (bg bq (rR P b) "_law_w" r (yF P b r) H))] H)] H) r) aq
def yG : aj := fun P b r H =>
 sq (asgN "_law_by" (aP P b "done_by" [(fun H => ae r "_law_events" H)] H) r) (rS P b)
def nE : aj := fun P b r H =>
 sq (aW (bv .Or [(fun H => aw (av (aP P b "_law_replayed" [(fun H => ae r "_law_plan" H), (fun H => ae r "_law_events" H)] H) (fun a H => aH a [.Is] [(fun H => some (AV.none, H))] H))), (fun H => aw (av (aP P b "are_right" [(fun H => ae r "_law_plan" H), (fun H => ae r "_law_events" H)] H) (fun a H => aH a [.IsNot] [(fun H => some (AV.bool true, H))] H)))] H) (FR P b r) (aq r)) (yG P b)
def yH : aj := fun P b r H =>
 sq (bJ (nA P b) (bM ["_law_head", "_law_tail", "_law_places"]) (nB P b r) r H) (nE P b)
def rT : aj := fun P b r H =>
 sq (aW (bv .Or [(fun H => aw (av (aK .sorted [(fun H => ae r "_law_done" H)] H) (fun a H => aH a [.NotEq] [(fun H => ae r "_law_due" H)] H))), (fun H => cD (aw (aP P b "is_over" [(fun H => ae r "_law_yard" H)] H)))] H) (FP P b r) (aq r)) (yH P b)
def yI : aj := fun P b r H =>
 sq (asgN "_law_done" (dB (bg (rO P b) (rP P b) "_law_event" r (rQ P b r) H)) r) (rT P b)
def jY : aj := fun P b r H =>
 sq (asgN "_law_due" (aP P b "_law_coming" [(fun H => ae r "_law_plan" H)] H) r) (yI P b)
def rU : aj := fun P b r H =>
 sq (asgN "_law_events" (aB .Add (fun H => ae r "_law_events" H) (fun H => ae r "_law_more" H) H) r) (jY P b)
def nF : aj := fun P b r H =>
 sq (aW (aw (av (aB .Mod (fun H => ae r "_law_cell" H) (fun H => some (AV.int 2, H)) H) (fun a H => aH a [.Eq] [(fun H => some (AV.int 0, H))] H))) (yD P b r) (yE P b r)) (rU P b)
def yJ : aj := fun P b r H =>
 sq (asgN "_law_cell" (aP P b "_law_cell_at" [(fun H => ae r "_law_script" H), (fun H => some (AV.int 0, H))] H) r) (nF P b)
def yK : aj := fun P b r H =>
 sq (asgT (bM ["_law_yard", "_law_events"]) (aP P b "woven" [(fun H => ae r "_law_plan" H), (fun H => aP P b "started" [(fun H => ae r "_law_plan" H)] H), (fun H => aP P b "_law_weaving_by" [(fun H => bX (fun H => ae r "_law_script" H) (fun H => some (AV.int 22, H)) (fun H => some (AV.int 62, H)) H), (fun H => ae r "_law_many" H)] H)] H) r) (yJ P b)
def nG : aj := fun P b r H =>
 sq (asgN "_law_many" (aK .len [(fun H => au (fun H => ae r "_law_plan" H) (fun H => some (AV.int 1, H)) H)] H) r) (yK P b)
def nH : aj := fun P b r H =>
 sq (aW (aw (av (aB .Mod (fun H => aB .FloorDiv (fun H => aP P b "_law_cell_at" [(fun H => ae r "_law_script" H), (fun H => some (AV.int 0, H))] H) (fun H => some (AV.int 2, H)) H) (fun H => some (AV.int 16, H)) H) (fun a H => aH a [.Eq] [(fun H => some (AV.int 5, H))] H))) (yC P b r) (aq r)) (nG P b)
def nI : aj := fun P b r H =>
 sq (asgN "_law_plan" (aP P b "_law_plan_by" [(fun H => ae r "_law_script" H), (fun H => some (AV.int 1, H)), (fun H => aB .Add (fun H => some (AV.int 20, H)) (fun H => aB .Mult (fun H => some (AV.int 40, H)) (fun H => aK .int [(fun H => av (aK .len [(fun H => ae r "_law_script" H)] H) (fun a H => aH a [.Gt] [(fun H => some (AV.int 63, H))] H))] H) H) H)] H) r) (nH P b)
def FS (P : aR) (b : Nat) (alaw_script : AV) (H : HP) : R AV :=
 ba (nI P b (upd aF "_law_script" alaw_script) H)
theorem FT (n b : Nat) (alaw_script : AV) (H : HP) : ai CC (n+1) b "law" [alaw_script] H = FS (ai CC n) b alaw_script H := by kernel_rfl
def rV : bh := fun P b r H =>
 bG true (aK .list [(fun H => ae r "tasks" H)] H)
def rW : bh := fun P b r H =>
 au (fun H => ae r "plan" H) (fun H => some (AV.int 1, H)) H
def rX : aj := fun P b r H =>
 sq (asgA "resting" (fun H => ae r "self" H) (fun H => bG true (aB .Mult (fun H => a8 [(fun H => some (AV.bool false, H))] H) (fun H => aK .len [(fun H => aY "lines" (ae r "self" H))] H) H)) r H) aq
def nJ : aj := fun P b r H =>
 sq (asgA "puts" (fun H => ae r "self" H) (fun H => bG true (aB .Mult (fun H => a8 [(fun H => some (AV.int 0, H))] H) (fun H => aK .len [(fun H => aY "lines" (ae r "self" H))] H) H)) r H) (rX P b)
def nK : aj := fun P b r H =>
 sq (asgA "held" (fun H => ae r "self" H) (fun H => bG true (aB .Mult (fun H => a8 [(fun H => some (AV.none, H))] H) (fun H => aK .len [(fun H => aY "lines" (ae r "self" H))] H) H)) r H) (nJ P b)
def nL : aj := fun P b r H =>
 sq (asgA "lines" (fun H => ae r "self" H) (fun H => dC (bg bq (rV P b) "tasks" r (rW P b r) H)) r H) (nK P b)
def nM : aj := fun P b r H =>
 sq (asgA "brood" (fun H => ae r "self" H) (fun H => au (fun H => ae r "plan" H) (fun H => some (AV.int 0, H)) H) r H) (nL P b)
def rY (P : aR) (b : Nat) (aself aplan : AV) (H : HP) : R AV :=
 ba (nM P b (upd (upd aF "self" aself) "plan" aplan) H)
theorem FU (n b : Nat) (aself aplan : AV) (H : HP) : ai CC (n+1) b "Ledger.__init__" [aself, aplan] H = rY (ai CC n) b aself aplan H := by kernel_rfl
def rZ : aj := fun P b r H =>
 sq (aC (av (some (AV.int 0, H)) (fun a H => eu a [.LtE, .Lt] [(fun H => ae r "number" H), (fun H => aK .len [(fun H => aY "lines" (ae r "self" H))] H)] H)) r) aq
def r4 (P : aR) (b : Nat) (aself anumber : AV) (H : HP) : R AV :=
 ba (rZ P b (upd (upd aF "self" aself) "number" anumber) H)
theorem FV (n b : Nat) (aself anumber : AV) (H : HP) : ai CC (n+1) b "Ledger.is_worker" [aself, anumber] H = r4 (ai CC n) b aself anumber H := by kernel_rfl
def yL : aj := fun P b r H =>
 sq (asgI (fun H => aY "puts" (ae r "self" H)) (fun H => ae r "worker" H) (fun H => some (AV.int 0, H)) r H) aq
def yM : aj := fun P b r H =>
 sq (asgI (fun H => aY "held" (ae r "self" H)) (fun H => ae r "worker" H) (fun H => ae r "task" H) r H) (yL P b)
def yN (P : aR) (b : Nat) (aself aworker atask : AV) (H : HP) : R AV :=
 ba (yM P b (upd (upd (upd aF "self" aself) "worker" aworker) "task" atask) H)
theorem FW (n b : Nat) (aself aworker atask : AV) (H : HP) : ai CC (n+1) b "Ledger.holds_now" [aself, aworker, atask] H = yN (ai CC n) b aself aworker atask H := by kernel_rfl
def FX : aj := fun P b r H =>
 sq (aC (some (AV.bool false, H)) r) aq
def yO : aj := fun P b r H =>
 sq (aC (some (AV.bool true, H)) r) aq
def yP : aj := fun P b r H =>
 sq (cT (cS P b "holds_now" "Ledger.holds_now" (fun H => ae r "self" H) [(fun H => ae r "worker" H), (fun H => ae r "task" H)] H) r) (yO P b)
def yQ : aj := fun P b r H =>
 sq (cT (bx b .pop (fun H => ae r "line" H) [] H) r) (yP P b)
def yR : aj := fun P b r H =>
 sq (aW (bv .Or [(fun H => aw (av (au (fun H => aY "held" (ae r "self" H)) (fun H => ae r "worker" H) H) (fun a H => aH a [.IsNot] [(fun H => some (AV.none, H))] H))), (fun H => aw (av (ae r "line" H) (fun a H => aH a [.Eq] [(fun H => a8 [] H)] H))), (fun H => aw (av (au (fun H => ae r "line" H) (fun H => fU (some (AV.int 1, H))) H) (fun a H => aH a [.NotEq] [(fun H => ae r "task" H)] H)))] H) (FX P b r) (aq r)) (yQ P b)
def yS : aj := fun P b r H =>
 sq (asgN "line" (au (fun H => aY "lines" (ae r "self" H)) (fun H => ae r "worker" H) H) r) (yR P b)
def yT (P : aR) (b : Nat) (aself aworker atask : AV) (H : HP) : R AV :=
 ba (yS P b (upd (upd (upd aF "self" aself) "worker" aworker) "task" atask) H)
theorem FY (n b : Nat) (aself aworker atask : AV) (H : HP) : ai CC (n+1) b "Ledger.own" [aself, aworker, atask] H = yT (ai CC n) b aself aworker atask H := by kernel_rfl
def FZ : aj := fun P b r H =>
 sq (aC (some (AV.bool false, H)) r) aq
def F0 : aj := fun P b r H =>
 sq (aC (some (AV.bool false, H)) r) aq
def yU : aj := fun P b r H =>
 sq (aC (some (AV.bool true, H)) r) aq
def yV : aj := fun P b r H =>
 sq (cT (cS P b "holds_now" "Ledger.holds_now" (fun H => ae r "self" H) [(fun H => ae r "worker" H), (fun H => ae r "task" H)] H) r) (yU P b)
def r5 : aj := fun P b r H =>
 sq (cT (bx b .pop (fun H => ae r "line" H) [(fun H => some (AV.int 0, H))] H) r) (yV P b)
def nN : aj := fun P b r H =>
 sq (aW (bv .Or [(fun H => aw (av (ae r "line" H) (fun a H => aH a [.Eq] [(fun H => a8 [] H)] H))), (fun H => aw (av (au (fun H => ae r "line" H) (fun H => some (AV.int 0, H)) H) (fun a H => aH a [.NotEq] [(fun H => ae r "task" H)] H)))] H) (F0 P b r) (aq r)) (r5 P b)
def yW : aj := fun P b r H =>
 sq (asgN "line" (au (fun H => aY "lines" (ae r "self" H)) (fun H => ae r "other" H) H) r) (nN P b)
def nO : aj := fun P b r H =>
 sq (aW (bv .Or [(fun H => aw (av (au (fun H => aY "held" (ae r "self" H)) (fun H => ae r "worker" H) H) (fun a H => aH a [.IsNot] [(fun H => some (AV.none, H))] H))), (fun H => cD (aw (cS P b "is_worker" "Ledger.is_worker" (fun H => ae r "self" H) [(fun H => ae r "other" H)] H))), (fun H => aw (av (ae r "other" H) (fun a H => aH a [.Eq] [(fun H => ae r "worker" H)] H)))] H) (FZ P b r) (aq r)) (yW P b)
def r6 (P : aR) (b : Nat) (aself aworker aother atask : AV) (H : HP) : R AV :=
 ba (nO P b (upd (upd (upd (upd aF "self" aself) "worker" aworker) "other" aother) "task" atask) H)
theorem F1 (n b : Nat) (aself aworker aother atask : AV) (H : HP) : ai CC (n+1) b "Ledger.taken" [aself, aworker, aother, atask] H = r6 (ai CC n) b aself aworker aother atask H := by kernel_rfl
def F3 : aj := fun P b r H =>
 sq (aC (some (AV.bool false, H)) r) aq
def F4 : aj := fun P b r H =>
 sq (aC (some (AV.bool false, H)) r) aq
def yX : aj := fun P b r H =>
 sq (aC (some (AV.bool true, H)) r) aq
def r7 : aj := fun P b r H =>
 sq (cT (bx b .append (fun H => au (fun H => aY "lines" (ae r "self" H)) (fun H => ae r "worker" H) H) [(fun H => ae r "child" H)] H) r) (yX P b)
def yY : aj := fun P b r H =>
 sq (asgI (fun H => aY "puts" (ae r "self" H)) (fun H => ae r "worker" H) (fun H => aB .Add (fun H => au (fun H => aY "puts" (ae r "self" H)) (fun H => ae r "worker" H) H) (fun H => some (AV.int 1, H)) H) r H) (r7 P b)
def nP : aj := fun P b r H =>
 sq (aW (aw (av (au (fun H => au (fun H => aY "brood" (ae r "self" H)) (fun H => ae r "task" H) H) (fun H => au (fun H => aY "puts" (ae r "self" H)) (fun H => ae r "worker" H) H) H) (fun a H => aH a [.NotEq] [(fun H => ae r "child" H)] H))) (F4 P b r) (aq r)) (yY P b)
def yZ : aj := fun P b r H =>
 sq (aW (bv .Or [(fun H => aw (av (ae r "task" H) (fun a H => aH a [.Is] [(fun H => some (AV.none, H))] H))), (fun H => aw (av (au (fun H => aY "puts" (ae r "self" H)) (fun H => ae r "worker" H) H) (fun a H => aH a [.Eq] [(fun H => aK .len [(fun H => au (fun H => aY "brood" (ae r "self" H)) (fun H => ae r "task" H) H)] H)] H)))] H) (F3 P b r) (aq r)) (nP P b)
def y3 : aj := fun P b r H =>
 sq (asgN "task" (au (fun H => aY "held" (ae r "self" H)) (fun H => ae r "worker" H) H) r) (yZ P b)
def r8 (P : aR) (b : Nat) (aself aworker achild : AV) (H : HP) : R AV :=
 ba (y3 P b (upd (upd (upd aF "self" aself) "worker" aworker) "child" achild) H)
theorem F5 (n b : Nat) (aself aworker achild : AV) (H : HP) : ai CC (n+1) b "Ledger.put" [aself, aworker, achild] H = r8 (ai CC n) b aself aworker achild H := by kernel_rfl
def F6 : aj := fun P b r H =>
 sq (aC (some (AV.bool false, H)) r) aq
def y4 : aj := fun P b r H =>
 sq (aC (some (AV.bool true, H)) r) aq
def y5 : aj := fun P b r H =>
 sq (asgI (fun H => aY "held" (ae r "self" H)) (fun H => ae r "worker" H) (fun H => some (AV.none, H)) r H) (y4 P b)
def y6 : aj := fun P b r H =>
 sq (aW (bv .Or [(fun H => aw (av (au (fun H => aY "held" (ae r "self" H)) (fun H => ae r "worker" H) H) (fun a H => aH a [.Is] [(fun H => some (AV.none, H))] H))), (fun H => aw (av (au (fun H => aY "held" (ae r "self" H)) (fun H => ae r "worker" H) H) (fun a H => aH a [.NotEq] [(fun H => ae r "task" H)] H))), (fun H => aw (av (au (fun H => aY "puts" (ae r "self" H)) (fun H => ae r "worker" H) H) (fun a H => aH a [.Lt] [(fun H => aK .len [(fun H => au (fun H => aY "brood" (ae r "self" H)) (fun H => ae r "task" H) H)] H)] H)))] H) (F6 P b r) (aq r)) (y5 P b)
def y7 (P : aR) (b : Nat) (aself aworker atask : AV) (H : HP) : R AV :=
 ba (y6 P b (upd (upd (upd aF "self" aself) "worker" aworker) "task" atask) H)
theorem F7 (n b : Nat) (aself aworker atask : AV) (H : HP) : ai CC (n+1) b "Ledger.done" [aself, aworker, atask] H = y7 (ai CC n) b aself aworker atask H := by kernel_rfl
def F8 : aj := fun P b r H =>
 sq (aC (some (AV.bool false, H)) r) aq
def y8 : aj := fun P b r H =>
 sq (aC (some (AV.bool true, H)) r) aq
def y9 : aj := fun P b r H =>
 sq (asgI (fun H => aY "resting" (ae r "self" H)) (fun H => ae r "worker" H) (fun H => some (AV.bool true, H)) r H) (y8 P b)
def zb : aj := fun P b r H =>
 sq (aW (bv .Or [(fun H => aw (av (au (fun H => aY "held" (ae r "self" H)) (fun H => ae r "worker" H) H) (fun a H => aH a [.IsNot] [(fun H => some (AV.none, H))] H))), (fun H => aw (av (au (fun H => aY "lines" (ae r "self" H)) (fun H => ae r "worker" H) H) (fun a H => aH a [.NotEq] [(fun H => a8 [] H)] H)))] H) (F8 P b r) (aq r)) (y9 P b)
def zc (P : aR) (b : Nat) (aself aworker : AV) (H : HP) : R AV :=
 ba (zb P b (upd (upd aF "self" aself) "worker" aworker) H)
theorem F9 (n b : Nat) (aself aworker : AV) (H : HP) : ai CC (n+1) b "Ledger.rests" [aself, aworker] H = zc (ai CC n) b aself aworker H := by kernel_rfl
def Ga : aj := fun P b r H =>
 sq (aC (some (AV.bool false, H)) r) aq
def Gb : aj := fun P b r H =>
 sq (aC (cS P b "own" "Ledger.own" (fun H => ae r "self" H) [(fun H => ae r "worker" H), (fun H => au (fun H => ae r "event" H) (fun H => some (AV.int 2, H)) H)] H) r) aq
def Gc : aj := fun P b r H =>
 sq (aC (cS P b "taken" "Ledger.taken" (fun H => ae r "self" H) [(fun H => ae r "worker" H), (fun H => au (fun H => ae r "event" H) (fun H => some (AV.int 2, H)) H), (fun H => au (fun H => ae r "event" H) (fun H => some (AV.int 3, H)) H)] H) r) aq
def Gd : aj := fun P b r H =>
 sq (aC (cS P b "put" "Ledger.put" (fun H => ae r "self" H) [(fun H => ae r "worker" H), (fun H => au (fun H => ae r "event" H) (fun H => some (AV.int 2, H)) H)] H) r) aq
def Ge : aj := fun P b r H =>
 sq (aC (cS P b "done" "Ledger.done" (fun H => ae r "self" H) [(fun H => ae r "worker" H), (fun H => au (fun H => ae r "event" H) (fun H => some (AV.int 2, H)) H)] H) r) aq
def zd : aj := fun P b r H =>
 sq (aC (cS P b "rests" "Ledger.rests" (fun H => ae r "self" H) [(fun H => ae r "worker" H)] H) r) aq
def ze : aj := fun P b r H =>
 sq (aW (aw (av (au (fun H => ae r "event" H) (fun H => some (AV.int 0, H)) H) (fun a H => aH a [.Eq] [(fun H => some (AV.str "done", H))] H))) (Ge P b r) (aq r)) (zd P b)
def zf : aj := fun P b r H =>
 sq (aW (aw (av (au (fun H => ae r "event" H) (fun H => some (AV.int 0, H)) H) (fun a H => aH a [.Eq] [(fun H => some (AV.str "put", H))] H))) (Gd P b r) (aq r)) (ze P b)
def zh : aj := fun P b r H =>
 sq (aW (aw (av (au (fun H => ae r "event" H) (fun H => some (AV.int 0, H)) H) (fun a H => aH a [.Eq] [(fun H => some (AV.str "taken", H))] H))) (Gc P b r) (aq r)) (zf P b)
def gi : aj := fun P b r H =>
 sq (aW (aw (av (au (fun H => ae r "event" H) (fun H => some (AV.int 0, H)) H) (fun a H => aH a [.Eq] [(fun H => some (AV.str "own", H))] H))) (Gb P b r) (aq r)) (zh P b)
def nQ : aj := fun P b r H =>
 sq (aW (bv .Or [(fun H => cD (aw (cS P b "is_worker" "Ledger.is_worker" (fun H => ae r "self" H) [(fun H => ae r "worker" H)] H))), (fun H => aw (au (fun H => aY "resting" (ae r "self" H)) (fun H => ae r "worker" H) H))] H) (Ga P b r) (aq r)) (gi P b)
def zi : aj := fun P b r H =>
 sq (asgN "worker" (au (fun H => ae r "event" H) (fun H => some (AV.int 1, H)) H) r) (nQ P b)
def r9 (P : aR) (b : Nat) (aself aevent : AV) (H : HP) : R AV :=
 ba (zi P b (upd (upd aF "self" aself) "event" aevent) H)
theorem Gf (n b : Nat) (aself aevent : AV) (H : HP) : ai CC (n+1) b "Ledger.goes" [aself, aevent] H = r9 (ai CC n) b aself aevent H := by kernel_rfl
theorem eC : aL "_law_brood" = 487043328154966815251739327 := rfl
theorem cm : aL "_law_cell" = 1026758662452455517565631 := rfl
theorem se : aL "_law_cells" = 559550487324411134231818943 := rfl
theorem Gg : aL "_law_done" = 960682785538766837494463 := rfl
theorem nR : aL "_law_due" = 1876584992347586933439 := rfl
theorem nS : aL "_law_event" = 564404951554222900355379903 := rfl
theorem gj : aL "_law_events" = 286528554026477066402053075647 := rfl
theorem eM : aL "_law_first" = 564452414558420562529333951 := rfl
theorem zj : aL "_law_found" = 487033993994660602138440383 := rfl
theorem Gh : aL "_law_head" = 950997884893574109967039 := rfl
theorem nT : aL "_law_holds" = 559474929821325033818927807 := rfl
theorem jZ : aL "_law_k" = 7577797548421823 := rfl
theorem b6 : aL "_law_many" = 1149576941083713078145727 := rfl
theorem zk : aL "_law_more" = 960756573148380373299903 := rfl
theorem gk : aL "_law_most" = 1102446014378543439262399 := rfl
theorem Gi : aL "_law_places" = 286455914511091075310534111935 := rfl
theorem dM : aL "_law_plan" = 1045445467315496100410047 := rfl
theorem sg : aL "_law_rests" = 559626174316401095684764351 := rfl
theorem nU : aL "_law_rows" = 1093075068740942707929791 := rfl
theorem dg : aL "_law_script" = 288985044307393275165886231231 := rfl
theorem g7 : aL "_law_size" = 960903931350400400995007 := rfl
theorem fA : aL "_law_starts" = 286528591731550880632757138111 := rfl
theorem Gj : aL "_law_tail" = 1026703179301314964075199 := rfl
theorem dh : aL "_law_task" = 1017442913776312769163967 := rfl
theorem Gk : aL "_law_turn" = 1045759386505397310173887 := rfl
theorem zl : aL "_law_w" = 8422222478553791 := rfl
theorem sh : aL "_law_waits" = 559625989705197014234280639 := rfl
theorem d8 : aL "_law_way" = 2244800634887538062015 := rfl
theorem gm : aL "_law_weaving" = 131475933160002768801585714541247 := rfl
theorem Gm : aL "_law_word" = 951311840886328524649151 := rfl
theorem g8 : aL "_law_yard" = 951311336623907747508927 := rfl
theorem fB : aL "brood" = 13842603952837 := rfl
theorem Gn : aL "child" = 13841795490503 := rfl
theorem j4 : aL "done" = 27304246985 := rfl
theorem gn : aL "event" = 16041353534155 := rfl
theorem dN : aL "events" = 8143631306054347 := rfl
theorem gq : aL "found" = 13842338660045 := rfl
theorem gr : aL "free" = 27299531469 := rfl
theorem cX : aL "head" = 27028985553 := rfl
theorem zm : aL "holds" = 15901233888977 := rfl
theorem nV : aL "last" = 31333385945 := rfl
theorem fC : aL "looks" = 15903114510041 := rfl
theorem g9 : aL "lowered" = 3628052292009049817 := rfl
theorem si : aL "many" = 32672941787 := rfl
theorem zo : aL "mends" = 15901234927323 := rfl
theorem nW : aL "more" = 27306344155 := rfl
theorem sj : aL "n" = 221 := rfl
theorem sk : aL "number" = 8071197760542429 := rfl
theorem ji : aL "other" = 15764061278943 := rfl
theorem zp : aL "own" = 58056415 := rfl
theorem cY : aL "places" = 8141566766854881 := rfl
theorem bU : aL "plan" = 29713347297 := rfl
theorem sr : aL "put" = 61200097 := rfl
theorem ss : aL "reads" = 15901228111589 := rfl
theorem eD : aL "rests" = 15905532516069 := rfl
theorem Gp : aL "row" = 62766821 := rfl
theorem cn : aL "rows" = 31067061989 := rfl
theorem hG : aL "seen" = 29715437287 := rfl
theorem gs : aL "self" = 27571623655 := rfl
theorem su : aL "starts" = 8143632377696999 := rfl
theorem cA : aL "state" = 13981377745639 := rfl
theorem sv : aL "states" = 8141571330265831 := rfl
theorem cZ : aL "tail" = 29180659433 := rfl
theorem nX : aL "taken" = 15214307018473 := rfl
theorem fD : aL "task" = 28917466857 := rfl
theorem nY : aL "tasks" = 15903116592873 := rfl
theorem zq : aL "tries" = 15901500754665 := rfl
theorem eN : aL "waiting" = 3736770768832136943 := rfl
theorem fE : aL "weaving" = 3736770769364817647 := rfl
theorem bz : aL "worker" = 8071200179076847 := rfl
theorem sx : aL "wrote" = 13981385083631 := rfl
theorem cp : aL "yard" = 27037894387 := rfl
end Mine.Internal
namespace Mine.Internal
open PySem PyProof.Rows
theorem Zw (a : HP -> R AV) (H : HP) : aT [a] H = av (bo [a] H) fun vs H => some (.tup vs, H) := rfl
theorem Zx (a b : HP -> R AV) (H : HP) : aT [a, b] H = av (bo [a, b] H) fun vs H => some (.tup vs, H) := rfl
theorem Zy (a b c : HP -> R AV) (H : HP) : aT [a, b, c] H = av (bo [a, b, c] H) fun vs H => some (.tup vs, H) := rfl
theorem Zz (a b c d : HP -> R AV) (H : HP) : aT [a, b, c, d] H = av (bo [a, b, c, d] H) fun vs H => some (.tup vs, H) := rfl
theorem ZA (H : HP) : a8 [] H = some (.list [], H) := rfl
theorem ZB (a : HP -> R AV) (H : HP) : a8 [a] H = av (bo [a] H) fun vs H => some (.list vs, H) := rfl
theorem ZC (a b : HP -> R AV) (H : HP) : a8 [a, b] H = av (bo [a, b] H) fun vs H => some (.list vs, H) := rfl
theorem ZD (a b c : HP -> R AV) (H : HP) : a8 [a, b, c] H = av (bo [a, b, c] H) fun vs H => some (.list vs, H) := rfl
def Rw.v (r : Rw) : AV := .tup [.int r.h, .int r.t, iT r.p]
noncomputable def oV (o : Option Int) : AV := match o with | some i => .int i | none => .none
noncomputable def St.tag (s : St) : String := match s with
 | .free => "free" | .lowered => "lowered" | .rests => "rests" | .last _ => "last" | .mends _ _ => "mends" | .holds _ _ => "holds" | .wrote _ _ => "wrote" | .looks _ => "looks" | .seen _ _ => "seen" | .reads _ _ => "reads" | .tries _ _ _ => "tries"
def St.rest (s : St) : List AV := match s with
 | .last s => [.int s]
 | .mends t o => [.int t, oV o]
 | .holds t n => [.int t, .int n]
 | .wrote t n => [.int t, .int n]
 | .looks k => [.int k]
 | .seen k h => [.int k, .int h]
 | .reads k h => [.int k, .int h]
 | .tries k h t => [.int k, .int h, .int t]
 | .free => []
 | .lowered => []
 | .rests => []
noncomputable def St.v (s : St) : AV := .tup (.str (Str.ofString s.tag) :: s.rest)
noncomputable def put (xs : List AV) (i : Nat) (v : AV) : List AV := xs.take i ++ [v] ++ xs.drop (i + 1)
theorem zt {i : Int} (h : bA i = true) : et (.int i) = some (some i) := by simp only [et, h, if_true]
theorem eO : et .none = some none := rfl
theorem Gq (H : HP) (xs : List AV) (i : Nat) : dt H (.tup xs) none (some (i : Int)) = some (.tup (xs.take i)) := by
 show some (AV.tup (cH xs none (some (i : Int)))) = _
 unfold cH ds
 simp only [Option.elim, if_neg (by exact az 16881104 : ¬ (i : Int) < 0), Int.toNat_natCast, List.drop_zero, Nat.sub_zero]
 by_cases h : i <= xs.length
 ·rw [Nat.min_eq_left h]
 ·rw [List.take_of_length_le (by exact am 0x919a3a911 (Nat.min_eq_right (am 4725188881 h))), List.take_of_length_le (by exact am 4725188881 h)]
theorem Gs (H : HP) (xs : List AV) (i : Nat) : dt H (.tup xs) (some ((i : Int) + 1)) none = some (.tup (xs.drop (i + 1))) := by
 show some (AV.tup (cH xs (some ((i : Int) + 1)) none)) = _
 unfold cH ds
 have : ((i : Int) + 1).toNat = i + 1 := rfl
 simp only [Option.elim, if_neg (by exact az 69006349264 : ¬ (i : Int) + 1 < 0), this]
 rw [List.take_of_length_le (by simp)]
 by_cases h : i + 1 <= xs.length
 ·rw [Nat.min_eq_left h]
 ·rw [List.drop_eq_nil_of_le (by exact am 0x919a3a911 (Nat.min_eq_right (am 0x11911a3411a3911 h))), List.drop_eq_nil_of_le (by exact am 0x11911a3411a3911 h)]
theorem j5 {i : Int} (h : 0 <= i) (h' : i <= 200000) : bA i = true := gL (aG 0x11901993fffffffffffffff8701491 h) (aG 0x11030d4037993fffffffffffffff87991 h')
theorem sy {a b : Nat} (h : a <= 400000) (h' : b <= 400000) : a + b <= aM := bC (am 0x111061a8037a1061a8037910f424037a9312 h h')
theorem zu {a b : List AV} {H : HP} (h : a.length + b.length <= aM) : ct .Add (.tup a) (.tup b) H = some (.tup (a ++ b)) := by
 show (if a.length + b.length <= aM then _ else _) = _
 rw [Id h]
structure nZ (xs : List AV) (i : Int) (k : Nat) (v : AV) (H : HP) : Prop where
 a1 : dt H (.tup xs) none (some i) = some (.tup (xs.take k))
 a2 : dt H (.tup xs) (some (i + 1)) none = some (.tup (xs.drop (k + 1)))
 a3 : et (.int i) = some (some i)
 a4 : et (.int (i + 1)) = some (some (i + 1))
 a5 : ct .Add (.tup (xs.take k)) (.tup [v]) H = some (.tup (xs.take k ++ [v]))
 a6 : ct .Add (.tup (xs.take k ++ [v])) (.tup (xs.drop (k + 1))) H = some (.tup (put xs k v))
theorem j6 (xs : List AV) (k : Nat) (v : AV) (H : HP) (hk : k <= 100000) (hx : xs.length <= 100000) : nZ xs (k : Int) k v H :=
 ⟨Gq H xs k, Gs H xs k, zt (j5 (az 26542480) (az 0x110186a03791030d40379591 hk)), zt (j5 (az 73439314320) (az 0x110186a03791030d40371195391 hk)), zu (sy (by simp; exact am 0x111a910186a037a1061a8037912 hk (Nat.min_le_left _ _)) (by simp)), zu (sy (by simp; exact am 0x111a910186a037a1061a7f37912 hk (Nat.min_le_left _ _)) (by simp; exact am 0x110186a0379111a3061a80373911 hx))⟩
theorem Gu (n af : Nat) {xs : List AV} {i : Int} {k : Nat} {v : AV} {H : HP} (s : nZ xs i k v H) : ai CC (n+1) af "with_row" [.tup xs, .int i, v] H = some (.tup (put xs k v), H) := by
 rw [Fb]; simp only [wH, wG, eO, s.a1, s.a2, s.a3, s.a4, s.a5, s.a6, Qa, Qb, Qd, aC, Qh, aB, Qo, bX, bZ, Qq, Qr, cond_true, cond_false, Zj, Zk, Nat.reduceBEq, ↓Zw, sk, Gp, cn]
theorem Gv (n af : Nat) (xs : List AV) (k : Nat) (v : AV) (H : HP) (hk : k <= 100000) (hx : xs.length <= 100000) : ai CC (n+1) af "with_row" [.tup xs, .int (k : Int), v] H = some (.tup (put xs k v), H) := Gu n af (j6 xs k v H hk hx)
theorem n0 {α : Type} (f : α -> AV) (xs : List α) (i : Nat) (v : α) (h : i < xs.length) : put (xs.map f) i (f v) = (xs.set i v).map f := by
 unfold put
 rw [List.set_eq_take_append_cons_drop, Id h]
 simp
theorem zv (n af : Nat) (w : AV) (k m : Int) (H : HP) (h : m <= k) : ai CC (n+1) af "search" [w, .int k, .int m] H = some (.tup [.tup [.str "rests"], .tup [.str "rests", w]], H) := by
 rw [wM]; simp only [qx, qw, wK, h, Qa, Qb, Qd, Qe, aC, Qh, Qq, Qr, QF, QJ, aw, QW, cond_true, cond_false, decide_true, Zj, Zk, Nat.reduceBEq, ↓Zw, ↓Zx, fC, si, bz]
theorem zw (n af : Nat) (w : AV) (k m : Int) (H : HP) (h : ¬ m <= k) : ai CC (n+1) af "search" [w, .int k, .int m] H = some (.tup [.tup [.str "looks", .int k], .none], H) := by
 rw [wM]; simp only [qx, qw, wL, h, Qa, Qb, Qc, Qd, Qf, aC, aq, Qh, Qq, Qr, QF, QJ, aw, QW, cond_true, cond_false, decide_false, Zj, Zk, Nat.reduceBEq, ↓Zx, fC, si, bz]
noncomputable def cQ (rows : List AV) (w : Nat) (hd t : Int) (p : AV) : Prop := ∀ H, aS H (.tup rows) (.int (w : Int)) = some (.tup [.int hd, .int t, p])
section
variable (n af : Nat) (rows : List AV) (w : Nat) (hd t : Int) (p : AV) (H : HP)
theorem Gx (hr : cQ rows w hd t p) {rows' : AV} (hw : ai CC n af "with_row" [.tup rows, .int (w : Int), .tup [.int hd, .int (t-1), p]] H = some (rows', H)) :
  ai CC (n+1) af "own_step" [.int (w : Int), .tup [.str "free"], .tup rows] H = some (.tup [rows', .tup [.str "lowered"], .none], H) := by
 rw [gc]; simp only [fx, fw, wN, fu, hr H, hw, Qa, Qb, Qc, Qd, Qe, aC, asgT, Qh, aB, Qp, au, Qq, Qr, aP, QF, QK, aw, QW, cond_true, cond_false, Q4, Jk, bi, Q8, Zj, Zk, Nat.reduceBEq, Zl, ↓Zw, ↓Zy, gr, cX, cY, cn, cA, cZ, bz]
theorem Gy (hr : cQ rows w hd t p) {ta : AV} (ht : aS H p (.int t) = some ta) (hh : hd < t) :
  ai CC (n+1) af "own_step" [.int (w : Int), .tup [.str "lowered"], .tup rows] H = some (.tup [.tup rows, .tup [.str "holds", ta, .int 0], .tup [.str "own", .int (w : Int), ta]], H) := by
 rw [gc]; simp only [fx, fw, wO, mJ, f9, fu, hr H, ht, hh, Qa, Qb, Qc, Qd, Qe, Qf, aC, aq, asgT, Qh, au, Qq, Qr, QF, QG, QK, aw, QW, cond_true, cond_false, Q4, Jk, bi, Q8, decide_true, Zj, Zk, Nat.reduceBEq, Zl, ↓Zy, gr, cX, g9, cY, cn, cA, cZ, bz]
theorem Gz (hr : cQ rows w t t p) :
  ai CC (n+1) af "own_step" [.int (w : Int), .tup [.str "lowered"], .tup rows] H = some (.tup [.tup rows, .tup [.str "last", .int t], .none], H) := by
 rw [gc]; simp only [fx, fw, wP, qy, mJ, f9, fu, hr H, Int.lt_irrefl, Qa, Qb, Qc, Qd, Qe, Qf, aC, aq, asgT, Qh, au, Qq, Qr, QF, QG, QK, aw, QW, cond_true, cond_false, Q4, Jk, bi, Q8, Zg, decide_true, decide_false, Zj, Zk, Nat.reduceBEq, Zl, ↓Zx, ↓Zy, gr, cX, g9, cY, cn, cA, cZ, bz]
theorem GA (hr : cQ rows w hd t p) (h1 : ¬ hd < t) (h2 : ¬ hd = t) :
  ai CC (n+1) af "own_step" [.int (w : Int), .tup [.str "lowered"], .tup rows] H = some (.tup [.tup rows, .tup [.str "mends", .int (t + 1), .none], .none], H) := by
 rw [gc]; simp only [fx, fw, wQ, qy, mJ, f9, fu, hr H, h1, h2, Qa, Qb, Qc, Qd, Qe, Qf, aC, aq, asgT, Qh, aB, Qo, au, Qq, Qr, QF, QG, QK, aw, QW, cond_true, cond_false, Q4, Jk, bi, Q8, Zg, decide_false, Zj, Zk, Nat.reduceBEq, Zl, ↓Zy, gr, cX, g9, cY, cn, cA, cZ, bz]
theorem GB (hr : cQ rows w hd t p) {ta : AV} (ht : aS H p (.int hd) = some ta) {rows' : AV} (hw : ai CC n af "with_row" [.tup rows, .int (w : Int), .tup [.int (hd + 1), .int t, p]] H = some (rows', H)) :
  ai CC (n+1) af "own_step" [.int (w : Int), .tup [.str "last", .int hd], .tup rows] H = some (.tup [rows', .tup [.str "mends", .int (hd + 1), ta], .tup [.str "own", .int (w : Int), ta]], H) := by
 rw [gc]; simp only [fx, fw, wR, wT, qz, qA, jU, f9, fu, hr H, ht, hw, Qa, Qb, Qc, Qd, Qe, Qf, aC, aq, asgN, asgT, Qh, aB, Qo, au, Qq, Qr, aP, QF, QK, aw, QW, cond_true, cond_false, Q4, Jk, bi, Q8, Q9, Zg, decide_true, Zj, Zk, Nat.reduceBEq, Zl, ↓Zy, gr, cX, nV, g9, cY, cn, hG, cA, cZ, fD, bz]
theorem GC (hr : cQ rows w hd t p) {s : Int} (h : ¬ hd = s) :
  ai CC (n+1) af "own_step" [.int (w : Int), .tup [.str "last", .int s], .tup rows] H = some (.tup [.tup rows, .tup [.str "mends", .int (s + 1), .none], .none], H) := by
 rw [gc]; simp only [fx, fw, wU, qz, qA, jU, f9, fu, hr H, h, Qa, Qb, Qc, Qd, Qe, Qf, aC, aq, asgN, asgT, Qh, aB, Qo, au, Qq, Qr, QF, QK, aw, QW, cond_true, cond_false, Q4, Jk, bi, Q8, Q9, Zg, decide_false, Zj, Zk, Nat.reduceBEq, Zl, ↓Zy, gr, cX, nV, g9, cY, cn, hG, cA, cZ, bz]
theorem GD (hr : cQ rows w hd t p) {s x : Int} {rows' : AV} (hw : ai CC n af "with_row" [.tup rows, .int (w : Int), .tup [.int hd, .int s, p]] H = some (rows', H)) :
  ai CC (n+1) af "own_step" [.int (w : Int), .tup [.str "mends", .int s, .int x], .tup rows] H = some (.tup [rows', .tup [.str "holds", .int x, .int 0], .none], H) := by
 rw [gc]; simp only [fx, fw, wV, qB, qC, jU, f9, fu, hr H, hw, Qa, Qb, Qc, Qd, Qe, Qf, aC, aq, asgN, asgT, Qh, au, Qq, Qr, aP, QF, QK, QP, QR, aw, QW, cond_true, cond_false, Q4, Jk, bi, Q8, Q9, Za, Jh, Zj, Zk, Nat.reduceBEq, Zl, ↓Zy, gr, cX, nV, g9, zo, cY, cn, cA, cZ, bz]
theorem zx (hr : cQ rows w hd t p) {s : Int} {rows' : List AV} (hw : ai CC n af "with_row" [.tup rows, .int (w : Int), .tup [.int hd, .int s, p]] H = some (.tup rows', H)) {st ev : AV} (hs : ai CC n af "search" [.int (w : Int), .int 1, .int (rows'.length : Int)] H = some (.tup [st, ev], H)) :
  ai CC (n+1) af "own_step" [.int (w : Int), .tup [.str "mends", .int s, .none], .tup rows] H = some (.tup [.tup rows', st, ev], H) := by
 rw [gc]; simp only [fx, fw, wW, wX, qB, qC, jU, f9, fu, hr H, hw, hs, Qa, Qb, Qc, Qd, Qf, aC, aq, asgN, asgT, Qh, au, Qq, Qr, aP, aK, Qs, bI, Qz, QF, QK, QP, QQ, aw, QW, cond_true, cond_false, Q4, Jk, bi, Q8, Q9, Za, Jg, Ji, Zj, Zk, Nat.reduceBEq, Zl, ↓Zy, gn, gr, cX, nV, g9, zo, cY, cn, cA, cZ, bz]
variable (a : Nat) (k : Int)
theorem GF (hr : cQ rows a hd t p) (ho : ai CC n af "other_of" [.int (w : Int), .int k, .int (rows.length : Int)] H = some (.int (a : Int), H)) :
  ai CC (n+1) af "other_step" [.int (w : Int), .tup [.str "looks", .int k], .tup rows] H = some (.tup [.tup rows, .tup [.str "seen", .int k, .int hd], .none], H) := by
 rw [je]; simp only [gX, gW, wY, gT, gU, gV, hr H, ho, Qa, Qb, Qc, Qd, Qe, aC, asgN, asgT, Qh, au, Qq, Qr, aP, aK, Qs, bI, Qz, QF, QK, aw, QW, cond_true, cond_false, Q4, Jk, bi, Q8, Q9, Ji, Zj, Zk, Nat.reduceBEq, Zl, ↓Zy, cX, fC, ji, cY, cn, cA, cZ, bz]
theorem GG (hr : cQ rows a hd t p) (ho : ai CC n af "other_of" [.int (w : Int), .int k, .int (rows.length : Int)] H = some (.int (a : Int), H)) {s : Int} (h : s < t) :
  ai CC (n+1) af "other_step" [.int (w : Int), .tup [.str "seen", .int k, .int s], .tup rows] H = some (.tup [.tup rows, .tup [.str "reads", .int k, .int s], .none], H) := by
 rw [je]; simp only [gX, gW, wZ, qD, jd, gT, gU, gV, hr H, ho, h, Qa, Qb, Qc, Qd, Qe, Qf, aC, aq, asgN, asgT, Qh, au, Qq, Qr, aP, aK, Qs, bI, Qz, QF, QG, QK, aw, QW, cond_true, cond_false, Q4, Jk, bi, Q8, Q9, Za, Ji, decide_true, Zj, Zk, Nat.reduceBEq, Zl, ↓Zy, cX, fC, ji, cY, cn, hG, cA, cZ, bz]
theorem zy (hr : cQ rows a hd t p) (ho : ai CC n af "other_of" [.int (w : Int), .int k, .int (rows.length : Int)] H = some (.int (a : Int), H)) {s : Int} (h : ¬ s < t) {st ev : AV} (hs : ai CC n af "search" [.int (w : Int), .int (k + 1), .int (rows.length : Int)] H = some (.tup [st, ev], H)) :
  ai CC (n+1) af "other_step" [.int (w : Int), .tup [.str "seen", .int k, .int s], .tup rows] H = some (.tup [.tup rows, st, ev], H) := by
 rw [je]; simp only [gX, gW, w0, w2, qD, jd, gT, gU, gV, hr H, ho, h, hs, Qa, Qb, Qc, Qd, Qe, Qf, aC, aq, asgN, asgT, Qh, aB, Qo, au, Qq, Qr, aP, aK, Qs, bI, Qz, QF, QG, QK, aw, QW, cond_true, cond_false, Q4, Jk, bi, Q8, Q9, Za, Ji, decide_false, Zj, Zk, Nat.reduceBEq, Zl, ↓Zy, gn, cX, fC, ji, cY, cn, hG, cA, cZ, bz]
theorem GH (hr : cQ rows a hd t p) (ho : ai CC n af "other_of" [.int (w : Int), .int k, .int (rows.length : Int)] H = some (.int (a : Int), H)) {s : Int} {ta : AV} (ht : aS H p (.int s) = some ta) :
  ai CC (n+1) af "other_step" [.int (w : Int), .tup [.str "reads", .int k, .int s], .tup rows] H = some (.tup [.tup rows, .tup [.str "tries", .int k, .int s, ta], .none], H) := by
 rw [je]; simp only [gX, gW, w3, mK, jd, gT, gU, gV, hr H, ho, ht, Qa, Qb, Qc, Qd, Qe, Qf, aC, aq, asgN, asgT, Qh, au, Qq, Qr, aP, aK, Qs, bI, Qz, QF, QK, aw, QW, cond_true, cond_false, Q4, Jk, bi, Q8, Q9, Za, Ji, Zj, Zk, Nat.reduceBEq, Zl, ↓Zy, ↓Zz, cX, fC, ji, cY, ss, cn, hG, cA, cZ, bz]
theorem GI (hr : cQ rows a hd t p) (ho : ai CC n af "other_of" [.int (w : Int), .int k, .int (rows.length : Int)] H = some (.int (a : Int), H)) {s : Int} {ta : AV} (h : ¬ hd = s) :
  ai CC (n+1) af "other_step" [.int (w : Int), .tup [.str "tries", .int k, .int s, ta], .tup rows] H = some (.tup [.tup rows, .tup [.str "looks", .int k], .none], H) := by
 rw [je]; simp only [gX, gW, w4, qE, mK, jd, gT, gU, gV, hr H, ho, h, Qa, Qb, Qc, Qd, Qe, Qf, aC, aq, asgN, asgT, Qh, au, Qq, Qr, aP, aK, Qs, bI, Qz, QF, QK, QL, aw, QW, cond_true, cond_false, Q4, Jk, bi, Q8, Q9, Za, Zg, Jh, Ji, decide_false, Zj, Zk, Nat.reduceBEq, Zl, ↓Zx, ↓Zy, cX, fC, ji, cY, ss, cn, hG, cA, cZ, zq, bz]
theorem GJ (hr : cQ rows a hd t p) (ho : ai CC n af "other_of" [.int (w : Int), .int k, .int (rows.length : Int)] H = some (.int (a : Int), H)) {ta rows' : AV} (hw : ai CC n af "with_row" [.tup rows, .int (a : Int), .tup [.int (hd + 1), .int t, p]] H = some (rows', H)) :
  ai CC (n+1) af "other_step" [.int (w : Int), .tup [.str "tries", .int k, .int hd, ta], .tup rows] H = some (.tup [rows', .tup [.str "holds", ta, .int 0], .tup [.str "taken", .int (w : Int), .int (a : Int), ta]], H) := by
 rw [je]; simp only [gX, gW, w5, w6, qE, mK, jd, gT, gU, gV, hr H, ho, hw, Qa, Qb, Qc, Qd, Qf, aC, aq, asgN, asgT, Qh, aB, Qo, au, Qq, Qr, aP, aK, Qs, bI, Qz, QF, QK, QL, aw, QW, cond_true, cond_false, Q4, Jk, bi, Q8, Q9, Za, Zb, Zg, Jg, Ji, decide_true, Zj, Zk, Nat.reduceBEq, Zl, ↓Zy, ↓Zz, cX, fC, ji, cY, ss, cn, hG, cA, cZ, fD, zq, bz]
variable (br : AV) (x m : Int) (l : List AV)
theorem GK (hr : cQ rows w hd t p) {rows' : AV} (hb : aS H br (.int x) = some (.list l)) {y : AV} (hy : aS H (.list l) (.int m) = some y) (hw : ai CC n af "with_row" [.tup rows, .int (w : Int), .tup [.int hd, .int (t + 1), p]] H = some (rows', H)) :
  ai CC (n+1) af "task_step" [br, .int (w : Int), .tup [.str "wrote", .int x, .int m], .tup rows] H = some (.tup [rows', .tup [.str "holds", .int x, .int (m + 1)], .tup [.str "put", .int (w : Int), y]], H) := by
 rw [qG]; simp only [mQ, mP, w7, w8, mL, mM, mO, hr H, hb, hy, hw, Qa, Qb, Qc, Qd, Qe, aC, asgN, asgT, Qh, aB, Qo, au, Qq, Qr, aP, QF, QK, aw, QW, cond_true, cond_false, Q4, Jk, bi, Q8, Q9, Za, Zj, Zk, Nat.reduceBEq, Zl, ↓Zy, fB, cX, sj, cY, cn, cA, cZ, fD, bz, sx]
theorem GL (hr : cQ rows w hd t p) (hb : aS H br (.int x) = some (.list l)) (hm : m = (l.length : Int)) :
  ai CC (n+1) af "task_step" [br, .int (w : Int), .tup [.str "holds", .int x, .int m], .tup rows] H = some (.tup [.tup rows, .tup [.str "free"], .tup [.str "done", .int (w : Int), .int x]], H) := by
 rw [qG]; simp only [mQ, mP, w9, qF, mL, mM, mO, hr H, hb, hm, Qa, Qb, Qc, Qd, Qe, Qf, aC, aq, asgN, asgT, Qh, au, Qq, Qr, aK, Qs, bI, QA, QF, QK, aw, QW, cond_true, cond_false, Q4, Jk, bi, Q8, Q9, Za, Zg, Ji, decide_true, Zj, Zk, Nat.reduceBEq, Zl, ↓Zw, ↓Zy, fB, cX, zm, sj, cY, cn, cA, cZ, fD, bz, sx]
theorem GM {k : Nat} {ps : List AV} {i : Int} {y : AV} (sp : nZ ps i k y H) (hr : aS H (.tup rows) (.int (w : Int)) = some (.tup [.int hd, .int i, .tup ps])) (hb : aS H br (.int x) = some (.list l)) (hm : ¬ m = (l.length : Int)) (hy : aS H (.list l) (.int m) = some y) {rows' : AV}
  (hw : ai CC n af "with_row" [.tup rows, .int (w : Int), .tup [.int hd, .int i, .tup (put ps k y)]] H = some (rows', H)) :
  ai CC (n+1) af "task_step" [br, .int (w : Int), .tup [.str "holds", .int x, .int m], .tup rows] H = some (.tup [rows', .tup [.str "wrote", .int x, .int m], .none], H) := by
 rw [qG]; simp only [mQ, mP, xa, xb, qF, mL, mM, mO, hr, eO, sp.a1, sp.a2, sp.a3, sp.a4, sp.a5, sp.a6, hb, hy, hm, hw, Qa, Qb, Qc, Qd, Qf, aC, aq, asgN, asgT, Qh, aB, Qo, au, bX, bZ, Qq, Qr, aP, aK, Qs, bI, QA, QF, QK, aw, QW, cond_true, cond_false, Q4, Jk, bi, Q8, Q9, Za, Zg, Ji, decide_false, Zj, Zk, Nat.reduceBEq, Zl, ↓Zw, ↓Zy, fB, cX, zm, sj, cY, cn, cA, cZ, fD, bz, sx]
theorem GN (k : Nat) (ps : List AV) (hr : cQ rows w hd (k : Int) (.tup ps)) (hb : aS H br (.int x) = some (.list l)) (hm : ¬ m = (l.length : Int)) {y : AV} (hy : aS H (.list l) (.int m) = some y) (hk : k <= 100000) (hx : ps.length <= 100000) {rows' : AV}
  (hw : ai CC n af "with_row" [.tup rows, .int (w : Int), .tup [.int hd, .int (k : Int), .tup (put ps k y)]] H = some (rows', H)) :
  ai CC (n+1) af "task_step" [br, .int (w : Int), .tup [.str "holds", .int x, .int m], .tup rows] H = some (.tup [rows', .tup [.str "wrote", .int x, .int m], .none], H) := GM n af rows w hd H br x m l (j6 ps k y H hk hx) (hr H) hb hm hy hw
end
section
variable (n af : Nat) (rows sts rest : List AV) (w : Nat) (H : HP) (tag : String) (pl : AV) (rows' st ev : AV)
noncomputable def GO (s : String) : Prop := ∀ H, cN H (.str s) (.tup [.str "free", .str "lowered", .str "last", .str "mends"]) = some true
noncomputable def zz (s : String) : Prop := ∀ H, cN H (.str s) (.tup [.str "free", .str "lowered", .str "last", .str "mends"]) = some false
noncomputable def GP (s : String) : Prop := ∀ H, cN H (.str s) (.tup [.str "holds", .str "wrote"]) = some true
noncomputable def GQ (s : String) : Prop := ∀ H, cN H (.str s) (.tup [.str "holds", .str "wrote"]) = some false
variable {i : Int} {k : Nat} (sp : nZ sts i k st H) (c1 : ¬ i < 0) (c2 : ¬ (sts.length : Int) <= i) (hs : aS H (.tup sts) (.int i) = some (.tup (.str tag :: rest))) (h0 : (aL (Str.ofString tag) == 15905532516069) = false)
include sp c1 c2 hs h0
theorem GR (h1 : GO tag) (ho : ai CC n af "own_step" [.int i, .tup (.str tag :: rest), .tup rows] H = some (.tup [rows', st, ev], H)) : ai CC (n+1) af "stepped" [pl, .tup [.tup rows, .tup sts], .int i] H = some (.tup [.tup [rows', .tup (put sts k st)], ev], H) := by
 rw [qI]; simp only [mX, mW, xc, mR, mS, mT, mU, mV, hs, h0, h1 H, c1, c2, ho, eO, sp.a1, sp.a2, sp.a3, sp.a4, sp.a5, sp.a6, Qa, Qb, Qc, Qd, Qe, Qf, aC, aq, asgN, asgT, Qh, aB, Qo, au, bX, bZ, Qq, Qr, aP, aK, Qs, bI, Qz, QF, QG, QJ, QK, QM, aw, QW, QY, Q0, cond_true, cond_false, Q4, Jk, bi, Q8, Ji, decide_false, Zj, Zk, Nat.reduceBEq, Zl, ↓Zw, ↓Zx, ↓Zz, gn, bU, eD, cn, cA, sv, bz, cp]
theorem GS (h1 : zz tag) (h2 : GP tag) {b : AV} (hp : aS H pl (.int 0) = some b)
  (ho : ai CC n af "task_step" [b, .int i, .tup (.str tag :: rest), .tup rows] H = some (.tup [rows', st, ev], H)) : ai CC (n+1) af "stepped" [pl, .tup [.tup rows, .tup sts], .int i] H = some (.tup [.tup [rows', .tup (put sts k st)], ev], H) := by
 rw [qI]; simp only [mX, mW, xd, qH, mR, mS, mT, mU, mV, hs, h0, h1 H, h2 H, c1, c2, hp, ho, eO, sp.a1, sp.a2, sp.a3, sp.a4, sp.a5, sp.a6, Qa, Qb, Qc, Qd, Qe, Qf, aC, aq, asgN, asgT, Qh, aB, Qo, au, bX, bZ, Qq, Qr, aP, aK, Qs, bI, Qz, QF, QG, QJ, QK, QM, aw, QW, QY, Q0, cond_true, cond_false, Q4, Jk, bi, Q8, Ji, decide_false, Zj, Zk, Nat.reduceBEq, Zl, ↓Zw, ↓Zx, ↓Zz, gn, bU, eD, cn, cA, sv, bz, cp]
theorem GT (h1 : zz tag) (h2 : GQ tag) (ho : ai CC n af "other_step" [.int i, .tup (.str tag :: rest), .tup rows] H = some (.tup [rows', st, ev], H)) : ai CC (n+1) af "stepped" [pl, .tup [.tup rows, .tup sts], .int i] H = some (.tup [.tup [rows', .tup (put sts k st)], ev], H) := by
 rw [qI]; simp only [mX, mW, xe, qH, mR, mS, mT, mU, mV, hs, h0, h1 H, h2 H, c1, c2, ho, eO, sp.a1, sp.a2, sp.a3, sp.a4, sp.a5, sp.a6, Qa, Qb, Qc, Qd, Qf, aC, aq, asgN, asgT, Qh, aB, Qo, au, bX, bZ, Qq, Qr, aP, aK, Qs, bI, Qz, QF, QG, QJ, QK, QM, aw, QW, QY, Q0, cond_true, cond_false, Q4, Jk, bi, Q8, Ji, decide_false, Zj, Zk, Nat.reduceBEq, Zl, ↓Zw, ↓Zx, ↓Zz, gn, bU, eD, cn, cA, sv, bz, cp]
end
theorem sA (H : HP) (s : String) : cN H (.str s) (.tup [.str "free", .str "lowered", .str "last", .str "mends"]) = some (["free", "lowered", "last", "mends"].any fun b => decide (b = s)) := (vQ H _ _).trans (vP H s ["free", "lowered", "last", "mends"])
theorem zA (H : HP) (s : String) : cN H (.str s) (.tup [.str "holds", .str "wrote"]) = some (["holds", "wrote"].any fun b => decide (b = s)) := (vQ H _ _).trans (vP H s ["holds", "wrote"])
noncomputable def RowOk (size L : Nat) (r : Rw) : Prop := 0 <= r.h /\ r.t <= (r.p.length : Int) /\ r.p.length <= L /\ ∀ x ∈ r.p, 0 <= x /\ x < (size : Int)
noncomputable def n5 (aa : List (List Int)) (t : Int) : Prop := 0 <= t /\ t < (aa.length : Int)
noncomputable def fF (aa : List (List Int)) (rows : List Rw) (j : Nat) (r : Rw) (s : St) : Prop := match s with
 | .lowered => -1 <= r.t /\ r.t + 1 <= (r.p.length : Int)
 | .last s => r.t = s /\ 0 <= s /\ s < (r.p.length : Int)
 | .mends t o => 0 <= t /\ t <= (r.p.length : Int) /\ ∀ x, o = some x -> n5 aa x
 | .holds t n => 0 <= r.t /\ 0 <= t /\ 0 <= n /\ ∃ row, aa[t.toNat]? = some row /\ n <= (row.length : Int)
 | .wrote t n => 0 <= r.t /\ r.t < (r.p.length : Int) /\ 0 <= t /\ 0 <= n /\ ∃ row, aa[t.toNat]? = some row /\ n < (row.length : Int)
 | .looks k => 0 <= r.t /\ 1 <= k /\ k < (rows.length : Int)
 | .seen k h => 0 <= r.t /\ 1 <= k /\ k < (rows.length : Int) /\ 0 <= h
 | .reads k h => 0 <= r.t /\ 1 <= k /\ k < (rows.length : Int) /\ 0 <= h /\ ∀ r', rows[(((j : Int) + k) % (rows.length : Int)).toNat]? = some r' -> h < (r'.p.length : Int)
 | .tries k _ t => 0 <= r.t /\ 1 <= k /\ k < (rows.length : Int) /\ n5 aa t
 | .free => 0 <= r.t
 | .rests => 0 <= r.t
structure YardI (aa : List (List Int)) (L : Nat) (rows : List Rw) (sts : List St) : Prop where
 len : rows.length = sts.length
 row : ∀ (j : Nat) (r : Rw), rows[j]? = some r -> RowOk aa.length L r
 st : ∀ (j : Nat) (r : Rw) (s : St), rows[j]? = some r -> sts[j]? = some s -> fF aa rows j r s
set_option tactic.hygienic true in
theorem YardI.step {aa : List (List Int)} {L : Nat} {rows : List Rw} {sts : List St} (I : YardI aa L rows sts) {w a : Nat} {ra r' : Rw} {s' : St} (ha : rows[a]? = some ra) (hr : RowOk aa.length (L + 1) r') (hl : ra.p.length <= r'.p.length) (ho : a = w ∨ (r'.t = ra.t /\ r'.p = ra.p))
  (hs : ∀ r, (rows.set a r')[w]? = some r -> fF aa (rows.set a r') w r s') : YardI aa (L + 1) (rows.set a r') (sts.set w s') where
 len := by simp [I.len]
 row := fun j r e => by
  rw [JF] at e
  split at e
  ·split at e
   ·cases e; exact hr
   ·cases e
  ·have := I.row j r e
   exact ⟨this.1, this.2.1, by have := this.2.2.1; exact am 0x11a9111a3911 this, this.2.2.2⟩
 st := fun j r s e1 e2 => by
  by_cases hj : w = j
  ·subst hj
   rw [JF] at e2
   split at e2
   ·split at e2
    ·cases e2; exact hs r e1
    ·cases e2
   ·contradiction
  ·rw [Jq hj] at e2
   have hlen : (rows.set a r').length = rows.length := by simp
   have aI : ∃ r0, rows[j]? = some r0 /\ r0.t = r.t /\ r0.p = r.p := by
    rw [JF] at e1
    split at e1
    ·rename_i q
     split at e1
     ·cases e1; subst q
      rcases ho with rfl | ⟨o1, o2⟩
      ·exact absurd rfl hj
      ·exact ⟨ra, ha, o1.symm, o2.symm⟩
     ·cases e1
    ·exact ⟨r, e1, rfl, rfl⟩
   obtain ⟨r0, e0, t0, p0⟩ := aI
   have old := I.st j r0 s e0 e2
   cases s <;> simp only [fF, t0, p0, hlen] at old ⊢ <;> first
    | exact old
    | (refine ⟨old.1, old.2.1, old.2.2.1, old.2.2.2.1, fun r2 e3 => ?_⟩
       rw [JF] at e3
       split at e3
       ·rename_i q
        split at e3
        ·cases e3
         have := old.2.2.2.2 ra (by rw [<- q]; exact ha)
         exact aZ 0x111a59a9a1959a2 hl this
        ·cases e3
       ·exact old.2.2.2.2 r2 e3)
noncomputable def aU (rows : List Rw) (sts : List St) : AV := .tup [.tup (rows.map Rw.v), .tup (sts.map St.v)]
def aO (aa ag : List (List Int)) : AV := .tup [.list (aa.map iL), .list (ag.map iL)]
set_option tactic.hygienic true in
theorem eP {rows : List Rw} {w : Nat} {r : Rw} (h : rows[w]? = some r) : rows.set w r = rows := by
 apply List.ext_getElem?
 intro i
 rw [JF]
 split
 ·rename_i q; subst q; rw [h]; simp [(List.getElem?_eq_some_iff.mp h).1]
 ·rfl
theorem cJ {rows : List Rw} {w : Nat} {r : Rw} (h : rows[w]? = some r) : cQ (rows.map Rw.v) w r.h r.t (iT r.p) := fun H => dK (v := r.v) rfl (by rw [JC, h]; rfl)
theorem j7 {sts : List St} {w : Nat} {s : St} (H : HP) (h : sts[w]? = some s) : aS H (.tup (sts.map St.v)) (.int (w : Int)) = some (.tup (.str (Str.ofString s.tag) :: s.rest)) := dK (v := s.v) rfl (by rw [JC, h]; rfl)
theorem sB {p : List Int} {i : Int} (h0 : 0 <= i) (h1 : i < (p.length : Int)) : ∃ x, p[i.toNat]? = some x /\ x ∈ p /\ ∀ H, aS H (iT p) (.int i) = some (.int x) := by
 have hi : i.toNat < p.length := by exact aZ 0x111995ba59aa922 h1 (I7 (aG 0x11901990191 h0))
 refine ⟨p[i.toNat], I3 hi, List.getElem_mem hi, fun H => ?_⟩
 rw [fh (xs := p.map AV.int) rfl h0 (by simpa using h1)]
 simp [hi]
theorem RowOk.mono {size L : Nat} {r : Rw} (h : RowOk size L r) : RowOk size (L + 1) r := ⟨h.1, h.2.1, by have := h.2.2.1; exact am 0x11a9111a3911 this, h.2.2.2⟩
noncomputable def St.grp (s : St) : Nat := match s with
 | .free => 0 | .lowered => 0 | .last _ => 0 | .mends _ _ => 0 | .holds _ _ => 1 | .wrote _ _ => 1 | .rests => 3 | _ => 2
theorem GU {s : St} (g : s.grp = 0) : (["free", "lowered", "last", "mends"].any fun b => decide (b = s.tag)) = true := by cases s <;> first | rfl | (cases g)
theorem zB {s : St} (g : ¬ s.grp = 0) : (["free", "lowered", "last", "mends"].any fun b => decide (b = s.tag)) = false := by cases s <;> first | exact absurd rfl g | rfl
theorem GV {s : St} (g : s.grp = 1) : (["holds", "wrote"].any fun b => decide (b = s.tag)) = true := by cases s <;> first | rfl | (cases g)
theorem GW {s : St} (g : ¬ s.grp = 1) : (["holds", "wrote"].any fun b => decide (b = s.tag)) = false := by cases s <;> first | exact absurd rfl g | rfl
theorem sC {s : St} (g : ¬ s.grp = 3) : (aL (Str.ofString s.tag) == 15905532516069) = false := by cases s <;> first | exact absurd rfl g | rfl
noncomputable def cK (s : String) (xs : List Int) : AV := .tup (.str (Str.ofString s) :: xs.map AV.int)
theorem GX {k : Nat} (s : String) (xs : List Int) (h : xs.length <= 8) : gO (k + 1) (cK s xs) = true := by
 have h1 : gO k (.str (Str.ofString s)) = true := by cases k <;> exact iV s
 have h2 : ∀ x ∈ xs.map AV.int, gO k x = true := by
  intro x m
  obtain ⟨i, _, rfl⟩ := Jm.mp m
  cases k <;> rfl
 simp only [cK, gO, List.length_cons, List.length_map, bC (n := xs.length + 1) (az 0x1181910f424037119311 h), decide_true, Bool.true_and, List.all_cons, h1, List.all_eq_true.mpr h2]
def Evt.v (e : Evt) : AV := match e with
 | .none => .none
 | .own w x => cK "own" [(w : Int), x]
 | .taken w a x => cK "taken" [(w : Int), (a : Int), x]
 | .put w y => cK "put" [(w : Int), y]
 | .done w x => cK "done" [(w : Int), x]
 | .rests w => cK "rests" [(w : Int)]
theorem Evt.ok (e : Evt) (k : Nat) : gO (k + 1) e.v = true := by
 cases e <;> first | rfl | exact GX _ _ (by simp)
structure eE (aa ag : List (List Int)) (L : Nat) (rows : List Rw) (sts : List St) (w : Nat) (a : Nat) (r' : Rw) (s' : St) (e : Evt) : Prop where
 at' : a < rows.length
 run : ∀ (n af : Nat) (H : HP), ai CC (n+3) af "stepped" [aO aa ag, aU rows sts, .int (w : Int)] H = some (.tup [aU (rows.set a r') (sts.set w s'), e.v], H)
 inv : YardI aa (L + 1) (rows.set a r') (sts.set w s')
 go : Go aa rows sts w a r' s' e
section
variable {n af : Nat} {aa ag : List (List Int)} {L : Nat} {rows : List Rw} {sts : List St} {w a : Nat} {s s' : St} {r r' : Rw} {ev : AV}
theorem fG (hl : rows.length = sts.length) (hm : rows.length <= 100) (hw : rows[w]? = some r) (hs : sts[w]? = some s) (g : s.grp = 0)
  (ho : ∀ (n af : Nat) (H : HP), ai CC (n+2) af "own_step" [.int (w : Int), s.v, .tup (rows.map Rw.v)] H = some (.tup [.tup ((rows.set a r').map Rw.v), s'.v, ev], H)) (n af : Nat) (H : HP) : ai CC (n+3) af "stepped" [aO aa ag, aU rows sts, .int (w : Int)] H = some (.tup [aU (rows.set a r') (sts.set w s'), ev], H) := by
 have hw' := (IX.mp hs).1
 rw [aU, GR (n+2) af _ _ _ H s.tag _ _ s'.v ev (j6 _ w _ H (ay 0x1191b92642a1ba30186a037913 hl hm hw') (by rw [IZ]; exact am 0x191642a19a30186a037912 hl hm)) (az 16881104) (by rw [IZ]; exact am 0x119a2a595c1 hw') (j7 H hs) (sC (by rw [g]; decide)) (fun H => (sA H _).trans (congrArg some (GU g))) (ho n af H), n0 St.v sts w s' hw']
 rfl
theorem sD (hl : rows.length = sts.length) (hm : rows.length <= 100) (hw : rows[w]? = some r) (hs : sts[w]? = some s) (g : s.grp = 1)
  (ho : ∀ (n af : Nat) (H : HP), ai CC (n+2) af "task_step" [.list (aa.map iL), .int (w : Int), s.v, .tup (rows.map Rw.v)] H = some (.tup [.tup ((rows.set a r').map Rw.v), s'.v, ev], H)) (n af : Nat) (H : HP) : ai CC (n+3) af "stepped" [aO aa ag, aU rows sts, .int (w : Int)] H = some (.tup [aU (rows.set a r') (sts.set w s'), ev], H) := by
 have hw' := (IX.mp hs).1
 rw [aU, aO, GS (n+2) af _ _ _ H s.tag _ _ s'.v ev (j6 _ w _ H (ay 0x1191b92642a1ba30186a037913 hl hm hw') (by rw [IZ]; exact am 0x191642a19a30186a037912 hl hm)) (az 16881104) (by rw [IZ]; exact am 0x119a2a595c1 hw') (j7 H hs) (sC (by rw [g]; decide)) (fun H => (sA H _).trans (congrArg some (zB (by rw [g]; decide)))) (fun H => (zA H _).trans (congrArg some (GV g))) (Q8 H _ _) (ho n af H), n0 St.v sts w s' hw']
 rfl
theorem hK (hl : rows.length = sts.length) (hm : rows.length <= 100) (hw : rows[w]? = some r) (hs : sts[w]? = some s) (g : s.grp = 2)
  (ho : ∀ (n af : Nat) (H : HP), ai CC (n+2) af "other_step" [.int (w : Int), s.v, .tup (rows.map Rw.v)] H = some (.tup [.tup ((rows.set a r').map Rw.v), s'.v, ev], H)) (n af : Nat) (H : HP) : ai CC (n+3) af "stepped" [aO aa ag, aU rows sts, .int (w : Int)] H = some (.tup [aU (rows.set a r') (sts.set w s'), ev], H) := by
 have hw' := (IX.mp hs).1
 rw [aU, GT (n+2) af _ _ _ H s.tag _ _ s'.v ev (j6 _ w _ H (ay 0x1191b92642a1ba30186a037913 hl hm hw') (by rw [IZ]; exact am 0x191642a19a30186a037912 hl hm)) (az 16881104) (by rw [IZ]; exact am 0x119a2a595c1 hw') (j7 H hs) (sC (by rw [g]; decide)) (fun H => (sA H _).trans (congrArg some (zB (by rw [g]; decide)))) (fun H => (zA H _).trans (congrArg some (GW (by rw [g]; decide)))) (ho n af H), n0 St.v sts w s' hw']
 rfl
theorem wr (hm : rows.length <= 100) (ha : a < rows.length) (r' : Rw) (H : HP) : ai CC (n+1) af "with_row" [.tup (rows.map Rw.v), .int (a : Int), r'.v] H = some (.tup ((rows.set a r').map Rw.v), H) := by
 rw [Gv n af _ a _ H (am 0x111a92642a10186a037912 hm ha) (by rw [IZ]; exact az 0x11642910186a037911 hm), n0 Rw.v rows a r' ha]
theorem d9 (I : YardI aa L rows sts) (hw : rows[w]? = some r) (hr : RowOk aa.length (L + 1) r') (hl : r.p.length <= r'.p.length) (hs : fF aa (rows.set w r') w r' s') : YardI aa (L + 1) (rows.set w r') (sts.set w s') :=
 I.step hw hr hl (.inl rfl) fun r2 e => by
  rw [JF] at e
  simp only [(List.getElem?_eq_some_iff.mp hw).1, if_true] at e
  cases e; exact hs
end
end Mine.Internal
namespace Mine.Internal
open PySem PyProof.Rows
noncomputable abbrev Yy := List Rw × List St
noncomputable def eQ (e : Evt) : List Evt := match e with
 | .none => []
 | e => [e]
theorem Rw.eta_t {r : Rw} {h t : Int} (e1 : r.h = h) (e2 : r.t = t) : r.v = .tup [.int h, .int t, iT r.p] := by rw [Rw.v, e1, e2]
section
variable {n af : Nat} {aa ag : List (List Int)} {L : Nat} {rows : List Rw} {sts : List St} {w : Nat} {r : Rw}
theorem GY (I : YardI aa L rows sts) (hm : rows.length <= 100) (hw : rows[w]? = some r) (hs : sts[w]? = some .free) : eE aa ag L rows sts w w ⟨r.h, r.t - 1, r.p⟩ .lowered .none := by
 have hlt := (IX.mp hw).1
 have ro := I.row w r hw
 have so := I.st w r _ hw hs
 refine ⟨hlt, fG I.len hm hw hs rfl fun n af H => Gx (n+1) af _ w _ _ _ H (cJ hw) (wr hm hlt { r with t := r.t - 1 } H), d9 I hw ⟨ro.1, by have := ro.2.1; show r.t - 1 <= (r.p.length : Int); exact aV 0x11959995119491 this, ro.mono.2.2⟩ (IO _) ?_,
  .free hw hs⟩
 simp only [fF] at so ⊢
 have := ro.2.1
 exact ⟨aG 0x11901911941101491 so, aV 0x11959995111194391 this⟩
theorem GZ (I : YardI aa L rows sts) (hm : rows.length <= 100) (hw : rows[w]? = some r) (hs : sts[w]? = some .lowered) : ∃ s' ev, eE aa ag L rows sts w w r s' ev := by
 have hlt := (IX.mp hw).1
 have ro := I.row w r hw
 have so := I.st w r _ hw hs
 have hsm := eP hw
 simp only [fF] at so
 have r0 := ro.1
 by_cases h1 : r.h < r.t
 ·obtain ⟨x, hx0, hx, hp⟩ := sB (p := r.p) (i := r.t) (bj 0x1119aaa01990192 r0 h1) (aV 0x119511939959a1 so.2)
  refine ⟨.holds x 0, Evt.own w x, hlt, fG I.len hm hw hs rfl fun n af H => ?_, d9 I hw ro.mono (IO _) ?_,
  .low1 hw hs h1 hx0⟩
  ·rw [hsm]; exact Gy (n+1) af _ w _ _ _ H (cJ hw) (hp H) h1
  ·have := ro.2.2.2 x hx
   have hb : x.toNat < aa.length := by exact aZ 0x111995ba59aa922 this.2 (I7 (aG 0x11901990191 this.1))
   exact ⟨by exact bj 0x1119aaa01990192 r0 h1, by exact aG 0x11901990191 this.1, by exact bt 16843152, _, I3 hb, by exact az 26542480⟩
 ·by_cases h2 : r.h = r.t
  ·have e : r.v = .tup [.int r.t, .int r.t, iT r.p] := Rw.eta_t h2 rfl
   refine ⟨.last r.t, .none, hlt, fG I.len hm hw hs rfl fun n af H => ?_, d9 I hw ro.mono (IO _) ?_,
  .low2 hw hs h2⟩
   ·rw [hsm]; exact Gz (n+1) af _ w _ _ H (by have := cJ hw; rwa [h2] at this)
   ·exact ⟨rfl, by exact bj 0x1119aba01990192 r0 h2, by exact aV 0x119511939959a1 so.2⟩
  ·refine ⟨.mends (r.t + 1) none, .none, hlt, fG I.len hm hw hs rfl fun n af H => ?_, d9 I hw ro.mono (IO _) ?_,
  .low3 hw hs (by exact (Int.lt_or_gt_of_ne h2).elim (fun q8 => bj 0x1109aa9ada9a2 h1 q8) fun q8 => bj 4741310881 q8)⟩
   ·rw [hsm]; exact GA (n+1) af _ w _ _ _ H (cJ hw) h1 h2
   ·exact ⟨by exact aG 0x11911014911930191 so.1, by exact aV 0x11951193995119391 so.2, fun O e => by cases e⟩
theorem G0 {q : Int} (I : YardI aa L rows sts) (hm : rows.length <= 100) (hw : rows[w]? = some r) (hs : sts[w]? = some (.last q)) : ∃ r' s' ev, eE aa ag L rows sts w w r' s' ev := by
 have hlt := (IX.mp hw).1
 have ro := I.row w r hw
 have so := I.st w r _ hw hs
 have hsm := eP hw
 simp only [fF] at so
 have r0 := ro.1
 by_cases h1 : r.h = q
 ·subst h1
  obtain ⟨x, hx0, hx, hp⟩ := sB (p := r.p) (i := r.h) (aG 0x11901990191 r0) (aV 0x11959a959a1 so.2.2)
  refine ⟨{ r with h := r.h + 1 }, .mends (r.h + 1) (some x), Evt.own w x, hlt, fG I.len hm hw hs rfl fun n af H => ?_, d9 I hw ⟨by show 0 <= r.h + 1; exact aG 0x11901911930191 r0, ro.mono.2⟩ (IO _) ?_,
  .last1 hw hs hx0⟩
  ·exact GB (n+1) af _ w _ _ _ H (cJ hw) (hp H) (wr hm hlt { r with h := r.h + 1 } H)
  ·have := ro.2.2.2 x hx
   exact ⟨by exact aG 0x11901911930191 r0, by show r.h + 1 <= (r.p.length : Int); exact aV 0x11959a95119391 so.2.2, fun y e => by cases e; exact this⟩
 ·refine ⟨r, .mends (q + 1) none, .none, hlt, fG I.len hm hw hs rfl fun n af H => ?_, d9 I hw ro.mono (IO _) ?_,
  .last2 hw hs h1⟩
  ·rw [hsm]; exact GC (n+1) af _ w _ _ _ H (cJ hw) h1
  ·exact ⟨by exact aG 0x11901911930191 so.2.1, by exact aV 0x11959a95119391 so.2.2, fun O e => by cases e⟩
theorem G1 {q : Int} {o : Option Int} (I : YardI aa L rows sts) (hm : rows.length <= 100) (hw : rows[w]? = some r) (hs : sts[w]? = some (.mends q o)) : ∃ r' s' ev, eE aa ag L rows sts w w r' s' ev := by
 have hlt := (IX.mp hw).1
 have ro := I.row w r hw
 have so := I.st w r _ hw hs
 simp only [fF] at so
 have rk : RowOk aa.length (L + 1) { r with t := q } := ⟨ro.1, so.2.1, ro.mono.2.2⟩
 have hl2 : ((rows.set w { r with t := q }).map Rw.v).length = rows.length := by simp
 cases o with
 | some x =>
  have hx := so.2.2 x rfl
  unfold n5 at hx
  have hb : x.toNat < aa.length := by exact aZ 0x111995ba59aa922 hx.2 (I7 (aG 0x11901990191 hx.1))
  refine ⟨{ r with t := q }, .holds x 0, .none, hlt, fG I.len hm hw hs rfl fun n af H => ?_, d9 I hw rk (IO _) ⟨so.1, hx.1, by exact bt 16843152, _, I3 hb, by exact az 26542480⟩,
  .mends1 hw hs⟩
  exact GD (n+1) af _ w _ _ _ H (cJ hw) (wr hm hlt { r with t := q } H)
 | none =>
  by_cases h1 : rows.length = 1
  ·refine ⟨{ r with t := q }, .rests, Evt.rests w, hlt, fG I.len hm hw hs rfl fun n af H => ?_, d9 I hw rk (IO _) so.1,
  .mends2 hw hs h1⟩
   exact zx (n+1) af _ w _ _ _ H (cJ hw) (wr hm hlt { r with t := q } H) (zv n af _ _ _ H (by rw [hl2]; exact az 0x111193119591 h1))
  ·refine ⟨{ r with t := q }, .looks 1, .none, hlt, fG I.len hm hw hs rfl fun n af H => ?_, d9 I hw rk (IO _) ⟨so.1, by exact bt 17895824, by rw [List.length_set]; exact (Nat.lt_or_gt_of_ne h1).elim (fun q8 => am 0x11011929a29511a2 hlt q8) fun q8 => az 0x1191129511a1 q8⟩,
  .mends3 hw hs h1⟩
   exact zx (n+1) af _ w _ _ _ H (cJ hw) (wr hm hlt { r with t := q } H) (zw n af _ _ _ H (by rw [hl2]; exact (Nat.lt_or_gt_of_ne h1).elim (fun q8 => am 0x11011929a21195c2 hlt q8) fun q8 => az 0x1191121195c1 q8))
end
section
variable {n af : Nat} {aa ag : List (List Int)} {L : Nat} {rows : List Rw} {sts : List St} {w : Nat} {r : Rw}
theorem sE {t : Int} {row : List Int} (h0 : 0 <= t) (h : aa[t.toNat]? = some row) (H : HP) : aS H (.list (aa.map iL)) (.int t) = some (.list (row.map AV.int)) := by
 have hb := (IX.mp h).1
 rw [fh (xs := aa.map iL) rfl h0 (by rw [IZ]; exact aZ 0x111a5999a2959a2 hb (Ju _)), JC, h]; rfl
theorem zC {row : List Int} {m : Int} (h0 : 0 <= m) (h1 : m < (row.length : Int)) : ∃ y, row[m.toNat]? = some y /\ y ∈ row /\ ∀ H, aS H (.list (row.map AV.int)) (.int m) = some (.int y) := by
 have hi : m.toNat < row.length := by exact aZ 0x111995ba59aa922 h1 (I7 (aG 0x11901990191 h0))
 refine ⟨row[m.toNat], I3 hi, List.getElem_mem hi, fun H => ?_⟩
 rw [fh (xs := row.map AV.int) rfl h0 (by simpa using h1)]
 simp [hi]
theorem G2 {t m : Int} (I : YardI aa L rows sts) (hm : rows.length <= 100) (hw : rows[w]? = some r) (hs : sts[w]? = some (.wrote t m)) : ∃ r' s' ev, eE aa ag L rows sts w w r' s' ev := by
 have hlt := (IX.mp hw).1
 have ro := I.row w r hw
 obtain ⟨t0, t1, x0, m0, row, hb, hm1⟩ := I.st w r _ hw hs
 obtain ⟨y, hy0, hy, hi⟩ := zC m0 hm1
 refine ⟨{ r with t := r.t + 1 }, .holds t (m + 1), Evt.put w y, hlt, sD I.len hm hw hs rfl fun n af H => ?_, d9 I hw ⟨ro.1, by show r.t + 1 <= (r.p.length : Int); exact aV 0x11959a95119391 t1, ro.mono.2.2⟩ (IO _) ⟨by show 0 <= r.t + 1; exact aG 0x11901911930191 t0, x0, by exact aG 0x11901911930191 m0, row, hb, by exact aV 0x11959a95119391 hm1⟩,
  .wrote hw hs hb hy0⟩
 exact GK (n+1) af _ w _ _ _ H _ _ _ _ (cJ hw) (sE x0 hb H) (hi H) (wr hm hlt { r with t := r.t + 1 } H)
theorem G3 {p : List Int} {k : Nat} {y : Int} : AV.tup (put (p.map AV.int) k (.int y)) = iT (p.take k ++ [y] ++ p.drop (k + 1)) := by
 simp [put, iT]
theorem G4 {t m : Int} (I : YardI aa L rows sts) (hL : L <= 90000) (hm : rows.length <= 100) (bm : ∀ (j : Nat) (row : List Int), aa[j]? = some row -> ∀ t ∈ row, 0 <= t /\ t < (aa.length : Int)) (hw : rows[w]? = some r) (hs : sts[w]? = some (.holds t m)) : ∃ r' s' ev, eE aa ag L rows sts w w r' s' ev := by
 have hlt := (IX.mp hw).1
 have ro := I.row w r hw
 obtain ⟨t0, x0, m0, row, hb, hm1⟩ := I.st w r _ hw hs
 by_cases h : m = (row.length : Int)
 ·refine ⟨r, .free, Evt.done w t, hlt, sD I.len hm hw hs rfl fun n af H => ?_, d9 I hw ro.mono (IO _) t0,
  .done hw hs hb h⟩
  rw [eP hw]
  exact GL (n+1) af _ w _ _ _ H _ _ _ _ (cJ hw) (sE x0 hb H) (by rw [IZ]; exact h)
 ·obtain ⟨y, hy0, hy, hi⟩ := zC m0 (by exact (Int.lt_or_gt_of_ne h).elim (fun q8 => aV 0x11959a959a1 q8) fun q8 => aV 0x110995a9599959a2 hm1 q8 : m < (row.length : Int))
  obtain ⟨k, hk⟩ := Int.eq_ofNat_of_zero_le t0
  have hkl : k <= r.p.length := by have := ro.2.1; exact aZ 0x191a599959ba912 hk this
  have hpl := ro.2.2.1
  have e : ∀ q : List Int, Rw.v ⟨r.h, r.t, q⟩ = .tup [.int r.h, .int (k : Int), iT q] := fun q => by rw [Rw.v, hk]
  have lenN : (r.p.take k ++ [y] ++ r.p.drop (k + 1)).length = max r.p.length (k + 1) := mz hkl
  refine ⟨⟨r.h, r.t, r.p.take k ++ [y] ++ r.p.drop (k + 1)⟩, .wrote t m, .none, hlt, sD I.len hm hw hs rfl fun n af H => ?_, d9 I hw ⟨ro.1, ?_, ?_, ?_⟩ ?_ ⟨t0, ?_, x0, m0, row, hb, by exact (Int.lt_or_gt_of_ne h).elim (fun q8 => aV 0x11959a959a1 q8) fun q8 => aV 0x110995a9599959a2 hm1 q8⟩,
  .write hw hs hb (by exact (Int.lt_or_gt_of_ne h).elim (fun q8 => aV 0x11959a959a1 q8) fun q8 => aV 0x110995a9599959a2 hm1 q8) hy0 hk⟩
  ·have hr := cJ hw
   rw [hk] at hr
   refine GN (n+1) af _ w _ H _ _ _ _ k _ hr (sE x0 hb H) (by rw [IZ]; exact h) (hi H) (ay 0x1111ab1b91015f9037a10186a037913 hL hkl hpl) (by rw [IZ]; exact am 0x111a91015f9037a10186a037912 hL hpl) ?_
   rw [G3, <- e]
   exact wr hm hlt _ H
  ·show r.t <= ((r.p.take k ++ [y] ++ r.p.drop (k + 1)).length : Int)
   rw [lenN]; exact Jp ro.2.1 (Int.ofNat_le.mpr (Nat.le_max_left _ _))
  ·show (r.p.take k ++ [y] ++ r.p.drop (k + 1)).length <= L + 1
   rw [lenN]; exact Nat.max_le.mpr ⟨Nat.le_succ_of_le hpl, Nat.succ_le_succ (Je hkl hpl)⟩
  ·intro x hx
   have hx : x ∈ r.p.take k ++ [y] ++ r.p.drop (k + 1) := hx
   rcases List.mem_append.mp hx with hx | hx
   ·rcases List.mem_append.mp hx with hx | hx
    ·exact ro.2.2.2 x (List.mem_of_mem_take hx)
    ·rw [I0] at hx; subst hx; exact bm _ row hb x hy
   ·exact ro.2.2.2 x (List.mem_of_mem_drop hx)
  ·show r.p.length <= (r.p.take k ++ [y] ++ r.p.drop (k + 1)).length
   rw [lenN]; exact Nat.le_max_left _ _
  ·show r.t < ((r.p.take k ++ [y] ++ r.p.drop (k + 1)).length : Int)
   rw [lenN]; exact aZ 0x111911a31a59b959a2 hk (Nat.le_max_right _ _)
end
theorem G5 (n af : Nat) (w k m : Int) (H : HP) (h : 0 < m) : ai CC (n+1) af "other_of" [.int w, .int k, .int m] H = some (.int ((w + k) % m), H) := by
 rw [Fc]; simp only [wJ, wI, bK h, Qa, Qb, Qd, aC, Qh, aB, Qo, cond_true, cond_false, Zj, Zk, Nat.reduceBEq, fC, si, bz]
section
variable {n af : Nat} {aa ag : List (List Int)} {L : Nat} {rows : List Rw} {sts : List St} {w : Nat} {r : Rw}
theorem jj {s' : St} {a : Nat} {ra : Rw} (I : YardI aa L rows sts) (hw : rows[w]? = some r) (ha : rows[a]? = some ra) (hs : fF aa rows w r s') : YardI aa (L + 1) (rows.set a ra) (sts.set w s') :=
 I.step ha (I.row a ra ha).mono (IO _) (.inr ⟨rfl, rfl⟩) fun r2 e => by
  rw [eP ha] at e ⊢
  rw [hw] at e; cases e; exact hs
theorem n7 (hw : w < rows.length) (k : Int) : ∃ (a : Nat) (ra : Rw), ((w : Int) + k) % (rows.length : Int) = (a : Int) /\ rows[a]? = some ra /\ (∀ n af H, ai CC (n+1) af "other_of" [.int (w : Int), .int k, .int ((rows.map Rw.v).length : Int)] H = some (.int (a : Int), H)) := by
 obtain ⟨a, ha⟩ := Int.eq_ofNat_of_zero_le (Int.emod_nonneg ((w : Int) + k) (by exact am 0x119a20195e1 hw : (rows.length : Int) ≠ 0))
 have := Int.emod_lt_of_pos ((w : Int) + k) (by exact am 0x119a29501a1 hw : 0 < (rows.length : Int))
 have hl : a < rows.length := by exact aZ 0x191a59a959ba922 ha this
 exact ⟨a, rows[a], ha, I3 hl, fun n af H => by rw [G5 n af _ _ _ H (by rw [IZ]; exact am 0x119a29501a1 hw), IZ, ha]⟩
theorem G6 {k : Int} (I : YardI aa L rows sts) (hm : rows.length <= 100) (hw : rows[w]? = some r) (hs : sts[w]? = some (.looks k)) : ∃ a r' s' ev, eE aa ag L rows sts w a r' s' ev := by
 have hlt := (IX.mp hw).1
 have so := I.st w r _ hw hs
 obtain ⟨a, ra, hk, ha, hc⟩ := n7 hlt k
 have ro := I.row a ra ha
 refine ⟨a, ra, .seen k ra.h, .none, (IX.mp ha).1, hK I.len hm hw hs rfl fun n af H => ?_, jj I hw ha ⟨so.1, so.2.1, so.2.2, ro.1⟩,
  .looks hs hk ha⟩
 rw [eP ha]
 exact GF (n+1) af _ w _ _ _ H a k (cJ ha) (hc n af H)
theorem G7 {k q : Int} (I : YardI aa L rows sts) (hm : rows.length <= 100) (hw : rows[w]? = some r) (hs : sts[w]? = some (.seen k q)) : ∃ a r' s' ev, eE aa ag L rows sts w a r' s' ev := by
 have hlt := (IX.mp hw).1
 obtain ⟨t0, k1, k2, q0⟩ := I.st w r _ hw hs
 obtain ⟨a, ra, hk, ha, hc⟩ := n7 hlt k
 have ro := I.row a ra ha
 by_cases h : q < ra.t
 ·refine ⟨a, ra, .reads k q, .none, (IX.mp ha).1, hK I.len hm hw hs rfl fun n af H => ?_, jj I hw ha ⟨t0, k1, k2, q0, fun r2 e => ?_⟩,
  .seen1 hs hk ha h⟩
  ·rw [eP ha]
   exact GG (n+1) af _ w _ _ _ H a k (cJ ha) (hc n af H) h
  ·rw [hk, Jt, ha] at e
   cases e
   have := ro.2.1; exact dQ 0x11195a9a9a959a2 h this
 ·by_cases h2 : (rows.length : Int) <= k + 1
  ·refine ⟨a, ra, .rests, Evt.rests w, (IX.mp ha).1, hK I.len hm hw hs rfl fun n af H => ?_, jj I hw ha t0,
  .seen2 hs hk ha h h2⟩
   rw [eP ha]
   exact zy (n+1) af _ w _ _ _ H a k (cJ ha) (hc n af H) h (zv n af _ _ _ H (by rw [IZ]; exact h2))
  ·refine ⟨a, ra, .looks (k + 1), .none, (IX.mp ha).1, hK I.len hm hw hs rfl fun n af H => ?_, jj I hw ha ⟨t0, by exact aG 0x11911911931191 k1, by exact aV 0x11119395c951193a1 h2⟩,
  .seen3 hs hk ha h h2⟩
   rw [eP ha]
   exact zy (n+1) af _ w _ _ _ H a k (cJ ha) (hc n af H) h (zw n af _ _ _ H (by rw [IZ]; exact h2))
theorem G8 {k q : Int} (I : YardI aa L rows sts) (hm : rows.length <= 100) (hw : rows[w]? = some r) (hs : sts[w]? = some (.reads k q)) : ∃ a r' s' ev, eE aa ag L rows sts w a r' s' ev := by
 have hlt := (IX.mp hw).1
 obtain ⟨t0, k1, k2, q0, hq⟩ := I.st w r _ hw hs
 obtain ⟨a, ra, hk, ha, hc⟩ := n7 hlt k
 have ro := I.row a ra ha
 rw [hk, Jt] at hq
 obtain ⟨x, hx0, hx, hp⟩ := sB (p := ra.p) q0 (hq ra ha)
 refine ⟨a, ra, .tries k q x, .none, (IX.mp ha).1, hK I.len hm hw hs rfl fun n af H => ?_, jj I hw ha ⟨t0, k1, k2, ro.2.2.2 x hx⟩,
  .reads hs hk ha hx0⟩
 rw [eP ha]
 exact GH (n+1) af _ w _ _ _ H a k (cJ ha) (hc n af H) (hp H)
set_option tactic.hygienic true in
theorem G9 {k q x : Int} (I : YardI aa L rows sts) (hm : rows.length <= 100) (hw : rows[w]? = some r) (hs : sts[w]? = some (.tries k q x)) : ∃ a r' s' ev, eE aa ag L rows sts w a r' s' ev := by
 have hlt := (IX.mp hw).1
 obtain ⟨t0, k1, k2, hx⟩ := I.st w r _ hw hs
 obtain ⟨a, ra, hk, ha, hc⟩ := n7 hlt k
 have hal := (IX.mp ha).1
 have ro := I.row a ra ha
 by_cases h : ra.h = q
 ·subst h
  unfold n5 at hx
  have hb : x.toNat < aa.length := by exact aZ 0x111995ba59aa922 hx.2 (I7 (aG 0x11901990191 hx.1))
  refine ⟨a, { ra with h := ra.h + 1 }, .holds x 0, Evt.taken w a x, hal, hK I.len hm hw hs rfl fun n af H => ?_, I.step ha ⟨by have := ro.1; show 0 <= ra.h + 1; exact aG 0x11901911930191 this, ro.mono.2⟩ (IO _) (.inr ⟨rfl, rfl⟩) fun r2 e => ?_,
  .tries1 hs hk ha⟩
  ·exact GJ (n+1) af _ w _ _ _ H a k (cJ ha) (hc n af H) (wr hm hal { ra with h := ra.h + 1 } H)
  ·have e2 : r2.t = r.t := by
    rw [JF] at e
    split at e
    ·rename_i q; subst q
     rw [ha] at hw; cases hw
     cases e
     rfl
    ·rw [hw] at e; cases e; rfl
   exact ⟨by rw [e2]; exact t0, hx.1, by exact bt 16843152, _, I3 hb, by exact az 26542480⟩
 ·refine ⟨a, ra, .looks k, .none, hal, hK I.len hm hw hs rfl fun n af H => ?_, jj I hw ha ⟨t0, k1, k2⟩,
  .tries2 hs hk ha h⟩
  rw [eP ha]
  exact GI (n+1) af _ w _ _ _ H a k (cJ ha) (hc n af H) h
theorem Ha {s : St} (I : YardI aa L rows sts) (hL : L <= 90000) (hm : rows.length <= 100) (bm : ∀ (j : Nat) (row : List Int), aa[j]? = some row -> ∀ t ∈ row, 0 <= t /\ t < (aa.length : Int)) (hw : rows[w]? = some r) (hs : sts[w]? = some s) (g : ¬ s.grp = 3) : ∃ a r' s' e, eE aa ag L rows sts w a r' s' e := by
 cases s with
 | free => exact ⟨_, _, _, _, GY I hm hw hs⟩
 | lowered => obtain ⟨_, _, q⟩ := GZ (ag := ag) I hm hw hs; exact ⟨_, _, _, _, q⟩
 | rests => exact absurd rfl g
 | last => obtain ⟨_, _, _, q⟩ := G0 (ag := ag) I hm hw hs; exact ⟨_, _, _, _, q⟩
 | mends => obtain ⟨_, _, _, q⟩ := G1 (ag := ag) I hm hw hs; exact ⟨_, _, _, _, q⟩
 | holds => obtain ⟨_, _, _, q⟩ := G4 (ag := ag) I hL hm bm hw hs; exact ⟨_, _, _, _, q⟩
 | wrote => obtain ⟨_, _, _, q⟩ := G2 (ag := ag) I hm hw hs; exact ⟨_, _, _, _, q⟩
 | looks => obtain ⟨_, _, _, _, q⟩ := G6 (ag := ag) I hm hw hs; exact ⟨_, _, _, _, q⟩
 | seen => obtain ⟨_, _, _, _, q⟩ := G7 (ag := ag) I hm hw hs; exact ⟨_, _, _, _, q⟩
 | reads => obtain ⟨_, _, _, _, q⟩ := G8 (ag := ag) I hm hw hs; exact ⟨_, _, _, _, q⟩
 | tries => obtain ⟨_, _, _, _, q⟩ := G9 (ag := ag) I hm hw hs; exact ⟨_, _, _, _, q⟩
end
theorem Hb {s : St} (h : bE (some s) = false) : ¬ s.grp = 3 := by cases s <;> first | (intro q; cases q; done) | cases h | (simp [St.grp])
theorem n8 {s : St} : (aL (Str.ofString s.tag) == 15905532516069) = bE (some s) := by cases s <;> rfl
theorem Evt.isNone (e : Evt) : cI e.v = true ↔ e = .none := by cases e <;> simp [Evt.v, cI, cK]
structure zD (aa ag : List (List Int)) (W : Nat) : Prop where
 hW : W <= 100
 bm : ∀ (j : Nat) (row : List Int), aa[j]? = some row -> ∀ t ∈ row, 0 <= t /\ t < (aa.length : Int)
noncomputable def PL (aa : List (List Int)) (L : Nat) (y : Yy) : Prop := YardI aa L y.1 y.2
theorem PL.up {aa : List (List Int)} {L : Nat} {y : Yy} (p : PL aa L y) : PL aa (L + 1) y := ⟨p.len, fun j r h => (p.row j r h).mono, p.st⟩
theorem zE {α : Type} (H : List α) (a b : α) : (H ++ [a]).set H.length b = H ++ [b] := by
 rw [List.set_append_right _ _ (IO _)]; simp
theorem n9 {α : Type} (H : List α) (a : α) : (H ++ [a])[H.length]? = some a := by simp
theorem Hc {af k : Nat} {o : HP -> R AV} {es : List (HP -> R AV)} {H : HP} {xs : List AV} {v : AV} (ho : o H = some (.ref k, H)) (he : bo es H = some ([v], H)) (hk : H[k]? = some xs) (hl : xs.length < aM) :
  bx af .append o es H = some (.none, H.set k (xs ++ [v])) := by
 have h : dX H .append xs [v] = some (.none, xs ++ [v]) := by show (if xs.length < aM then _ else _) = _; rw [Id hl]
 have hs : e9 H (.ref k) = true := by show (H[k]?).isSome = true; rw [hk]; rfl
 simp only [bx, ho, Qa, hs, if_true, he, gP hk h, bF]
structure gt (ρ : an) (aa ag : List (List Int)) (y : Yy) (k : Nat) : Prop where
 pl : ρ "plan" = some (aO aa ag)
 ya : ρ "yard" = some (aU y.1 y.2)
 ev : ρ "events" = some (.ref k)
noncomputable def aQ (es : List Evt) : List AV := es.map Evt.v
theorem zF {e : Evt} (h : ¬ e = .none) : eQ e = [e] := by cases e <;> first | exact absurd rfl h | rfl
theorem Hd (s : St) : s.v.noRef = true := by
 cases s with
 | mends t o => cases o <;> rfl
 | _ => rfl
theorem He (e : Evt) : e.v.noRef = true := by cases e <;> rfl
theorem Hf (rows : List Rw) (sts : List St) : (aU rows sts).noRef = true := by
 have h1 : dm (rows.map Rw.v) = true := noRefs_iff.mpr fun x m => by
  obtain ⟨r, _, rfl⟩ := Jm.mp m
  have := EO r.p
  show (true && (true && ((iT r.p).noRef && true))) = true
  rw [this]; rfl
 have h2 : dm (sts.map St.v) = true := noRefs_iff.mpr fun x m => by
  obtain ⟨r, _, rfl⟩ := Jm.mp m
  exact Hd r
 show (dm (rows.map Rw.v) && (dm (sts.map St.v) && true)) = true
 rw [h1, h2]; rfl
inductive Tr (aa ag : List (List Int)) (V : Int -> Nat) (W : Nat) : List Nat -> Yy -> Yy -> List Evt -> Prop
 | nil (y : Yy) : Tr aa ag V W [] y y []
 | rest {w : Nat} {ws : List Nat} {y y' : Yy} {es : List Evt} (hs : y.2[w]? = some .rests) (t : Tr aa ag V W ws y y' es) : Tr aa ag V W (w :: ws) y y' es
 | step {w : Nat} {ws : List Nat} {y y1 y' : Yy} {s s1 : St} {e : Evt} {es : List Evt} (hs : y.2[w]? = some s) (hn : bE (some s) = false) (run : ∀ (n af : Nat) (H : HP), ai CC (n+3) af "stepped" [aO aa ag, aU y.1 y.2, .int (w : Int)] H = some (.tup [aU y1.1 y1.2, e.v], H))
   (go : ∃ a r', Go aa y.1 y.2 w a r' s1 e /\ y1 = (y.1.set a r', y.2.set w s1)) (h1 : y1.2 = y.2.set w s1) (hp : psi aa V W y1.1 y1.2 w s1 + 1 <= psi aa V W y.1 y.2 w s) (ho : ∀ u t, psi aa V W y1.1 y1.2 u t <= psi aa V W y.1 y.2 u t) (t : Tr aa ag V W ws y1 y' es) : Tr aa ag V W (w :: ws) y y' (eQ e ++ es)
theorem zG (e : Evt) : (eQ e).length <= 1 := by cases e <;> simp [eQ]
structure Jv (aa : List (List Int)) (V : Int -> Nat) (W B N : Nat) (y : Yy) : Prop where
 yd : Yd aa y.1 y.2
 em : Em y.1 y.2
 len : y.1.length = W
 pl : PL aa B y
 sz : ∀ (j : Nat) (r : Rw), y.1[j]? = some r -> r.p.length + RR aa V y.1 y.2 <= B
 ps : ∀ (u : Nat) (s : St), y.2[u]? = some s -> bE (some s) = false -> psi aa V W y.1 y.2 u s <= N
structure jk (aa ag : List (List Int)) (V : Int -> Nat) (W B : Nat) : Prop where
 pr : zD aa ag W
 hV : ∀ x, eS V (br aa x) + Cw aa W x <= V x
 hB : B <= 90000
section
variable {aa ag : List (List Int)} {V : Int -> Nat} {W B N : Nat} {ws : List Nat} {y y' : Yy} {es : List Evt}
set_option tactic.hygienic true in
theorem Tr.len (t : Tr aa ag V W ws y y' es) : es.length <= ws.length := by
 induction t with
 | nil y => simp
 | rest hs _ ih => simp; exact am 0x11a9111a3911 ih
 | step hs hn run go h1 hp ho _ ih => rename_i e _ _; have := zG e; simp; exact ay 0x1111191ba111b3a9312 ih this
set_option tactic.hygienic true in
theorem Tr.left (t : Tr aa ag V W ws y y' es) : ∀ (u : Nat) (s' : St), y'.2[u]? = some s' -> bE (some s') = false -> ∃ s, y.2[u]? = some s /\ bE (some s) = false /\ psi aa V W y'.1 y'.2 u s' + (if u ∈ ws then 1 else 0) <= psi aa V W y.1 y.2 u s := by
 induction t with
 | nil y => intro u s' h1 h2; exact ⟨s', h1, h2, by simp⟩
 | rest hs _ ih =>
  rename_i w ws y y' es _
  intro u s' h1 h2
  obtain ⟨s, q1, q2, q3⟩ := ih u s' h1 h2
  refine ⟨s, q1, q2, ?_⟩
  have hne : ¬ u = w := fun c => by rw [c, hs] at q1; cases q1; cases q2
  simp only [List.mem_cons, hne, false_or]
  exact q3
 | step hs hn run go h1 hp ho _ ih =>
  rename_i w ws y y1 y' s s1 e es _
  intro u s' h3 h4
  obtain ⟨s2, q1, q2, q3⟩ := ih u s' h3 h4
  have hwl := (IX.mp hs).1
  by_cases c : u = w
  ·subst c
   rw [h1, JF] at q1
   simp only [hwl, if_true] at q1
   cases q1
   refine ⟨s, hs, hn, ?_⟩
   simp only [List.mem_cons, true_or, if_true]
   split at q3 <;> lia
  ·rw [h1, Jq (Ne.symm c)] at q1
   refine ⟨s2, q1, q2, ?_⟩
   simp only [List.mem_cons, c, false_or]
   have := ho u s2
   exact aN 0x111bc1ca931ba9312 q3 this
theorem YardI.tight {L : Nat} {rows : List Rw} {sts : List St} (I : YardI aa L rows sts) (h : ∀ (j : Nat) (r : Rw), rows[j]? = some r -> r.p.length <= B) : YardI aa B rows sts :=
 ⟨I.len, fun j r e => ⟨(I.row j r e).1, (I.row j r e).2.1, h j r e, (I.row j r e).2.2.2⟩, I.st⟩
theorem j8 (pv : jk aa ag V W B) : ∀ (ws : List Nat) (y : Yy), (∀ w ∈ ws, w < W) -> Jv aa V W B N y -> ∃ y' es, Tr aa ag V W ws y y' es /\ Jv aa V W B N y'
 | [], y, _, j => ⟨y, [], .nil y, j⟩
 | w :: ws, y, hw, j => by
  have hww := hw w Jj
  have hws := fun v m => hw v (JB _ m)
  have hlt : w < y.1.length := by rw [j.len]; exact hww
  obtain ⟨r, hr⟩ : ∃ r, y.1[w]? = some r := ⟨_, I3 hlt⟩
  obtain ⟨s, hs⟩ : ∃ s, y.2[w]? = some s := ⟨_, I3 (by rw [<- j.yd.len]; exact hlt)⟩
  cases q : bE (some s) with
  | true =>
   have hs0 : s = .rests := by cases s <;> first | rfl | cases q
   subst hs0
   obtain ⟨y', es', h1, h2⟩ := j8 pv ws y hws j
   exact ⟨y', es', .rest hs h1, h2⟩
  | false =>
   obtain ⟨a, r', s', ev, st⟩ := Ha (ag := ag) j.pl pv.hB (by rw [j.len]; exact pv.pr.hW) pv.pr.bm hr hs (Hb q)
   have gp := st.go.psi pv.hV j.yd hlt j.len hs
   obtain ⟨ra, f⟩ := st.go.eff pv.hV j.yd hlt
   have sz : ∀ (i : Nat) (r2 : Rw), (y.1.set a r')[i]? = some r2 -> r2.p.length + RR aa V (y.1.set a r') (y.2.set w s') <= B := fun i r2 h => by
    have f1 := f.wt
    have f2 := f.pl
    by_cases c : a = i
    ·subst c
     have := j.sz a ra f.at'
     rw [JF] at h
     simp only [st.at', if_true] at h
     cases h; exact dI 0x111bde31ed39ca331ba9312 f1 this
    ·rw [Jq c] at h
     have := j.sz i r2 h
     exact eT 0x1111be931df1fe3dca331ba9313 f1 f2 this
   have j1 : Jv aa V W B N (y.1.set a r', y.2.set w s') := ⟨(st.go.kind j.yd).yd j.yd hlt, (st.go.sim j.yd j.em hlt).1, by simp [j.len], st.inv.tight fun i r2 h => by have := sz i r2 h; exact ay 0x11ab931a911 this, sz, fun u t h hn => by
    by_cases c : w = u
    ·subst c
     rw [JF] at h
     simp only [(List.getElem?_eq_some_iff.mp hs).1, if_true] at h
     cases h
     show psi aa V W (y.1.set a r') (y.2.set w s') w s' <= N
     have := gp.1; have := j.ps w s hs q; exact ay 0x111ab1b11931a912 gp.1 this
    ·rw [Jq c] at h
     exact Je (gp.2 u t) (j.ps u t h hn)⟩
   obtain ⟨y', es', h1, h2⟩ := j8 pv ws (y.1.set a r', y.2.set w s') hws j1
   exact ⟨y', eQ ev ++ es', Tr.step (y1 := (y.1.set a r', y.2.set w s')) (s1 := s') hs q st.run ⟨a, r', st.go, rfl⟩ rfl gp.1 gp.2 h1, h2⟩
theorem zH (hall : ∀ u, u < W -> u ∈ ws) (t : Tr aa ag V W ws y y' es) (j : Jv aa V W B (N + 1) y) (j' : Jv aa V W B (N + 1) y') : Jv aa V W B N y' :=
 ⟨j'.yd, j'.em, j'.len, j'.pl, j'.sz, fun u s h hn => by
  obtain ⟨s0, q1, q2, q3⟩ := t.left u s h hn
  have hu : u < W := by have := (IX.mp h).1; rw [<- j'.yd.len, j'.len] at this; exact this
  rw [Id (hall u hu)] at q3
  have := j.ps u s0 q1 q2
  exact ay 0x11111a3b1b11931a912 q3 this⟩
set_option tactic.hygienic true in
theorem Hg (t : Tr aa ag V W ws y y' es) (n af : Nat) (H : HP) : ∀ (es0 : List Evt) (ρ : an), es0.length + ws.length <= 900000 -> gt ρ aa ag y H.length ->
  ∃ ρ', bT (gf (ai CC (n+3)) af) (bb "worker") (ws.map fun (w : Nat) => AV.int (w : Int)) ρ (H ++ [aQ es0]) = some (.next, ρ', H ++ [aQ (es0 ++ es)]) /\ gt ρ' aa ag y' H.length := by
 induction t with
 | nil y => intro es0 ρ _ e; exact ⟨ρ, by simp only [List.map_nil, bT, List.append_nil], e⟩
 | rest hs _ ih =>
  rename_i w ws y y' es _
  intro es0 ρ hE e
  rw [Jl] at hE
  have hst := fun G => j7 G hs
  have up : gt (upd ρ "worker" (.int (w : Int))) aa ag y H.length := ⟨e.pl, e.ya, e.ev⟩
  have b : gf (ai CC (n+3)) af (upd ρ "worker" (.int (w : Int))) (H ++ [aQ es0]) = some (.next, upd ρ "worker" (.int (w : Int)), H ++ [aQ es0]) := by
   simp only [gf, e.ya, aU, hst, n8, bE, Qa, Qb, Qc, Qf, aq, au, QF, QL, aw, QW, cond_true, cond_false, Q8, Q9, Jg, Ji, Zj, Zk, Nat.reduceBEq, Zl, eD, bz, cp]
  obtain ⟨ρ', h1, h2⟩ := ih es0 (upd ρ "worker" (.int (w : Int))) (am 0x110dbba03711a39310dbba037a9311 hE) up
  refine ⟨ρ', ?_, h2⟩
  simp only [List.map_cons, bT, bb, Option.bind_some]
  rw [b]
  simp only [Qc]
  exact h1
 | step hs hn run go hs1 hp ho _ ih =>
  rename_i w ws y yn y' s s1 ev es _
  intro es0 ρ hE e
  rw [Jl] at hE
  have hst := fun G => j7 G hs
  generalize hρ : upd (upd (upd ρ "worker" (.int (w : Int))) "yard" (aU yn.1 yn.2)) "event" ev.v = ρ1
  have e1 : gt ρ1 aa ag yn H.length := by rw [<- hρ]; exact ⟨e.pl, by kernel_rfl, e.ev⟩
  have l1 : ρ1 "event" = some ev.v := by rw [<- hρ]; kernel_rfl
  have k3 : ∀ X, mY (ai CC (n+3)) af ρ1 (H ++ [aQ es0]) = X -> gf (ai CC (n+3)) af (upd ρ "worker" (.int (w : Int))) (H ++ [aQ es0]) = sq X aq := fun X hX => by
   have run' := run n af (H ++ [aQ es0])
   unfold aU at run' hρ
   simp only [gf, e.ya, aU, hst, n8, hn, xl, e.pl, run', hρ, hX, Qa, Qb, Qc, Qe, asgT, au, Qq, Qr, aP, QF, QL, aw, QW, cond_true, cond_false, Q4, Jk, bi, Q8, Q9, Jh, Ji, Zj, Zk, Nat.reduceBEq, Zl, bU, eD, bz, cp]
  have b : gf (ai CC (n+3)) af (upd ρ "worker" (.int (w : Int))) (H ++ [aQ es0]) = some (.next, ρ1, H ++ [aQ (es0 ++ eQ ev)]) := by
   by_cases c : ev = .none
   ·subst c
    rw [k3 _ rfl]
    have : aQ (es0 ++ eQ .none) = aQ es0 := by simp [eQ]
    rw [this]
    simp only [mY, l1, Evt.v, Qa, Qb, Qc, Qf, aq, QF, QP, QQ, aw, QW, Jg, Zj]
   ·have hn : cI ev.v = false := by
     cases q : cI ev.v with
     | false => rfl
     | true => exact absurd ((Evt.isNone ev).mp q) c
    have hm := Hc (af := af) (o := fun H => ae ρ1 "events" H) (es := [fun H => ae ρ1 "event" H]) (H := H ++ [aQ es0]) (k := H.length) (xs := aQ es0) (v := ev.v) (cx e1.ev) (by simp only [cx l1, Qr, Qq, Qa]) (n9 _ _) (bC (by unfold aQ; rw [IZ]; exact am 0x110dbba03711a39310f424037119311 hE))
    rw [zE] at hm
    rw [k3 _ rfl]
    simp only [mY, xk, l1, hn, ↓hm, zF c, Qa, Qb, Qc, Qe, aq, Qg, QF, QP, aw, QW, Jh, Zj]
    simp [aQ]
  obtain ⟨ρ', h1, h2⟩ := ih (es0 ++ eQ ev) ρ1 (by have := zG ev; rw [I2]; exact ay 0x11111a10dbba03711b39310dbba037ba93312 hE this) e1
  refine ⟨ρ', ?_, h2⟩
  simp only [List.map_cons, bT, bb, Option.bind_some]
  rw [b]
  simp only [Qc]
  rw [h1, I5]
set_option tactic.hygienic true in
theorem Tr.sim (t : Tr aa ag V W ws y y' es) (yd : Yd aa y.1 y.2) (em : Em y.1 y.2) : Em y'.1 y'.2 /\ run aa (Sy y.1 y.2) (es.map fq) = some (Sy y'.1 y'.2) := by
 induction t with
 | nil y => exact ⟨em, rfl⟩
 | rest hs _ ih => exact ih yd em
 | step hs hn run go h1 hp ho _ ih =>
  rename_i e es _
  obtain ⟨a, r', g, rfl⟩ := go
  have hlt := (IX.mp hs).1
  rw [<- yd.len] at hlt
  obtain ⟨e1, s1⟩ := g.sim yd em hlt
  obtain ⟨e2, s2⟩ := ih ((g.kind yd).yd yd hlt) e1
  refine ⟨e2, ?_⟩
  by_cases c : e = .none
  ·subst c
   have s3 : Sy _ _ = Sy _ _ := s1
   dsimp only at s2
   rw [s3] at s2
   exact s2
  ·rw [zF c]
   have s3 : ∀ S S', says aa S S' e -> cj aa S (fq e) = some S' := fun S S' q => by cases e <;> first | exact absurd rfl c | exact q
   show (cj aa _ (fq e)).bind _ = _
   rw [s3 _ _ s1]; exact s2
end
end Mine.Internal
namespace Mine.Internal
open PySem PyProof.Rows
section
variable {aa ag : List (List Int)} {V : Int -> Nat} {W B N : Nat} {ws ws' : List Nat} {y y' y2 : Yy} {es es' : List Evt}
theorem Tr.app (t : Tr aa ag V W ws y y' es) (t' : Tr aa ag V W ws' y' y2 es') : Tr aa ag V W (ws ++ ws') y y2 (es ++ es') := by
 induction t with
 | nil y => exact t'
 | rest hs _ ih => exact .rest hs (ih t')
 | step hs hn run go h1 hp ho _ ih => rw [I5]; exact .step hs hn run go h1 hp ho (ih t')
end
section
variable {aa ag : List (List Int)} {V : Int -> Nat} {W B N : Nat} {ws : List Nat} {y y' : Yy} {es : List Evt}
set_option tactic.hygienic true in
theorem zI (t : Tr aa ag V W ws y y' es) (hl : ws.length <= 90000) (n af : Nat) (H : HP) :
  ai CC (n+4) af "woven_all" [aO aa ag, aU y.1 y.2, .list (ws.map fun (w : Nat) => AV.int (w : Int))] H = some (.tup [aU y'.1 y'.2, .ref H.length], H ++ [aQ es]) := by
 rw [Fh]
 generalize hρ0 : upd (upd (upd (upd aF "plan" (aO aa ag)) "yard" (aU y.1 y.2)) "weaving" (.list (ws.map fun (w : Nat) => AV.int (w : Int)))) "events" (.ref H.length) = ρ0
 obtain ⟨ρ', h1, h2⟩ := Hg t n af H [] ρ0 (by simp; exact az 0x11015f9037910dbba037911 hl) (by rw [<- hρ0]; exact ⟨by simp only [cond_true, cond_false, Zk, Nat.reduceBEq, dN, bU, fE, cp], by simp only [cond_true, cond_false, Zk, Nat.reduceBEq, dN, bU, fE, cp], by simp only [cond_true, cond_false, Zk, Nat.reduceBEq, dN, bU, fE, cp]⟩)
 have h1' : bJ (gf (ai CC (n+3)) af) (bb "worker") (qP (ai CC (n+3)) af ρ0) ρ0 (H ++ [[]]) = some (.next, ρ', H ++ [aQ es]) := by
  have hw : ρ0 "weaving" = some (.list (ws.map fun (w : Nat) => AV.int (w : Int))) := by rw [<- hρ0]; simp only [cond_true, cond_false, Zk, Nat.reduceBEq, dN, bU, fE, cp]
  simp only [bJ, qP, hw, Qa, Qb, QC, Zj]
  exact h1
 simp only [xp, xo, xn, hρ0, h1', xm, h2.ya, h2.ev, Qa, Qb, Qc, Qd, aC, asgN, Qh, Qq, Qr, Q7, Zj, ↓Zx, ↓ZA]
theorem zJ (y : Yy) (es : List Evt) (J : HP) : fz (aQ es :: J) (.tup [aU y.1 y.2, .ref 0]) = some (.tup [aU y.1 y.2, .list (aQ es)]) := by
 have e : dm (aQ es) = true := noRefs_iff.mpr fun x m => by
  obtain ⟨r, _, rfl⟩ := Jm.mp m
  exact He r
 have a1 : dp (bu (aQ es :: J) 4) (aU y.1 y.2) = some (aU y.1 y.2) := i4 (Hf _ _)
 have a2 : dp (bu (aQ es :: J) 4) (.ref 0) = some (.list (aQ es)) := by
  show (bk (bu (aQ es :: J) 3) (aQ es)).map AV.list = _
  rw [mw e]; rfl
 have a3 : bk (bu (aQ es :: J) 4) [aU y.1 y.2, .ref 0] = some [aU y.1 y.2, .list (aQ es)] := by
  simp only [bk, a1, a2, Option.map_some]
 show (bk _ _).map AV.tup = _
 rw [a3]; rfl
def ec (y : Yy) : Bool := y.2.all fun s => bE (some s)
theorem zK {α : Type} (f : α -> Bool) : ∀ l : List α, fT (l.map fun a => AV.bool (f a)) = some (l.map f)
 | [] => rfl
 | a :: l => by simp only [List.map_cons, fT, dU, zK f l, Option.map_some, Option.bind_some]
def zL (v : AV) : AV := match v with
 | .tup (.str t :: _) => .bool (aL t == 15905532516069)
 | _ => .none
theorem zM (s : St) : zL s.v = .bool (bE (some s)) := by
 show AV.bool (aL (Str.ofString s.tag) == 15905532516069) = _
 rw [n8]
theorem sF (n af : Nat) (y : Yy) (H : HP) (hl : y.2.length <= 100) : ai CC (n+1) af "is_over" [aU y.1 y.2] H = some (.bool (ec y), H) := by
 rw [Fg]
 have c : ∀ ρ : an, ρ "yard" = some (aU y.1 y.2) -> bg bq (qN (ai CC n) af) "state" ρ (qO (ai CC n) af ρ) H = some (y.2.map fun s => AV.bool (bE (some s)), H) := fun ρ hy => by
  have y1 : aS H (aU y.1 y.2) (.int 1) = some (.tup (y.2.map St.v)) := Q9 H _ _ _
  rw [jM (src := .tup (y.2.map St.v)) (xs := y.2.map St.v) zL (by simp only [qO, hy, y1, Qa, Qb, au, Zj]) rfl (by rw [IZ]; exact bC (az 0x11642910f424037911 hl)) (fun v m => by
   obtain ⟨s, _, rfl⟩ := Jm.mp m
   rw [zM]
   have e : s.v = .tup (.str (Str.ofString s.tag) :: s.rest) := rfl
   simp only [qN, e, n8, Qa, Qb, au, QF, QK, cond_true, Q8, Zj, Zk, Nat.reduceBEq, Zl, eD, cA])]
  rw [List.map_map]
  congr 2
  exact List.map_congr_left fun s O => zM s
 simp only [xj, xi, c (upd aF "yard" (aU y.1 y.2)) rfl, zK, Qa, Qb, Qd, aC, Qh, Qq, Qr, aK, Qx, Q5, Ji]
 simp [ec, List.all_map]
set_option tactic.hygienic true in
theorem zN {test : an -> HP -> R Bool} {body : an -> HP -> RS} {k : Nat} {ρ ρ1 : an} {H H1 H2 : HP} (h : test ρ H = some (true, H1)) (hb : body ρ H1 = some (.next, ρ1, H2)) : c8 test body (k + 1) ρ H = c8 test body k ρ1 H2 := by
 show av (test ρ H) (fun b H => (match b with | true => sq (body ρ H) fun ρ H => c8 test body k ρ H | false => some (.next, ρ, H))) = _
 rw [h, Qa]
 show sq (body ρ H1) _ = _
 rw [hb]; rfl
set_option tactic.hygienic true in
theorem zO {test : an -> HP -> R Bool} {body : an -> HP -> RS} {k : Nat} {ρ : an} {H H1 : HP} (h : test ρ H = some (false, H1)) : c8 test body (k + 1) ρ H = some (.next, ρ, H1) := by
 show av (test ρ H) (fun b H => (match b with | true => sq (body ρ H) fun ρ H => c8 test body k ρ H | false => some (.next, ρ, H))) = _
 rw [h]; rfl
theorem zP (n af : Nat) {ρ : an} {k : Nat} (e : gt ρ aa ag y k) (hl : y.2.length <= 100) (H : HP) : cD (aw (aP (ai CC (n+4)) af "is_over" [(fun H => ae ρ "yard" H)] H)) = some (!ec y, H) := by
 simp only [e.ya, sF (n+3) af y _ hl, Qa, Qb, Qq, Qr, aP, aw, QW, cD, Zj]
theorem Hh {af k j : Nat} {o : HP -> R AV} {es : List (HP -> R AV)} {H : HP} {xs ys : List AV} (ho : o H = some (.ref k, H)) (he : bo es H = some ([.ref j], H)) (hk : H[k]? = some xs) (hj : H[j]? = some ys) (hl : xs.length + ys.length <= aM) :
  bx af .extend o es H = some (.none, H.set k (xs ++ ys)) := by
 have h : dX H .extend xs [.ref j] = some (.none, xs ++ ys) := by
  show ((H[j]?).bind fun ys => if xs.length + ys.length <= aM then some (AV.none, xs ++ ys) else none) = _
  rw [hj]; exact Id hl
 have hs : e9 H (.ref k) = true := by show (H[k]?).isSome = true; rw [hk]; rfl
 simp only [bx, ho, Qa, hs, if_true, he, gP hk h, bF]
set_option tactic.hygienic true in
theorem zQ (pv : jk aa ag V W B) (n af : Nat) : ∀ (N fuel : Nat) (y : Yy) (es : List Evt) (J : HP) (ρ : an), N < fuel -> Jv aa V W B N y -> es.length + N * W <= 900000 -> gt ρ aa ag y 0 ->
  ∃ ρ' y' es' J', c8 (fun ρ H => cD (aw (aP (ai CC (n+4)) af "is_over" [(fun H => ae ρ "yard" H)] H))) (jf (ai CC (n+4)) af) fuel ρ (aQ es :: J) = some (.next, ρ', aQ es' :: J') /\ gt ρ' aa ag y' 0 /\ Jv aa V W B N y' /\ ec y' = true /\ ∃ ws e2, es' = es ++ e2 /\ es'.length <= es.length + N * W /\ (∀ v ∈ ws, v < W) /\ Tr aa ag V W ws y y' e2
 | N, 0, y, es, J, ρ, hf, _, _, _ => absurd hf (Nat.not_lt_zero _)
 | N, fuel + 1, y, es, J, ρ, hf, j, hE, e => by
  have hW := pv.pr.hW
  have hl2 : y.2.length = W := by rw [<- j.yd.len, j.len]
  cases ob : ec y with
  | true => exact ⟨ρ, y, es, J, by rw [zO (H1 := aQ es :: J) (by rw [zP n af e (am 0x111a93642a1642912 hW hl2), ob]; rfl)], e, j, ob, [], [], by simp, by exact am 27867408, fun O m => (nomatch m), .nil y⟩
  | false =>
   obtain ⟨s, hs, hn⟩ : ∃ s ∈ y.2, bE (some s) = false := by
    obtain ⟨s, h1, h2⟩ := List.all_eq_false.mp ob
    exact ⟨s, h1, by simpa using h2⟩
   obtain ⟨u, hu, es0⟩ := List.mem_iff_getElem.mp hs
   have hps := j.ps u s (by rw [I3 hu, es0]) hn
   have hpos : 1 <= pc aa W y.1 u s := by
    cases s with
    | mends t o => cases o <;> (simp only [pc]; lia)
    | rests => cases hn
    | _ => simp only [pc]; lia
   obtain ⟨N', rfl⟩ : ∃ N', N = N' + 1 := ⟨N - 1, by unfold psi at hps; exact am 0x11101911a3311a39111a3932 (I6 (IO _)) (I1 (ay 0x111a1119ba3191112 hps hpos))⟩
   rw [Nat.add_mul, Nat.one_mul] at hE
   obtain ⟨y1, e1, t, j1⟩ := j8 pv (List.range W) y (fun w m => List.mem_range.mp m) j
   have hw := zI t (by rw [List.length_range]; exact az 0x1164291015f9037911 hW) n af (aQ es :: J)
   have j2 := zH (fun u h => List.mem_range.mpr h) t j j1
   have tl := t.len
   rw [List.length_range] at tl
   have y1' : ∀ G, aS G (aU y.1 y.2) (.int 1) = some (.tup (y.2.map St.v)) := fun G => Q9 G _ _ _
   have rl : jA 0 (W : Int) = some (.list ((List.range W).map fun (w : Nat) => AV.int (w : Int))) := by
    unfold jA; rw [iZ, Id (by rw [IZ, List.length_range]; exact bC (az 0x11642910f424037911 hW))]
   generalize hρ : upd (upd ρ "yard" (aU y1.1 y1.2)) "more" (.ref (J.length + 1)) = ρ1
   have E1 : gt ρ1 aa ag y1 0 := by rw [<- hρ]; exact ⟨by simp only [e.pl, cond_false, Zk, Nat.reduceBEq, nW, bU, cp], by simp only [cond_true, cond_false, Zk, Nat.reduceBEq, nW, cp], by simp only [e.ev, cond_false, Zk, Nat.reduceBEq, dN, nW, cp]⟩
   have lm : ρ1 "more" = some (.ref (J.length + 1)) := by rw [<- hρ]; simp only [cond_true, cond_false, Zk, Nat.reduceBEq, nW, cp]
   have hm := Hh (af := af) (o := fun H => ae ρ1 "events" H) (es := [fun H => ae ρ1 "more" H]) (H := (aQ es :: J) ++ [aQ e1]) (k := 0) (j := J.length + 1) (xs := aQ es) (ys := aQ e1) (cx E1.ev) (by simp only [lm, Qa, Qb, Qq, Qr, Zj]) rfl (n9 (aQ es :: J) _)
    (bC (by unfold aQ; rw [IZ, IZ]; exact aN 0x111ca10dbba037cb39310f424037a9312 hE tl))
   have hj : aQ es ++ aQ e1 = aQ (es ++ e1) := by simp [aQ]
   rw [hj] at hm
   have hset : ((aQ es :: J) ++ [aQ e1]).set 0 (aQ (es ++ e1)) = aQ (es ++ e1) :: (J ++ [aQ e1]) := rfl
   rw [hset] at hm
   have b : jf (ai CC (n+4)) af ρ (aQ es :: J) = some (.next, ρ1, aQ (es ++ e1) :: (J ++ [aQ e1])) := by
    simp only [jf, e.pl, e.ya, y1', hl2, iY (n := W) (bC (az 0x11642910f424037911 hW)), rl, hw, hρ, xr, ↓hm, Qa, Qb, Qc, aq, asgT, Qg, au, Qq, Qr, aP, aK, Qs, Qt, Qv, bI, Qz, Q4, Jk, bi, Jc, List.length_map, if_true, Ji, Zj]
   obtain ⟨ρ', y', es', J', h1, h2, h3, h4, ws, e2, h5, h7, h8, h6⟩ := zQ pv n af N' fuel y1 (es ++ e1) (J ++ [aQ e1]) ρ1 (am 0x1111a311932a921 hf) j2 (by rw [I2]; exact aN 0x111ca10dbba037cb39310dbba037ba93312 hE tl) E1
   refine ⟨ρ', y', es', J', ?_, h2, ⟨h3.yd, h3.em, h3.len, h3.pl, h3.sz, fun u s a b => Nat.le_succ_of_le (h3.ps u s a b)⟩, h4, List.range W ++ ws, e1 ++ e2, by rw [h5, I5], by rw [I2] at h7; rw [Nat.add_mul, Nat.one_mul]; exact a7 0x111bda3391cd1cb3a3912 tl h7, fun v m => (List.mem_append.mp m).elim List.mem_range.mp (h8 v), t.app h6⟩
   rw [zN (H1 := aQ es :: J) (by rw [zP n af e (am 0x111a93642a1642912 hW hl2), ob]; rfl) b, h1]
end
section
variable {aa ag : List (List Int)} {V : Int -> Nat} {W B N : Nat} {ws : List Nat} {y y' : Yy} {es : List Evt}
set_option tactic.hygienic true in
theorem Hi {Φ : aR} {af : Nat} {ρ : an} {i : Int} {H : HP} (hy : ρ "yard" = some (aU y.1 y.2)) (h0 : 0 <= i) (h1 : i < (y.2.length : Int)) : mZ Φ af (upd ρ "worker" (.int i)) H = some (.next, upd ρ "worker" (.int i), H) := by
 have c1 : ¬ i < 0 := by exact aG 0x119019019d1 h0
 have c2 : ¬ (y.2.length : Int) <= i := by exact aV 0x11959a995c1 h1
 have y1 : ∀ G, aS G (aU y.1 y.2) (.int 1) = some (.tup (y.2.map St.v)) := fun G => Q9 G _ _ _
 simp only [mZ, hy, y1, c1, c2, Qa, Qb, Qc, Qf, aq, au, Qq, Qr, aK, Qs, bI, Qz, QF, QG, QJ, aw, QW, QY, Q0, cond_true, cond_false, List.length_map, Ji, decide_false, Zj, Zk, Nat.reduceBEq, bz, cp]
theorem zR (t : Tr aa ag V W ws y y' es) (hl : ws.length <= 90000) (hw : ∀ w ∈ ws, w < y.2.length) (n af : Nat) :
  ai CC (n+5) af "woven" [aO aa ag, aU y.1 y.2, .list (ws.map fun (w : Nat) => AV.int (w : Int))] [] = some (.tup [aU y'.1 y'.2, .list (aQ es)], []) := by
 rw [Fk]
 obtain ⟨ρ', H', h1, e1, e2, e3, rfl⟩ := iX (body := mZ (ai CC (n+4)) 0) (tgt := bb "worker") (it := qQ (ai CC (n+4)) 0 (upd (upd (upd aF "plan" (aO aa ag)) "yard" (aU y.1 y.2)) "weaving" (.list (ws.map fun (w : Nat) => AV.int (w : Int))))) (ρ := upd (upd (upd aF "plan" (aO aa ag)) "yard" (aU y.1 y.2)) "weaving" (.list (ws.map fun (w : Nat) => AV.int (w : Int)))) (H := []) (H1 := [])
  (src := .list (ws.map fun (w : Nat) => AV.int (w : Int))) (xs := ws.map fun (w : Nat) => AV.int (w : Int)) (fun O ρ G => ρ "plan" = some (aO aa ag) /\ ρ "yard" = some (aU y.1 y.2) /\ ρ "weaving" = some (.list (ws.map fun (w : Nat) => AV.int (w : Int))) /\ G = [])
  (by simp only [qQ, Qb, cond_true, cond_false, Zj, Zk, Nat.reduceBEq, bU, fE, cp]) rfl ⟨by simp only [cond_true, cond_false, Zk, Nat.reduceBEq, bU, fE, cp], by simp only [cond_true, cond_false, Zk, Nat.reduceBEq, bU, fE, cp], by simp only [cond_true, cond_false, Zk, Nat.reduceBEq, bU, fE, cp], rfl⟩ (by
   rintro i v ρ G hv ⟨a1, a2, a3, rfl⟩
   have hi := (IX.mp hv).1
   rw [IZ] at hi
   rw [JC, I3 hi] at hv
   cases hv
   have hwi := hw ws[i] (List.getElem_mem hi)
   exact ⟨_, upd ρ "worker" (.int ((ws[i] : Nat) : Int)), [], rfl, Hi a2 (az 26542480) (am 0x11a92a595a1 hwi), by simp only [a1, cond_false, Zk, Nat.reduceBEq, bU, bz], by simp only [a2, cond_false, Zk, Nat.reduceBEq, bz, cp], by simp only [a3, cond_false, Zk, Nat.reduceBEq, fE, bz], rfl⟩)
 have hall := zI t hl n 0 []
 have hz : qR (ai CC (n+4)) 0 (upd (upd (upd aF "plan" (aO aa ag)) "yard" (aU y.1 y.2)) "weaving" (.list (ws.map fun (w : Nat) => AV.int (w : Int)))) [] = some (.ret (.tup [aU y'.1 y'.2, .ref 0]), ρ', [aQ es]) := by
  simp only [qR, h1, xq, e1, e2, e3, hall, List.nil_append, Qa, Qb, Qc, Qd, aC, Qq, Qr, aP, Jd, Zj]
 show cC _ = _
 rw [hz]
 simp only [cC, zJ]
set_option tactic.hygienic true in
theorem Hj (pv : jk aa ag V W B) (j : Jv aa V W B N y) (hN : N < 100000) (hE : N * W <= 900000) (n af : Nat) :
  ∃ y' es', ai CC (n+5) af "finished" [aO aa ag, aU y.1 y.2] [] = some (.tup [aU y'.1 y'.2, .list (aQ es')], []) /\ Jv aa V W B N y' /\ ec y' = true /\ es'.length <= N * W /\ ∃ ws, (∀ v ∈ ws, v < W) /\ Tr aa ag V W ws y y' es' := by
 rw [Fp]
 obtain ⟨ρ', y', es', J', h1, h2, h3, h4, ws, e2, h5, h7, h8, h6⟩ := zQ pv n 0 N d7 y [] [] (upd (upd (upd aF "plan" (aO aa ag)) "yard" (aU y.1 y.2)) "events" (.ref 0)) (by unfold d7; exact az 0x110186a037920186a037921 hN) j (by simpa using hE) ⟨by simp only [cond_true, cond_false, Zk, Nat.reduceBEq, dN, bU, cp], by simp only [cond_true, cond_false, Zk, Nat.reduceBEq, dN, bU, cp], by simp only [cond_true, cond_false, Zk, Nat.reduceBEq, dN, bU, cp]⟩
 rw [List.nil_append] at h5
 subst h5
 refine ⟨y', es', ?_, h3, h4, by simpa using h7, ws, h8, h6⟩
 have h1 : c8 (fun ρ H => cD (aw (aP (ai CC (n+4)) 0 "is_over" [(fun H => ae ρ "yard" H)] H))) (jf (ai CC (n+4)) 0) d7 (upd (upd (upd aF "plan" (aO aa ag)) "yard" (aU y.1 y.2)) "events" (.ref 0)) [[]] = some (.next, ρ', aQ es' :: J') := h1
 have e : xt (ai CC (n+4)) af (aO aa ag) (aU y.1 y.2) [] = cC (sq (c8 (fun ρ H => cD (aw (aP (ai CC (n+4)) 0 "is_over" [(fun H => ae ρ "yard" H)] H))) (jf (ai CC (n+4)) 0) d7 (upd (upd (upd aF "plan" (aO aa ag)) "yard" (aU y.1 y.2)) "events" (.ref 0)) [[]]) (qS (ai CC (n+4)) 0)) := by kernel_rfl
 rw [e, h1]
 simp only [qS, h2.ya, h2.ev, Qa, Qb, Qc, Qd, aC, Qq, Qr, Zj, ↓Zx]
 simp only [cC, zJ]
end
end Mine.Internal
namespace Mine.Internal
open PySem PyProof.Rows
theorem oa {a b : List AV} {H : HP} (h : a.length + b.length <= aM) : ct .Add (.list a) (.list b) H = some (.list (a ++ b)) := by
 show (if a.length + b.length <= aM then _ else _) = _
 rw [Id h]
theorem zS (v : Int) : ∀ k, e7 [AV.int v] k = (List.replicate k v).map AV.int
 | 0 => rfl
 | k + 1 => by rw [e7, zS v k, List.replicate_succ]; rfl
theorem sG {v y : Int} {H : HP} (h : 0 <= y) (h' : y <= 1000) : ct .Mult (.list [.int v]) (.int y) H = some (iL (List.replicate y.toNat v)) := by
 show (if bA y && decide (1 * y.toNat <= aM) then some (AV.list (e7 [.int v] y.toNat)) else none) = _
 rw [j5 h (aG 0x1103e82799030d4037991 h'), Jf (bC (by exact aV 0x111995b03e827990f42403791612 h' (I7 (aG 0x11901990191 h)))), zS]; rfl
structure jl (ρ : an) (aA : Nat) (ws : List Int) : Prop where
 m : ρ "_law_many" = some (.int (aA : Int))
 w : ρ "_law_weaving" = some (iL ws)
theorem Hk (a b : List Int) : AV.list (a.map AV.int ++ b.map AV.int) = iL (a ++ b) := by simp [iL]
set_option tactic.hygienic true in
theorem Hl (n af : Nat) {ρ : an} {aA : Nat} {ws : List Int} (c : Int) (H : HP) (e : jl ρ aA ws) (h0 : 0 < aA) (h1 : aA <= 30) (hl : ws.length <= 100000) :
  ∃ ρ' ws', gY (ai CC n) af (upd ρ "_law_cell" (.int c)) H = some (.next, ρ', H) /\ jl ρ' aA (ws ++ ws') /\ ws'.length <= 30 /\ ∀ x ∈ ws', 0 <= x /\ x < (aA : Int) := by
 have hm : 0 < (aA : Int) := by exact az 0x1190129501a1 h0
 have hm2 : (aA : Int) < 1073741824 := by exact az 0x111e291400000004795a1 h1
 have md : ∀ x : Int, 0 <= x % (aA : Int) /\ x % (aA : Int) < (aA : Int) := fun x => ⟨Int.emod_nonneg _ (az 0x1190120195e1 h0), Int.emod_lt_of_pos _ hm⟩
 have fin : ∀ ws' : List Int, jl (upd (upd ρ "_law_cell" (.int c)) "_law_weaving" (iL (ws ++ ws'))) aA (ws ++ ws') := fun ws' => ⟨by simp only [e.m, cond_false, Zk, Nat.reduceBEq, cm, b6, gm], by simp only [cond_true, cond_false, Zk, Nat.reduceBEq, cm, gm]⟩
 have add : ∀ ws' : List Int, ws'.length <= 30 -> ct .Add (iL ws) (iL ws') H = some (iL (ws ++ ws')) := fun ws' h => by
  rw [iL, iL, oa (sy (by rw [IZ]; exact az 0x110186a03791061a8037911 hl) (by rw [IZ]; exact az 0x111e291061a8037911 h)), Hk]
 by_cases c6 : c % 7 = 6
 ·have hc : bg bq (rm (ai CC n) af) "_law_k" (upd ρ "_law_cell" (.int c)) (rn (ai CC n) af (upd ρ "_law_cell" (.int c))) H = some (((List.range aA).map fun (i : Nat) => ((i : Int) + c / 7) % (aA : Int)).map AV.int, H) := by
   rw [jM (src := .range 0 (aA : Int)) (xs := bH 0 (aA : Int)) (fun v => match v with | .int i => .int ((i + c / 7) % (aA : Int)) | _ => .none) ?_ rfl (by rw [gM]; exact bC (az 0x111e2910f424037911 h1)) ?_]
   ·rw [iZ]; simp only [List.map_map]; rfl
   ·simp only [rn, e.m, iY (n := aA) (bC (az 0x111e2910f424037911 h1)), Qa, Qb, Qq, Qr, aK, Qt, cond_false, if_true, Zj, Zk, Nat.reduceBEq, cm, b6]
   ·intro v hv
    obtain ⟨i, hi, rfl⟩ := vU hv
    simp only [rm, e.m, bK hm, dE, Qa, Qb, aB, Qo, cond_true, cond_false, Int.reduceLT, Zj, Zk, Nat.reduceBEq, cm, jZ, b6]
  have hl' : ((List.range aA).map fun (i : Nat) => ((i : Int) + c / 7) % (aA : Int)).length <= 30 := by simp; exact az 0x111e2911e2911 h1
  have ha := add _ hl'
  rw [iL] at ha
  refine ⟨_, _, ?_, fin _, hl', fun x m => by obtain ⟨i, _, rfl⟩ := Jm.mp m; exact md _⟩
  rw [iL] at ha
  simp only [gY, xT, c6, bK, hc, e.w, ha, iL, Qa, Qb, Qc, Qe, aq, asgN, aB, QF, QK, aw, QW, cond_true, cond_false, Q5, Zg, decide_true, Int.reduceLT, Zj, Zk, Nat.reduceBEq, cm, gm]
 ·by_cases c5 : c % 7 = 5
  ·have hy : 0 <= 1 + c / 7 / (aA : Int) % 30 /\ 1 + c / 7 / (aA : Int) % 30 <= 30 := by lia
   refine ⟨_, _, ?_, fin (List.replicate (1 + c / 7 / (aA : Int) % 30).toNat (c / 7 % (aA : Int))), by simp; exact aG 0x111e2911391e2911391 hy.2, fun x m => by rw [List.eq_of_mem_replicate m]; exact md _⟩
   have ha := add (List.replicate (1 + c / 7 / (aA : Int) % 30).toNat (c / 7 % (aA : Int))) (by simp; exact aG 0x111e2911391e2911391 hy.2)
   have hb := sG (v := c / 7 % (aA : Int)) (H := H) hy.1 (aG 0x111e29113903e827911391 hy.2)
   simp only [gY, rq, xU, c5, bK, dE, hm, hm2, e.m, e.w, hb, ha, Qa, Qb, Qc, Qe, Qf, aq, asgN, aB, Qo, Qq, Qr, QF, QK, aw, QW, cond_true, cond_false, Zg, decide_true, decide_false, Int.reduceLT, Zj, Zk, Nat.reduceBEq, ↓ZB, cm, b6, gm, Int.reduceEq]
  ·have hy : 0 <= 1 + c % 7 /\ 1 + c % 7 <= 7 := by lia
   refine ⟨_, _, ?_, fin (List.replicate (1 + c % 7).toNat (c / 7 % (aA : Int))), by simp; exact aG 0x1171911391e2911391 hy.2, fun x m => by rw [List.eq_of_mem_replicate m]; exact md _⟩
   have ha := add (List.replicate (1 + c % 7).toNat (c / 7 % (aA : Int))) (by simp; exact aG 0x1171911391e2911391 hy.2)
   have hb := sG (v := c / 7 % (aA : Int)) (H := H) hy.1 (aG 0x11719113903e827911391 hy.2)
   simp only [gY, rq, xV, c6, c5, bK, dE, hm, e.m, e.w, hb, ha, Qa, Qb, Qc, Qf, aq, asgN, aB, Qo, Qq, Qr, QF, QK, aw, QW, cond_true, cond_false, Zg, decide_false, Int.reduceLT, Zj, Zk, Nat.reduceBEq, ↓ZB, cm, b6, gm]
set_option tactic.hygienic true in
theorem Hn (n af : Nat) (cells : List Int) (aA : Nat) (H : HP) (h0 : 0 < aA) (h1 : aA <= 30) (hl : cells.length <= 3000) :
  ∃ ws, ai CC (n+1) af "_law_weaving_by" [.list (cells.map AV.int), .int (aA : Int)] H = some (iL ws, H) /\ ws.length <= 30 * cells.length /\ ∀ x ∈ ws, 0 <= x /\ x < (aA : Int) := by
 have loop : ∀ ρ : an, ρ "_law_cells" = some (.list (cells.map AV.int)) -> jl ρ aA [] -> ∃ ρ' H', bJ (gY (ai CC n) af) (bb "_law_cell") (nl (ai CC n) af ρ) ρ H = some (.next, ρ', H') /\ H' = H /\ ∃ ws, jl ρ' aA ws /\ ws.length <= 30 * cells.length /\ ∀ x ∈ ws, 0 <= x /\ x < (aA : Int) := by
  intro ρ hc e
  have := iX (body := gY (ai CC n) af) (tgt := bb "_law_cell") (it := nl (ai CC n) af ρ) (ρ := ρ) (H := H) (H1 := H) (src := .list (cells.map AV.int)) (xs := cells.map AV.int)
   (fun i ρ G => G = H /\ ∃ ws, jl ρ aA ws /\ ws.length <= 30 * i /\ ∀ x ∈ ws, 0 <= x /\ x < (aA : Int)) (by simp only [nl, cx hc]) rfl ⟨rfl, [], e, by simp, by simp⟩ ?_
  ·rwa [IZ] at this
  ·rintro i v ρ2 G hv ⟨rfl, ws, e2, l2, m2⟩
   have hi := (IX.mp hv).1
   rw [IZ] at hi
   rw [JC, I3 hi] at hv
   cases hv
   obtain ⟨ρ', ws', q1, q2, q3, q4⟩ := Hl n af cells[i] G e2 h0 h1 (by lia)
   exact ⟨_, ρ', G, rfl, q1, rfl, ws ++ ws', q2, by rw [I2]; lia, fun x m => (List.mem_append.mp m).elim (m2 x) (q4 x)⟩
 rw [FB]
 obtain ⟨ρ', H', q1, rfl, ws, e, l, m⟩ := loop (upd (upd (upd aF "_law_cells" (.list (cells.map AV.int))) "_law_many" (.int (aA : Int))) "_law_weaving" (.list [])) (by simp only [cond_true, cond_false, Zk, Nat.reduceBEq, se, b6, gm]) ⟨by simp only [cond_true, cond_false, Zk, Nat.reduceBEq, se, b6, gm], by simp only [cond_true, cond_false, Zk, Nat.reduceBEq, se, b6, gm]; rfl⟩
 refine ⟨ws, ?_, l, m⟩
 simp only [xZ, xY, xW, xX, q1, e.w, Qa, Qb, Qc, Qd, aC, asgN, Qh, Zj, ↓ZA]
def gu (t : List Int) : AV := .tup [.int 0, .int (t.length : Int), iT t]
noncomputable def oc : AV := .tup [.str "free"]
def j9 (ts : List (List Int)) : AV := .tup [.tup (ts.map gu), .tup (ts.map fun O => oc)]
theorem Ho {H : HP} {rs : List AV} {ts : List (List Int)} (h : rs.map (bf H) = ts.map fun t => some (t.map AV.int)) {v : AV} (m : v ∈ rs) : ∃ t ∈ ts, bf H v = some (t.map AV.int) := by
 have : bf H v ∈ rs.map (bf H) := Jm.mpr ⟨v, m, rfl⟩
 rw [h] at this
 obtain ⟨t, ht, e⟩ := Jm.mp this
 exact ⟨t, ht, e.symm⟩
def oe (H : HP) (v : AV) : AV := .tup [.int 0, .int (((bf H v).getD []).length : Int), .tup ((bf H v).getD [])]
theorem Hp {H : HP} {rs : List AV} {ts : List (List Int)} (h : rs.map (bf H) = ts.map fun t => some (t.map AV.int)) : rs.map (oe H) = ts.map gu := by
 have e : oe H = (fun o : Option (List AV) => AV.tup [.int 0, .int (((o.getD []).length : Nat) : Int), .tup (o.getD [])]) ∘ bf H := rfl
 rw [e, <- List.map_map, h, List.map_map]
 apply List.map_congr_left
 intro t _
 simp [gu, iT]
theorem Hq {H : HP} {rs : List AV} {ts : List (List Int)} (h : rs.map (bf H) = ts.map fun t => some (t.map AV.int)) : rs.length = ts.length := by
 have := congrArg List.length h
 simpa using this
theorem Hr (n af : Nat) (p0 p1 : AV) (H : HP) (rs : List AV) (ts : List (List Int)) (hx : dr p1 = some rs) (hr : rs.map (bf H) = ts.map fun t => some (t.map AV.int)) (hl : ts.length <= aM) :
  ai CC (n+1) af "started" [.tup [p0, p1]] H = some (j9 ts, H) := by
 rw [Ff]
 have hrl := Hq hr
 have c1 : ∀ (ρ : an), ρ "plan" = some (.tup [p0, p1]) -> bg bq (qJ (ai CC n) af) "tasks" ρ (qK (ai CC n) af ρ) H = some (ts.map gu, H) := by
  intro ρ hp
  rw [jM (src := p1) (xs := rs) (oe H) ?_ hx (by rw [hrl]; exact hl) ?_, Hp hr]
  ·simp only [qK, hp, Qa, Qb, au, Q9, Zj]
  ·intro v m
   obtain ⟨t, _, e⟩ := Ho hr m
   simp only [qJ, oe, e, EP e, Option.getD_some, Qa, Qb, Qq, Qr, aK, Qs, Qw, bI, cond_true, List.length_map, Ji, Zj, Zk, Nat.reduceBEq, ↓Zy, nY]
 have c2 : ∀ (ρ : an), ρ "rows" = some (.tup (ts.map gu)) -> bg bq (qL (ai CC n) af) "row" ρ (qM (ai CC n) af ρ) H = some (ts.map fun O => oc, H) := by
  intro ρ hp
  rw [jM (src := .tup (ts.map gu)) (xs := ts.map gu) (fun O => oc) ?_ rfl (by simpa using hl) ?_]
  ·simp [List.map_map, Function.comp_def]
  ·simp only [qM, hp, Qb, Zj]
  ·intro v m
   simp only [qL, oc, Qa, Qq, Qr, ↓Zw]
 simp only [xh, xg, xf, c1 (upd aF "plan" (.tup [p0, p1])) rfl, c2 (upd (upd aF "plan" (.tup [p0, p1])) "rows" (.tup (ts.map gu))) rfl, j9, Qa, Qb, Qc, Qd, aC, asgN, Qh, Qq, Qr, aK, Qw, QB, cond_true, cond_false, Q5, Option.map_some, Zj, Zk, Nat.reduceBEq, ↓Zx, bU, cn]
theorem Hs (ag : List (List Int)) : j9 ag = aU (ag.map fun t => ⟨0, (t.length : Int), t⟩) (ag.map fun O => .free) := by
 simp only [j9, aU, List.map_map]; rfl
theorem zT {aa ag : List (List Int)} {size aA : Nat} (p : PlanOk size aA size aa ag) : YardI aa size (ag.map fun t => ⟨0, (t.length : Int), t⟩) (ag.map fun O => .free) where
 len := by simp
 row := fun j r e => by
  rw [JC] at e
  cases hj : ag[j]? with
  | none => rw [hj] at e; cases e
  | some t =>
   rw [hj] at e; cases e
   have := p.st j t hj
   exact ⟨I9 _, I9 _, this.1, fun x m => by rw [p.lb]; exact this.2 x m⟩
 st := fun j r s e1 e2 => by
  rw [JC] at e1 e2
  cases hj : ag[j]? with
  | none => rw [hj] at e1; cases e1
  | some t =>
   rw [hj] at e1 e2; cases e1; cases e2
   show (0 : Int) <= (t.length : Int)
   exact az 26542480
theorem Ht (H : HP) (ns : List Int) (a b : Nat) : ∃ cells : List Int, dt H (.list (ns.map AV.int)) (some (a : Int)) (some (b : Int)) = some (.list (cells.map AV.int)) /\ cells.length <= b := by
 refine ⟨(ns.drop (min a ns.length)).take (min b ns.length - min a ns.length), ?_, Je (List.length_take_le _ _) (Je (Nat.sub_le _ _) (Nat.min_le_left _ _))⟩
 show some (AV.list (cH (ns.map AV.int) (some (a : Int)) (some (b : Int)))) = _
 unfold cH ds
 simp only [Option.elim, if_neg (by exact az 16881104 : ¬ (a : Int) < 0), if_neg (by exact az 16881104 : ¬ (b : Int) < 0), Int.toNat_natCast, List.length_map, List.map_take, List.map_drop]
theorem ka (n af : Nat) (ns : List Int) (k : Int) (H : HP) (h : 0 <= k) : ai CC (n+1) af "_law_cell_at" [.list (ns.map .int), .int k] H = some (.int (dF ns k), H) := by
 rw [Fy]
 by_cases hk : k < (ns.length : Int)
 ·have hk' : k.toNat < ns.length := by exact aZ 0x111995ba59aa922 hk (I7 (aG 0x11901990191 h))
  have hg : aS H (.list (ns.map .int)) (.int k) = some (.int (dF ns k)) := by
   rw [fh (xs := ns.map .int) rfl h (by simpa using hk)]
   simp [dF, hk, hk']
  simp only [rg, rf, xI, hk, hg, Qa, Qb, Qd, Qe, aC, Qh, au, Qq, Qr, aK, Qs, bI, QA, QF, QG, aw, QW, cond_true, cond_false, List.length_map, Ji, decide_true, Zj, Zk, Nat.reduceBEq, jZ, dg]
 ·have hc : dF ns k = 0 := by simp [dF, hk]
  simp only [rg, rf, xJ, hk, hc, Qa, Qb, Qc, Qd, Qf, aC, aq, Qh, Qq, Qr, aK, Qs, bI, QA, QF, QG, aw, QW, cond_true, cond_false, List.length_map, Ji, decide_false, Zj, Zk, Nat.reduceBEq, jZ, dg]
structure PbEnv (ρ : an) (ns : List Int) (first cell : Int) (size aA b : Nat) : Prop where
 escript : ρ "_law_script" = some (.list (ns.map .int))
 efirst : ρ "_law_first" = some (.int first)
 ecell : ρ "_law_cell" = some (.int cell)
 emany : ρ "_law_many" = some (.int (aA : Int))
 ebrood : ρ "_law_brood" = some (.ref (b + size))
 estarts : ρ "_law_starts" = some (.ref (b + size + 1 + aA))
theorem PbEnv.up {ρ : an} {ns : List Int} {first cell : Int} {size aA b : Nat} (e : PbEnv ρ ns first cell size aA b) (v w : AV) : PbEnv (upd (upd ρ "_law_task" v) "_law_way" w) ns first cell size aA b :=
 ⟨by simp only [e.escript, cond_false, Zk, Nat.reduceBEq, dg, dh, d8], by simp only [e.efirst, cond_false, Zk, Nat.reduceBEq, eM, dh, d8], by simp only [e.ecell, cond_false, Zk, Nat.reduceBEq, cm, dh, d8], by simp only [e.emany, cond_false, Zk, Nat.reduceBEq, b6, dh, d8], by simp only [e.ebrood, cond_false, Zk, Nat.reduceBEq, eC, dh, d8], by simp only [e.estarts, cond_false, Zk, Nat.reduceBEq, fA, dh, d8]⟩
set_option tactic.hygienic true in
theorem Hu (n : Nat) {ns : List Int} {first cell : Int} {size aA i : Nat} {H : HP} {ρ : an} {aa ag : List (List Int)} (e : PbEnv ρ ns first cell size aA H.length) (hf : 0 <= first) (hi : i < size) (hm : 0 < aA) (hsz : size <= 1000)
  (p : PlanOk size aA i aa ag) : ∃ ρ' brood' starts', jV (ai CC (n + 1)) H.length (upd ρ "_law_task" (.int (i : Int))) (aD (aD H aa) ag) = some (.next, ρ', aD (aD H brood') starts') /\ PbEnv ρ' ns first cell size aA H.length /\ PlanOk size aA (i + 1) brood' starts' := by
 have l1 := e.escript
 have l2 := e.efirst
 have l3 := e.ecell
 have l4 := e.emany
 have l5 := e.ebrood
 have l6 := e.estarts
 have c1 := ka n H.length ns (first + 1 + (i : Int)) (aD (aD H aa) ag) (aV 0x11901995119330191 hf)
 have s1 : bA (i : Int) = true := gL (az 0x1953fffffffffffffff8701490) (am 0x11103e827a1a923fffffffffffffff879592 hi hsz)
 have s2 : bA (cell / 30000 % 50) = true := gL (by lia) (by lia)
 have m1 : ∀ G, ct .Mult (.int (i : Int)) (.int (cell / 30000 % 50)) G = some (.int ((i : Int) * (cell / 30000 % 50))) := fun G => vN s1 s2
 generalize dF ns (first + 1 + (i : Int)) = way0 at c1
 have hw : ∀ way, way = way0 + (i : Int) * (cell / 30000 % 50) -> ∃ ρ' brood' starts', jg (ai CC (n + 1)) H.length (upd (upd ρ "_law_task" (.int (i : Int))) "_law_way" (.int way)) (aD (aD H aa) ag) = some (.next, ρ', aD (aD H brood') starts') /\ PbEnv ρ' ns first cell size aA H.length /\ PlanOk size aA (i + 1) brood' starts' := by
  intro way _
  have e2 := e.up (.int (i : Int)) (.int way)
  have gB : ∀ j : Nat, j < size -> aS (aD (aD H aa) ag) (.ref (H.length + size)) (.int (j : Int)) = some (.ref (H.length + j)) := fun j hj => by
   have := EQ (H := H) (b := aa) (s := ag)
   rw [p.lb] at this
   exact dK (eA this) (mq hj)
  have gS : ∀ j : Nat, j < aA -> aS (aD (aD H aa) ag) (.ref (H.length + size + 1 + aA)) (.int (j : Int)) = some (.ref ((aD H aa).length + j)) := fun j hj => by
   have := v7 (H := aD H aa) (s := ag)
   rw [p.ls] at this
   have hl : (aD H aa).length + aA = H.length + size + 1 + aA := by rw [dL, p.lb]
   rw [hl] at this
   exact dK (eA this) (mq hj)
  by_cases h1 : way % 5 < 2 /\ 0 < (i : Int)
  ·obtain ⟨h1, h0⟩ := h1
   obtain ⟨j, hj⟩ := Int.eq_ofNat_of_zero_le (Int.emod_nonneg (way / 5) (by exact az 0x119501a0195e1 h0 : (i : Int) ≠ 0))
   have hlt := Int.emod_lt_of_pos (way / 5) h0
   have hji : j < i := by exact aZ 0x191a59a959ba922 hj hlt
   have hjb : j < aa.length := by rw [p.lb]; exact ay 0x111b92ab2a922 hi hji
   have hr : aa[j]? = some aa[j] := I3 hjb
   have hmod : ct .Mod (.int (way / 5)) (.int (i : Int)) (aD (aD H aa) ag) = some (.int (j : Int)) := by rw [bK h0, hj]
   refine ⟨upd (upd ρ "_law_task" (.int (i : Int))) "_law_way" (.int way), aa.set j (aa[j] ++ [(i : Int)]), ag, ?_, e2, p.brood hr hji (List.perm_append_singleton _ _)⟩
   simp only [jg, h1, h0, bK, dE, Qa, Qb, Qe, aB, au, QF, QG, QI, aw, QW, QX, QZ, cond_true, cond_false, decide_true, Int.reduceLT, Zj, Zk, Nat.reduceBEq, eC, dh, d8, xK]
   rw [i5 (l := aa[j]) (t := (i : Int)) (k := H.length + j) ?_ ?_ (v5 hr) ?_]
   ·simp only [v9 hjb, Qc, aq, Qg]
   ·simp only [l5, hj, gB j (ay 0x111b92ab2a922 hi hji), Qa, Qb]
   ·simp only [Qa, Qq, Qr]
   ·have := (p.br j _ hr).1; unfold aM; exact ay 0x1111a9103e827b1ba210000037923 hi hsz this
  ·have hn1 : (decide (way % 5 < 2) && decide (0 < (i : Int))) = false := by
    simp only [Bool.and_eq_false_iff, decide_eq_false_iff_not]
    by_cases q : way % 5 < 2
    ·right; intro q2; exact h1 ⟨q, q2⟩
    ·left; exact q
   by_cases h2 : way % 5 = 2 /\ 0 < (i : Int)
   ·obtain ⟨h2, h0⟩ := h2
    have hn : ¬ way % 5 < 2 := by exact aG 0x91219b219d1 h2
    have hjb : i - 1 < aa.length := by rw [p.lb]; exact ay 0x111b91ab2a922 hi (Nat.sub_le _ _)
    have hr : aa[i - 1]? = some aa[i - 1] := I3 hjb
    have hsub : (i : Int) - 1 = ((i - 1 : Nat) : Int) := by exact am 0x11101911a3311a391a511954b2 (I6 (IO _)) (I1 (az 0x119501a91111 h0))
    refine ⟨upd (upd ρ "_law_task" (.int (i : Int))) "_law_way" (.int way), aa.set (i - 1) ((i : Int) :: aa[i - 1]), ag, ?_, e2, p.brood hr (am 0x919511a54ba921 hsub) (List.Perm.refl _)⟩
    simp only [jg, ni, h2, h0, bK, Qa, Qb, Qe, Qf, aB, Qp, au, QF, QG, QI, QK, aw, QW, QX, QZ, cond_true, cond_false, Zg, decide_true, decide_false, Int.reduceLT, Zj, Zk, Nat.reduceBEq, eC, dh, d8, xL]
    rw [ER (l := aa[i - 1]) (t := (i : Int)) (k := H.length + (i - 1)) ?_ ?_ (v5 hr) ?_]
    ·simp only [v9 hjb, Qc, aq, Qg]
    ·simp only [l5, hsub, gB (i - 1) (ay 0x9119511b54bab2a922 hi hsub), Qa, Qb]
    ·simp only [Qa, Qq, Qr]
    ·have := (p.br (i - 1) _ hr).1; unfold aM; exact ay 0x1111a9103e827b1ba210000037923 hi hsz this
   ·have t1 : ∀ G, bv .And [(fun H => aw (av (aB .Mod (fun H => some (AV.int way, H)) (fun H => some (AV.int 5, H)) H) (fun a H => aH a [.Lt] [(fun H => some (AV.int 2, H))] H))), (fun H => aw (av (some (AV.int (i : Int), H)) (fun a H => aH a [.Gt] [(fun H => some (AV.int 0, H))] H)))] G = some (false, G) := by
     intro G
     by_cases q : way % 5 < 2
     ·have : ¬ 0 < (i : Int) := fun q2 => h1 ⟨q, q2⟩
      simp only [q, this, bK, Qa, Qb, aB, QF, QG, QI, aw, QW, QX, QZ, cond_true, cond_false, decide_true, decide_false, Int.reduceLT]
     ·simp only [q, bK, Qa, Qb, aB, QF, QG, QI, aw, QW, QX, QZ, cond_false, decide_false, Int.reduceLT]
    have t2 : ∀ G, bv .And [(fun H => aw (av (aB .Mod (fun H => some (AV.int way, H)) (fun H => some (AV.int 5, H)) H) (fun a H => aH a [.Eq] [(fun H => some (AV.int 2, H))] H))), (fun H => aw (av (some (AV.int (i : Int), H)) (fun a H => aH a [.Gt] [(fun H => some (AV.int 0, H))] H)))] G = some (false, G) := by
     intro G
     by_cases q : way % 5 = 2
     ·have : ¬ 0 < (i : Int) := fun q2 => h2 ⟨q, q2⟩
      simp only [q, this, bK, Qa, Qb, aB, QF, QI, QK, aw, QW, QX, QZ, cond_true, cond_false, Zg, decide_true, decide_false, Int.reduceLT]
     ·simp only [q, bK, Qa, Qb, aB, QF, QI, QK, aw, QW, QX, QZ, cond_false, Zg, decide_false, Int.reduceLT]
    have k1 : ∀ G, ae (upd (upd ρ "_law_task" (.int (i : Int))) "_law_way" (.int way)) "_law_way" G = some (.int way, G) := fun G => by simp only [Qb, cond_true, cond_false, Zj, Zk, Nat.reduceBEq, dh, d8]
    have k2 : ∀ G, ae (upd (upd ρ "_law_task" (.int (i : Int))) "_law_way" (.int way)) "_law_task" G = some (.int (i : Int), G) := fun G => by simp only [Qb, cond_true, cond_false, Zj, Zk, Nat.reduceBEq, dh, d8]
    by_cases h3 : way % 25 = 23
    ·refine ⟨upd (upd ρ "_law_task" (.int (i : Int))) "_law_way" (.int way), aa, ag, ?_, e2, p.skip⟩
     unfold jg ni ri
     simp only [k1, k2]
     simp only [t1, t2]
     simp only [h3, bK, Qa, Qb, Qc, Qf, aq, aB, QF, QL, aw, QW, Zg, Jg, Ji, decide_true, Int.reduceLT]
    ·have hd : ∃ d : Nat, aS (aD (aD H aa) ag) (.list [.int 1, .int (aA : Int)]) (.int (cell / 4000 % 2)) = some (.int (d : Int)) /\ 0 < d /\ d <= aA := by
      rcases (by lia : cell / 4000 % 2 = 0 ∨ cell / 4000 % 2 = 1) with q | q
      ·rw [q]; exact ⟨1, Zc _ _ _, by exact bt 17891616, by exact az 0x11901291111 hm⟩
      ·rw [q]; exact ⟨aA, Zd _ _ _ _, hm, IO _⟩
     obtain ⟨d, hd, hd0, hdm⟩ := hd
     obtain ⟨j, hj⟩ := Int.eq_ofNat_of_zero_le (Int.emod_nonneg (way / 25) (by exact az 0x1190120195e1 hd0 : (d : Int) ≠ 0))
     have hlt := Int.emod_lt_of_pos (way / 25) (by exact az 0x1190129501a1 hd0 : 0 < (d : Int))
     have hjm : j < aA := by exact il 0x1911b59a959bab1a923 hdm hj hlt
     have hjs : j < ag.length := by rw [p.ls]; exact am 4740786465 hjm
     have hr : ag[j]? = some ag[j] := I3 hjs
     have hmod : ct .Mod (.int (way / 25)) (.int (d : Int)) (aD (aD H aa) ag) = some (.int (j : Int)) := by rw [bK (by exact az 0x1190129501a1 hd0), hj]
     refine ⟨upd (upd ρ "_law_task" (.int (i : Int))) "_law_way" (.int way), aa, ag.set j (ag[j] ++ [(i : Int)]), ?_, e2, p.starts hr (List.perm_append_singleton _ _)⟩
     unfold jg ni ri
     simp only [k1, k2]
     simp only [t1, t2]
     simp only [h3, bK, Qa, Qb, Qe, Qf, aB, QF, QL, aw, QW, Zg, Jh, Ji, decide_false, Int.reduceLT]
     unfold xM
     rw [i5 (l := ag[j]) (t := (i : Int)) (k := (aD H aa).length + j) ?_ ?_ (v6 hr) ?_]
     ·simp only [v8 hjs, Qc, aq, Qg]
     ·simp only [l6, l3, l4, hd, hmod, gS j hjm, dE, bK, Qa, Qb, aB, au, Qq, Qr, cond_true, cond_false, Int.reduceLT, Zj, Zk, Nat.reduceBEq, ↓ZC, cm, b6, fA, dh, d8]
     ·simp only [Qa, Qb, Qq, Qr, cond_true, cond_false, Zj, Zk, Nat.reduceBEq, dh, d8]
     ·have := (p.st j _ hr).1; unfold aM; exact ay 0x1111a9103e827b1ba210000037923 hi hsz this
 unfold jV
 simp only [l1, l2, l3, c1, m1, bK, dE, Qa, Qb, Qc, asgN, aB, Qo, Qq, Qr, aP, cond_true, cond_false, Int.reduceLT, Zj, Zk, Nat.reduceBEq, cm, eM, dg, dh]
 exact hw _ rfl
theorem sH {c i : aR -> Nat -> an -> HP -> R AV} {Φ : aR} {b : Nat} {x : Str} {ρ : an} {G : HP} {m : Nat} (hc : ∀ ρ G, c Φ b ρ G = some (.ref G.length, G ++ [[]])) (hi : i Φ b ρ G = some (.range 0 (m : Int), G)) (hm : m <= aM) :
  dC (bg bq (c Φ b) x ρ (i Φ b ρ) G) = some (.ref (G.length + m), aD G (List.replicate m [])) := by
 rw [EM (src := .range 0 (m : Int)) (xs := bH 0 (m : Int)) hi rfl (by rw [gM]; exact hm) (fun v H => hc _ H)]
 simp only [Q6, gM, aD, List.map_replicate, List.length_replicate, List.length_append]
 rfl
set_option tactic.hygienic true in
theorem Hv (n af : Nat) (ns : List Int) (first most : Int) (hf : 0 <= first) (h0 : 0 <= most) (h1 : most <= 900) : ∃ size aA aa ag,
  ai CC (n+2) af "_law_plan_by" [.list (ns.map .int), .int first, .int most] [] = some (.tup [.list (aa.map iL), .list (ag.map iL)], []) /\ PlanOk size aA size aa ag /\ 0 < aA /\ aA <= 12 /\ (size : Int) <= most := by
 rw [FA]
 show ∃ size aA aa ag, cC (rj (ai CC (n+1)) 0 (upd (upd (upd aF "_law_script" (.list (ns.map .int))) "_law_first" (.int first)) "_law_most" (.int most)) []) = _ /\ _
 obtain ⟨H, hH⟩ : ∃ H : HP, H = [] := ⟨_, rfl⟩
 have hl0 : H.length = 0 := by rw [hH]; rfl
 rw [<- hH, <- hl0]
 have c1 := ka n H.length ns first H hf
 generalize dF ns first = cell at c1
 have hd : ∃ d : Int, aS H (.list [.int 4, .int 4, .int 12]) (.int (cell / 48 % 3)) = some (.int d) /\ 0 < d /\ d <= 12 := by
  rcases (by lia : cell / 48 % 3 = 0 ∨ cell / 48 % 3 = 1 ∨ cell / 48 % 3 = 2) with q | q | q
  ·rw [q]; exact ⟨4, Zc _ _ _, by exact bt 21037472, by exact bt 29442448⟩
  ·rw [q]; exact ⟨4, Zd _ _ _ _, by exact bt 21037472, by exact bt 29442448⟩
  ·rw [q]; exact ⟨12, Ze _ _ _ _ _, by exact bt 29426080, by exact bt 29475216⟩
 obtain ⟨d, hd, hd0, hd12⟩ := hd
 obtain ⟨m, hm⟩ := Int.eq_ofNat_of_zero_le (Int.emod_nonneg cell (by exact aG 0x11901a019e1 hd0 : d ≠ 0))
 have hmd := Int.emod_lt_of_pos cell hd0
 obtain ⟨size, hs⟩ := Int.eq_ofNat_of_zero_le (Int.emod_nonneg (cell / 144) (by exact aG 0x119019011193e1 h0 : most + 1 ≠ 0))
 have hsd := Int.emod_lt_of_pos (cell / 144) (by exact aG 0x119019119301a1 h0 : 0 < most + 1)
 obtain ⟨aA, hM⟩ : ∃ aA, aA = m + 1 := ⟨_, rfl⟩
 have hmany : (1 : Int) + (m : Int) = (aA : Int) := by exact am 0x91111193a3a595113b1 hM
 have md : ∀ G, ct .Mod (.int cell) (.int d) G = some (.int (m : Int)) := fun G => by rw [bK hd0, hm]
 have sd : ∀ G, ct .Mod (.int (cell / 144)) (.int (most + 1)) G = some (.int (size : Int)) := fun G => by rw [bK (by exact aG 0x119019119301a1 h0), hs]
 have hB : ∀ (ρ : an) (G : HP), ρ "_law_size" = some (.int (size : Int)) -> dC (bg bq (m8 (ai CC (n+1)) H.length) "_law_task" ρ (m9 (ai CC (n+1)) H.length ρ) G) = some (.ref (G.length + size), aD G (List.replicate size [])) := by
  intro ρ G hr
  refine sH (c := m8) (i := m9) (fun ρ G => ?_) ?_ (bC (dQ 0x19111193aa95ab038427990f424037913 h1 hs hsd))
  ·simp only [m8, Q7, ↓ZA]
  ·simp only [m9, hr, iY (n := size) (bC (dQ 0x19111193aa95ab038427990f424037913 h1 hs hsd)), Qa, Qb, Qq, Qr, aK, Qt, if_true, Zj]
 have hS : ∀ (ρ : an) (G : HP), ρ "_law_many" = some (.int (aA : Int)) -> dC (bg bq (ng (ai CC (n+1)) H.length) "_law_worker" ρ (nh (ai CC (n+1)) H.length ρ) G) = some (.ref (G.length + aA), aD G (List.replicate aA [])) := by
  intro ρ G hr
  refine sH (c := ng) (i := nh) (fun ρ G => ?_) ?_ (bC (fJ 0x1191111a3939aaa5abc1990f424037914 hd12 hm hmd hM))
  ·simp only [ng, Q7, ↓ZA]
  ·simp only [nh, hr, iY (n := aA) (bC (fJ 0x1191111a3939aaa5abc1990f424037914 hd12 hm hmd hM)), Qa, Qb, Qq, Qr, aK, Qt, if_true, Zj]
 have start : PlanOk size aA 0 (List.replicate size []) (List.replicate aA []) := by
  refine ⟨by simp, by simp, fun j row e => ?_, fun j row e => ?_, ?_⟩
  ·have := List.mem_of_getElem? e; rw [List.eq_of_mem_replicate this]; simp
  ·have := List.mem_of_getElem? e; rw [List.eq_of_mem_replicate this]; simp
  ·simp
 have loop : ∀ (ρ : an), ρ "_law_size" = some (.int (size : Int)) -> PbEnv ρ ns first cell size aA H.length -> ∃ ρ' G', bJ (jV (ai CC (n+1)) H.length) (bb "_law_task") (nj (ai CC (n+1)) H.length ρ) ρ (aD (aD H (List.replicate size [])) (List.replicate aA [])) = some (.next, ρ', G') /\
   ∃ aa ag, G' = aD (aD H aa) ag /\ PbEnv ρ' ns first cell size aA H.length /\ PlanOk size aA size aa ag := by
  intro ρ hr e
  have := iX (body := jV (ai CC (n+1)) H.length) (tgt := bb "_law_task") (it := nj (ai CC (n+1)) H.length ρ) (ρ := ρ) (H := aD (aD H (List.replicate size [])) (List.replicate aA []))
   (H1 := aD (aD H (List.replicate size [])) (List.replicate aA [])) (src := .range 0 (size : Int)) (xs := bH 0 (size : Int))
   (fun i ρ G => ∃ aa ag, G = aD (aD H aa) ag /\ PbEnv ρ ns first cell size aA H.length /\ PlanOk size aA i aa ag)
   (by simp only [nj, hr, iY (n := size) (bC (dQ 0x19111193aa95ab038427990f424037913 h1 hs hsd)), Qa, Qb, Qq, Qr, aK, Qt, if_true, Zj]) rfl ⟨_, _, rfl, e, start⟩ ?_
  ·rwa [gM] at this
  ·rintro i v ρ2 G hv ⟨aa, ag, rfl, e2, p2⟩
   have hi : i < size := by
    have := (IX.mp hv).1; rwa [gM] at this
   have hvi : v = .int (i : Int) := by
    rw [iZ] at hv; simp [hi] at hv; exact hv.symm
   subst hvi
   obtain ⟨ρ', brood', starts', h1, h2, h3⟩ := Hu n e2 hf hi (am 0x9111a39390121 hM) (dQ 0x19111193aa95ab0384279903e827913 h1 hs hsd) p2
   exact ⟨_, ρ', _, rfl, h1, brood', starts', rfl, h2, h3⟩
 have ρe : ∀ (ρ : an) (v1 v2 : AV), ρ = upd (upd (upd (upd (upd (upd (upd (upd aF "_law_script" (.list (ns.map .int))) "_law_first" (.int first)) "_law_most" (.int most)) "_law_cell" (.int cell)) "_law_many" (.int (aA : Int))) "_law_size" (.int (size : Int))) "_law_brood" (.ref (H.length + size))) "_law_starts" (.ref ((aD H (List.replicate size [])).length + aA)) ->
   ρ "_law_size" = some (.int (size : Int)) /\ PbEnv ρ ns first cell size aA H.length := by
  rintro ρ v1 v2 rfl
  refine ⟨by simp only [cond_true, cond_false, Zk, Nat.reduceBEq, eC, cm, eM, b6, gk, dg, g7, fA], by simp only [cond_true, cond_false, Zk, Nat.reduceBEq, eC, cm, eM, b6, gk, dg, g7, fA], by simp only [cond_true, cond_false, Zk, Nat.reduceBEq, eC, cm, eM, b6, gk, dg, g7, fA], by simp only [cond_true, cond_false, Zk, Nat.reduceBEq, eC, cm, eM, b6, gk, dg, g7, fA], by simp only [cond_true, cond_false, Zk, Nat.reduceBEq, eC, cm, eM, b6, gk, dg, g7, fA], by simp only [cond_true, cond_false, Zk, Nat.reduceBEq, eC, cm, eM, b6, gk, dg, g7, fA], ?_⟩
  simp only [dL, List.length_replicate, cond_true, cond_false, Zk, Nat.reduceBEq, eC, cm, eM, b6, gk, dg, g7, fA]
 obtain ⟨q1, q2⟩ := ρe _ .none .none rfl
 obtain ⟨ρ', G', e1, aa, ag, rfl, e2, p2⟩ := loop _ q1 q2
 refine ⟨size, aA, aa, ag, ?_, p2, by exact ay 0x91111b3a30193a922 hl0 hM, by exact fJ 0x1191111a3939aaa5abc199c1914 hd12 hm hmd hM, by exact dQ 0x1911193aa95ab99592 hs hsd⟩
 simp only [rj, xN, xO, xP, xQ, xR, xS, c1, hd, md, sd, hmany, dE, bK, Qa, Qb, Qc, Qd, aC, asgN, aB, Qo, au, Qq, Qr, aP, cond_true, cond_false, Int.reduceLT, Zk, Nat.reduceBEq, ↓Zx, ↓ZD, cm, eM, b6, gk, dg, hB (upd (upd (upd (upd (upd (upd aF "_law_script" (.list (ns.map .int))) "_law_first" (.int first)) "_law_most" (.int most)) "_law_cell" (.int cell)) "_law_many" (.int (aA : Int))) "_law_size" (.int (size : Int))) _ rfl, hS (upd (upd (upd (upd (upd (upd (upd aF "_law_script" (.list (ns.map .int))) "_law_first" (.int first)) "_law_most" (.int most)) "_law_cell" (.int cell)) "_law_many" (.int (aA : Int))) "_law_size" (.int (size : Int))) "_law_brood" (.ref (H.length + size))) _ rfl, e1, e2.ebrood, e2.estarts, ae]
 have f1 : bu (aD (aD H aa) ag) 4 (H.length + size) = some (.list (aa.map iL)) := by
  rw [jO, <- p2.lb]; exact mu (n := 2)
 have f2 : bu (aD (aD H aa) ag) 4 (H.length + size + 1 + aA) = some (.list (ag.map iL)) := by
  have := mu (n := 2) (H := aD H aa) (T := []) (rows := ag)
  rw [JA, dL, p2.lb, p2.ls] at this
  exact this
 simp only [cC, fz, dp, bk, f1, f2, Option.map_some]
 rw [hH]
theorem Hw {aa ag : List (List Int)} {size aA : Nat} (p : PlanOk size aA size aa ag) : d5 aa ag.flatten size where
 len := p.lb
 br := fun x h0 y m => by
  unfold br at m
  cases hb : aa[x.toNat]? with
  | none => rw [hb] at m; cases m
  | some row =>
   rw [hb] at m
   have := (p.br _ _ hb).2 y m
   exact ⟨dQ 0x1119599a95aa9a2 this.1 (Ju _), aV 0x11959a959a1 this.2⟩
 st := fun y m => by
  obtain ⟨t, ht, hx⟩ := List.mem_flatten.mp m
  obtain ⟨j, hj, e⟩ := List.mem_iff_getElem.mp ht
  exact (p.st j t (by rw [I3 hj, e])).2 y hx
 nd := p.nd
theorem zU (aa : List (List Int)) (V : Int -> Nat) : ∀ ag : List (List Int), RR aa V (ag.map fun t => ⟨0, (t.length : Int), t⟩) (ag.map fun O => .free) = wS V ag.flatten
 | [] => rfl
 | t :: ts => by
  have ih := zU aa V ts
  have q : aX ⟨0, (t.length : Int), t⟩ .free = t := by
   show (t.drop 0).take ((t.length : Int).toNat - 0) = t
   simp
  unfold RR at *
  simp only [List.map_cons, dy, ih, List.flatten_cons]
  show wS V (aX ⟨0, (t.length : Int), t⟩ .free) + 0 + wS V ts.flatten = _
  rw [q, qu]; exact am 0x11a93a0193330
noncomputable def b7 (ag : List (List Int)) : Yy := (ag.map fun t => ⟨0, (t.length : Int), t⟩, ag.map fun O => .free)
theorem Hx {aa ag : List (List Int)} {size aA : Nat} (p : PlanOk size aA size aa ag) (hm : aA <= 100) : zD aa ag aA where
 hW := hm
 bm := fun j row e t m => by have := (p.br j row e).2 t m; rw [p.lb]; exact ⟨aV 0x11995a90191 this.1, aV 0x11959a959a1 this.2⟩
theorem Hy {ag : List (List Int)} {j : Nat} {r : Rw} {s : St} (h1 : (b7 ag).1[j]? = some r) (h2 : (b7 ag).2[j]? = some s) : ∃ t, r = ⟨0, (t.length : Int), t⟩ /\ s = .free := by
 simp only [b7, List.getElem?_map] at h1 h2
 cases hj : ag[j]? with
 | none => rw [hj] at h1; cases h1
 | some t => rw [hj] at h1 h2; cases h1; cases h2; exact ⟨t, rfl, rfl⟩
theorem sI {ag : List (List Int)} {j : Nat} {s : St} (h2 : (b7 ag).2[j]? = some s) : s = .free := by
 simp only [b7, List.getElem?_map] at h2
 cases hj : ag[j]? with
 | none => rw [hj] at h2; cases h2
 | some t => rw [hj] at h2; cases h2; rfl
theorem Hz {aa ag : List (List Int)} : Yd aa (b7 ag).1 (b7 ag).2 where
 len := by simp [b7]
 loc := fun j r s h1 h2 => by
  obtain ⟨t, rfl, rfl⟩ := Hy h1 h2
  exact ⟨I9 _, by show (0 : Int) <= (t.length : Int); exact az 26542480, I9 _, I9 _, fun O O q => (nomatch q), fun O O q => (nomatch q), fun O q => (nomatch q)⟩
 thf := fun w s k h1 h2 => by rw [sI h1] at h2; cases h2
theorem HA (ag : List (List Int)) : Em (b7 ag).1 (b7 ag).2 := fun j r s h1 h2 => by
 rw [sI h2]; exact trivial
theorem HB {aa ag : List (List Int)} {V : Int -> Nat} {size aA : Nat} (p : PlanOk size aA size aa ag) (hV : wS V ag.flatten <= (2 * aA + 12) * size) : Jv aa V aA (size + (2 * aA + 12) * size) (2 * aA + 6 + (2 * aA + 12) * size) (b7 ag) := by
 have hr : RR aa V (b7 ag).1 (b7 ag).2 <= (2 * aA + 12) * size := Je (Nat.le_of_eq (zU aa V ag)) hV
 have hp : ∀ (j : Nat) (r : Rw), (b7 ag).1[j]? = some r -> r.p.length <= size := fun j r e => ((zT p).row j r e).2.2.1
 refine ⟨Hz, HA _, by simp [b7, p.ls], (zT p).tight fun j r e => by have := hp j r e; exact ay 0x11a91ba3911 this, fun j r e => by have := hp j r e; exact aN 0x111b91ca1cb3a9312 hr this, fun u s h O => ?_⟩
 rw [sI h]
 show 2 * aA + 6 + _ <= _
 exact ay 0x11ba1b6192633a619263311 hr
theorem zV {W : Nat} : ∀ {ws : List Int}, (∀ x ∈ ws, 0 <= x /\ x < (W : Int)) -> ∃ ns : List Nat, ws = ns.map (fun (n : Nat) => (n : Int)) /\ ∀ n ∈ ns, n < W
 | [], _ => ⟨[], rfl, fun O m => nomatch m⟩
 | x :: ws, h => by
  obtain ⟨ns, rfl, h2⟩ := zV (ws := ws) (fun y m => h y (JB _ m))
  have hx := h x Jj
  refine ⟨x.toNat :: ns, by rw [List.map_cons]; congr 1; exact aV 0x11101995b9599959b2 (Ju _) (I7 (aG 0x11901990191 hx.1)), fun n m => ?_⟩
  rcases Jx.mp m with rfl | m
  ·exact aZ 0x111995ba59aa922 hx.2 (I7 (aG 0x11901990191 hx.1))
  ·exact h2 n m
section
variable {aa ag : List (List Int)} {V : Int -> Nat} {W B N : Nat} {ws : List Nat} {y y' : Yy} {es : List Evt}
set_option tactic.hygienic true in
theorem Tr.some (t : Tr aa ag V W ws y y' es) : ∀ e ∈ es, e ≠ .none := by
 induction t with
 | nil y => intro e m; cases m
 | rest hs _ ih => exact ih
 | step hs hn run go h1 hp ho _ ih =>
  rename_i ev es _
  intro e m
  rcases List.mem_append.mp m with m | m
  ·cases ev <;> simp [eQ] at m <;> (subst m; intro q; cases q)
  ·exact ih e m
end
end Mine.Internal
namespace Mine.Internal
open PySem PyProof.Rows
set_option tactic.hygienic true in
theorem HC (n : Nat) {cell : Int} {i : Nat} {H : HP} {ρ : an} {aa : List (List Int)} (hc : ρ "_law_cell" = some (.int cell)) (hb : ρ "_law_brood" = some (.ref (H.length + 200))) (h0 : 0 < i) (hi : i < 200) (p : PlanOk 200 1 i aa [[0]]) :
  ∃ brood', nz (ai CC n) H.length (upd ρ "_law_task" (.int (i : Int))) (aD H aa) = some (.next, upd ρ "_law_task" (.int (i : Int)), aD H brood') /\ PlanOk 200 1 (i + 1) brood' [[0]] := by
 have hd : ∃ j : Nat, aS (aD H aa) (.list [.int ((i : Int) - 1), .int (((i : Int) - 1) / 2), .int 0]) (.int (cell % 3)) = some (.int (j : Int)) /\ j < i := by
  rcases (by lia : cell % 3 = 0 ∨ cell % 3 = 1 ∨ cell % 3 = 2) with q | q | q
  ·rw [q]; exact ⟨i - 1, by rw [Zc]; congr 2; exact am 0x11101911a3311a391a511954b2 (I6 (IO _)) (I1 (az 0x11901291111 h0)), by exact am 0x11a11933a921 (I1 (az 0x11901291111 h0))⟩
  ·rw [q]; exact ⟨(i - 1) / 2, by rw [Zd]; congr 2; lia, by lia⟩
  ·rw [q]; exact ⟨0, Ze _ _ _ _ _, h0⟩
 obtain ⟨j, hd, hj⟩ := hd
 have hjb : j < aa.length := by rw [p.lb]; exact am 0x111a92c82a2c82922 hi hj
 have hr : aa[j]? = some aa[j] := I3 hjb
 have gB : aS (aD H aa) (.ref (H.length + 200)) (.int (j : Int)) = some (.ref (H.length + j)) := by
  have := v7 (H := H) (s := aa)
  rw [p.lb] at this
  exact dK (eA this) (mq (am 0x111a92c82a2c82922 hi hj))
 refine ⟨aa.set j (aa[j] ++ [(i : Int)]), ?_, p.brood hr hj (List.perm_append_singleton _ _)⟩
 unfold nz
 rw [i5 (l := aa[j]) (t := (i : Int)) (k := H.length + j) ?_ ?_ (v6 hr) ?_]
 ·simp only [v8 hjb, Qc, aq, Qg]
 ·simp only [hb, hc, hd, gB, dE, bK, Qa, Qb, aB, Qp, au, Qq, Qr, cond_true, cond_false, Int.reduceLT, Zj, Zk, Nat.reduceBEq, ↓ZD, eC, cm, dh]
 ·simp only [Qa, Qb, Qq, Qr, cond_true, Zj, Zk, Nat.reduceBEq, dh]
 ·have := (p.br j _ hr).1; unfold aM; exact am 0x111a91c82a210000037922 hi this
theorem HD {aa : List (List Int)} (p : PlanOk 200 1 200 aa [[0]]) (k : Nat) : PlanOk 200 (k + 1) 200 aa ([0] :: List.replicate k []) where
 lb := p.lb
 ls := by simp
 br := p.br
 st := fun j row e => by
  rcases Jx.mp (List.mem_of_getElem? e) with rfl | m
  ·exact p.st 0 [0] rfl
  ·rw [List.eq_of_mem_replicate m]; exact ⟨Nat.zero_le _, fun t m => nomatch m⟩
 nd := by
  have h : ∀ k : Nat, (List.replicate k ([] : List Int)).flatten = [] := fun k => by simp
  have := p.nd
  simp only [List.flatten_cons, List.flatten_nil, h] at this ⊢
  exact this
theorem HE : PlanOk 200 1 1 (List.replicate 200 []) [[0]] := by
 refine ⟨List.length_replicate, rfl, fun j row e => ?_, fun j row e => ?_, ?_⟩
 ·rw [List.eq_of_mem_replicate (List.mem_of_getElem? e)]; exact ⟨Nat.zero_le _, fun t m => nomatch m⟩
 ·rw [I0.mp (List.mem_of_getElem? e)]
  exact ⟨IO _, fun t m => by rw [I0.mp m]; exact ⟨bt 16843152, bt 286589344⟩⟩
 ·have h : ∀ k : Nat, (List.replicate k ([] : List Int)).flatten = [] := fun k => by simp
  rw [h]; simp
theorem HF (n af : Nat) (cell : Int) : ∃ size aA aa ag,
  ai CC (n+1) af "_law_long" [.int cell] [] = some (.tup [.list (aa.map iL), .list (ag.map iL)], []) /\ PlanOk size aA size aa ag /\ 0 < aA /\ aA <= 3 /\ size <= 200 := by
 rw [FM]
 show ∃ size aA aa ag, cC (rK (ai CC n) 0 (upd aF "_law_cell" (.int cell)) []) = _ /\ _
 obtain ⟨H, hH⟩ : ∃ H : HP, H = [] := ⟨_, rfl⟩
 have hl0 : H.length = 0 := by rw [hH]; rfl
 rw [<- hH, <- hl0]
 have hB : dC (bg bq (ny (ai CC n) H.length) "_law_task" (upd aF "_law_cell" (.int cell)) (rJ (ai CC n) H.length (upd aF "_law_cell" (.int cell))) H) = some (.ref (H.length + 200), aD H (List.replicate 200 [])) :=
  sH (c := ny) (i := rJ) (fun ρ G => by simp only [ny, Q7, ↓ZA]) rfl (bC (bt 0x10f424037c8210))
 have hx : dr (.range 1 200) = some (bH 1 200) := rfl
 have hxl : (bH 1 200).length = 199 := by simp [bH]
 obtain ⟨ρ', G', e1, aa, rfl, hc, hb, p⟩ := iX (body := nz (ai CC n) H.length) (tgt := bb "_law_task") (it := yo (ai CC n) H.length (upd (upd aF "_law_cell" (.int cell)) "_law_brood" (.ref (H.length + 200)))) (ρ := upd (upd aF "_law_cell" (.int cell)) "_law_brood" (.ref (H.length + 200))) (H := aD H (List.replicate 200 []))
  (H1 := aD H (List.replicate 200 [])) (src := .range 1 200) (xs := bH 1 200)
  (fun i ρ G => ∃ aa, G = aD H aa /\ ρ "_law_cell" = some (.int cell) /\ ρ "_law_brood" = some (.ref (H.length + 200)) /\ PlanOk 200 1 (i + 1) aa [[0]])
  rfl hx ⟨_, rfl, rfl, rfl, HE⟩ (by
   rintro i v ρ2 G hv ⟨aa, rfl, hc, hb, p2⟩
   have hi : i < 199 := by have := (IX.mp hv).1; rwa [hxl] at this
   have hvi : v = .int ((i + 1 : Nat) : Int) := by
    have : (bH 1 200)[i]? = some (.int (1 + (i : Int))) := by
     unfold bH; rw [JC, List.getElem?_range (by exact am 0x111a511c8249c7292a922 hi (Ju _))]; rfl
    rw [this] at hv
    exact (Option.some.inj hv).symm.trans (congrArg AV.int (az 0x111193595113b0))
   subst hvi
   obtain ⟨brood', h1, h3⟩ := HC n hc hb (Nat.succ_pos i) (az 0x11c7292c82119321 hi) p2
   exact ⟨_, _, _, rfl, h1, brood', rfl, hc, hb, h3⟩)
 rw [hxl] at p
 have hk : ∃ k : Nat, 1 + cell / 3 % 3 = ((k + 1 : Nat) : Int) /\ k < 3 := ⟨(cell / 3 % 3).toNat, by lia, by lia⟩
 obtain ⟨k, hk, hk3⟩ := hk
 have hs : ∀ G, dt G (.list [.list [.int 0], .list [], .list []]) none (some ((k + 1 : Nat) : Int)) = some (.list (([0] :: List.replicate k []).map iL)) := fun G => by
  rcases (by lia : k = 0 ∨ k = 1 ∨ k = 2) with rfl | rfl | rfl <;> rfl
 have hsm : bA ((k + 1 : Nat) : Int) = true := gL (az 0x1119353fffffffffffffff8701490) (az 0x1131923fffffffffffffff871193591 hk3)
 have ho : et (.int ((k + 1 : Nat) : Int)) = some (some ((k + 1 : Nat) : Int)) := by unfold et; exact Id hsm
 refine ⟨200, k + 1, aa, _, ?_, HD p k, by exact am 0x11019311a3921 hl0, by exact az 0x11319231119311 hk3, IO _⟩
 simp only [rK, yp, yq, hB, e1, hb, hc, dE, bK, hk, ho, eO, hs, Qa, Qb, Qc, Qd, aC, asgN, aB, Qo, bX, bZ, Qq, Qr, Ja, Int.reduceLT, Zj, ↓Zx, ↓ZA, ↓ZB, ↓ZD]
 have f1 : bu (aD H aa) 4 (H.length + 200) = some (.list (aa.map iL)) := by
  have := mu (n := 2) (H := H) (T := []) (rows := aa)
  rwa [JA, p.lb] at this
 simp only [cC, fz, dp, bk, f1, Option.map_some]
 rw [hH]
 rcases (by lia : k = 0 ∨ k = 1 ∨ k = 2) with rfl | rfl | rfl <;> rfl
end Mine.Internal
namespace Mine.Internal
open PySem PyProof.Rows
theorem HG {W : Nat} (c m : Int) (hm : m = 1 ∨ m = (W : Int) - 1) {u : Nat} (hu : u < W) : ∃ k : Nat, k < W /\ (c + (k : Int) * m) % (W : Int) = (u : Int) := by
 have hW : (W : Int) ≠ 0 := by exact am 0x119a20195e1 hu
 have hu' : (u : Int) % (W : Int) = (u : Int) := Int.emod_eq_of_lt (az 26542480) (am 0x11a92a595a1 hu)
 have aI : ∀ a b : Int, (∃ q, a = (u : Int) + (W : Int) * q) -> a % (W : Int) = (u : Int) := fun a O h => by
  obtain ⟨q, rfl⟩ := h
  rw [Int.add_mul_emod_self_left]; exact hu'
 rcases hm with rfl | rfl
 ·have h1 := Int.emod_nonneg ((u : Int) - c) hW
  have h2 := Int.emod_lt_of_pos ((u : Int) - c) (by exact am 0x119a29501a1 hu : (0 : Int) < W)
  have h3 := Int.emod_add_mul_ediv ((u : Int) - c) (W : Int)
  refine ⟨(((u : Int) - c) % (W : Int)).toNat, by exact aZ 0x111995ba59aa922 h2 (I7 (aG 0x11901990191 h1)), aI _ 0 ⟨- (((u : Int) - c) / (W : Int)), ?_⟩⟩
  rw [I7 h1, Int.mul_neg]; lia
 ·have h1 := Int.emod_nonneg (c - (u : Int)) hW
  have h2 := Int.emod_lt_of_pos (c - (u : Int)) (by exact am 0x119a29501a1 hu : (0 : Int) < W)
  have h3 := Int.emod_add_mul_ediv (c - (u : Int)) (W : Int)
  refine ⟨((c - (u : Int)) % (W : Int)).toNat, by exact aZ 0x111995ba59aa922 h2 (I7 (aG 0x11901990191 h1)), aI _ 0 ⟨(c - (u : Int)) % (W : Int) + (c - (u : Int)) / (W : Int), ?_⟩⟩
  rw [I7 h1, Int.mul_add, Int.mul_sub, Int.mul_one, Int.mul_comm (_ % _) (W : Int)]; exact Bj 0x91119594cb3bca3953ba493b1 h3
section
variable {aa ag : List (List Int)} {V : Int -> Nat} {W B N : Nat} {ws : List Nat} {y y' : Yy} {es : List Evt}
structure sJ (ρ : an) (aa ag : List (List Int)) (y : Yy) (es : List Evt) (ns : List Nat) : Prop where
 pl : ρ "_law_plan" = some (aO aa ag)
 ya : ρ "_law_yard" = some (aU y.1 y.2)
 ev : ρ "_law_events" = some (.list (aQ es))
 tu : ρ "_law_turn" = some (.list (ns.map fun (w : Nat) => AV.int (w : Int)))
theorem HH {u : Nat} {s : St} (hn : bE (some s) = false) (h : psi aa V W y.1 y.2 u s <= N) : 0 < N := by
 have hpos : 1 <= pc aa W y.1 u s := by
  cases s with
  | mends t o => cases o <;> (simp only [pc]; lia)
  | rests => cases hn
  | _ => simp only [pc]; lia
 unfold psi at h
 exact ay 0x111a1119ba3190122 h hpos
set_option tactic.hygienic true in
theorem zW (pv : jk aa ag V W B) {ns : List Nat} (hall : ∀ u, u < W -> u ∈ ns) (hlt : ∀ u ∈ ns, u < W) (hns : ns.length <= 20) (n af : Nat) : ∀ (vs : List AV) (N : Nat) (y : Yy) (es : List Evt) (ρ : an), N < vs.length -> Jv aa V W B N y -> es.length + N * 20 <= 900000 -> sJ ρ aa ag y es ns ->
  ∃ ρ' y' es', bT (g0 (ai CC (n+5)) af) (bb "_law_k") vs ρ [] = some (.ret (.tup [aU y'.1 y'.2, .list (aQ es')]), ρ', []) /\ Jv aa V W B N y' /\ ec y' = true /\ ∃ ws e2, es' = es ++ e2 /\ es'.length <= es.length + N * 20 /\ Tr aa ag V W ws y y' e2
 | [], N, y, es, ρ, hf, _, _, _ => absurd hf (Nat.not_lt_zero _)
 | v :: vs, N, y, es, ρ, hf, j, hE, e => by
  have hW := pv.pr.hW
  have hl2 : y.2.length = W := by rw [<- j.yd.len, j.len]
  have ho := sF (n+4) af y [] (am 0x111a93642a1642912 hW hl2)
  simp only [bT, bb, Option.bind_some]
  have e' : sJ (upd ρ "_law_k" v) aa ag y es ns := ⟨e.pl, e.ya, e.ev, e.tu⟩
  cases ob : ec y with
  | true =>
   rw [ob] at ho
   refine ⟨upd ρ "_law_k" v, y, es, ?_, j, ob, [], [], by simp, by lia, .nil y⟩
   simp only [g0, yr, e'.ya, e'.ev, ho, Qa, Qb, Qd, Qe, aC, Qq, Qr, aP, aw, QW, Zj, ↓Zx]
  | false =>
   rw [ob] at ho
   obtain ⟨s, hs, hn⟩ : ∃ s ∈ y.2, bE (some s) = false := by
    obtain ⟨s, h1, h2⟩ := List.all_eq_false.mp ob
    exact ⟨s, h1, by simpa using h2⟩
   obtain ⟨u, hu, es0⟩ := List.mem_iff_getElem.mp hs
   obtain ⟨N', rfl⟩ : ∃ N', N = N' + 1 := ⟨N - 1, by have := HH hn (j.ps u s (by rw [I3 hu, es0]) hn); exact am 0x11101911a3311a39111a3932 (I6 (IO _)) (I1 (az 0x11901291111 this))⟩
   rw [Jl] at hf
   obtain ⟨y1, e1, t, j1⟩ := j8 pv ns y hlt j
   have hw := zR t (az 0x1114291015f9037911 hns) (fun w m => by have := hlt w m; exact ay 0x191b92ba3a922 hl2 this) n af
   have j2 := zH hall t j j1
   have tl := t.len
   have ha := oa (a := aQ es) (b := aQ e1) (H := []) (bC (by unfold aQ; rw [IZ, IZ]; lia))
   have hj : aQ es ++ aQ e1 = aQ (es ++ e1) := by simp [aQ]
   rw [hj] at ha
   generalize hρ : upd (upd (upd (upd ρ "_law_k" v) "_law_yard" (aU y1.1 y1.2)) "_law_more" (.list (aQ e1))) "_law_events" (.list (aQ (es ++ e1))) = ρ1
   have E1 : sJ ρ1 aa ag y1 (es ++ e1) ns := by rw [<- hρ]; exact ⟨e.pl, rfl, rfl, e.tu⟩
   have b : g0 (ai CC (n+5)) af (upd ρ "_law_k" v) [] = some (.next, ρ1, []) := by
    simp only [g0, yu, yt, e'.pl, e'.ya, e'.ev, e'.tu, ho, hw, ha, <- hρ, Qa, Qb, Qc, Qf, aq, asgN, asgT, aB, Qq, Qr, aP, aw, QW, cond_true, cond_false, Q4, Jk, bi, Zj, Zk, Nat.reduceBEq, gj, jZ, zk, g8]
   obtain ⟨ρ', y', es', h1, h3, h4, ws, e2, h5, h7, h6⟩ := zW pv hall hlt hns n af vs N' y1 (es ++ e1) ρ1 (am 0x1111a311932a921 hf) j2 (by rw [I2]; lia) E1
   refine ⟨ρ', y', es', ?_, ⟨h3.yd, h3.em, h3.len, h3.pl, h3.sz, fun u s a b => Nat.le_succ_of_le (h3.ps u s a b)⟩, h4, ns ++ ws, e1 ++ e2, by rw [h5, I5], by rw [I2] at h7; lia, t.app h6⟩
   rw [b, Qc, h1]
theorem HI (pv : jk aa ag V W B) (j : Jv aa V W B N y) (hN : N < 4000) (h0 : 0 < W) (h12 : W <= 12) (hs : ag.length = W) (n af : Nat) (cell : Int) :
  ∃ y' es', ai CC (n+6) af "_law_to_the_end" [aO aa ag, aU y.1 y.2, .int cell] [] = some (.tup [aU y'.1 y'.2, .list (aQ es')], []) /\ Jv aa V W B N y' /\ ec y' = true /\ es'.length <= N * 20 /\ ∃ ws, Tr aa ag V W ws y y' es' := by
 rw [FO]
 have hm : ∃ m : Int, aS ([] : HP) (.list [.int 1, .int ((W : Int) - 1)]) (.int (cell / 12 % 2)) = some (.int m) /\ (m = 1 ∨ m = (W : Int) - 1) := by
  rcases (by lia : cell / 12 % 2 = 0 ∨ cell / 12 % 2 = 1) with q | q
  ·rw [q]; exact ⟨1, Zc _ _ _, .inl rfl⟩
  ·rw [q]; exact ⟨_, Zd _ _ _ _, .inr rfl⟩
 obtain ⟨m, hg, hm⟩ := hm
 have hW : 0 < (W : Int) := by exact az 0x1190129501a1 h0
 have turn : ∃ ns : List Nat, bg bq (rL (ai CC (n+5)) af) "_law_k" (upd (upd (upd (upd aF "_law_plan" (aO aa ag)) "_law_yard" (aU y.1 y.2)) "_law_cell" (.int cell)) "_law_many" (.int (W : Int))) (rM (ai CC (n+5)) af (upd (upd (upd (upd aF "_law_plan" (aO aa ag)) "_law_yard" (aU y.1 y.2)) "_law_cell" (.int cell)) "_law_many" (.int (W : Int)))) [] = some (ns.map fun (w : Nat) => AV.int (w : Int), []) /\ (∀ u, u < W -> u ∈ ns) /\ (∀ u ∈ ns, u < W) /\ ns.length = W := by
  refine ⟨(List.range W).map fun (k : Nat) => ((cell + (k : Int) * m) % (W : Int)).toNat, ?_, fun u hu => ?_, fun u hu => ?_, by simp⟩
  ·rw [jM (src := .range 0 (W : Int)) (xs := bH 0 (W : Int)) (fun v => match v with | .int i => .int ((cell + i * m) % (W : Int)) | _ => .none) ?_ rfl (by rw [gM]; exact bC (az 0x11c1910f424037911 h12)) ?_]
   ·rw [iZ, List.map_map, List.map_map]
    congr 2
    apply List.map_congr_left
    intro k _
    show AV.int _ = AV.int _
    rw [I7 (Int.emod_nonneg _ (by exact az 0x1190120195e1 h0))]
   ·simp only [rM, iY (n := W) (bC (az 0x11c1910f424037911 h12)), Qa, Qb, Qq, Qr, aK, Qt, cond_true, cond_false, if_true, Zj, Zk, Nat.reduceBEq, cm, b6, dM, g8]
   ·intro v hv
    obtain ⟨i, hi, rfl⟩ := vU hv
    have s1 : bA (i : Int) = true := gL (az 0x1953fffffffffffffff8701490) (am 0x111a92c1a13fffffffffffffff879592 h12 hi)
    have s2 : bA m = true := gL (by lia) (by lia)
    simp only [rL, hg, vN s1 s2, bK hW, bK, dE, Qa, Qb, aB, Qo, Qp, au, Qq, Qr, cond_true, cond_false, Int.reduceLT, Zj, Zk, Nat.reduceBEq, ↓ZC, cm, jZ, b6, dM, g8]
  ·obtain ⟨k, hk, e⟩ := HG cell m hm hu
   exact Jm.mpr ⟨k, List.mem_range.mpr hk, by rw [e]; rfl⟩
  ·obtain ⟨k, _, rfl⟩ := Jm.mp hu
   have := Int.emod_lt_of_pos (cell + (k : Int) * m) hW
   lia
 obtain ⟨ns, hc, hall, hlt, hnl⟩ := turn
 obtain ⟨x, ns', rfl⟩ : ∃ x ns', ns = x :: ns' := by
  cases ns with
  | nil => rw [List.length_nil] at hnl; exact False.elim (az 0x919013901272 h0 hnl)
  | cons x ns' => exact ⟨x, ns', rfl⟩
 have hr : 0 <= cell / 24 % 9 /\ cell / 24 % 9 <= 8 := by lia
 have hb := sG (v := (x : Int)) (H := []) hr.1 (aG 0x11819903e827991 hr.2)
 have ha := oa (a := (x :: ns').map fun (w : Nat) => AV.int (w : Int)) (b := (List.replicate (cell / 24 % 9).toNat (x : Int)).map AV.int) (H := []) (bC (by simp only [List.length_map, List.length_replicate]; exact il 0x111119a5b8199b93c1b10f424037a9314 h12 hnl hr.2 (I7 (aG 0x11901990191 hr.1))))
 have hj : ((x :: ns').map fun (w : Nat) => AV.int (w : Int)) ++ (List.replicate (cell / 24 % 9).toNat (x : Int)).map AV.int = ((x :: ns') ++ List.replicate (cell / 24 % 9).toNat x).map fun (w : Nat) => AV.int (w : Int) := by
  rw [List.map_append, List.map_replicate, List.map_replicate]
 rw [hj] at ha
 obtain ⟨ρ', y', es', h1, h3, h4, ws, e2, h5, h7, h6⟩ := zW pv (ns := (x :: ns') ++ List.replicate (cell / 24 % 9).toNat x) (fun u hu => JH _ (hall u hu)) (fun u hu => by
  rcases List.mem_append.mp hu with h | h
  ·exact hlt u h
  ·rw [List.eq_of_mem_replicate h]; exact hlt x Jj) (by rw [I2, List.length_replicate]; exact il 0x111119a5b8199b93c1b1142a9314 h12 hnl hr.2 (I7 (aG 0x11901990191 hr.1))) n af (bH 0 4000) N y [] (upd (upd (upd (upd (upd (upd (upd aF "_law_plan" (aO aa ag)) "_law_yard" (aU y.1 y.2)) "_law_cell" (.int cell)) "_law_many" (.int (W : Int))) "_law_turn" (.list ((x :: ns').map fun (w : Nat) => AV.int (w : Int)))) "_law_turn" (.list (((x :: ns') ++ List.replicate (cell / 24 % 9).toNat x).map fun (w : Nat) => AV.int (w : Int)))) "_law_events" (.list [])) (by rw [show bH 0 4000 = bH 0 ((4000 : Nat) : Int) from rfl, gM]; exact hN) j (by rw [List.length_nil]; lia) ⟨rfl, rfl, rfl, rfl⟩
 rw [List.nil_append] at h5
 subst h5
 refine ⟨y', es', ?_, h3, h4, by rw [List.length_nil] at h7; lia, ws, h6⟩
 have hp : ∀ G, aS G (aO aa ag) (.int 1) = some (.list (ag.map iL)) := fun G => Q9 G _ _ _
 have hi : ∀ ρ, rN (ai CC (n+5)) af ρ [] = some (.range 0 4000, []) := fun ρ => rfl
 have hx : dr (.range 0 4000) = some (bH 0 4000) := rfl
 have hy : ∀ ρ, bJ (g0 (ai CC (n+5)) af) (bb "_law_k") (rN (ai CC (n+5)) af ρ) ρ [] = bT (g0 (ai CC (n+5)) af) (bb "_law_k") (bH 0 4000) ρ [] := fun ρ => by simp only [bJ, hi, hx, Qa, Qb]
 have hx0 : ∀ G, aS G (.list ((x :: ns').map fun (w : Nat) => AV.int (w : Int))) (.int 0) = some (.int (x : Int)) := fun G => Zc G _ _
 simp only [List.map_cons, List.map_append, iL] at hc ha hb h1 hx0
 simp only [yB, yA, yw, yx, yy, yz, hp, hs, hc, hx0, ha, hb, hy, h1, bK, dE, Qa, Qb, Qc, Qd, asgN, Qh, aB, au, Qq, Qr, aK, Qs, bI, QA, cond_true, cond_false, Q5, List.length_map, Ji, Int.reduceLT, Zj, Zk, Nat.reduceBEq, ↓ZA, ↓ZB, cm, b6, dM, Gk, g8]
end
end Mine.Internal
namespace Mine.Internal
open PySem PyProof.Rows
def E5.v (e : E5) : AV := match e with
 | .own w x => cK "own" [w, x]
 | .taken w a x => cK "taken" [w, a, x]
 | .put w y => cK "put" [w, y]
 | .done w x => cK "done" [w, x]
 | .rests w => cK "rests" [w]
noncomputable def E5.isR (e : E5) : Bool := match e with
 | .rests _ => true
 | _ => false
structure Ok3 (aa : List (List Int)) (W B : Nat) (s : S3) : Prop where
 lr : s.rows.length = W
 lh : s.hs.length = W
 ls : s.rs.length = W
 rt : ∀ row ∈ s.rows, row.length <= B /\ ∀ t ∈ row, 0 <= t /\ t < (aa.length : Int)
 ht : ∀ t n, some (t, n) ∈ s.hs -> 0 <= t /\ t < (aa.length : Int) /\ 0 <= n /\ n <= ((br aa t).length : Int)
noncomputable def hV (o : Option (Int × Int)) : AV := match o with
 | some p => .tup [.int p.1, .int p.2]
 | none => .none
section
variable {P T : HP} {rows : List (List Int)}
theorem hO (j : Nat) : (aD P rows ++ T)[P.length + rows.length + 1 + j]? = T[j]? := by
 rw [List.getElem?_append_right (by rw [dL]; exact ay 0x1b11a933311a93310), dL]
 congr 1; exact aN 0x101011a11cb33311cb3393311cb3393a11cb3331a932 (I6 (IO _)) (I1 (ay 0x1b11a933311a93310))
theorem kb (j : Nat) (x : List AV) : (aD P rows ++ T).set (P.length + rows.length + 1 + j) x = aD P rows ++ T.set j x := by
 rw [List.set_append_right _ _ (by rw [dL]; exact ay 0x1b11a933311a93310), dL]
 congr 2; exact aN 0x101011a11cb33311cb3393311cb3393a11cb3331a932 (I6 (IO _)) (I1 (ay 0x1b11a933311a93310))
theorem og {a : Int} (h0 : 0 <= a) (h1 : a < (rows.length : Int)) : aS (aD P rows ++ T) (.ref (P.length + rows.length)) (.int a) = some (.ref (P.length + a.toNat)) := by
 have := fh (H := aD P rows ++ T) (o := .ref (P.length + rows.length)) (xs := bL P.length rows.length) (eA fp) h0 (by rw [fj]; exact h1)
 rw [this, mq (by exact aZ 0x111995ba59aa922 h1 (I7 (aG 0x11901990191 h0)))]
theorem oh {j : Nat} (h : j < rows.length) : (aD P rows ++ T)[P.length + j]? = some (aE (rows.getD j [])) := by
 refine ms ?_
 rw [I3 h, JI, I3 h]; rfl
end
theorem hY {H : HP} {k : Nat} {L : List Int} (hk : H[k]? = some (aE L)) : dW H (.ref k) (.list []) = some (decide (L = [])) := by
 have h1 : fz H (.ref k) = some (iL L) := vZ (n := 3) hk
 show fS H _ _ = _
 unfold fS
 rw [h1]
 show (if (bR cB (iL L) && bR cB (.list [])) = true then some (PyData.eqv (cM (iL L)) (cM (.list []))) else none) = _
 have h2 : bR cB (iL L) = true := qj (n := 11) L
 rw [h2]
 cases L with
 | nil => rfl
 | cons a r => rfl
theorem zX : ∀ l l' : List Int, PyData.eqvAll (c4 (l.map AV.int)) (c4 (l'.map AV.int)) = decide (l = l')
 | [], [] => rfl
 | [], _ :: _ => rfl
 | _ :: _, [] => rfl
 | a :: l, b :: l' => by
  show ((a == b) && PyData.eqvAll (c4 (l.map AV.int)) (c4 (l'.map AV.int))) = _
  rw [zX l l']
  by_cases h : a = b <;> by_cases h' : l = l' <;> simp [h, h']
theorem oi (H : HP) (l l' : List Int) : dW H (iL l) (iL l') = some (decide (l = l')) := by
 have h1 : fz H (iL l) = some (iL l) := i4 (qk _)
 have h2 : fz H (iL l') = some (iL l') := i4 (qk _)
 show fS H _ _ = _
 unfold fS
 rw [h1, h2]
 show (if (bR cB (iL l) && bR cB (iL l')) = true then some (PyData.eqv (cM (iL l)) (cM (iL l'))) else none) = _
 rw [show bR cB (iL l) = true from qj (n := 11) l, show bR cB (iL l') = true from qj (n := 11) l']
 exact congrArg some (zX l l')
theorem oj {af k : Nat} {o : HP -> R AV} {es : List (HP -> R AV)} {H : HP} {l : List Int} {t : Int} (ho : o H = some (.ref k, H)) (he : bo es H = some ([.int (-1)], H) ∨ bo es H = some ([], H)) (hk : H[k]? = some (aE l)) (hl : l.getLast? = some t) : bx af .pop o es H = some (.int t, H.set k (aE l.dropLast)) := by
 obtain ⟨ws, rfl⟩ : ∃ ws, l = ws ++ [t] := by
  rcases List.eq_nil_or_concat l with rfl | ⟨ws, u, rfl⟩
  ·cases hl
  ·rw [List.concat_eq_append, List.getLast?_concat] at hl; cases hl; exact ⟨ws, List.concat_eq_append⟩
 rw [List.dropLast_concat]
 have e : aE (ws ++ [t]) = aE ws ++ [.int t] := by simp [aE]
 have hlen : (aE ws ++ [AV.int t]).length = ws.length + 1 := by simp [aE]
 have hp : gC (aE (ws ++ [t])) (-1) = some (.int t, aE ws) := by
  have hi : idx (ws.length + 1) (-1) = some ws.length := by
   unfold idx
   rw [IU (by exact bt 73284190656), Id (by exact az 0x1119351101430190)]
   congr 1
   exact am 0x10101111a3511014395b9511a351101439a932 (Ju _) (I7 (az 0x1119351101430190))
  unfold gC
  rw [e, hlen, hi]
  have h1 : (aE ws ++ [AV.int t])[ws.length]? = some (.int t) := by
   rw [List.getElem?_append_right (by simp [aE])]; simp [aE]
  simp only [Option.bind_some, h1]
  congr 2
  rw [List.eraseIdx_append_of_length_le (by simp [aE])]
  simp [aE]
 have hs : e9 H (.ref k) = true := by show (H[k]?).isSome = true; rw [hk]; rfl
 rcases he with he | he
 ·simp only [bx, ho, Qa, hs, if_true, he, gP hk (show dX H .pop (aE (ws ++ [t])) [.int (-1)] = _ from hp), bF]
 ·simp only [bx, ho, Qa, hs, if_true, he, gP hk (show dX H .pop (aE (ws ++ [t])) [] = _ from hp), bF]
theorem zY {af k : Nat} {o : HP -> R AV} {es : List (HP -> R AV)} {H : HP} {l : List Int} {t : Int} (ho : o H = some (.ref k, H)) (he : bo es H = some ([.int 0], H)) (hk : H[k]? = some (aE l)) (hl : l.head? = some t) : bx af .pop o es H = some (.int t, H.set k (aE l.tail)) := by
 obtain ⟨ws, rfl⟩ : ∃ ws, l = t :: ws := ⟨l.tail, by cases l with | nil => cases hl | cons a r => cases hl; rfl⟩
 have hp : gC (aE (t :: ws)) 0 = some (.int t, aE ws) := by
  unfold gC
  rw [show idx (aE (t :: ws)).length 0 = some 0 from by
   unfold idx
   rw [Id (I9 _), Id (by simp [aE])]; rfl]
  rfl
 have hs : e9 H (.ref k) = true := by show (H[k]?).isSome = true; rw [hk]; rfl
 simp only [bx, ho, Qa, hs, if_true, he, gP hk (show dX H .pop (aE (t :: ws)) [.int 0] = _ from hp), bF, List.tail_cons]
theorem gv {H : HP} {k : Nat} {xs : List AV} {i : Int} {v : AV} (hk : H[k]? = some xs) (h0 : 0 <= i) (h1 : i < (xs.length : Int)) : setItem H (.ref k) (.int i) v = some (H.set k (xs.set i.toNat v)) := by
 show ((H[k]?).bind fun xs => if (decide (0 <= i) && decide (i < (xs.length : Int))) = true then some (bF H k (xs.set i.toNat v)) else none) = _
 rw [hk]
 show (if (decide (0 <= i) && decide (i < (xs.length : Int))) = true then _ else none) = _
 rw [Jf h0, Jf h1]; rfl
theorem kc {H : HP} {k : Nat} {xs : List AV} {i : Int} {v : AV} (hk : H[k]? = some xs) (h0 : 0 <= i) (h1 : xs[i.toNat]? = some v) : aS H (.ref k) (.int i) = some v := by
 rw [fh (eA hk) h0 (by have := (IX.mp h1).1; exact aZ 0x111a5999a2959a2 this (Ju _)), h1]
noncomputable def E5.tag (e : E5) : String := match e with
 | .own _ _ => "own"
 | .taken _ _ _ => "taken"
 | .put _ _ => "put"
 | .done _ _ => "done"
 | .rests _ => "rests"
theorem zZ (H : HP) (a b : AV) (r : List AV) : dt H (.tup (a :: b :: r)) none (some 2) = some (.tup [a, b]) := by
 show some (AV.tup (cH (a :: b :: r) none (some 2))) = _
 have hc : ds (a :: b :: r).length 2 = 2 := by
  unfold ds; rw [IU (by exact bt 16851408)]; simp only [List.length_cons]; exact (Nat.le_total _ _).elim (fun q0 => am 0x110190011a9321a5ba91a521921934 (Ju _) (Nat.min_le_left _ _) (I7 (bt 18940304)) (Nat.min_eq_left (am 0x111111a33911111a33911 q0))) fun q0 => ay 0x11190011111b339321a5ba9121933 (Nat.min_le_left _ _) (I7 (bt 18940304)) (Nat.min_eq_right (am 0x11a11119331a111193311 q0))
 unfold cH
 simp only [Option.elim, hc]
 rfl
theorem jm {i : Int} (h : bA i = true) : et (.int i) = some (some i) := by show (if bA i = true then _ else _) = _; rw [Id h]
theorem ke {aa : List (List Int)} {t : Int} (h0 : 0 <= t) (h1 : t < (aa.length : Int)) (G : HP) : aS G (.list (aa.map iL)) (.int t) = some (iL (br aa t)) := by
 have hl : t.toNat < aa.length := by exact aZ 0x111995ba59aa922 h1 (I7 (aG 0x11901990191 h0))
 rw [fh (xs := aa.map iL) rfl h0 (by simpa using h1)]
 unfold br
 simp [hl]
theorem HJ (H : HP) (l : List Int) {n : Int} (h0 : 0 <= n) (h1 : n <= (l.length : Int)) : dt H (iL l) (some n) none = some (iL (l.drop n.toNat)) := by
 show some (AV.list (cH (l.map AV.int) (some n) none)) = _
 have hc : ds (l.map AV.int).length n = n.toNat := by
  unfold ds; rw [IU (by exact aG 0x119019019d1 h0), IZ]; exact (Nat.le_total _ _).elim (fun q0 => am 0x11901a93a91a932 (Nat.min_le_left _ _) (Nat.min_eq_left (am 4740720913 q0))) fun q0 => il 0x10191011b939a5ba91b599a934 h1 (Nat.min_le_left _ _) (I7 (aG 0x11901990191 h0)) (Nat.min_eq_right (am 4740720913 q0))
 unfold cH
 simp only [Option.elim, hc]
 rw [List.take_of_length_le (by rw [List.length_drop]; exact IO _), iL, List.map_drop]
theorem HK (H : HP) (l : List Int) : dt H (iL l) none (some 1) = some (iL (l.take 1)) := by
 show some (AV.list (cH (l.map AV.int) none (some 1))) = _
 cases l with
 | nil => rfl
 | cons a r =>
  have hc : ds ((a :: r).map AV.int).length 1 = 1 := by
   unfold ds; rw [IU (by exact bt 16847312)]; simp only [List.length_map, List.length_cons]; exact (Nat.le_total _ _).elim (fun q0 => am 0x110190011a9311a5ba91a511911934 (Ju _) (Nat.min_le_left _ _) (I7 (bt 17891728)) (Nat.min_eq_left (am 0x1111a39111a3911 q0))) fun q0 => ay 0x111900111b39311a5ba9111933 (Nat.min_le_left _ _) (I7 (bt 17891728)) (Nat.min_eq_right (am 0x11a11931a119311 q0))
  unfold cH
  simp only [Option.elim, hc]
  rfl
theorem HL (H : HP) (a b c : AV) : aS H (.tup [a, b, c]) (.int (-1)) = some c := rfl
theorem HM (H : HP) (a b c d : AV) : aS H (.tup [a, b, c, d]) (.int (-1)) = some d := rfl
theorem z0 (H : HP) : fU (some (AV.int 1, H)) = some (.int (-1), H) := rfl
theorem sK (H : HP) (a b c : String) : cN H (.str (Str.ofString a)) (.list [.str (Str.ofString b), .str (Str.ofString c)]) = some (decide (b = a) || decide (c = a)) := by
 show pq [.str (Str.ofString b), .str (Str.ofString c)] (.str (Str.ofString a)) = _
 unfold pq
 have h1 : bR cB (.list [.str (Str.ofString b), .str (Str.ofString c)]) = true := by
  show (PyData.strOk (Str.ofString b) && (PyData.strOk (Str.ofString c) && true)) = true
  rw [iV, iV]; rfl
 rw [h1, show bR cB (.str (Str.ofString a)) = true from iV a]
 show some ((Str.ofString b == Str.ofString a) || ((Str.ofString c == Str.ofString a) || false)) = _
 have e : ∀ x y : String, (Str.ofString x == Str.ofString y) = decide (x = y) := fun x y => by
  rw [Bool.eq_iff_iff, beq_iff_eq, decide_eq_true_iff, Qn]
 rw [e, e, Bool.or_false]
theorem z1 {af : Nat} {H : HP} {o : HP -> R AV} {es : List (HP -> R AV)} {w : String} {j : Int} (ho : o H = some (.list [.str (Str.ofString "taken"), .str (Str.ofString "own")], H)) (he : bo es H = some ([.str (Str.ofString w)], H)) (hj : gD (Str.ofString "taken") (Str.ofString "own") (Str.ofString w) = some (.int j)) : bx af .index o es H = some (.int j, H) := by
 have hs : e9 H (.list [.str (Str.ofString "taken"), .str (Str.ofString "own")]) = true := rfl
 have hl : iD .index (.list [.str (Str.ofString "taken"), .str (Str.ofString "own")]) [.str (Str.ofString w)] H = some (.int j, H) := by
  show (gD (Str.ofString "taken") (Str.ofString "own") (Str.ofString w)).bind _ = _
  rw [hj]; rfl
 simp only [bx, ho, Qa, hs, if_true, he, hl]
structure GE (ρ : an) (aa ag : List (List Int)) (K : Nat) (e : E5) (h : AV) : Prop where
 pl : ρ "_law_plan" = some (aO aa ag)
 ro : ρ "_law_rows" = some (.ref K)
 hs : ρ "_law_holds" = some (.ref (K + 1))
 ev : ρ "_law_event" = some e.v
 wd : ρ "_law_word" = some (.str (Str.ofString e.tag))
 w : ρ "_law_w" = some (.int e.w)
 hd : ρ "_law_held" = some h
theorem kg (e : E5) : ∃ r, e.v = .tup (.str (Str.ofString e.tag) :: .int e.w :: r) := by cases e <;> exact ⟨_, rfl⟩
section
variable {aa ag : List (List Int)} {W B : Nat} {s : S3} {P : HP} {X : List AV} {e : E5} {i : Nat}
abbrev RH (P : HP) (s : S3) (X : List AV) : HP := aD P s.rows ++ [s.hs.map hV, X]
theorem om : (RH P s X)[P.length + s.rows.length + 1]? = some (s.hs.map hV) := hO 0
theorem z2 (x : List AV) : (RH P s X).set (P.length + s.rows.length + 1) x = aD P s.rows ++ [x, X] := kb 0 x
theorem HN (hi : i < s.hs.length) : (s.hs.map hV)[i]? = some (hV (s.h i)) := by
 rw [JC, I3 hi, S3.h, JI, I3 hi]; rfl
theorem HO (o : Ok3 aa W B s) (hi : i < W) (hw : e.w = (i : Int)) (Φ : aR) (af : Nat) :
  ∃ ρ, rI Φ af (aO aa ag) (.ref (P.length + s.rows.length)) (.ref (P.length + s.rows.length + 1)) e.v (RH P s X) = ba (cW Φ af ρ (RH P s X)) /\ GE ρ aa ag (P.length + s.rows.length) e (hV (s.h i)) := by
 obtain ⟨r, hr⟩ := kg e
 have g1 : aS (RH P s X) (.ref (P.length + s.rows.length + 1)) (.int (i : Int)) = some (hV (s.h i)) := kc om (az 26542480) (by rw [Jt]; exact HN (by rw [o.lh]; exact hi))
 have o2 := jm (i := 2) (by decide)
 refine ⟨upd (upd (upd (upd (upd (upd (upd aF "_law_plan" (aO aa ag)) "_law_rows" (.ref (P.length + s.rows.length))) "_law_holds" (.ref (P.length + s.rows.length + 1))) "_law_event" e.v) "_law_word" (.str (Str.ofString e.tag))) "_law_w" (.int e.w)) "_law_held" (hV (s.h i)), ?_, ⟨rfl, rfl, rfl, rfl, rfl, rfl, rfl⟩⟩
 rw [hr]
 simp only [rI, ym, yl, eO, o2, zZ, hw, g1, Qa, Qb, Qc, asgN, asgT, au, bX, bZ, cond_true, cond_false, Q4, Jk, bi, Zj, Zk, Nat.reduceBEq, nS, nT, dM, nU, zl, Gm]
end
section
variable {aa ag : List (List Int)} {W B : Nat} {s : S3} {P : HP} {X : List AV} {i : Nat} {ρ : an}
theorem HQ {w : Int} (o : Ok3 aa W B s) (hi : i < W) (hw : w = (i : Int)) (g : GE ρ aa ag (P.length + s.rows.length) (.rests w) (hV (s.h i))) (h1 : s.h i = none) (h2 : s.r i = []) (Φ : aR) (af : Nat) : ba (cW Φ af ρ (RH P s X)) = some (.bool true, RH P s X) := by
 have hl : (i : Int) < (s.rows.length : Int) := by rw [o.lr]; exact am 0x11a92a595a1 hi
 have rr := og (P := P) (T := [s.hs.map hV, X]) (rows := s.rows) (a := (i : Int)) (az 26542480) hl
 rw [Jt] at rr
 have en := hY (oh (P := P) (T := [s.hs.map hV, X]) (rows := s.rows) (j := i) (am 0x11a595aa921 hl))
 have gw := g.w
 have gd := g.wd
 simp only [E5.w, E5.tag, hw] at gw gd
 have hd := g.hd
 rw [h1] at hd
 rw [show s.rows.getD i [] = s.r i from rfl, Jf h2] at en
 simp only [cW, gd, yc, hd, g.ro, gw, rr, en, hV, Qa, Qb, Qd, Qe, aC, Qh, au, QF, QK, QO, QQ, aw, QW, Q1, Q2, cond_true, Zj, Nat.reduceBEq, Zl, ↓ZA, eD]
theorem z3 (j : Nat) (p : Option (Int × Int)) : (s.hs.map hV).set j (hV p) = (s.hs.set j p).map hV := by rw [List.map_set]
theorem z4 {e : E5} {a t x : Int} {l' : List Int} (o : Ok3 aa W B s) (hi : i < W) (hw : e.w = (i : Int)) (g : GE ρ aa ag (P.length + s.rows.length) e .none) (ho : ρ "_law_other" = some (.int a)) (h0 : 0 <= a) (h1 : a < (s.rows.length : Int))
  (hp : ∀ (H : HP) o' es, o' H = some (.ref (P.length + a.toNat), H) -> H[P.length + a.toNat]? = some (aE (s.r a.toNat)) -> bo es H = some ([.int (if e.tag = "own" then -1 else 0)], H) -> ∀ af, bx af .pop o' es H = some (.int t, H.set (P.length + a.toNat) (aE l')))
  (ht : e.tag = "own" ∨ e.tag = "taken") (hx : ∀ H, aS H e.v (.int (-1)) = some (.int x)) (hne : s.r a.toNat ≠ []) (Φ : aR) (af : Nat) :
  jh Φ af ρ (RH P s X) = some (.ret (.bool (decide (t = x))), upd ρ "_law_task" (.int t), RH P ⟨s.rows.set a.toNat l', s.hs.set i (some (t, 0)), s.rs⟩ X) := by
 have ha : a.toNat < s.rows.length := by exact aZ 0x111995ba59aa922 h1 (I7 (aG 0x11901990191 h0))
 have rr := og (P := P) (T := [s.hs.map hV, X]) (rows := s.rows) h0 h1
 have row := oh (P := P) (T := [s.hs.map hV, X]) (rows := s.rows) ha
 have en := hY row
 rw [show s.rows.getD a.toNat [] = s.r a.toNat from rfl, decide_eq_false hne] at en
 have ln : (bL P.length s.rows.length).length = s.rows.length := fj _ _
 have li := eA (fp (H := P) (T := [s.hs.map hV, X]) (rows := s.rows))
 have ix : ∀ H, aB .Mult (fun H => bx af .index (fun H => a8 [(fun H => some (AV.str "taken", H)), (fun H => some (AV.str "own", H))] H) [(fun H => ae ρ "_law_word" H)] H) (fun H => fU (some (AV.int 1, H))) H = some (.int (if e.tag = "own" then -1 else 0), H) := fun H => by
  rcases ht with q | q
  ·have m := z1 (af := af) (H := H) (w := "own") (j := 1) (o := fun H => a8 [(fun H => some (AV.str "taken", H)), (fun H => some (AV.str "own", H))] H) (es := [fun H => ae ρ "_law_word" H]) (by simp only [Qa, Qq, Qr, ↓ZC]) (by simp only [g.wd, q, Qa, Qb, Qq, Qr, Zj]) (by simp [gD, Qn])
   unfold aB
   dsimp only
   rw [m, q]; rfl
  ·have m := z1 (af := af) (H := H) (w := "taken") (j := 0) (o := fun H => a8 [(fun H => some (AV.str "taken", H)), (fun H => some (AV.str "own", H))] H) (es := [fun H => ae ρ "_law_word" H]) (by simp only [Qa, Qq, Qr, ↓ZC]) (by simp only [g.wd, q, Qa, Qb, Qq, Qr, Zj]) (by simp [gD])
   unfold aB
   dsimp only
   rw [m, q]; rfl
 have pp := hp (RH P s X) (fun H => au (fun H => ae ρ "_law_rows" H) (fun H => ae ρ "_law_other" H) H) [fun H => aB .Mult (fun H => bx af .index (fun H => a8 [(fun H => some (AV.str "taken", H)), (fun H => some (AV.str "own", H))] H) [(fun H => ae ρ "_law_word" H)] H) (fun H => fU (some (AV.int 1, H))) H]
  (by simp only [g.ro, ho, rr, Qa, Qb, au, Zj]) row (by rw [Qr, ix, Qa, Qq, Qa]) af
 have hset : (RH P s X).set (P.length + a.toNat) (aE l') = RH P ⟨s.rows.set a.toNat l', s.hs, s.rs⟩ X := jN ha
 rw [hset] at pp
 have kk : P.length + s.rows.length + 1 = P.length + (s.rows.set a.toNat l').length + 1 := by rw [List.length_set]
 have sw : setItem (RH P ⟨s.rows.set a.toNat l', s.hs, s.rs⟩ X) (.ref (P.length + s.rows.length + 1)) (.int (i : Int)) (.tup [.int t, .int 0]) = some (RH P ⟨s.rows.set a.toNat l', s.hs.set i (some (t, 0)), s.rs⟩ X) := by
  rw [kk, gv (om (s := ⟨s.rows.set a.toNat l', s.hs, s.rs⟩)) (by exact az 26542480) (by rw [IZ]; show (i : Int) < (s.hs.length : Int); rw [o.lh]; exact am 0x11a92a595a1 hi), Jt]
  rw [z2 (s := ⟨s.rows.set a.toNat l', s.hs, s.rs⟩)]
  rw [show ((⟨s.rows.set a.toNat l', s.hs, s.rs⟩ : S3).hs.map hV).set i (.tup [.int t, .int 0]) = (s.hs.set i (some (t, 0))).map hV from z3 (s := s) i (some (t, 0))]
 have k6 : nu Φ af ρ (RH P s X) = rG Φ af (upd ρ "_law_task" (.int t)) (RH P ⟨s.rows.set a.toNat l', s.hs, s.rs⟩ X) := by
  unfold nu
  rw [pp]
  simp only [Qa, Qc, asgN]
 have gw := g.w
 rw [hw] at gw
 have hh : (upd ρ "_law_task" (.int t)) "_law_holds" = some (.ref (P.length + s.rows.length + 1)) := g.hs
 have hw' : (upd ρ "_law_task" (.int t)) "_law_w" = some (.int (i : Int)) := gw
 have he' : (upd ρ "_law_task" (.int t)) "_law_event" = some e.v := g.ev
 rw [show jh Φ af ρ (RH P s X) = nu Φ af ρ (RH P s X) by
  unfold jh
  simp only [eu, ho, g.ro, li, ln, h0, h1, rr, en, Qa, Qb, Qc, Qf, aq, au, Qq, Qr, aK, Qs, bI, QF, QG, QH, QK, aw, QW, cD, QY, Q0, cond_false, Jg, Ji, decide_true, Zj, ↓ZA], k6]
 simp only [rG, asgI, hh, hw', sw, ye, z0, he', hx, Qa, Qb, Qc, Qd, aC, au, Qq, Qr, QF, QK, cond_true, Jk, Zg, Zj, Zk, Nat.reduceBEq, ↓Zx, dh]
theorem HR {w x : Int} (o : Ok3 aa W B s) (hi : i < W) (hw : w = (i : Int)) (g : GE ρ aa ag (P.length + s.rows.length) (.own w x) (hV (s.h i))) (h1 : s.h i = none) (ht : (s.r i).getLast? = some x) (Φ : aR) (af : Nat) : ba (cW Φ af ρ (RH P s X)) = some (.bool true, RH P ⟨s.rows.set i (s.r i).dropLast, s.hs.set i (some (x, 0)), s.rs⟩ X) := by
 have hl : (i : Int) < (s.rows.length : Int) := by rw [o.lr]; exact am 0x11a92a595a1 hi
 have gw := g.w
 have gd := g.wd
 have ge := g.ev
 simp only [E5.w, E5.tag, hw] at gw gd
 simp only [E5.v, cK, List.map_cons, List.map_nil] at ge
 rw [h1] at g
 have hd := g.hd
 generalize e1 : upd ρ "_law_other" (.int (i : Int)) = ρ1
 have o1 : ρ1 "_law_other" = some (.int (i : Int)) := by rw [<- e1]; rfl
 have d1 : ρ1 "_law_held" = some .none := by rw [<- e1]; exact hd
 have w1 : ρ1 "_law_word" = some (.str (Str.ofString "own")) := by rw [<- e1]; exact gd
 have g1 : GE ρ1 aa ag (P.length + s.rows.length) (.own w x) .none := by rw [<- e1]; exact ⟨g.pl, g.ro, g.hs, g.ev, g.wd, g.w, g.hd⟩
 have k20 : cW Φ af ρ (RH P s X) = sq (gZ Φ af ρ1 (RH P s X)) (jX Φ af) := by
  simp only [cW, gd, nx, sK, rH, gw, ge, e1, Qa, Qb, Qc, Qe, Qf, aq, asgN, au, Qq, Qr, aK, Qy, QF, QK, QM, aw, QW, Za, Zc, if_false, Bool.or_false, decide_true, decide_false, String.reduceEq, Bool.false_eq_true, Zj, Nat.reduceBEq, Zl, ↓ZC, zp, eD, nX]
 have k8 : gZ Φ af ρ1 (RH P s X) = jh Φ af ρ1 (RH P s X) := by
  simp only [gZ, d1, w1, Qa, Qb, Qc, Qf, aq, QF, QK, QP, QQ, aw, QW, QX, QY, QZ, Q0, cond_false, Jg, Zj, Nat.reduceBEq, Zl, zp, nX]
 have h2 : s.r i ≠ [] := fun q => by rw [q] at ht; cases ht
 have tk := z4 (e := .own w x) (X := X) (a := (i : Int)) (t := x) (x := x) (l' := (s.r i).dropLast) o hi hw g1 o1 (az 26542480) hl (fun H o' es q1 q2 q3 af => oj q1 (.inl (by rw [Id (show (E5.own w x).tag = "own" from rfl)] at q3; exact q3)) q2 ht) (.inl rfl) (fun H => HL H _ _ _) h2 Φ af
 rw [Jt] at tk
 rw [k20, k8, tk, Jf rfl]; rfl
theorem HS {w a x : Int} (o : Ok3 aa W B s) (hi : i < W) (hw : w = (i : Int)) (g : GE ρ aa ag (P.length + s.rows.length) (.taken w a x) (hV (s.h i))) (h1 : s.h i = none) (h2 : ¬ a = w) (h3 : 0 <= a) (h4 : a < (s.rows.length : Int)) (ht : (s.r a.toNat).head? = some x) (Φ : aR) (af : Nat) : ba (cW Φ af ρ (RH P s X)) = some (.bool true, RH P ⟨s.rows.set a.toNat (s.r a.toNat).tail, s.hs.set i (some (x, 0)), s.rs⟩ X) := by
 have gw := g.w
 have gd := g.wd
 have ge := g.ev
 simp only [E5.w, E5.tag] at gw gd
 simp only [E5.v, cK, List.map_cons, List.map_nil] at ge
 rw [h1] at g
 have hd := g.hd
 generalize e1 : upd ρ "_law_other" (.int a) = ρ1
 have o1 : ρ1 "_law_other" = some (.int a) := by rw [<- e1]; rfl
 have d1 : ρ1 "_law_held" = some .none := by rw [<- e1]; exact hd
 have w1 : ρ1 "_law_word" = some (.str (Str.ofString "taken")) := by rw [<- e1]; exact gd
 have v1 : ρ1 "_law_w" = some (.int w) := by rw [<- e1]; exact gw
 have g1 : GE ρ1 aa ag (P.length + s.rows.length) (.taken w a x) .none := by rw [<- e1]; exact ⟨g.pl, g.ro, g.hs, g.ev, g.wd, g.w, g.hd⟩
 have k20 : cW Φ af ρ (RH P s X) = sq (gZ Φ af ρ1 (RH P s X)) (jX Φ af) := by
  simp only [cW, gd, nx, sK, rH, gw, ge, e1, Qa, Qb, Qc, Qe, Qf, aq, asgN, au, Qq, Qr, aK, Qy, QF, QK, QM, aw, QW, Za, Zd, if_true, Bool.or_true, decide_true, decide_false, String.reduceEq, Zj, Nat.reduceBEq, Zl, ↓ZC, eD, nX]
 have k8 : gZ Φ af ρ1 (RH P s X) = jh Φ af ρ1 (RH P s X) := by
  simp only [gZ, d1, w1, o1, v1, h2, Qa, Qb, Qc, Qf, aq, QF, QK, QP, QQ, aw, QW, QX, QY, QZ, Q0, cond_true, cond_false, Zg, Jg, decide_false, Zj, Nat.reduceBEq, Zl, nX]
 have h5 : s.r a.toNat ≠ [] := fun q => by rw [q] at ht; cases ht
 have tk := z4 (e := .taken w a x) (X := X) (a := a) (t := x) (x := x) (l' := (s.r a.toNat).tail) o hi hw g1 o1 h3 h4 (fun H o' es q1 q2 q3 af => zY q1 (by rw [IU (show ¬ (E5.taken w a x).tag = "own" by simp [E5.tag])] at q3; exact q3) q2 ht) (.inr rfl) (fun H => HM H _ _ _ _) h5 Φ af
 rw [k20, k8, tk, Jf rfl]; rfl
theorem kh (o : Ok3 aa W B s) (hi : i < W) {p : Int × Int} (h : s.h i = some p) : 0 <= p.1 /\ p.1 < (aa.length : Int) /\ 0 <= p.2 /\ p.2 <= ((br aa p.1).length : Int) := by
 refine o.ht p.1 p.2 ?_
 have hl : i < s.hs.length := by rw [o.lh]; exact hi
 rw [S3.h, JI, I3 hl] at h
 exact (show s.hs[i] = some p from h) ▸ List.getElem_mem hl
theorem z5 {e : E5} {p : Int × Int} (o : Ok3 aa W B s) (hi : i < W) (hb : ∀ t, (br aa t).length <= 900) (g : GE ρ aa ag (P.length + s.rows.length) e (hV (s.h i))) (hn : e.tag = "put" ∨ e.tag = "done") (hh : s.h i = some p) (Φ : aR) (af : Nat) :
  ∃ ρ1, cW Φ af ρ (RH P s X) = nv Φ af ρ1 (RH P s X) /\ GE ρ1 aa ag (P.length + s.rows.length) e (.tup [.int p.1, .int p.2]) /\ ρ1 "_law_left" = some (iL ((br aa p.1).drop p.2.toNat)) := by
 rw [hh] at g
 have gd := g.wd
 have hd := g.hd
 have k19 : cW Φ af ρ (RH P s X) = jX Φ af ρ (RH P s X) := by
  rcases hn with q | q <;> (rw [q] at gd; simp only [cW, gd, nx, sK, Qa, Qb, Qc, Qf, aq, Qq, Qr, QF, QK, QM, aw, QW, Bool.or_false, decide_false, String.reduceEq, Zj, Nat.reduceBEq, Zl, ↓ZC, j4, sr, eD])
 obtain ⟨q1, q2, q3, q4⟩ := kh o hi hh
 refine ⟨upd ρ "_law_left" (iL ((br aa p.1).drop p.2.toNat)), ?_, ⟨g.pl, g.ro, g.hs, g.ev, g.wd, g.w, g.hd⟩, rfl⟩
 have hp0 : ∀ G, aS G (aO aa ag) (.int 0) = some (.list (aa.map iL)) := fun G => Q8 G _ _
 have b1 : ∀ G, aS G (.list (aa.map iL)) (.int p.1) = some (iL (br aa p.1)) := ke q1 q2
 have ob := jm (i := p.2) (j5 q3 (by have := hb p.1; exact aV 0x111038427919599030d4037992 q4 this))
 have sf := fun G => HJ G (br aa p.1) q3 q4
 rw [k19]
 simp only [jX, hd, hV, yk, g.pl, hp0, b1, ob, eO, sf, Qa, Qb, Qc, Qf, aq, asgN, au, bX, bZ, QF, QO, QS, aw, QW, Q8, Q9, Zj]
theorem z6 (o : Ok3 aa W B s) (hi : i < W) (p : Option (Int × Int)) : setItem (RH P s X) (.ref (P.length + s.rows.length + 1)) (.int (i : Int)) (hV p) = some (RH P ⟨s.rows, s.hs.set i p, s.rs⟩ X) := by
 rw [gv om (by exact az 26542480) (by rw [IZ, o.lh]; exact am 0x11a92a595a1 hi), Jt, z2, z3]
theorem HU {w y : Int} (hB : B < 1000000) (o : Ok3 aa W B s) (hi : i < W) (hw : w = (i : Int)) (hb : ∀ t, (br aa t).length <= 900) (g : GE ρ aa ag (P.length + s.rows.length) (.put w y) (hV (s.h i))) {p : Int × Int} (hp : s.h i = some p) (h3 : (br aa p.1)[p.2.toNat]? = some y) (Φ : aR) (af : Nat) : ba (cW Φ af ρ (RH P s X)) = some (.bool true, RH P ⟨s.rows.set i (s.r i ++ [y]), s.hs.set i (some (p.1, p.2 + 1)), s.rs⟩ X) := by
 obtain ⟨ρ1, k20, g1, lf⟩ := z5 (X := X) o hi hb g (.inl rfl) hp Φ af
 obtain ⟨q1, q2, q3, q4⟩ := kh o hi hp
 have gd := g1.wd
 have gw := g1.w
 have ge := g1.ev
 simp only [E5.tag, E5.w, hw] at gd gw
 simp only [E5.v, cK, List.map_cons, List.map_nil] at ge
 have sw := z6 (P := P) (X := X) o hi (some (p.1, p.2 + 1))
 have hl : (i : Int) < (s.rows.length : Int) := by rw [o.lr]; exact am 0x11a92a595a1 hi
 have rr := og (P := P) (T := [(s.hs.set i (some (p.1, p.2 + 1))).map hV, X]) (rows := s.rows) (a := (i : Int)) (az 26542480) hl
 rw [Jt] at rr
 have row := oh (P := P) (T := [(s.hs.set i (some (p.1, p.2 + 1))).map hV, X]) (rows := s.rows) (j := i) (am 0x11a595aa921 hl)
 have rl : (s.r i).length <= B := by
  have hl : i < s.rows.length := by exact am 0x11a595aa921 hl
  rw [S3.r, JI, I3 hl]
  exact (o.rt _ (List.getElem_mem hl)).1
 have ap := i5 (af := af) (k := P.length + i) (o := fun H => au (fun H => ae ρ1 "_law_rows" H) (fun H => ae ρ1 "_law_w" H) H) (es := [fun H => au (fun H => ae ρ1 "_law_event" H) (fun H => some (AV.int 2, H)) H]) (l := s.r i) (t := y) (H := RH P ⟨s.rows, s.hs.set i (some (p.1, p.2 + 1)), s.rs⟩ X)
  (by simp only [g1.ro, gw, rr, Qa, Qb, au, Zj]) (by simp only [ge, Qa, Qb, au, Qq, Qr, Za, Zj]) row (by unfold aM; exact am 0x111a910f424037a210000037922 hB rl)
 rw [show bF (RH P ⟨s.rows, s.hs.set i (some (p.1, p.2 + 1)), s.rs⟩ X) (P.length + i) (aE (s.r i ++ [y])) = RH P ⟨s.rows.set i (s.r i ++ [y]), s.hs.set i (some (p.1, p.2 + 1)), s.rs⟩ X from jN (show i < s.rows.length by exact am 0x11a595aa921 hl)] at ap
 have o1 := jm (i := 1) (by decide)
 have k16 : ba (cW Φ af ρ (RH P s X)) = some (.bool (decide (((br aa p.1).drop p.2.toNat).take 1 = [y])), RH P ⟨s.rows.set i (s.r i ++ [y]), s.hs.set i (some (p.1, p.2 + 1)), s.rs⟩ X) := by
  rw [k20]
  simp only [hV] at sw
  have eq1 := fun G => oi G (((br aa p.1).drop p.2.toNat).take 1) [y]
  simp only [show iL [y] = .list [.int y] from rfl] at eq1
  simp only [nv, gd, yh, asgI, g1.hs, gw, g1.hd, sw, yg, ↓ap, yf, lf, eO, o1, HK, ge, eq1, Qa, Qb, Qc, Qd, Qe, aC, Qg, Qh, aB, Qo, au, bX, bZ, Qq, Qr, QF, QK, aw, QW, Jk, Q8, Q9, Za, Zj, Nat.reduceBEq, Zl, ↓Zx, ↓ZB, sr]
 have iff : ((br aa p.1).drop p.2.toNat).take 1 = [y] ↔ (br aa p.1)[p.2.toNat]? = some y := by
  cases hq : (br aa p.1)[p.2.toNat]? with
  | none => rw [List.drop_eq_nil_of_le (List.getElem?_eq_none_iff.mp hq)]; simp
  | some z =>
   obtain ⟨h1, h2⟩ := IX.mp hq
   rw [List.drop_eq_getElem_cons h1, h2]; simp
 rw [k16, Jf (iff.mpr h3)]
theorem HV {w x : Int} (o : Ok3 aa W B s) (hi : i < W) (hw : w = (i : Int)) (hb : ∀ t, (br aa t).length <= 900) (g : GE ρ aa ag (P.length + s.rows.length) (.done w x) (hV (s.h i))) {p : Int × Int} (hp : s.h i = some p) (h3 : (br aa p.1).length <= p.2.toNat) (h4 : p.1 = x) (Φ : aR) (af : Nat) : ba (cW Φ af ρ (RH P s X)) = some (.bool true, RH P ⟨s.rows, s.hs.set i none, s.rs⟩ X) := by
 obtain ⟨ρ1, k20, g1, lf⟩ := z5 (X := X) o hi hb g (.inr rfl) hp Φ af
 have gd := g1.wd
 have gw := g1.w
 have ge := g1.ev
 simp only [E5.tag, E5.w, hw] at gd gw
 simp only [E5.v, cK, List.map_cons, List.map_nil] at ge
 have sw := z6 (P := P) (X := X) o hi none
 simp only [hV] at sw
 have eq1 := fun G => oi G ((br aa p.1).drop p.2.toNat) []
 simp only [show iL [] = .list [] from rfl] at eq1
 have k16 : ba (cW Φ af ρ (RH P s X)) = some (.bool (decide ((br aa p.1).drop p.2.toNat = []) && decide (p.1 = x)), RH P ⟨s.rows, s.hs.set i none, s.rs⟩ X) := by
  rw [k20]
  simp only [nv, gd, yj, asgI, g1.hs, gw, g1.hd, sw, yi, lf, ge, eq1, Qa, Qb, Qc, Qf, aC, aq, au, QF, QK, aw, QW, Q1, Q2, Jk, Q8, Za, Zg, Zj, Nat.reduceBEq, Zl, ↓ZA, j4, sr]
  cases decide ((br aa p.1).drop p.2.toNat = []) <;> rfl
 rw [k16, Jf (List.drop_eq_nil_of_le h3), Jf h4]; rfl
end
end Mine.Internal
namespace Mine.Internal
open PySem PyProof.Rows
section
variable {aa ag : List (List Int)} {W B : Nat} {s s' : S3} {P : HP} {X : List AV} {i : Nat} {e : E5}
theorem HW (hB : B < 1000000) (o : Ok3 aa W B s) (hi : i < W) (hw : e.w = (i : Int)) (hb : ∀ t, (br aa t).length <= 900) (h : de aa s i e = some s') (n af : Nat) : ai CC (n+1) af "_law_gone" [aO aa ag, .ref (P.length + s.rows.length), .ref (P.length + s.rows.length + 1), e.v] (RH P s X) = some (.bool true, RH P s' X) := by
 rw [FK]
 obtain ⟨ρ, h1, g⟩ := HO (P := P) (X := X) (ag := ag) o hi hw (ai CC n) af
 rw [h1]
 cases e with
 | own w x => obtain ⟨q, rfl⟩ := cF h; exact HR o hi hw g q.1 q.2 _ _
 | taken w a x => obtain ⟨q, rfl⟩ := cF h; exact HS o hi hw g q.1 q.2.1 q.2.2.1 q.2.2.2.1 q.2.2.2.2 _ _
 | put w y =>
  unfold de at h
  cases hp : s.h i with
  | none => rw [hp] at h; cases h
  | some p => rw [hp] at h; obtain ⟨q, rfl⟩ := cF h; exact HU hB o hi hw hb g hp q _ _
 | done w x =>
  unfold de at h
  cases hp : s.h i with
  | none => rw [hp] at h; cases h
  | some p => rw [hp] at h; obtain ⟨q, rfl⟩ := cF h; exact HV o hi hw hb g hp q.1 q.2 _ _
 | rests w => obtain ⟨q, rfl⟩ := cF h; exact HQ o hi hw g q.1 q.2 _ _
theorem sN {α : Type} {l : List α} {i : Nat} {a x : α} (h : x ∈ l.set i a) : x = a ∨ x ∈ l := (List.mem_or_eq_of_mem_set h).symm
theorem z7 (o : Ok3 aa W B s) (j : Nat) : (s.r j).length <= B /\ ∀ t ∈ s.r j, 0 <= t /\ t < (aa.length : Int) := by
 rw [S3.r, JI]
 cases h : s.rows[j]? with
 | none => exact ⟨Nat.zero_le _, fun t m => nomatch m⟩
 | some r => exact o.rt r (List.mem_of_getElem? h)
theorem HX (hbr : ∀ row ∈ aa, ∀ t ∈ row, 0 <= t /\ t < (aa.length : Int)) {t y : Int} (m : y ∈ br aa t) : 0 <= y /\ y < (aa.length : Int) := by
 unfold br at m
 cases h : aa[t.toNat]? with
 | none => rw [h] at m; exact nomatch m
 | some row => rw [h] at m; exact hbr row (List.mem_of_getElem? h) y m
theorem Ok3.upd (o : Ok3 aa W B s) {j k : Nat} {l : List Int} {p : Option (Int × Int)} (rs : List Bool) (hl : rs.length = W) (h1 : l.length <= B + 1) (h2 : ∀ t ∈ l, 0 <= t /\ t < (aa.length : Int)) (h3 : ∀ t n, p = some (t, n) -> 0 <= t /\ t < (aa.length : Int) /\ 0 <= n /\ n <= ((br aa t).length : Int)) : Ok3 aa W (B + 1) ⟨s.rows.set j l, s.hs.set k p, rs⟩ where
 lr := by show (s.rows.set j l).length = W; rw [List.length_set]; exact o.lr
 lh := by show (s.hs.set k p).length = W; rw [List.length_set]; exact o.lh
 ls := hl
 rt := fun row m => (sN m).elim (fun q => q ▸ ⟨h1, h2⟩) fun m => ⟨Nat.le_succ_of_le (o.rt row m).1, (o.rt row m).2⟩
 ht := fun t n m => (sN m).elim (fun q => h3 t n q.symm) (o.ht t n)
theorem z8 {α : Type} {l : List α} {i : Nat} {a : α} (h : l[i]? = some a) : l.set i a = l := by
 obtain ⟨h1, h2⟩ := IX.mp h
 rw [<- h2, List.set_getElem_self]
theorem sO (hbr : ∀ row ∈ aa, ∀ t ∈ row, 0 <= t /\ t < (aa.length : Int)) (o : Ok3 aa W B s) (hi : i < W) (h : de aa s i e = some s') : Ok3 aa W (B + 1) s' /\ (e.isR = false -> s'.rs = s.rs) /\ (e.isR = true -> s'.rs = s.rs.set i true) := by
 have hr := z7 o
 have up : ∀ {rs : List Bool} {hs : List (Option (Int × Int))}, rs.length = W -> hs.length = W -> (∀ t n, some (t, n) ∈ hs -> 0 <= t /\ t < (aa.length : Int) /\ 0 <= n /\ n <= ((br aa t).length : Int)) -> Ok3 aa W (B + 1) ⟨s.rows, hs, rs⟩ := fun h1 h2 h3 => ⟨o.lr, h2, h1, fun row m => ⟨Nat.le_succ_of_le (o.rt row m).1, (o.rt row m).2⟩, h3⟩
 have new : ∀ {x : Int}, 0 <= x /\ x < (aa.length : Int) -> ∀ t n, some (x, (0 : Int)) = some (t, n) -> 0 <= t /\ t < (aa.length : Int) /\ 0 <= n /\ n <= ((br aa t).length : Int) := fun hx t n q => by cases q; exact ⟨hx.1, hx.2, I9 _, Int.natCast_nonneg _⟩
 cases e with
 | rests w => obtain ⟨q, rfl⟩ := cF h; exact ⟨up (by rw [List.length_set]; exact o.ls) o.lh o.ht, fun q => Bool.noConfusion q, fun O => rfl⟩
 | own w x =>
  obtain ⟨q, rfl⟩ := cF h
  have hx := (hr i).2 x (List.mem_of_getLast? q.2)
  exact ⟨o.upd s.rs o.ls (by rw [List.length_dropLast]; exact Je (Nat.sub_le _ _) (Nat.le_succ_of_le (hr i).1)) (fun t m => (hr i).2 t ((List.dropLast_sublist _).subset m)) (new hx), fun O => rfl, fun q => Bool.noConfusion q⟩
 | taken w a x =>
  obtain ⟨q, rfl⟩ := cF h
  have hx := (hr a.toNat).2 x (List.mem_of_head? q.2.2.2.2)
  exact ⟨o.upd s.rs o.ls (by rw [List.length_tail]; exact Je (Nat.sub_le _ _) (Nat.le_succ_of_le (hr a.toNat).1)) (fun t m => (hr a.toNat).2 t (List.mem_of_mem_tail m)) (new hx), fun O => rfl, fun q => Bool.noConfusion q⟩
 | put w y =>
  unfold de at h
  cases hp : s.h i with
  | none => rw [hp] at h; cases h
  | some p =>
   rw [hp] at h
   obtain ⟨q, rfl⟩ := cF h
   obtain ⟨a1, a2, a3, a4⟩ := kh o hi hp
   have hy := HX hbr (List.mem_of_getElem? q)
   have hlt := (IX.mp q).1
   have hm : p.2 + 1 <= ((br aa p.1).length : Int) := by exact aZ 0x111a5999a295119392 hlt (Ju _)
   exact ⟨o.upd s.rs o.ls (by rw [I2]; exact Nat.succ_le_succ (hr i).1) (fun t m => (List.mem_append.mp m).elim ((hr i).2 t) fun m => by rw [I0.mp m]; exact hy) (fun t n q => by cases q; exact ⟨a1, a2, Jp a3 (Int.le_add_one (I9 _)), hm⟩), fun O => rfl, fun q => Bool.noConfusion q⟩
 | done w x =>
  unfold de at h
  cases hp : s.h i with
  | none => rw [hp] at h; cases h
  | some p =>
   rw [hp] at h
   obtain ⟨q, rfl⟩ := cF h
   exact ⟨up o.ls (by rw [List.length_set]; exact o.lh) fun t n m => (sN m).elim (fun q => nomatch q) (o.ht t n), fun O => rfl, fun q => Bool.noConfusion q⟩
structure RE (ρ : an) (aa ag : List (List Int)) (K : Nat) : Prop where
 pl : ρ "_law_plan" = some (aO aa ag)
 ro : ρ "_law_rows" = some (.ref K)
 hs : ρ "_law_holds" = some (.ref (K + 1))
 rs : ρ "_law_rests" = some (.ref (K + 2))
theorem HY (e : E5) : (aL (Str.ofString e.tag) == 15905532516069) = e.isR := by cases e <;> rfl
theorem z9 (o : Ok3 aa W B s) (hi : i < W) : (s.rs.map AV.bool)[i]? = some (.bool (s.rs.getD i false)) := by
 have hl : i < s.rs.length := by rw [o.ls]; exact hi
 rw [JC, I3 hl, JI, I3 hl]; rfl
set_option tactic.hygienic true in
theorem Aa (hbr : ∀ row ∈ aa, ∀ t ∈ row, 0 <= t /\ t < (aa.length : Int)) (hb : ∀ t, (br aa t).length <= 900) (n af : Nat) : ∀ (es : List E5) (s : S3) (B : Nat) (ρ : an), B + es.length < 1000000 -> Ok3 aa W B s -> RE ρ aa ag (P.length + W) ->
  ∀ s', run aa s es = some s' -> ∃ ρ', bT (gg (ai CC (n+1)) af) (bb "_law_event") (es.map E5.v) ρ (RH P s (s.rs.map AV.bool)) = some (.next, ρ', RH P s' (s'.rs.map AV.bool)) /\ RE ρ' aa ag (P.length + W) /\ s'.rows.length = W
 | [], s, B, ρ, _, o, r, _, h => by cases h; exact ⟨ρ, rfl, r, o.lr⟩
 | e :: es, s, B, ρ, hB, o, r, s', hrun => by
  simp only [List.length_cons] at hB
  obtain ⟨tl, htl⟩ := kg e
  have o2 := jm (i := 2) (by decide)
  generalize e1 : upd (upd (upd ρ "_law_event" e.v) "_law_word" (.str (Str.ofString e.tag))) "_law_w" (.int e.w) = ρ1
  have r1 : RE ρ1 aa ag (P.length + W) := by rw [<- e1]; exact ⟨r.pl, r.ro, r.hs, r.rs⟩
  have v1 : ρ1 "_law_event" = some e.v := by rw [<- e1]; rfl
  have d1 : ρ1 "_law_word" = some (.str (Str.ofString e.tag)) := by rw [<- e1]; rfl
  have w1 : ρ1 "_law_w" = some (.int e.w) := by rw [<- e1]; rfl
  have b10 : gg (ai CC (n+1)) af (upd ρ "_law_event" e.v) (RH P s (s.rs.map AV.bool)) = jW (ai CC (n+1)) af ρ1 (RH P s (s.rs.map AV.bool)) := by
   rw [htl] at e1 ⊢
   simp only [gg, eO, o2, zZ, e1, Qa, Qb, Qc, asgT, bX, bZ, cond_true, Q4, Jk, bi, Zj, Zk, Nat.reduceBEq, nS]
  have fl : bT (gg (ai CC (n+1)) af) (bb "_law_event") ((e :: es).map E5.v) ρ (RH P s (s.rs.map AV.bool)) = sq (jW (ai CC (n+1)) af ρ1 (RH P s (s.rs.map AV.bool))) fun ρ H => bT (gg (ai CC (n+1)) af) (bb "_law_event") (es.map E5.v) ρ H := by
   simp only [List.map_cons, bT, bb, Option.bind_some, b10]
  rw [fl]
  have hW := o.lr
  have ln : (bL P.length s.rows.length).length = s.rows.length := fj _ _
  have li := eA (fp (H := P) (T := [s.hs.map hV, s.rs.map AV.bool]) (rows := s.rows))
  rw [hW] at ln li
  obtain ⟨s1, hst, hrun⟩ := Option.bind_eq_some_iff.mp (show (cj aa s e).bind (fun s => run aa s es) = some s' from hrun)
  unfold cj at hst
  split at hst
  ·rename_i q
   obtain ⟨q1, q2, q3⟩ := q
   rw [hW] at q2
   obtain ⟨i, hi⟩ : ∃ i : Nat, e.w = (i : Int) := ⟨e.w.toNat, by exact aV 0x11101995b9599959b2 (Ju _) (I7 (aG 0x11901990191 q1))⟩
   have hiW : i < W := by exact aZ 0x911959ba59aa922 q2 hi
   rw [hi, Jt] at hst
   rw [hi, Jt] at q3
   have rst : aS (RH P s (s.rs.map AV.bool)) (.ref (P.length + W + 2)) (.int (i : Int)) = some (.bool (s.rs.getD i false)) := kc (xs := s.rs.map AV.bool) (by rw [<- hW]; exact hO 1) (az 26542480) (by rw [Jt]; exact z9 o hiW)
   rw [q3] at rst
   have g1 := HW (P := P) (X := s.rs.map AV.bool) (ag := ag) (am 0x110f42403711a39320f424037921 hB) o hiW hi hb hst n af
   rw [hW] at g1
   have h1 : ¬ e.w < 0 := by exact aG 0x119019019d1 q1
   have h2 : ¬ e.w ≥ (W : Int) := by exact aV 0x11959a995c1 q2
   rw [hi] at w1 h1 h2
   obtain ⟨ok, q1, q2⟩ := sO hbr o hiW hst
   have hset : setItem (RH P s1 (s.rs.map AV.bool)) (.ref (P.length + W + 2)) (.int (i : Int)) (.bool e.isR) = some (RH P s1 (s1.rs.map AV.bool)) := by
    rw [gv (xs := s.rs.map AV.bool) (by rw [<- ok.lr]; exact hO 1) (by exact az 26542480) (by rw [IZ, o.ls]; exact am 0x1195a5ca595a1 h2), Jt, <- ok.lr]
    refine congrArg some ((kb (P := P) (rows := s1.rows) (T := [s1.hs.map hV, s.rs.map AV.bool]) 1 _).trans ?_)
    show aD P s1.rows ++ [s1.hs.map hV, (s.rs.map AV.bool).set i (.bool e.isR)] = _
    rw [<- List.map_set]
    cases hR : e.isR with
    | true => rw [q2 hR]
    | false =>
     have hl : i < s.rs.length := by rw [o.ls]; exact hiW
     rw [q1 hR, z8 (by rw [I3 hl]; rw [JI, I3 hl] at q3; exact congrArg some q3)]
   have k9 : jW (ai CC (n+1)) af ρ1 (RH P s (s.rs.map AV.bool)) = some (.next, ρ1, RH P s1 (s1.rs.map AV.bool)) := by
    simp only [jW, w1, r1.ro, r1.rs, r1.pl, r1.hs, v1, li, ln, h1, h2, rst, g1, x8, asgI, d1, HY, hset, Qa, Qb, Qc, Qf, aq, au, Qq, Qr, aP, aK, Qs, bI, QF, QG, QJ, QK, aw, QW, cD, QY, Q0, cond_false, Jk, Jg, Ji, decide_false, Zj, Zl, eD]
   rw [k9, Qc]
   exact Aa hbr hb n af es s1 (B + 1) ρ1 (am 0x110f42403711a39320f424037a1193321 hB) ok r1 s' hrun
  ·cases hst
end
section
variable {aa ag : List (List Int)} {W : Nat}
noncomputable def s0 (ag : List (List Int)) : S3 := ⟨ag, ag.map fun O => none, ag.map fun O => false⟩
def sP (s : S3) : AV := .tup [.list (s.rows.map iL), .list (s.hs.map hV), .list (s.rs.map AV.bool)]
theorem HZ (o : Option (Int × Int)) : (hV o).noRef = true := by cases o <;> rfl
theorem sQ {α : Type} {f : α -> AV} (h : ∀ a, (f a).noRef = true) : ∀ l : List α, dm (l.map f) = true
 | [] => rfl
 | a :: l => by
  show ((f a).noRef && dm (l.map f)) = true
  rw [h a, sQ h l]; rfl
theorem Ab {n k : Nat} {H : HP} {xs : List AV} (hk : H[k]? = some xs) (h : dm xs = true) : bu H (n + 1) k = some (.list xs) := by
 have : dp (bu H n) (.list xs) = some (.list xs) := i4 h
 simp only [bu, hk]
 exact this
theorem H7 (P : HP) (s : S3) : fz (RH P s (s.rs.map AV.bool)) (.tup [.ref (P.length + s.rows.length), .ref (P.length + s.rows.length + 1), .ref (P.length + s.rows.length + 2)]) = some (sP s) := by
 have h1 : bu (RH P s (s.rs.map AV.bool)) 4 (P.length + s.rows.length) = some (.list (s.rows.map iL)) := mu (n := 2)
 have h2 : bu (RH P s (s.rs.map AV.bool)) 4 (P.length + s.rows.length + 1) = some (.list (s.hs.map hV)) := Ab (n := 3) om (sQ HZ _)
 have h3 : bu (RH P s (s.rs.map AV.bool)) 4 (P.length + s.rows.length + 2) = some (.list (s.rs.map AV.bool)) := Ab (n := 3) (hO 1) (sQ (fun O => rfl) _)
 show (bk (bu (RH P s (s.rs.map AV.bool)) 4) [.ref _, .ref _, .ref _]).map AV.tup = _
 simp only [bk, dp, h1, h2, h3]
 rfl
theorem sR (h1 : ag.length = W) (h2 : ∀ row ∈ ag, row.length <= 900 /\ ∀ t ∈ row, 0 <= t /\ t < (aa.length : Int)) : Ok3 aa W 900 (s0 ag) where
 lr := h1
 lh := by show (ag.map _).length = W; rw [IZ]; exact h1
 ls := by show (ag.map _).length = W; rw [IZ]; exact h1
 rt := h2
 ht := fun t n m => by obtain ⟨_, _, q⟩ := Jm.mp m; cases q
theorem Ac (l : List Int) (H : HP) : bG true (aK .list [(fun H => some (iL l, H))] H) = some (.ref H.length, H ++ [aE l]) := by
 have : aK .list [(fun H => some (iL l, H))] H = some (iL l, H) := by simp only [iL, Qa, Qb, Qq, Qr, aK, Qu]
 rw [this]
 show (if (l.map AV.int).all jE = true then some (AV.ref H.length, H ++ [l.map AV.int]) else none) = _
 rw [Id (List.all_eq_true.mpr fun x m => by obtain ⟨i, _, rfl⟩ := Jm.mp m; rfl)]
 rfl
theorem H8 (hbr : ∀ row ∈ aa, ∀ t ∈ row, 0 <= t /\ t < (aa.length : Int)) (hb : ∀ t, (br aa t).length <= 900) (h1 : ag.length = W) (hW : W <= 100) (h2 : ∀ row ∈ ag, row.length <= 900 /\ ∀ t ∈ row, 0 <= t /\ t < (aa.length : Int)) (es : List E5) (hl : es.length <= 900000) {s' : S3} (hr : run aa (s0 ag) es = some s') (n : Nat) :
  ai CC (n+2) 0 "_law_replayed" [aO aa ag, .list (es.map E5.v)] [] = some (sP s', []) := by
 rw [FG]
 show cC (nt (ai CC (n+1)) 0 (upd (upd aF "_law_plan" (aO aa ag)) "_law_events" (.list (es.map E5.v))) []) = _
 have hp1 : ∀ G, aS G (aO aa ag) (.int 1) = some (.list (ag.map iL)) := fun G => Q9 G _ _ _
 have c1 : bg bq (rx (ai CC (n+1)) 0) "_law_row" (upd (upd aF "_law_plan" (aO aa ag)) "_law_events" (.list (es.map E5.v))) (ry (ai CC (n+1)) 0 (upd (upd aF "_law_plan" (aO aa ag)) "_law_events" (.list (es.map E5.v)))) [] = some (bL 0 W, ag.map aE) := by
  rw [qg (src := .list (ag.map iL)) (xs := ag.map iL) (fun v => match v with | .list xs => xs | _ => []) (by simp only [ry, hp1, Qa, Qb, au, cond_true, cond_false, Zj, Zk, Nat.reduceBEq, gj, dM]) rfl (by rw [IZ]; exact bC (am 0x111642a1a930f424037912 h1 hW)) (fun v m H => by
   obtain ⟨l, _, rfl⟩ := Jm.mp m
   have := Ac l H
   simp only [rx]
   exact this), IZ, h1, List.map_map]
  rfl
 generalize e1 : upd (upd (upd aF "_law_plan" (aO aa ag)) "_law_events" (.list (es.map E5.v))) "_law_rows" (.ref W) = ρ1
 have r1 : ρ1 "_law_rows" = some (.ref W) := by rw [<- e1]; rfl
 have it : ∀ (T : HP), eg (aD [] ag ++ T) (.ref W) = some (bL 0 W) := fun T => by
  have := fp (H := []) (T := T) (rows := ag)
  rw [h1, List.length_nil, Nat.zero_add] at this
  exact this
 have c2 : bg bq (rz (ai CC (n+1)) 0) "_law_row" ρ1 (rA (ai CC (n+1)) 0 ρ1) (aD [] ag) = some (ag.map fun O => AV.none, aD [] ag) := by
  have it0 := it []
  rw [JA] at it0
  rw [mo (src := .ref W) (xs := bL 0 W) (fun O => AV.none) (by simp only [rA, cx r1]) it0 (by rw [fj]; exact bC (az 0x11642910f424037911 hW)) (fun v m => by simp only [rz, bG])]
  rw [List.map_const', List.map_const', fj, h1]
 generalize e2 : upd ρ1 "_law_holds" (.ref (aD [] ag).length) = ρ2
 have r2 : ρ2 "_law_rows" = some (.ref W) := by rw [<- e2]; exact r1
 have c3 : bg bq (rB (ai CC (n+1)) 0) "_law_row" ρ2 (rC (ai CC (n+1)) 0 ρ2) (aD [] ag ++ [ag.map fun O => AV.none]) = some (ag.map fun O => AV.bool false, aD [] ag ++ [ag.map fun O => AV.none]) := by
  rw [mo (src := .ref W) (xs := bL 0 W) (fun O => AV.bool false) (by simp only [rC, cx r2]) (it _) (by rw [fj]; exact bC (az 0x11642910f424037911 hW)) (fun v m => by simp only [rB, bG])]
  refine congrArg (fun l => some (l, _)) ?_
  rw [List.map_const', List.map_const', fj, h1]
 generalize e3 : upd ρ2 "_law_rests" (.ref (aD [] ag ++ [ag.map fun O => AV.none]).length) = ρ3
 have re : RE ρ3 aa ag (([] : HP).length + W) := by
  rw [<- e3, <- e2, <- e1]
  refine ⟨by simp only [cond_true, cond_false, Zk, Nat.reduceBEq, gj, nT, dM, sg, nU], by simp only [Jd, Nat.zero_add, cond_true, cond_false, Jd, Zk, Nat.reduceBEq, gj, nT, dM, sg, nU], by simp only [dL, h1, Jd, Nat.zero_add, cond_true, cond_false, Jd, Zk, Nat.reduceBEq, gj, nT, dM, sg, nU], ?_⟩
  rw [Ql, I2, dL, h1]; rfl
 have v3 : ρ3 "_law_events" = some (.list (es.map E5.v)) := by rw [<- e3, <- e2, <- e1]; rfl
 have lp := Aa (P := []) hbr hb n 0 es (s0 ag) 900 ρ3 (az 0x110dbba037910f4240379038427321 hl) (sR h1 h2) re s' hr
 have rh : RH [] (s0 ag) ((s0 ag).rs.map AV.bool) = aD [] ag ++ [ag.map fun O => AV.none] ++ [ag.map fun O => AV.bool false] := by
  show aD [] ag ++ [(ag.map fun O => none).map hV, (ag.map fun O => false).map AV.bool] = _
  rw [List.map_map, List.map_map, I5]; rfl
 rw [rh] at lp
 have tb : ([] : HP) ++ ag.map aE ++ [bL 0 W] = aD [] ag := by unfold aD; rw [h1]; rfl
 have lW : (ag.map aE).length = W := by rw [IZ, h1]
 have body : nt (ai CC (n+1)) 0 (upd (upd aF "_law_plan" (aO aa ag)) "_law_events" (.list (es.map E5.v))) [] = rF (ai CC (n+1)) 0 ρ3 (aD [] ag ++ [ag.map fun O => AV.none] ++ [ag.map fun O => AV.bool false]) := by
  have tb' : ag.map aE ++ [bL 0 W] = aD [] ag := tb
  simp only [nt, c1, lW, tb', e1, yb, c2, e2, x9, c3, e3, Qa, Qc, asgN, Q6]
 rw [body]
 unfold rF
 have fr : bJ (gg (ai CC (n+1)) 0) (bb "_law_event") (rD (ai CC (n+1)) 0 ρ3) ρ3 (aD [] ag ++ [ag.map fun O => AV.none] ++ [ag.map fun O => AV.bool false]) = bT (gg (ai CC (n+1)) 0) (bb "_law_event") (es.map E5.v) ρ3 (aD [] ag ++ [ag.map fun O => AV.none] ++ [ag.map fun O => AV.bool false]) := by
  simp only [bJ, rD, cx v3, Qa, QC, Qb]
 rw [fr]
 obtain ⟨ρ', h, r', hl'⟩ := lp
 rw [h, Qc]
 have e : rE (ai CC (n+1)) 0 ρ' (RH [] s' (s'.rs.map AV.bool)) = some (.ret (.tup [.ref (([] : HP).length + W), .ref (([] : HP).length + W + 1), .ref (([] : HP).length + W + 2)]), ρ', RH [] s' (s'.rs.map AV.bool)) := by
  simp only [rE, r'.ro, r'.hs, r'.rs, Qa, Qb, Qd, aC, Qq, Qr, Jd, Zj, ↓Zy]
 rw [e]
 have := H7 [] s'
 rw [hl'] at this
 show (match fz _ _ with | some v => some (v, []) | none => none) = _
 rw [this]
end
end Mine.Internal
namespace Mine.Internal
open PySem PyProof.Rows
noncomputable def cL (x : String) (v : AV) : AV := .tup [.str (Str.ofString x), v]
theorem gx (x y : String) (v : AV) (r : List AV) : bp (cL y v :: r) (Str.ofString x) = if y = x then some v else bp r (Str.ofString x) := by
 unfold bp
 have e : lH (Str.ofString x) (cL y v) = if Str.ofString y = Str.ofString x then some v else none := rfl
 rw [List.findSome?_cons, e]
 by_cases h : y = x
 ·rw [Id h, Id (congrArg _ h)]
 ·rw [IU h, IU (fun q => h ((Qn _ _).mp q))]
theorem sS (x : Str) : bp [] x = none := rfl
def AA (aa : List (List Int)) (W : Nat) : List AV := [cL "brood" (.list (aa.map iL)), cL "lines" (.ref (1 + W)), cL "held" (.ref (1 + W + 1)), cL "puts" (.ref (1 + W + 2)), cL "resting" (.ref (1 + W + 3))]
def LG (aa : List (List Int)) (W : Nat) (rows : List (List Int)) (a b c : List AV) : HP := aD [AA aa W] rows ++ [a, b, c]
section
variable {aa : List (List Int)} {W : Nat} {rows : List (List Int)} {a b c : List AV}
theorem Ad : (LG aa W rows a b c)[0]? = some (AA aa W) := rfl
theorem ki {x : Str} {u : AV} (hu : bp (AA aa W) x = some u) : aY x (some (.ins 0, LG aa W rows a b c)) = some (u, LG aa W rows a b c) := by
 simp only [aY, Qa, fQ, Jk, Ad, hu]
theorem Ae : aY "brood" (some (.ins 0, LG aa W rows a b c)) = some (.list (aa.map iL), LG aa W rows a b c) :=
 ki (by simp only [AA, gx, String.reduceEq, if_true])
theorem kj : aY "lines" (some (.ins 0, LG aa W rows a b c)) = some (.ref (1 + W), LG aa W rows a b c) :=
 ki (by simp only [AA, gx, String.reduceEq, if_true, if_false])
theorem jn : aY "held" (some (.ins 0, LG aa W rows a b c)) = some (.ref (1 + W + 1), LG aa W rows a b c) :=
 ki (by simp only [AA, gx, String.reduceEq, if_true, if_false])
theorem sT : aY "puts" (some (.ins 0, LG aa W rows a b c)) = some (.ref (1 + W + 2), LG aa W rows a b c) :=
 ki (by simp only [AA, gx, String.reduceEq, if_true, if_false])
theorem Af : aY "resting" (some (.ins 0, LG aa W rows a b c)) = some (.ref (1 + W + 3), LG aa W rows a b c) :=
 ki (by simp only [AA, gx, String.reduceEq, if_true, if_false])
noncomputable def sU : List String := ["is_worker", "holds_now", "own", "taken", "put", "done", "rests", "goes"]
theorem H9 {x : String} (h : x ∈ sU) : bp (AA aa W) (Str.ofString x) = none := by
 simp only [sU, List.mem_cons, List.not_mem_nil, or_false] at h
 rcases h with rfl | rfl | rfl | rfl | rfl | rfl | rfl | rfl <;> simp only [AA, gx, sS, String.reduceEq, if_false]
theorem kl {Φ : aR} {af : Nat} {x : String} {f : Str} {o : HP -> R AV} {es : List (HP -> R AV)} {vs : List AV} (hx : x ∈ sU) (ho : o (LG aa W rows a b c) = some (.ins 0, LG aa W rows a b c)) (he : bo es (LG aa W rows a b c) = some (vs, LG aa W rows a b c)) :
  cS Φ af (Str.ofString x) f o es (LG aa W rows a b c) = Φ af f (.ins 0 :: vs) (LG aa W rows a b c) := by
 simp only [cS, ho, Qa, fQ, Jk, Ad, H9 hx, Option.isNone_none, if_true, he]
theorem sV (h : rows.length = W) : (LG aa W rows a b c)[1 + W + 1]? = some a := by rw [<- h]; exact hO (P := [AA aa W]) 0
theorem sW (h : rows.length = W) : (LG aa W rows a b c)[1 + W + 2]? = some b := by rw [<- h]; exact hO (P := [AA aa W]) 1
theorem Ag (h : rows.length = W) : (LG aa W rows a b c)[1 + W + 3]? = some c := by rw [<- h]; exact hO (P := [AA aa W]) 2
theorem Ah (h : rows.length = W) (x : List AV) : (LG aa W rows a b c).set (1 + W + 1) x = LG aa W rows x b c := by
 have := kb (P := [AA aa W]) (rows := rows) (T := [a, b, c]) 0 x
 rw [h] at this; exact this
theorem Ai (h : rows.length = W) (x : List AV) : (LG aa W rows a b c).set (1 + W + 2) x = LG aa W rows a x c := by
 have := kb (P := [AA aa W]) (rows := rows) (T := [a, b, c]) 1 x
 rw [h] at this; exact this
theorem Ia (h : rows.length = W) (x : List AV) : (LG aa W rows a b c).set (1 + W + 3) x = LG aa W rows a b x := by
 have := kb (P := [AA aa W]) (rows := rows) (T := [a, b, c]) 2 x
 rw [h] at this; exact this
theorem Ib (h : rows.length = W) : bY (LG aa W rows a b c) (.ref (1 + W)) = some (bL 1 W) := by
 have := eA (fp (H := [AA aa W]) (T := [a, b, c]) (rows := rows))
 rw [h] at this; exact this
theorem on (h : rows.length = W) {i : Nat} (hi : i < W) : aS (LG aa W rows a b c) (.ref (1 + W)) (.int (i : Int)) = some (.ref (1 + i)) := by
 have := og (P := [AA aa W]) (T := [a, b, c]) (rows := rows) (a := (i : Int)) (az 26542480) (ay 0x191b92ba3a595a2 h hi)
 rw [h, Jt] at this; exact this
theorem oo (h : rows.length = W) {i : Nat} (hi : i < W) : (LG aa W rows a b c)[1 + i]? = some (aE (rows.getD i [])) := oh (P := [AA aa W]) (ay 0x191b92ba3a922 h hi)
theorem oq (h : rows.length = W) {i : Nat} (hi : i < W) (l : List Int) : (LG aa W rows a b c).set (1 + i) (aE l) = LG aa W (rows.set i l) a b c := jN (H := [AA aa W]) (T := [a, b, c]) (ay 0x191b92ba3a922 h hi)
theorem Aj (n af : Nat) (h : rows.length = W) (x : Int) : ai CC (n+1) af "Ledger.is_worker" [.ins 0, .int x] (LG aa W rows a b c) = some (.bool (decide (0 <= x) && decide (x < (W : Int))), LG aa W rows a b c) := by
 rw [FV]
 by_cases h0 : 0 <= x
 ·simp only [r4, rZ, eu, kj, Ib h, fj, h0, Qa, Qb, Qd, aC, Qh, Qq, Qr, aK, Qs, bI, QF, QG, QH, cond_true, cond_false, Jn, Ji, decide_true, Zj, Zk, Nat.reduceBEq, sk, gs]
 ·simp only [r4, rZ, eu, h0, Qa, Qb, Qd, aC, Qh, Qq, Qr, aK, QF, QH, cond_true, cond_false, Jo, decide_false, Zj, Zk, Nat.reduceBEq, sk, gs]
theorem Ic (n af : Nat) (h : rows.length = W) (ha : a.length = W) (hb : b.length = W) {i : Nat} (hi : i < W) (t : Int) : ai CC (n+1) af "Ledger.holds_now" [.ins 0, .int (i : Int), .int t] (LG aa W rows a b c) = some (.none, LG aa W rows (a.set i (.int t)) (b.set i (.int 0)) c) := by
 rw [FW]
 have s1 : setItem (LG aa W rows a b c) (.ref (1 + W + 1)) (.int (i : Int)) (.int t) = some (LG aa W rows (a.set i (.int t)) b c) := by rw [gv (sV h) (by exact az 26542480) (by exact ay 0x191b92ba3a595a2 ha hi), Jt, Ah h]
 have s2 : setItem (LG aa W rows (a.set i (.int t)) b c) (.ref (1 + W + 2)) (.int (i : Int)) (.int 0) = some (LG aa W rows (a.set i (.int t)) (b.set i (.int 0)) c) := by rw [gv (sW h) (by exact az 26542480) (by exact ay 0x191b92ba3a595a2 hb hi), Jt, Ai h]
 simp only [yN, yM, asgI, jn, s1, yL, sT, s2, Qa, Qb, Qc, aq, Qi, cond_true, cond_false, Jk, Zj, Zk, Nat.reduceBEq, gs, fD, bz]
end
noncomputable def eV (o : Option (Int × Int)) : AV := match o with
 | some p => .int p.1
 | none => .none
def LS (aa : List (List Int)) (W : Nat) (s : S3) (pu : List Int) : HP := LG aa W s.rows (s.hs.map eV) (pu.map AV.int) (s.rs.map AV.bool)
structure PR (W : Nat) (hs : List (Option (Int × Int))) (pu : List Int) : Prop where
 l : pu.length = W
 h : ∀ (i : Nat) p, hs[i]? = some (some p) -> pu[i]? = some p.2
theorem PR.set {W : Nat} {hs : List (Option (Int × Int))} {pu : List Int} (x : PR W hs pu) (hl : hs.length = W) {i : Nat} (p : Int × Int) : PR W (hs.set i (some p)) (pu.set i p.2) where
 l := by rw [List.length_set]; exact x.l
 h := fun j q e => by
  by_cases h : i = j
  ·subst h
   have hi := (IX.mp e).1
   rw [List.length_set, hl, <- x.l] at hi
   rw [JD (by rw [hl, <- x.l]; exact hi)] at e
   cases e
   rw [JD hi]
  ·rw [Jq h] at e ⊢; exact x.h j q e
theorem PR.non {W : Nat} {hs : List (Option (Int × Int))} {pu : List Int} (x : PR W hs pu) {i : Nat} : PR W (hs.set i none) pu where
 l := x.l
 h := fun j q e => by
  by_cases h : i = j
  ·subst h
   have hi := (IX.mp e).1
   rw [List.length_set] at hi
   rw [JD hi] at e; cases e
  ·rw [Jq h] at e; exact x.h j q e
set_option tactic.hygienic true in
theorem Ak (t : Int) (H : HP) (ρ : an) : cT (some (.int t, H)) ρ = some (.next, ρ, H) := rfl
theorem Ie {H : HP} {k : Nat} {l : List Int} {t : Int} (hk : H[k]? = some (aE l)) (hl : l.getLast? = some t) : aS H (.ref k) (.int (-1)) = some (.int t) := by
 show ((bY H (.ref k)).bind fun xs => (idx xs.length (-1)).bind fun j => xs[j]?) = _
 rw [eA hk]
 have h0 : 0 < l.length := by cases l with | nil => cases hl | cons a r => simp
 show ((idx (aE l).length (-1)).bind fun j => (aE l)[j]?) = _
 have hi : idx (aE l).length (-1) = some (l.length - 1) := by
  unfold idx
  rw [IU (by exact bt 73284190656), aE, IZ, Id (by exact az 0x119012951101430191 h0)]
  congr 1; exact ay 0x110110011b11a33b511014395b11a3b195b51101439a934 (Ju _) (I6 (IO _)) (I7 (az 0x119012951101430191 h0)) (I1 (az 0x11901291111 h0))
 rw [hi]
 show (l.map AV.int)[l.length - 1]? = _
 rw [JC, <- List.getLast?_eq_getElem?, hl]; rfl
theorem Ig {H : HP} {k : Nat} {l : List Int} {t : Int} (hk : H[k]? = some (aE l)) (hl : l.head? = some t) : aS H (.ref k) (.int 0) = some (.int t) := by
 cases l with
 | nil => cases hl
 | cons a r => cases hl; exact dK (i := 0) (eA hk) rfl
section
variable {aa : List (List Int)} {W B : Nat} {s : S3} {pu : List Int} {i : Nat}
noncomputable def LR (aa : List (List Int)) (W : Nat) (s' : S3) (r : R AV) : Prop := ∃ pu', r = some (.bool true, LS aa W s' pu') /\ PR W s'.hs pu'
theorem Al (o : Ok3 aa W B s) (hi : i < W) : (s.hs.map eV)[i]? = some (eV (s.h i)) := by
 have hl : i < s.hs.length := by rw [o.lh]; exact hi
 rw [JC, I3 hl, S3.h, JI, I3 hl]; rfl
theorem sX (j : Nat) (p : Option (Int × Int)) : (s.hs.map eV).set j (eV p) = (s.hs.set j p).map eV := by rw [List.map_set]
theorem km (o : Ok3 aa W B s) (hi : i < W) : aS (LS aa W s pu) (.ref (1 + W + 1)) (.int (i : Int)) = some (eV (s.h i)) := kc (sV o.lr) (az 26542480) (by rw [Jt]; exact Al o hi)
theorem Am (o : Ok3 aa W B s) (x : PR W s.hs pu) (hi : i < W) {p : Int × Int} (h : s.h i = some p) : aS (LS aa W s pu) (.ref (1 + W + 2)) (.int (i : Int)) = some (.int p.2) := by
 refine kc (sW o.lr) (az 26542480) ?_
 have hl : i < s.hs.length := by rw [o.lh]; exact hi
 rw [S3.h, JI, I3 hl] at h
 rw [Jt, JC, x.h i p (by rw [I3 hl]; exact congrArg some h)]; rfl
theorem An (o : Ok3 aa W B s) (x : PR W s.hs pu) (hi : i < W) {j : Nat} (hj : j < W) (l' : List Int) (t : Int) (n af : Nat) : ai CC (n+1) af "Ledger.holds_now" [.ins 0, .int (i : Int), .int t] ((LS aa W s pu).set (1 + j) (aE l')) = some (.none, LS aa W ⟨s.rows.set j l', s.hs.set i (some (t, 0)), s.rs⟩ (pu.set i 0)) := by
 have e1 : (LS aa W s pu).set (1 + j) (aE l') = LG aa W (s.rows.set j l') (s.hs.map eV) (pu.map AV.int) (s.rs.map AV.bool) := oq o.lr hj l'
 rw [e1, Ic n af (by rw [List.length_set]; exact o.lr) (by rw [IZ]; exact o.lh) (by rw [IZ]; exact x.l) hi t]
 refine congrArg (fun H => some (AV.none, H)) ?_
 unfold LS
 rw [show (s.hs.map eV).set i (.int t) = (s.hs.set i (some (t, 0))).map eV from sX i (some (t, 0)), <- List.map_set]
theorem Ih {t : Int} (o : Ok3 aa W B s) (pr : PR W s.hs pu) (hi : i < W) (h1 : s.h i = none) (ht : (s.r i).getLast? = some t) (n af : Nat) : LR aa W ⟨s.rows.set i (s.r i).dropLast, s.hs.set i (some (t, 0)), s.rs⟩ (ai CC (n+2) af "Ledger.own" [.ins 0, .int (i : Int), .int t] (LS aa W s pu)) := by
 rw [FY]
 have at1 : aS (LS aa W s pu) (.ref (1 + W)) (.int (i : Int)) = some (.ref (1 + i)) := on o.lr hi
 have al : aY "lines" (some (.ins 0, LS aa W s pu)) = some (.ref (1 + W), LS aa W s pu) := kj
 have ah : aY "held" (some (.ins 0, LS aa W s pu)) = some (.ref (1 + W + 1), LS aa W s pu) := jn
 have gh := km (pu := pu) o hi
 have row : (LS aa W s pu)[1 + i]? = some (aE (s.r i)) := oo o.lr hi
 have en := hY row
 have h2 : s.r i ≠ [] := fun q => by rw [q] at ht; cases ht
 rw [h1] at gh
 rw [decide_eq_false h2] at en
 have lr := Ie row ht
 generalize e1 : upd (upd (upd (upd aF "self" (.ins 0)) "worker" (.int (i : Int))) "task" (.int t)) "line" (.ref (1 + i)) = ρ1
 have l1 : ρ1 "line" = some (.ref (1 + i)) := by rw [<- e1]; rfl
 have sf : ρ1 "self" = some (.ins 0) := by rw [<- e1]; rfl
 have wk : ρ1 "worker" = some (.int (i : Int)) := by rw [<- e1]; rfl
 have tk : ρ1 "task" = some (.int t) := by rw [<- e1]; rfl
 have pp := oj (af := af) (o := fun H => ae ρ1 "line" H) (es := []) (H := LS aa W s pu) (cx l1) (.inr rfl) row ht
 have hn := An o pr hi hi (s.r i).dropLast t n af
 have hm := kl (Φ := ai CC (n+1)) (af := af) (x := "holds_now") (f := "Ledger.holds_now") (o := fun H => ae ρ1 "self" H) (es := [(fun H => ae ρ1 "worker" H), (fun H => ae ρ1 "task" H)]) (vs := [.int (i : Int), .int t]) (aa := aa) (W := W) (rows := s.rows.set i (s.r i).dropLast) (a := s.hs.map eV) (b := pu.map AV.int) (c := s.rs.map AV.bool) (by decide) (cx sf) (by simp only [wk, tk, Qa, Qb, Qq, Qr, Zj])
 rw [show LG aa W (s.rows.set i (s.r i).dropLast) (s.hs.map eV) (pu.map AV.int) (s.rs.map AV.bool) = (LS aa W s pu).set (1 + i) (aE (s.r i).dropLast) from (oq o.lr hi _).symm, hn] at hm
 refine ⟨pu.set i 0, ?_, pr.set o.lh (t, 0)⟩
 simp only [yT, yS, al, at1, e1, yR, sf, wk, l1, tk, ah, gh, eV, en, z0, lr, yQ, Qa, Qb, Qc, Qf, aq, asgN, au, QF, QK, QL, QP, QQ, aw, QW, QY, Q0, cond_true, cond_false, Zg, Jg, Ji, decide_true, Zj, Zk, Nat.reduceBEq, ↓ZA, gs, fD, bz]
 rw [show bx af .pop (fun H => some (.ref (1 + i), H)) [] (LS aa W s pu) = _ from by simpa only [cx l1] using pp]
 rw [Ak, Qc]
 unfold yP
 rw [hm]
 simp only [yO, Qa, Qc, Qd, aC, Qg, Qh]
theorem Ii {t : Int} {j : Nat} (o : Ok3 aa W B s) (pr : PR W s.hs pu) (hi : i < W) (h1 : s.h i = none) (hj : j < W) (h3 : ¬ (j : Int) = (i : Int)) (ht : (s.r j).head? = some t) (n af : Nat) : LR aa W ⟨s.rows.set j (s.r j).tail, s.hs.set i (some (t, 0)), s.rs⟩ (ai CC (n+2) af "Ledger.taken" [.ins 0, .int (i : Int), .int (j : Int), .int t] (LS aa W s pu)) := by
 rw [F1]
 have al : aY "lines" (some (.ins 0, LS aa W s pu)) = some (.ref (1 + W), LS aa W s pu) := kj
 have ah : aY "held" (some (.ins 0, LS aa W s pu)) = some (.ref (1 + W + 1), LS aa W s pu) := jn
 have gh := km (pu := pu) o hi
 rw [h1] at gh
 generalize e0 : upd (upd (upd (upd aF "self" (.ins 0)) "worker" (.int (i : Int))) "other" (.int (j : Int))) "task" (.int t) = ρ0
 have sf : ρ0 "self" = some (.ins 0) := by rw [<- e0]; rfl
 have wk : ρ0 "worker" = some (.int (i : Int)) := by rw [<- e0]; rfl
 have ot : ρ0 "other" = some (.int (j : Int)) := by rw [<- e0]; rfl
 have tk : ρ0 "task" = some (.int t) := by rw [<- e0]; rfl
 have st : r6 (ai CC (n+1)) af (.ins 0) (.int (i : Int)) (.int (j : Int)) (.int t) (LS aa W s pu) = ba (nO (ai CC (n+1)) af ρ0 (LS aa W s pu)) := by
  unfold r6; rw [e0]
 rw [st]
 have iw := Aj (aa := aa) (a := s.hs.map eV) (b := pu.map AV.int) (c := s.rs.map AV.bool) n af o.lr (j : Int)
 rw [Jf (show (0 : Int) <= (j : Int) by exact az 26542480), Jf (show (j : Int) < (W : Int) by exact am 0x11a92a595a1 hj)] at iw
 have im : cS (ai CC (n+1)) af (Str.ofString "is_worker") "Ledger.is_worker" (fun H => some (.ins 0, H)) [(fun H => some (.int (j : Int), H))] (LS aa W s pu) = some (.bool true, LS aa W s pu) := (kl (x := "is_worker") (vs := [.int (j : Int)]) (by decide) rfl (by simp only [Qa, Qq, Qr])).trans iw
 have at1 : aS (LS aa W s pu) (.ref (1 + W)) (.int (j : Int)) = some (.ref (1 + j)) := on o.lr hj
 have row : (LS aa W s pu)[1 + j]? = some (aE (s.r j)) := oo o.lr hj
 have en := hY row
 generalize e1 : upd ρ0 "line" (.ref (1 + j)) = ρ1
 have l1 : ρ1 "line" = some (.ref (1 + j)) := by rw [<- e1]; rfl
 have sf1 : ρ1 "self" = some (.ins 0) := by rw [<- e1]; exact sf
 have wk1 : ρ1 "worker" = some (.int (i : Int)) := by rw [<- e1]; exact wk
 have tk1 : ρ1 "task" = some (.int t) := by rw [<- e1]; exact tk
 have b1 : nO (ai CC (n+1)) af ρ0 (LS aa W s pu) = nN (ai CC (n+1)) af ρ1 (LS aa W s pu) := by
  simp only [nO, sf, wk, ot, ah, gh, eV, im, h3, yW, al, at1, e1, Qa, Qb, Qc, Qf, aq, asgN, au, QF, QK, QP, QQ, aw, QW, cD, QY, Q0, cond_false, Zg, Jg, decide_false, Zj]
 rw [b1]
 have h4 : s.r j ≠ [] := fun q => by rw [q] at ht; cases ht
 rw [decide_eq_false h4] at en
 have lr := Ig row ht
 have pp := zY (af := af) (o := fun H => ae ρ1 "line" H) (es := [fun H => some (AV.int 0, H)]) (H := LS aa W s pu) (cx l1) (by simp only [Qa, Qq, Qr]) row ht
 have hn := An o pr hi hj (s.r j).tail t n af
 have hm := kl (Φ := ai CC (n+1)) (af := af) (x := "holds_now") (f := "Ledger.holds_now") (o := fun H => ae ρ1 "self" H) (es := [(fun H => ae ρ1 "worker" H), (fun H => ae ρ1 "task" H)]) (vs := [.int (i : Int), .int t]) (aa := aa) (W := W) (rows := s.rows.set j (s.r j).tail) (a := s.hs.map eV) (b := pu.map AV.int) (c := s.rs.map AV.bool) (by decide) (cx sf1) (by simp only [wk1, tk1, Qa, Qb, Qq, Qr, Zj])
 rw [show LG aa W (s.rows.set j (s.r j).tail) (s.hs.map eV) (pu.map AV.int) (s.rs.map AV.bool) = (LS aa W s pu).set (1 + j) (aE (s.r j).tail) from (oq o.lr hj _).symm, hn] at hm
 refine ⟨pu.set i 0, ?_, pr.set o.lh (t, 0)⟩
 have k6 : nN (ai CC (n+1)) af ρ1 (LS aa W s pu) = r5 (ai CC (n+1)) af ρ1 (LS aa W s pu) := by
  simp only [nN, l1, tk1, en, lr, Qa, Qb, Qc, Qf, aq, au, QF, QK, QL, aw, QW, QY, Q0, cond_false, Zg, Jg, Ji, decide_true, Zj, ↓ZA]
 rw [k6]
 unfold r5
 rw [pp, Ak, Qc]
 unfold yV
 rw [hm]
 simp only [yU, Qa, Qc, Qd, aC, Qg, Qh]
theorem Ij (o : Ok3 aa W B s) (pr : PR W s.hs pu) (hi : i < W) (h1 : s.h i = none) (h2 : s.r i = []) (n af : Nat) : LR aa W ⟨s.rows, s.hs, s.rs.set i true⟩ (ai CC (n+2) af "Ledger.rests" [.ins 0, .int (i : Int)] (LS aa W s pu)) := by
 rw [F9]
 have at1 : aS (LS aa W s pu) (.ref (1 + W)) (.int (i : Int)) = some (.ref (1 + i)) := on o.lr hi
 have al : aY "lines" (some (.ins 0, LS aa W s pu)) = some (.ref (1 + W), LS aa W s pu) := kj
 have ah : aY "held" (some (.ins 0, LS aa W s pu)) = some (.ref (1 + W + 1), LS aa W s pu) := jn
 have ar : aY "resting" (some (.ins 0, LS aa W s pu)) = some (.ref (1 + W + 3), LS aa W s pu) := Af
 have gh := km (pu := pu) o hi
 have en := hY (show (LS aa W s pu)[1 + i]? = some (aE (s.r i)) from oo o.lr hi)
 rw [h1] at gh
 rw [Jf h2] at en
 have s1 : setItem (LS aa W s pu) (.ref (1 + W + 3)) (.int (i : Int)) (.bool true) = some (LS aa W ⟨s.rows, s.hs, s.rs.set i true⟩ pu) := by
  unfold LS
  rw [gv (Ag o.lr) (by exact az 26542480) (by rw [IZ, o.ls]; exact am 0x11a92a595a1 hi), Jt, Ia o.lr, <- List.map_set]
 refine ⟨pu, ?_, pr⟩
 simp only [zc, zb, al, at1, ah, gh, eV, en, y9, asgI, ar, s1, y8, Qa, Qb, Qc, Qd, Qf, aC, aq, Qh, au, QF, QL, QP, QQ, aw, QW, QY, Q0, cond_true, cond_false, Jk, Jg, Ji, Zj, Zk, Nat.reduceBEq, ↓ZA, gs, bz]
theorem Il {p : Int × Int} (o : Ok3 aa W B s) (pr : PR W s.hs pu) (hi : i < W) (h1 : s.h i = some p) (h3 : (br aa p.1).length <= p.2.toNat) (n af : Nat) : LR aa W ⟨s.rows, s.hs.set i none, s.rs⟩ (ai CC (n+2) af "Ledger.done" [.ins 0, .int (i : Int), .int p.1] (LS aa W s pu)) := by
 rw [F7]
 have ah : aY "held" (some (.ins 0, LS aa W s pu)) = some (.ref (1 + W + 1), LS aa W s pu) := jn
 have ap : aY "puts" (some (.ins 0, LS aa W s pu)) = some (.ref (1 + W + 2), LS aa W s pu) := sT
 have ab : aY "brood" (some (.ins 0, LS aa W s pu)) = some (.list (aa.map iL), LS aa W s pu) := Ae
 have gh := km (pu := pu) o hi
 have gp := Am o pr hi h1
 rw [h1] at gh
 obtain ⟨q1, q2, q3, q4⟩ := kh o hi h1
 have b1 : aS (LS aa W s pu) (.list (aa.map iL)) (.int p.1) = some (iL (br aa p.1)) := ke q1 q2 _
 have li : ∀ G, bY G (iL (br aa p.1)) = some ((br aa p.1).map AV.int) := fun O => rfl
 have h3 : ¬ p.2 < ((br aa p.1).length : Int) := by exact aZ 0x1119a5ba91959d2 h3 (I7 (aG 0x11901990191 q3))
 have s1 : setItem (LS aa W s pu) (.ref (1 + W + 1)) (.int (i : Int)) .none = some (LS aa W ⟨s.rows, s.hs.set i none, s.rs⟩ pu) := by
  unfold LS
  rw [gv (sV o.lr) (by exact az 26542480) (by rw [IZ, o.lh]; exact am 0x11a92a595a1 hi), Jt, Ah o.lr, show (s.hs.map eV).set i .none = (s.hs.set i none).map eV from sX i none]
 refine ⟨pu, ?_, pr.non⟩
 simp only [y7, y6, ah, gh, eV, ap, gp, ab, b1, li, h3, y5, asgI, s1, y4, Qa, Qb, Qc, Qd, Qf, aC, aq, Qh, au, Qq, Qr, aK, Qs, bI, QF, QG, QL, QO, QR, aw, QW, QY, Q0, cond_true, cond_false, Jk, Zg, List.length_map, Jg, Ji, decide_true, decide_false, Zj, Zk, Nat.reduceBEq, gs, fD, bz]
theorem Im {p : Int × Int} {y : Int} (hB : B < 1000000) (o : Ok3 aa W B s) (pr : PR W s.hs pu) (hi : i < W) (h1 : s.h i = some p) (hy : (br aa p.1)[p.2.toNat]? = some y) (n af : Nat) : LR aa W ⟨s.rows.set i (s.r i ++ [y]), s.hs.set i (some (p.1, p.2 + 1)), s.rs⟩ (ai CC (n+2) af "Ledger.put" [.ins 0, .int (i : Int), .int y] (LS aa W s pu)) := by
 rw [F5]
 have al : ∀ s pu, aY "lines" (some (.ins 0, LS aa W s pu)) = some (.ref (1 + W), LS aa W s pu) := fun O O => kj
 have ah : aY "held" (some (.ins 0, LS aa W s pu)) = some (.ref (1 + W + 1), LS aa W s pu) := jn
 have ap : aY "puts" (some (.ins 0, LS aa W s pu)) = some (.ref (1 + W + 2), LS aa W s pu) := sT
 have ab : aY "brood" (some (.ins 0, LS aa W s pu)) = some (.list (aa.map iL), LS aa W s pu) := Ae
 have gh := km (pu := pu) o hi
 have gp := Am o pr hi h1
 rw [h1] at gh
 obtain ⟨q1, q2, q3, q4⟩ := kh o hi h1
 have b1 : aS (LS aa W s pu) (.list (aa.map iL)) (.int p.1) = some (iL (br aa p.1)) := ke q1 q2 _
 have li : ∀ G, bY G (iL (br aa p.1)) = some ((br aa p.1).map AV.int) := fun O => rfl
 obtain ⟨hlt, h3⟩ := IX.mp hy
 have h2 : ¬ p.2 = ((br aa p.1).length : Int) := by exact aZ 0x119a5999a2959e2 hlt (Ju _)
 have b2 : aS (LS aa W s pu) (iL (br aa p.1)) (.int p.2) = some (.int y) := by
  rw [fh (xs := (br aa p.1).map AV.int) rfl q3 (by rw [IZ]; exact aZ 0x111a5999a2959a2 hlt (Ju _)), JC, hy]; rfl
 generalize e1 : upd (upd (upd (upd aF "self" (.ins 0)) "worker" (.int (i : Int))) "child" (.int y)) "task" (.int p.1) = ρ1
 have sf : ρ1 "self" = some (.ins 0) := by rw [<- e1]; rfl
 have wk : ρ1 "worker" = some (.int (i : Int)) := by rw [<- e1]; rfl
 have ch : ρ1 "child" = some (.int y) := by rw [<- e1]; rfl
 have tk : ρ1 "task" = some (.int p.1) := by rw [<- e1]; rfl
 have k7 : r8 (ai CC (n+1)) af (.ins 0) (.int (i : Int)) (.int y) (LS aa W s pu) = ba (nP (ai CC (n+1)) af ρ1 (LS aa W s pu)) := by
  simp only [r8, y3, ah, gh, eV, e1, yZ, sf, wk, tk, ap, gp, ab, b1, li, h2, Qa, Qb, Qc, Qf, aq, asgN, au, Qq, Qr, aK, Qs, bI, QF, QK, QO, QR, aw, QW, QY, Q0, cond_true, cond_false, Zg, List.length_map, Ji, decide_false, Zj, Zk, Nat.reduceBEq, Gn, gs, bz]
 rw [k7]
 have s1 : setItem (LS aa W s pu) (.ref (1 + W + 2)) (.int (i : Int)) (.int (p.2 + 1)) = some (LS aa W ⟨s.rows, s.hs.set i (some (p.1, p.2 + 1)), s.rs⟩ (pu.set i (p.2 + 1))) := by
  unfold LS
  rw [gv (sW o.lr) (by exact az 26542480) (by rw [IZ, pr.l]; exact am 0x11a92a595a1 hi), Jt, Ai o.lr, <- List.map_set]
  have : (s.hs.set i (some (p.1, p.2 + 1))).map eV = s.hs.map eV := by
   rw [<- sX]
   refine z8 ?_
   rw [Al o hi, h1]; rfl
  rw [this]
 have at1 : aS (LS aa W ⟨s.rows, s.hs.set i (some (p.1, p.2 + 1)), s.rs⟩ (pu.set i (p.2 + 1))) (.ref (1 + W)) (.int (i : Int)) = some (.ref (1 + i)) := on o.lr hi
 have row : (LS aa W ⟨s.rows, s.hs.set i (some (p.1, p.2 + 1)), s.rs⟩ (pu.set i (p.2 + 1)))[1 + i]? = some (aE (s.r i)) := oo o.lr hi
 have apn := i5 (af := af) (k := 1 + i) (o := fun H => au (fun H => aY "lines" (ae ρ1 "self" H)) (fun H => ae ρ1 "worker" H) H) (es := [fun H => ae ρ1 "child" H]) (l := s.r i) (t := y) (H := LS aa W ⟨s.rows, s.hs.set i (some (p.1, p.2 + 1)), s.rs⟩ (pu.set i (p.2 + 1)))
  (by simp only [sf, wk, al, at1, Qa, Qb, au, Zj]) (by simp only [ch, Qa, Qb, Qq, Qr, Zj]) row (by have := (z7 o i).1; unfold aM; exact am 0x111a910f424037a210000037922 hB this)
 rw [show bF (LS aa W ⟨s.rows, s.hs.set i (some (p.1, p.2 + 1)), s.rs⟩ (pu.set i (p.2 + 1))) (1 + i) (aE (s.r i ++ [y])) = LS aa W ⟨s.rows.set i (s.r i ++ [y]), s.hs.set i (some (p.1, p.2 + 1)), s.rs⟩ (pu.set i (p.2 + 1)) from oq o.lr hi _] at apn
 refine ⟨pu.set i (p.2 + 1), ?_, pr.set o.lh (p.1, p.2 + 1)⟩
 have k6 : nP (ai CC (n+1)) af ρ1 (LS aa W s pu) = r7 (ai CC (n+1)) af ρ1 (LS aa W ⟨s.rows, s.hs.set i (some (p.1, p.2 + 1)), s.rs⟩ (pu.set i (p.2 + 1))) := by
  simp only [nP, sf, wk, tk, ch, ap, gp, ab, b1, b2, eq_self, yY, asgI, s1, Qa, Qb, Qc, Qf, aq, aB, Qo, au, QF, QL, aw, QW, Jk, Zg, Jg, Ji, decide_true, Zj]
 rw [k6]
 unfold r7
 rw [apn]
 simp only [yX, Qa, Qc, Qd, aC, Qg, Qh]
end
end Mine.Internal
namespace Mine.Internal
open PySem PyProof.Rows
theorem Ip (Φ : aR) (af : Nat) (w x : Int) (aa : List (List Int)) (W : Nat) (s : S3) (pu : List Int) :
  gi Φ af (upd (upd (upd aF "self" (.ins 0)) "event" (E5.own w x).v) "worker" (.int w)) (LS aa W s pu) = sq (sq (aC (Φ af "Ledger.own" [.ins 0, .int w, .int x] (LS aa W s pu)) (upd (upd (upd aF "self" (.ins 0)) "event" (E5.own w x).v) "worker" (.int w))) aq) (zh Φ af) := by kernel_rfl
theorem Iq (Φ : aR) (af : Nat) (w a x : Int) (aa : List (List Int)) (W : Nat) (s : S3) (pu : List Int) :
  gi Φ af (upd (upd (upd aF "self" (.ins 0)) "event" (E5.taken w a x).v) "worker" (.int w)) (LS aa W s pu) = sq (sq (aC (Φ af "Ledger.taken" [.ins 0, .int w, .int a, .int x] (LS aa W s pu)) (upd (upd (upd aF "self" (.ins 0)) "event" (E5.taken w a x).v) "worker" (.int w))) aq) (zf Φ af) := by kernel_rfl
theorem Ir (Φ : aR) (af : Nat) (w y : Int) (aa : List (List Int)) (W : Nat) (s : S3) (pu : List Int) :
  gi Φ af (upd (upd (upd aF "self" (.ins 0)) "event" (E5.put w y).v) "worker" (.int w)) (LS aa W s pu) = sq (sq (aC (Φ af "Ledger.put" [.ins 0, .int w, .int y] (LS aa W s pu)) (upd (upd (upd aF "self" (.ins 0)) "event" (E5.put w y).v) "worker" (.int w))) aq) (ze Φ af) := by kernel_rfl
theorem It (Φ : aR) (af : Nat) (w x : Int) (aa : List (List Int)) (W : Nat) (s : S3) (pu : List Int) :
  gi Φ af (upd (upd (upd aF "self" (.ins 0)) "event" (E5.done w x).v) "worker" (.int w)) (LS aa W s pu) = sq (sq (aC (Φ af "Ledger.done" [.ins 0, .int w, .int x] (LS aa W s pu)) (upd (upd (upd aF "self" (.ins 0)) "event" (E5.done w x).v) "worker" (.int w))) aq) (zd Φ af) := by kernel_rfl
theorem Iu (Φ : aR) (af : Nat) (w : Int) (aa : List (List Int)) (W : Nat) (s : S3) (pu : List Int) :
  gi Φ af (upd (upd (upd aF "self" (.ins 0)) "event" (E5.rests w).v) "worker" (.int w)) (LS aa W s pu) = sq (aC (Φ af "Ledger.rests" [.ins 0, .int w] (LS aa W s pu)) (upd (upd (upd aF "self" (.ins 0)) "event" (E5.rests w).v) "worker" (.int w))) aq := by kernel_rfl
section
variable {aa ag : List (List Int)} {W B : Nat} {s s' : S3} {pu : List Int}
theorem LR.by1 {r : R AV} {t : RS} {ρ : an} (l : LR aa W s' r) (h : t = sq (aC r ρ) aq) : LR aa W s' (ba t) := by
 obtain ⟨pu', q1, q2⟩ := l
 exact ⟨pu', by rw [h, q1]; rfl, q2⟩
theorem LR.by2 {r : R AV} {t : RS} {ρ : an} {k : an -> HP -> RS} (l : LR aa W s' r) (h : t = sq (sq (aC r ρ) aq) k) : LR aa W s' (ba t) := by
 obtain ⟨pu', q1, q2⟩ := l
 exact ⟨pu', by rw [h, q1]; rfl, q2⟩
theorem Iv {i : Nat} (hB : B < 1000000) (o : Ok3 aa W B s) (pr : PR W s.hs pu) (hi : i < W) (n af : Nat) : ∀ e : E5, e.w = (i : Int) -> de aa s i e = some s' -> LR aa W s' (ba (gi (ai CC (n+2)) af (upd (upd (upd aF "self" (.ins 0)) "event" e.v) "worker" (.int (i : Int))) (LS aa W s pu)))
 | .own w x, hw, h => by
  have hw : w = (i : Int) := hw
  obtain ⟨q, rfl⟩ := cF h
  rw [hw]
  exact (Ih o pr hi q.1 q.2 n af).by2 (Ip (ai CC (n+2)) af (i : Int) x aa W s pu)
 | .taken w a x, hw, h => by
  have hw : w = (i : Int) := hw
  obtain ⟨q, rfl⟩ := cF h
  have e : a = (a.toNat : Int) := (I7 q.2.2.1).symm
  have hj : a.toNat < W := by have := q.2.2.2.1; rw [o.lr] at this; exact aZ 0x191a59a959ba922 e this
  rw [hw]
  have l := Ii o pr hi q.1 hj (fun z => q.2.1 (by rw [hw, <- z]; exact e)) q.2.2.2.2 n af
  rw [<- e] at l
  exact l.by2 (Iq (ai CC (n+2)) af (i : Int) a x aa W s pu)
 | .put w y, hw, h => by
  have hw : w = (i : Int) := hw
  unfold de at h
  cases hp : s.h i with
  | none => rw [hp] at h; cases h
  | some p =>
   rw [hp] at h
   obtain ⟨q, rfl⟩ := cF h
   rw [hw]
   exact (Im hB o pr hi hp q n af).by2 (Ir (ai CC (n+2)) af (i : Int) y aa W s pu)
 | .done w x, hw, h => by
  have hv : w = (i : Int) := hw
  unfold de at h
  cases hp : s.h i with
  | none => rw [hp] at h; cases h
  | some p =>
   rw [hp] at h
   obtain ⟨⟨q, rfl⟩, rfl⟩ := cF h
   rw [hv]
   exact (Il o pr hi hp q n af).by2 (It (ai CC (n+2)) af (i : Int) p.1 aa W s pu)
 | .rests w, hw, h => by
  have hw : w = (i : Int) := hw
  obtain ⟨q, rfl⟩ := cF h
  rw [hw]
  exact (Ij o pr hi q.1 q.2 n af).by1 (Iu (ai CC (n+2)) af (i : Int) aa W s pu)
set_option tactic.hygienic true in
theorem Iw (hB : B < 1000000) (o : Ok3 aa W B s) (pr : PR W s.hs pu) (e : E5) (h : cj aa s e = some s') (n af : Nat) : LR aa W s' (ai CC (n+3) af "Ledger.goes" [.ins 0, e.v] (LS aa W s pu)) := by
 rw [Gf]
 obtain ⟨r, hr⟩ := kg e
 generalize e0 : upd (upd (upd aF "self" (.ins 0)) "event" e.v) "worker" (.int e.w) = ρ0
 have sf : ρ0 "self" = some (.ins 0) := by rw [<- e0]; rfl
 have ev : ρ0 "event" = some e.v := by rw [<- e0]; rfl
 have wk : ρ0 "worker" = some (.int e.w) := by rw [<- e0]; rfl
 have st : r9 (ai CC (n+2)) af (.ins 0) e.v (LS aa W s pu) = ba (nQ (ai CC (n+2)) af ρ0 (LS aa W s pu)) := by
  rw [hr] at e0 ⊢
  simp only [r9, zi, e0, Qa, Qb, Qc, asgN, au, cond_true, cond_false, Q9, Zj, Zk, Nat.reduceBEq, gn, gs]
 rw [st]
 have ar : aY "resting" (some (.ins 0, LS aa W s pu)) = some (.ref (1 + W + 3), LS aa W s pu) := Af
 unfold cj at h
 split at h
 case isFalse => cases h
 rename_i q
 obtain ⟨h1, h2, h3⟩ := q
 rw [o.lr] at h2
 have iw := Aj (aa := aa) (a := s.hs.map eV) (b := pu.map AV.int) (c := s.rs.map AV.bool) (n+1) af o.lr e.w
 rw [Jf h1, Jf h2] at iw
 have im : cS (ai CC (n+2)) af (Str.ofString "is_worker") "Ledger.is_worker" (fun H => some (.ins 0, H)) [(fun H => some (.int e.w, H))] (LS aa W s pu) = some (.bool true, LS aa W s pu) := (kl (x := "is_worker") (vs := [.int e.w]) (by decide) rfl (by simp only [Qa, Qq, Qr])).trans iw
 obtain ⟨i, hi⟩ : ∃ i : Nat, e.w = (i : Int) := ⟨e.w.toNat, by exact aV 0x11101995b9599959b2 (Ju _) (I7 (aG 0x11901990191 h1))⟩
 have hiW : i < W := by exact aZ 0x911959ba59aa922 h2 hi
 rw [hi, Jt] at h3 h
 have rst : aS (LS aa W s pu) (.ref (1 + W + 3)) (.int e.w) = some (.bool (s.rs.getD i false)) := by
  rw [hi]; exact kc (Ag o.lr) (az 26542480) (by rw [Jt]; exact z9 o hiW)
 rw [h3] at rst
 have k11 : nQ (ai CC (n+2)) af ρ0 (LS aa W s pu) = gi (ai CC (n+2)) af ρ0 (LS aa W s pu) := by
  simp only [nQ, sf, wk, im, ar, rst, Qa, Qb, Qc, Qf, aq, au, aw, QW, cD, QY, Q0, cond_false, Jg, Zj]
 rw [k11, <- e0, hi]
 exact Iv hB o pr hiW n af e hi h
set_option tactic.hygienic true in
theorem Ap (hbr : ∀ row ∈ aa, ∀ t ∈ row, 0 <= t /\ t < (aa.length : Int)) (n af : Nat) : ∀ (es : List E5) (s : S3) (B : Nat) (pu : List Int) (ρ : an), B + es.length < 1000000 -> Ok3 aa W B s -> PR W s.hs pu -> ρ "ledger" = some (.ins 0) ->
  ∀ s', run aa s es = some s' -> ∃ ρ' H', bT (fy (ai CC (n+3)) af) (bb "event") (es.map E5.v) ρ (LS aa W s pu) = some (.next, ρ', H')
 | [], s, B, pu, ρ, _, o, pr, hl, _, _ => ⟨ρ, _, rfl⟩
 | e :: es, s, B, pu, ρ, hB, o, pr, hl, s', hrun => by
  simp only [List.length_cons] at hB
  obtain ⟨s1, hs, hrun⟩ := Option.bind_eq_some_iff.mp (show (cj aa s e).bind (fun s => run aa s es) = some s' from hrun)
  obtain ⟨pu', g1, pr'⟩ := Iw (am 0x110f42403711a39320f424037921 hB) o pr e hs n af
  generalize e1 : upd ρ "event" e.v = ρ1
  have l1 : ρ1 "ledger" = some (.ins 0) := by rw [<- e1]; exact hl
  have v1 : ρ1 "event" = some e.v := by rw [<- e1]; rfl
  have m : cS (ai CC (n+3)) af (Str.ofString "goes") "Ledger.goes" (fun H => some (.ins 0, H)) [(fun H => some (e.v, H))] (LS aa W s pu) = some (.bool true, LS aa W s1 pu') := (kl (x := "goes") (vs := [e.v]) (by decide) rfl (by simp only [Qa, Qq, Qr])).trans g1
  have fl : bT (fy (ai CC (n+3)) af) (bb "event") ((e :: es).map E5.v) ρ (LS aa W s pu) = sq (fy (ai CC (n+3)) af ρ1 (LS aa W s pu)) fun ρ H => bT (fy (ai CC (n+3)) af) (bb "event") (es.map E5.v) ρ H := by
   simp only [List.map_cons, bT, bb, Option.bind_some, e1]
  rw [fl]
  have ok : Ok3 aa W (B + 1) s1 := by
   unfold cj at hs
   split at hs
   ·rename_i q; exact (sO hbr o (by have := q.2.1; rw [o.lr] at this; exact aZ 0x111995ba59aa922 this (I7 (aG 0x11901990191 q.1))) hs).1
   ·cases hs
  rw [show fy (ai CC (n+3)) af ρ1 (LS aa W s pu) = some (.next, ρ1, LS aa W s1 pu') by simp only [fy, l1, v1, m, Qa, Qb, Qc, Qf, aq, aw, QW, cD, Jg, Zj], Qc]
  exact Ap hbr n af es s1 (B + 1) pu' ρ1 (am 0x110f42403711a39320f424037a1193321 hB) ok pr' l1 s' hrun
end
theorem Ix {H : HP} {A : List AV} {x : Str} {u : AV} (h0 : H[0]? = some A) (hu : bp A x = some u) : aY x (some (.ins 0, H)) = some (u, H) := by
 simp only [aY, Qa, fQ, Jk, h0, hu]
theorem kn {H : HP} {A : List AV} {x : String} {v : AV} (h0 : H[0]? = some A) (hu : bp A (Str.ofString x) = none) (hl : A.length < 1000) : fc H (.ins 0) (Str.ofString x) v = some (H.set 0 (A ++ [cL x v])) := by
 simp only [fc, fQ, Option.bind_some, h0, hu, Option.isNone_none, hl, decide_true, Bool.and_self, if_true, bF]
 rfl
theorem Aq (v : AV) : ∀ k, e7 [v] k = List.replicate k v
 | 0 => rfl
 | k + 1 => by rw [e7, Aq v k]; rfl
section
variable {aa ag : List (List Int)} {W : Nat} {rows : List (List Int)} {A : List AV} {T : HP}
theorem kp : (aD [A] rows ++ T)[0]? = some A := rfl
theorem ou (A' : List AV) : (aD [A] rows ++ T).set 0 A' = aD [A'] rows ++ T := rfl
theorem sY {v : AV} {ρ : an} {l : HP -> R AV} (hs : ρ "self" = some (.ins 0)) (hl : ∀ H, l H = some (.list [v], H)) (hv : jE v = true) (hW : rows.length = W) (h100 : W <= 100) (ha : bp A (Str.ofString "lines") = some (.ref (1 + W))) :
  bG true (aB .Mult l (fun H => aK .len [(fun H => aY "lines" (ae ρ "self" H))] H) (aD [A] rows ++ T)) = some (.ref (aD [A] rows ++ T).length, aD [A] rows ++ T ++ [List.replicate W v]) := by
 have al := Ix (H := aD [A] rows ++ T) (x := Str.ofString "lines") kp ha
 have li := eA (fp (H := [A]) (T := T) (rows := rows))
 rw [hW] at li
 have bm : ct .Mult (.list [v]) (.int (W : Int)) (aD [A] rows ++ T) = some (.list (List.replicate W v)) := by
  show lF [v] (W : Int) = _
  unfold lF
  rw [Id (by rw [j5 (by exact az 26542480) (by exact az 0x1164291030d40379591 h100)]; exact Jf (by unfold aM; simp only [List.length_cons, List.length_nil, Int.toNat_natCast]; lia)), Jt, Aq]
 have e : aB .Mult l (fun H => aK .len [(fun H => aY "lines" (ae ρ "self" H))] H) (aD [A] rows ++ T) = some (.list (List.replicate W v), aD [A] rows ++ T) := by
  have li' : bY (aD [A] rows ++ T) (.ref (1 + W)) = some (bL 1 W) := li
  simp only [hl, hs, al, li', fj, bm, Qa, Qb, aB, Qq, Qr, aK, Qs, bI, Ji, Zj]
 rw [e]
 show (if (List.replicate W v).all jE = true then some (AV.ref (aD [A] rows ++ T).length, aD [A] rows ++ T ++ [List.replicate W v]) else none) = _
 rw [Id (List.all_eq_true.mpr fun x m => by rw [List.eq_of_mem_replicate m]; exact hv)]
theorem Iy (n af : Nat) (h1 : ag.length = W) (hW : W <= 100) : ai CC (n+1) af "Ledger.__init__" [.ins 0, aO aa ag] [[]] = some (.none, LS aa W (s0 ag) (List.replicate W 0)) := by
 rw [FU]
 have hp0 : ∀ G, aS G (aO aa ag) (.int 0) = some (.list (aa.map iL)) := fun G => Q8 G _ _
 have hp1 : ∀ G, aS G (aO aa ag) (.int 1) = some (.list (ag.map iL)) := fun G => Q9 G _ _ _
 generalize e0 : upd (upd aF "self" (.ins 0)) "plan" (aO aa ag) = ρ
 have sf : ρ "self" = some (.ins 0) := by rw [<- e0]; rfl
 have pl : ρ "plan" = some (aO aa ag) := by rw [<- e0]; rfl
 have st : rY (ai CC n) af (.ins 0) (aO aa ag) [[]] = ba (nM (ai CC n) af ρ [[]]) := by
  unfold rY; rw [e0]
 rw [st]
 have a1 : fc [[]] (.ins 0) (Str.ofString "brood") (.list (aa.map iL)) = some [[cL "brood" (.list (aa.map iL))]] := kn (A := []) rfl rfl (by decide)
 generalize hA1 : [cL "brood" (.list (aa.map iL))] = A1 at a1
 have n1 : ∀ x : String, x ≠ "brood" -> bp A1 (Str.ofString x) = none := fun x hx => by rw [<- hA1, gx, IU (fun q => hx q.symm), sS]
 have c1 : dC (bg bq (rV (ai CC n) af) "tasks" ρ (rW (ai CC n) af ρ) [A1]) = some (.ref (1 + W), aD [A1] ag) := by
  rw [qg (src := .list (ag.map iL)) (xs := ag.map iL) (fun v => match v with | .list xs => xs | _ => []) (by simp only [rW, pl, hp1, Qa, Qb, au, Zj]) rfl (by rw [IZ]; exact bC (am 0x111642a1a930f424037912 h1 hW)) (fun v m H => by
   obtain ⟨l, _, rfl⟩ := Jm.mp m
   have := Ac l H
   simp only [rV, Qj]
   exact this), Q6, IZ, List.map_map]
  have e : (List.map ((fun v => match v with | AV.list xs => xs | x => []) ∘ iL) ag) = ag.map aE := rfl
  rw [e]
  have e2 : ([A1] ++ ag.map aE).length = 1 + W := by rw [I2, IZ, h1]; rfl
  rw [e2]
  rfl
 have a2 : fc (aD [A1] ag) (.ins 0) (Str.ofString "lines") (.ref (1 + W)) = some (aD [A1 ++ [cL "lines" (.ref (1 + W))]] ag) := by
  have := kn (H := aD [A1] ag ++ []) (A := A1) (x := "lines") (v := .ref (1 + W)) kp (n1 _ (by decide)) (by rw [<- hA1]; show 1 < 1000; decide)
  rw [ou, JA, JA] at this
  exact this
 generalize hA2 : A1 ++ [cL "lines" (.ref (1 + W))] = A2 at a2
 have ap : ∀ (A : List AV) (x y : String) (v : AV), bp A (Str.ofString x) = none -> bp (A ++ [cL y v]) (Str.ofString x) = if y = x then some v else none := fun A x y v h => by
  unfold bp at h ⊢
  rw [List.findSome?_append, h]
  show bp [cL y v] (Str.ofString x) = _
  rw [gx, sS]
 have ak : ∀ (A : List AV) (x y : String) (v u : AV), bp A (Str.ofString x) = some u -> bp (A ++ [cL y v]) (Str.ofString x) = some u := fun A x y v u h => by
  unfold bp at h ⊢
  rw [List.findSome?_append, h]; rfl
 have l2 : bp A2 (Str.ofString "lines") = some (.ref (1 + W)) := by rw [<- hA2, ap _ _ _ _ (n1 _ (by decide)), Id rfl]
 have n2 : ∀ x : String, x ≠ "brood" -> x ≠ "lines" -> bp A2 (Str.ofString x) = none := fun x hx hy => by rw [<- hA2, ap _ _ _ _ (n1 x hx), IU (fun q => hy q.symm)]
 have len2 : A2.length = 2 := by rw [<- hA2, <- hA1]; rfl
 have tl : ∀ (A : List AV) (T : HP), (aD [A] ag ++ T).length = 1 + W + 1 + T.length := fun A T => by rw [I2, dL, h1]; rfl
 have d1 := sY (T := []) (A := A2) (v := .none) (ρ := ρ) (l := fun H => a8 [(fun H => some (AV.none, H))] H) sf (fun H => by simp only [Qa, Qq, Qr, ↓ZB]) rfl h1 hW l2
 rw [tl, JA] at d1
 have a3 : fc (aD [A2] ag ++ [List.replicate W AV.none]) (.ins 0) (Str.ofString "held") (.ref (1 + W + 1 + 0)) = some (aD [A2 ++ [cL "held" (.ref (1 + W + 1))]] ag ++ [List.replicate W AV.none]) := (kn kp (n2 _ (by decide) (by decide)) (by rw [len2]; decide)).trans (by rw [ou])
 generalize hA3 : A2 ++ [cL "held" (.ref (1 + W + 1))] = A3 at a3
 have l3 : bp A3 (Str.ofString "lines") = some (.ref (1 + W)) := by rw [<- hA3]; exact ak _ _ _ _ _ l2
 have n3 : ∀ x : String, x ≠ "brood" -> x ≠ "lines" -> x ≠ "held" -> bp A3 (Str.ofString x) = none := fun x hx hy hz => by rw [<- hA3, ap _ _ _ _ (n2 x hx hy), IU (fun q => hz q.symm)]
 have len3 : A3.length = 3 := by rw [<- hA3, I2, len2]; rfl
 have d2 := sY (T := [List.replicate W AV.none]) (A := A3) (v := .int 0) (ρ := ρ) (l := fun H => a8 [(fun H => some (AV.int 0, H))] H) sf (fun H => by simp only [Qa, Qq, Qr, ↓ZB]) rfl h1 hW l3
 rw [tl] at d2
 have a4 : fc (aD [A3] ag ++ [List.replicate W AV.none] ++ [List.replicate W (AV.int 0)]) (.ins 0) (Str.ofString "puts") (.ref (1 + W + 1 + [List.replicate W AV.none].length)) = some (aD [A3 ++ [cL "puts" (.ref (1 + W + 2))]] ag ++ [List.replicate W AV.none, List.replicate W (AV.int 0)]) := by
  rw [I5]
  exact (kn kp (n3 _ (by decide) (by decide) (by decide)) (by rw [len3]; decide)).trans (by rw [ou]; rfl)
 generalize hA4 : A3 ++ [cL "puts" (.ref (1 + W + 2))] = A4 at a4
 have l4 : bp A4 (Str.ofString "lines") = some (.ref (1 + W)) := by rw [<- hA4]; exact ak _ _ _ _ _ l3
 have n4 : bp A4 (Str.ofString "resting") = none := by rw [<- hA4, ap _ _ _ _ (n3 _ (by decide) (by decide) (by decide)), IU (by decide)]
 have len4 : A4.length = 4 := by rw [<- hA4, I2, len3]; rfl
 have d3 := sY (T := [List.replicate W AV.none, List.replicate W (AV.int 0)]) (A := A4) (v := .bool false) (ρ := ρ) (l := fun H => a8 [(fun H => some (AV.bool false, H))] H) sf (fun H => by simp only [Qa, Qq, Qr, ↓ZB]) rfl h1 hW l4
 rw [tl] at d3
 have a5 : fc (aD [A4] ag ++ [List.replicate W AV.none, List.replicate W (AV.int 0)] ++ [List.replicate W (AV.bool false)]) (.ins 0) (Str.ofString "resting") (.ref (1 + W + 1 + [List.replicate W AV.none, List.replicate W (AV.int 0)].length)) = some (LS aa W (s0 ag) (List.replicate W 0)) := by
  rw [I5]
  refine (kn kp n4 (by rw [len4]; decide)).trans ?_
  rw [ou, <- hA4, <- hA3, <- hA2, <- hA1]
  refine congrArg some ?_
  unfold LS LG s0
  simp only [List.map_replicate, List.map_const', h1, eV]
  rfl
 have b0 : nM (ai CC n) af ρ [[]] = nL (ai CC n) af ρ [A1] := by
  simp only [nM, asgA, sf, pl, hp0, a1, Qa, Qb, Qc, au, Jk, Zj]
 have b1 : nL (ai CC n) af ρ [A1] = nK (ai CC n) af ρ (aD [A2] ag) := by
  unfold nL asgA
  dsimp only
  rw [c1]
  simp only [sf, a2, Qa, Qb, Qc, Jk, Zj]
 have b2 : nK (ai CC n) af ρ (aD [A2] ag) = nJ (ai CC n) af ρ (aD [A3] ag ++ [List.replicate W AV.none]) := by
  unfold nK asgA
  dsimp only
  rw [d1, Qa, cx sf, Qa]
  rw [show (1 + W + 1 + ([] : HP).length) = 1 + W + 1 + 0 from rfl, a3]
  rfl
 have b3 : nJ (ai CC n) af ρ (aD [A3] ag ++ [List.replicate W AV.none]) = rX (ai CC n) af ρ (aD [A4] ag ++ [List.replicate W AV.none, List.replicate W (AV.int 0)]) := by
  unfold nJ asgA
  dsimp only
  rw [d2, Qa, cx sf, Qa, a4]
  rfl
 rw [b0, b1, b2, b3]
 unfold rX asgA
 dsimp only
 rw [d3, Qa, cx sf, Qa, a5]
 rfl
theorem Iz (hbr : ∀ row ∈ aa, ∀ t ∈ row, 0 <= t /\ t < (aa.length : Int)) (h1 : ag.length = W) (hW : W <= 100) (h2 : ∀ row ∈ ag, row.length <= 900 /\ ∀ t ∈ row, 0 <= t /\ t < (aa.length : Int)) (es : List E5) (hl : es.length <= 900000) {s' : S3} (hr : run aa (s0 ag) es = some s') (n : Nat) :
  ai CC (n+4) 0 "are_right" [aO aa ag, .list (es.map E5.v)] [] = some (.bool true, []) := by
 rw [Fv]
 show cC (m5 (ai CC (n+3)) 0 (upd (upd aF "plan" (aO aa ag)) "events" (.list (es.map E5.v))) []) = _
 have ie := Iy (aa := aa) (ag := ag) (n+2) 0 h1 hW
 have nr : jD (ai CC (n+3)) 0 "Ledger.__init__" [(fun H => some (aO aa ag, H))] [] = some (.ins 0, LS aa W (s0 ag) (List.replicate W 0)) := by
  unfold jD
  rw [show bo [(fun H => some (aO aa ag, H))] [] = some ([aO aa ag], []) from by simp only [Qa, Qq, Qr], Qa]
  show av (ai CC (n+3) 0 "Ledger.__init__" [.ins 0, aO aa ag] [[]]) _ = _
  rw [ie]; rfl
 generalize e1 : upd (upd (upd aF "plan" (aO aa ag)) "events" (.list (es.map E5.v))) "ledger" (.ins 0) = ρ1
 have l1 : ρ1 "ledger" = some (.ins 0) := by rw [<- e1]; rfl
 have v1 : ρ1 "events" = some (.list (es.map E5.v)) := by rw [<- e1]; rfl
 have b : m5 (ai CC (n+3)) 0 (upd (upd aF "plan" (aO aa ag)) "events" (.list (es.map E5.v))) [] = qZ (ai CC (n+3)) 0 ρ1 (LS aa W (s0 ag) (List.replicate W 0)) := by
  simp only [m5, nr, e1, Qa, Qb, Qc, asgN, cond_true, cond_false, Zj, Zk, Nat.reduceBEq, dN, bU]
 rw [b]
 have pr : PR W (s0 ag).hs (List.replicate W 0) := ⟨by rw [List.length_replicate], fun i p e => by
  obtain ⟨_, _, q⟩ := Jm.mp (List.mem_of_getElem? e); cases q⟩
 have lp := Ap hbr n 0 es (s0 ag) 900 (List.replicate W 0) ρ1 (az 0x110dbba037910f4240379038427321 hl) (sR h1 h2) pr l1 s' hr
 unfold qZ
 have fr : bJ (fy (ai CC (n+3)) 0) (bb "event") (qY (ai CC (n+3)) 0 ρ1) ρ1 (LS aa W (s0 ag) (List.replicate W 0)) = bT (fy (ai CC (n+3)) 0) (bb "event") (es.map E5.v) ρ1 (LS aa W (s0 ag) (List.replicate W 0)) := by
  simp only [bJ, qY, cx v1, Qa, QC, Qb]
 rw [fr]
 obtain ⟨ρ', H', h⟩ := lp
 rw [h, Qc]; rfl
end
end Mine.Internal
namespace Mine.Internal
open PySem PyProof.Rows
structure ow (size : Nat) (aa ag : List (List Int)) : Prop where
 f : d5 aa ag.flatten size
 s0 : 0 < ag.length
 sz : size <= 900
theorem As {H : HP} : ∀ rows : List (List Int), jB H (rows.map iL) = some (aE rows.flatten)
 | [] => rfl
 | t :: ts => by
  show ((bf H (iL t)).bind fun x => (jB H (ts.map iL)).map (x ++ ·)) = _
  rw [As ts]
  show some (t.map AV.int ++ aE ts.flatten) = _
  simp [aE]
theorem IA {H : HP} {ag : List (List Int)} (h0 : 0 < ag.length) (hl : ag.flatten.length <= aM) : c7 .sum [.list (ag.map iL), .list []] H = some (iL ag.flatten) := by
 show pC H (ag.map iL) = _
 unfold pC
 rw [IU (by cases ag with | nil => simp at h0 | cons a r => simp), As]
 show pB (aE ag.flatten) = _
 unfold pB
 rw [Id (by rw [aE, IZ]; exact hl)]; rfl
theorem oy (l : List Int) (H : HP) : bG true (some (iL l, H)) = some (.ref H.length, H ++ [aE l]) := by
 show (if (l.map AV.int).all jE = true then some (AV.ref H.length, H ++ [l.map AV.int]) else none) = _
 rw [Id (List.all_eq_true.mpr fun x m => by obtain ⟨i, _, rfl⟩ := Jm.mp m; rfl)]
 rfl
theorem sZ {H : HP} {k : Nat} {l l' : List Int} (hk : H[k]? = some (aE l)) (hl : l.length + l'.length <= aM) : ct .Add (.ref k) (iL l') H = some (iL (l ++ l')) := by
 show ((H[k]?).bind fun x => (bf H (iL l')).bind (jy x)) = _
 rw [hk]
 show jy (aE l) (l'.map AV.int) = _
 unfold jy
 rw [Id (by simpa [aE] using hl)]
 simp [iL, aE]
theorem Au (l : List Int) : iB (l.map AV.int) = some l := by
 induction l with
 | nil => rfl
 | cons a r ih => simp only [List.map_cons, iB, asInt, ih, Option.map_some, Option.bind_some]
theorem s7 {H : HP} {v : AV} {l : List Int} (hi : dA v = none) (hv : bf H v = some (aE l)) (hl : l.length <= 1000) : c7 .sorted [v] H = some (iL (ce l)) := by
 show jC H v = _
 unfold jC
 rw [hi, hv]
 show iC (l.map AV.int) = _
 unfold iC
 rw [Au]
 exact Id (bC (az 0x1103e827910f424037911 hl))
theorem Av (l : List Int) (H : HP) : c7 .list [iL l] H = some (iL l) := rfl
def dP (ps : List (Int × AV)) : List AV := ps.map fun p => eI p.1 p.2
theorem s8 (t : Int) : ∀ ps : List (Int × AV), dJ t (dP ps) = decide (t ∈ ps.map (·.1))
 | [] => rfl
 | a :: r => by
  show (decide (a.1 = t) || dJ t (dP r)) = _
  rw [s8 t r]
  by_cases h : a.1 = t
  ·subst h; simp
  ·have h' : ¬ t = a.1 := fun q => h q.symm
   simp [h, h']
theorem Aw {H : HP} {k : Nat} {ps : List (Int × AV)} {t : Int} {v : AV} (hk : H[k]? = some (dP ps)) (h : t ∉ ps.map (·.1)) (hv : iE v = true) (hl : ps.length < aM) : setItem H (.dct k) (.int t) v = some (H.set k (dP (ps ++ [(t, v)]))) := by
 show ((H[k]?).bind fun es => if (iE v && (decide (es.length < aM) && !dJ t es)) = true then some (bF H k (ei es t v)) else none) = _
 rw [hk]
 have h3 : dJ t (dP ps) = false := by rw [s8, decide_eq_false h]
 have hd : ei (dP ps) t v = dP (ps ++ [(t, v)]) := by
  unfold ei
  rw [h3]
  simp [dP]
 have h2 : (dP ps).length < aM := by rw [dP, IZ]; exact hl
 show (if (iE v && (decide ((dP ps).length < aM) && !dJ t (dP ps))) = true then _ else none) = _
 rw [hv, Jf h2, h3, hd]; rfl
theorem IB {H : HP} {k : Nat} {ps : List (Int × AV)} (hk : H[k]? = some (dP ps)) : c7 .list [.dct k] H = some (iL (ps.map (·.1))) := by
 show (H[k]?).map _ = _
 rw [hk, Option.map_some, dP, List.map_map, iL, List.map_map]
 rfl
noncomputable def Sub (H0 H : HP) : Prop := ∀ (k : Nat) (xs : List AV), H0[k]? = some xs -> H[k]? = some xs
section
variable {H0 H H1 : HP}
theorem Sub.refl : Sub H H := fun O O e => e
theorem Sub.trans (a : Sub H0 H) (b : Sub H H1) : Sub H0 H1 := fun k xs e => b k xs (a k xs e)
theorem Sub.app (a : Sub H0 H) (J : HP) : Sub H0 (H ++ J) := fun k xs e => by
 have := a k xs e
 rw [List.getElem?_append_left (IX.mp this).1]; exact this
theorem Sub.set (a : Sub H0 H) {j : Nat} (x : List AV) (h : H0.length <= j) : Sub H0 (H.set j x) := fun k xs e => by
 rw [Jq (by have := (IX.mp e).1; exact ay 0x111ba29b1a962 h this)]; exact a k xs e
end
set_option tactic.hygienic true in
theorem s9 {C : an -> HP -> List Int -> List Int -> Prop} {aa : List (List Int)} {L0 : List Int} {size : Nat} (f : d5 aa L0 size) {test : an -> HP -> R Bool} {body : an -> HP -> RS} {n : Nat} (hn : (a9 aa L0 n).1 = []) (hk : ∀ k, k < n -> (a9 aa L0 k).1 ≠ [])
  (ht : ∀ ρ H L D, C ρ H L D -> test ρ H = some (!decide (L = []), H))
  (hb : ∀ ρ H ws t D, C ρ H (ws ++ [t]) D -> Ci aa L0 size (ws ++ [t], D) -> ∃ ρ' H', body ρ H = some (.next, ρ', H') /\ C ρ' H' (ws ++ br aa t) (D ++ [t])) :
  ∀ (m k fuel : Nat) (ρ : an) (H : HP), k + m = n -> m < fuel -> C ρ H (a9 aa L0 k).1 (a9 aa L0 k).2 ->
   ∃ ρ' H', c8 test body fuel ρ H = some (.next, ρ', H') /\ C ρ' H' [] (a9 aa L0 n).2
 | _, _, 0, _, _, _, h, _ => absurd h (Nat.not_lt_zero _)
 | 0, k, fuel + 1, ρ, H, e, _, c => by
  obtain rfl : k = n := by exact am 0x1191a01933a931 e
  rw [hn] at c
  exact ⟨ρ, H, zO (by rw [ht _ _ _ _ c]; rfl), c⟩
 | m + 1, k, fuel + 1, ρ, H, e, hf, c => by
  have h1 := hk k (ay 0x11a11b3933a921 e)
  have ci := d6 f k
  rcases q : a9 aa L0 k with ⟨L, D⟩
  rw [q] at h1 ci c
  rcases List.eq_nil_or_concat L with rfl | ⟨ws, t, rfl⟩
  ·exact absurd rfl h1
  ·rw [List.concat_eq_append] at *
   obtain ⟨ρ1, H1, b1, c1⟩ := hb _ _ _ _ _ c ci
   have e1 := E4 q
   obtain ⟨ρ', H', b2, c2⟩ := s9 f hn hk ht hb m (k + 1) fuel ρ1 H1 (ay 0x1191b11a3933ba1193331 e) (am 0x1111a311932a921 hf) (by rw [e1]; exact c1)
   refine ⟨ρ', H', ?_, c2⟩
   rw [zN (H1 := H) (by rw [ht _ _ _ _ c, decide_eq_false (by simp)]; rfl) b1, b2]
def dS (s : List Int) : List AV := dP (s.map fun t => (t, .bool true))
theorem Ax (s : List Int) : (s.map fun t => (t, AV.bool true)).map (·.1) = s := by rw [List.map_map]; exact List.map_id s
structure CD (H0 : HP) (aa : List (List Int)) (ρ : an) (H : HP) (L D : List Int) (kw kf : Nat) : Prop where
 br : ρ "brood" = some (.list (aa.map iL))
 w : ρ "waiting" = some (.ref kw)
 f : ρ "found" = some (.dct kf)
 hw : H[kw]? = some (aE L)
 hf : H[kf]? = some (dS D)
 ne : kw ≠ kf
 sb : Sub H0 H
 nw : H0.length <= kw
 nf : H0.length <= kf
theorem Ay {aa : List (List Int)} {L0 : List Int} {size : Nat} (f : d5 aa L0 size) (t : Int) (h0 : 0 <= t) : (br aa t).length <= size := by
 refine qq size _ ?_ fun x m => by have := f.br t h0 x m; exact ⟨bj 0x1119aaa01990192 h0 this.1, aV 0x11959a959a1 this.2⟩
 cases q : br aa t with
 | nil => exact .nil
 | cons a r => rw [<- q]; exact (List.pairwise_flatten.mp (List.nodup_append.mp f.nd).1).1 _ (ja (y := a) (by rw [q]; exact Jj)).1
set_option tactic.hygienic true in
theorem IC {H0 : HP} {aa : List (List Int)} {L0 : List Int} {size : Nat} (fs : d5 aa L0 size) (hsz : size <= 900) (Φ : aR) (af : Nat) {ρ : an} {H : HP} {ws D : List Int} {t : Int} {kw kf : Nat} (c : CD H0 aa ρ H (ws ++ [t]) D kw kf) (ci : Ci aa L0 size (ws ++ [t], D)) :
  ∃ ρ' H', m4 Φ af ρ H = some (.next, ρ', H') /\ ∃ kw' kf', CD H0 aa ρ' H' (ws ++ br aa t) (D ++ [t]) kw' kf' := by
 have hwl := (IX.mp c.hw).1
 have hfl := (IX.mp c.hf).1
 have hb := ci.bd t (Jw _ (Jw _ Jj))
 have hl := ci.len
 have hl1 : D.length + (ws.length + 1) <= size := by simpa using hl
 have hbl := Ay fs t hb.1
 have htD : t ∉ D := fun m => (List.nodup_append.mp ci.nd).2.2 t m t (Jw _ Jj) rfl
 have g2 : ∀ G, aS G (.list (aa.map iL)) (.int t) = some (iL (br aa t)) := ke hb.1 (by rw [fs.len]; exact hb.2)
 have m1 := oj (af := af) (o := fun H => ae ρ "waiting" H) (es := []) (cx c.w) (.inr rfl) c.hw List.getLast?_concat
 rw [List.dropLast_concat] at m1
 generalize e1 : upd ρ "task" (.int t) = ρ1
 have p1 : ρ1 "brood" = some (.list (aa.map iL)) := by rw [<- e1]; exact c.br
 have w1 : ρ1 "waiting" = some (.ref kw) := by rw [<- e1]; exact c.w
 have f1 : ρ1 "found" = some (.dct kf) := by rw [<- e1]; exact c.f
 have t1 : ρ1 "task" = some (.int t) := by rw [<- e1]; rfl
 have hf1 : (H.set kw (aE ws))[kf]? = some (dS D) := by rw [Jq c.ne]; exact c.hf
 have m2 := Aw (v := .bool true) hf1 (by rw [Ax]; exact htD) rfl (by rw [IZ]; unfold aM; exact ay 0x111a11b3931038427a110000037922 hsz hl1)
 rw [show dP (D.map (fun t => (t, AV.bool true)) ++ [(t, .bool true)]) = dS (D ++ [t]) by rw [dS, List.map_append]; rfl] at m2
 generalize e2 : (H.set kw (aE ws)).set kf (dS (D ++ [t])) = H2 at m2
 have l2 : H2.length = H.length := by rw [<- e2]; simp
 have hw2 : H2[kw]? = some (aE ws) := by rw [<- e2, Jq (Ne.symm c.ne), JD hwl]
 have hf2 : H2[kf]? = some (dS (D ++ [t])) := by rw [<- e2, JD (by simpa using hfl)]
 have a1 := sZ (l' := br aa t) hw2 (by unfold aM; exact aN 0x1121ba1b1193c31038427b110000037a9313 hsz hl1 hbl)
 refine ⟨upd ρ1 "waiting" (.ref H2.length), H2 ++ [aE (ws ++ br aa t)], ?_, H2.length, kf, ⟨by simp only [p1, cond_false, Zk, Nat.reduceBEq, fB, eN], by simp only [cond_true, Zk, Nat.reduceBEq, eN], by simp only [f1, cond_false, Zk, Nat.reduceBEq, gq, eN], by simp, by rw [List.getElem?_append_left (by exact ay 0x911ba3b92a922 hfl l2)]; exact hf2, by exact ay 0x911b93ba2a962 hfl l2, (by rw [<- e2]; exact ((c.sb.set _ c.nw).set _ c.nf).app _), by have := c.nw; exact aN 0x1911b91ca3cb2a913 hwl l2 this, c.nf⟩⟩
 simp only [m4, ↓m1, e1, xw, asgI, f1, t1, m2, xu, w1, p1, g2, Av, a1, oy, Qa, Qb, Qc, aq, asgN, aB, au, Qq, Qr, aK, Jk, Zj]
set_option tactic.hygienic true in
theorem ID (Φ : aR) (af : Nat) {aa ag : List (List Int)} {ρ : an} {H0 H : HP} {k : Nat} (sb : Sub H0 H) (nk : H0.length <= k) (hb : ρ "brood" = some (.list (aa.map iL))) (hs : ρ "starts" = some (.list (ag.map iL))) (hw : ρ "waiting" = some (.ref k)) (hk : H[k]? = some (aE [])) (hl : ag.flatten.length <= 1000) :
  ∃ ρ' H' k', bJ (m3 Φ af) (bb "tasks") (qT Φ af ρ) ρ H = some (.next, ρ', H') /\ ρ' "brood" = some (.list (aa.map iL)) /\ ρ' "waiting" = some (.ref k') /\ H'[k']? = some (aE ag.flatten) /\ Sub H0 H' /\ H0.length <= k' := by
 obtain ⟨ρ', H', h1, h2, k', h3, h4, h5, h6⟩ := iX (body := m3 Φ af) (tgt := bb "tasks") (it := qT Φ af ρ) (ρ := ρ) (H := H) (H1 := H) (src := .list (ag.map iL)) (xs := ag.map iL)
  (fun i ρ G => ρ "brood" = some (.list (aa.map iL)) /\ ∃ k, ρ "waiting" = some (.ref k) /\ G[k]? = some (aE (ag.take i).flatten) /\ Sub H0 G /\ H0.length <= k) (cx hs) rfl ⟨hb, k, hw, by simpa using hk, sb, nk⟩ (by
   rintro i v ρ G hv ⟨hb, k, hw, hk, sb, nk⟩
   rw [JC] at hv
   cases hq : ag[i]? with
   | none => rw [hq] at hv; cases hv
   | some row =>
    rw [hq] at hv
    cases hv
    have hi := (IX.mp hq).1
    have e : (ag.take (i + 1)).flatten = (ag.take i).flatten ++ row := by
     rw [List.take_succ, hq, List.flatten_append]; simp
    have hle : ((ag.take i).flatten ++ row).length <= 1000 := by
     rw [<- e]
     have : ag.flatten = (ag.take (i + 1)).flatten ++ (ag.drop (i + 1)).flatten := by rw [<- List.flatten_append, List.take_append_drop]
     rw [this, I2] at hl; exact am 0x1103e827a93103e827911 hl
    rw [I2] at hle
    have a1 := sZ (l' := row) hk (bC (am 0x1103e827a9310f424037a9311 hle))
    refine ⟨upd ρ "tasks" (iL row), upd (upd ρ "tasks" (iL row)) "waiting" (.ref G.length), G ++ [aE ((ag.take i).flatten ++ row)], rfl, ?_, by simp only [hb, cond_false, Zk, Nat.reduceBEq, fB, nY, eN], G.length, by simp only [cond_true, cond_false, Zk, Nat.reduceBEq, nY, eN], by rw [e]; simp, sb.app _, Nat.le_of_lt (Nat.lt_of_le_of_lt nk (IX.mp hk).1)⟩
    simp only [m3, hw, Av, a1, oy, Qa, Qb, Qc, aq, asgN, aB, Qq, Qr, aK, cond_true, cond_false, Zj, Zk, Nat.reduceBEq, nY, eN])
 rw [IZ, List.take_length] at h4
 exact ⟨ρ', H', k', h1, h2, h3, h4, h5, h6⟩
theorem IE {aa ag : List (List Int)} {size : Nat} (p : ow size aa ag) {n : Nat} (hn : (a9 aa ag.flatten n).1 = []) (hk : ∀ k, k < n -> (a9 aa ag.flatten k).1 ≠ []) (hns : n <= size) (m af : Nat) (H : HP) :
  ∃ H', ai CC (m+1) af "coming" [aO aa ag] H = some (iL (ce (a9 aa ag.flatten n).2), H') /\ Sub H H' := by
 rw [Fq]
 have hsz := p.sz
 have hfl : ag.flatten.length <= size := by have := (d6 p.f 0).len; simpa [a9] using this
 obtain ⟨ρ1, H1, k1, f1, f2, f3, f4, f5, f6⟩ := ID (ai CC m) af (H0 := H) (Sub.refl.app _) (IO _) (aa := aa) (ag := ag) (ρ := upd (upd (upd (upd aF "plan" (aO aa ag)) "brood" (.list (aa.map iL))) "starts" (.list (ag.map iL))) "waiting" (.ref H.length)) (H := H ++ [aE []]) (k := H.length) (by simp only [cond_true, cond_false, Zk, Nat.reduceBEq, fB, bU, su, eN]) (by simp only [cond_true, cond_false, Zk, Nat.reduceBEq, fB, bU, su, eN]) (by simp only [cond_true, cond_false, Zk, Nat.reduceBEq, fB, bU, su, eN]) (by simp) (am 0x111a91038427a103e827912 hsz hfl)
 have hk1 := (IX.mp f4).1
 have c0 : CD H aa (upd ρ1 "found" (.dct H1.length)) (H1 ++ [dS []]) ag.flatten [] k1 H1.length := ⟨by simp only [f2, cond_false, Zk, Nat.reduceBEq, fB, gq], by simp only [f3, cond_false, Zk, Nat.reduceBEq, gq, eN], by simp only [cond_true, Zk, Nat.reduceBEq, gq], by rw [List.getElem?_append_left hk1]; exact f4, by simp [dS, dP], by exact am 6888270177 hk1, f5.app _, f6, by exact ay 0x111ab2b91a912 f6 hk1⟩
 obtain ⟨ρ', H', w1, kw, kf, c1⟩ := s9 (C := fun ρ H' L D => ∃ kw kf, CD H aa ρ H' L D kw kf) p.f (test := fun ρ H => aw (av (ae ρ "waiting" H) (fun a H => aH a [.NotEq] [(fun H => a8 [] H)] H))) (body := m4 (ai CC m) af) hn hk
  (fun ρ H L D ⟨kw, kf, c⟩ => by simp only [c.w, hY c.hw, Qa, Qb, QF, QL, aw, QW, Ji, Zj, ↓ZA]) (fun ρ H ws t D ⟨kw, kf, c⟩ ci => IC p.f hsz _ _ c ci) n 0 d7 (upd ρ1 "found" (.dct H1.length)) (H1 ++ [dS []]) (az 4723839792) (by unfold d7; exact am 0x111038427a1a910186a037922 hns hsz) ⟨_, _, c0⟩
 have hl := (d6 p.f n).len
 have hso := s7 (H := H') (v := iL (a9 aa ag.flatten n).2) (l := (a9 aa ag.flatten n).2) rfl rfl (ay 0x111ab931038427a103e827912 hsz hl)
 have hld := IB c1.hf
 rw [Ax] at hld
 refine ⟨H', ?_, c1.sb⟩
 have a1 : qX (ai CC m) af (aO aa ag) H = ba (qW (ai CC m) af (upd (upd (upd (upd aF "plan" (aO aa ag)) "brood" (.list (aa.map iL))) "starts" (.list (ag.map iL))) "waiting" (.ref H.length)) (H ++ [aE []])) := by
  simp only [qX, xz, xy, aO, Qa, Qb, Qc, asgN, asgT, cond_true, Q4, Jk, bi, Q7, Zj, Zk, Nat.reduceBEq, ↓ZA, bU]
  rfl
 have a2 : qV (ai CC m) af ρ1 H1 = qU (ai CC m) af (upd ρ1 "found" (.dct H1.length)) (H1 ++ [dS []]) := by
  simp only [qV, newD, Qa, Qc, asgN]
  rfl
 rw [a1, qW, f1, Qc, a2, qU, w1, Qc]
 simp only [xx, c1.f, hld, hso, Qa, Qb, Qd, aC, Qh, Qq, Qr, aK, Zj]
structure oz (aa ag : List (List Int)) (ρ : an) (H : HP) (L D : List Int) (kw kf : Nat) : Prop where
 pl : ρ "_law_plan" = some (aO aa ag)
 w : ρ "_law_waits" = some (.ref kw)
 f : ρ "_law_found" = some (.ref kf)
 hw : H[kw]? = some (aE L)
 hf : H[kf]? = some (aE D)
 ne : kw ≠ kf
set_option tactic.hygienic true in
theorem IF {aa ag : List (List Int)} {L0 : List Int} {size : Nat} (fs : d5 aa L0 size) (hsz : size <= 900) (Φ : aR) (af : Nat) {ρ : an} {H : HP} {ws D : List Int} {t : Int} {kw kf : Nat} (c : oz aa ag ρ H (ws ++ [t]) D kw kf) (ci : Ci aa L0 size (ws ++ [t], D)) :
  ∃ ρ' H', np Φ af ρ H = some (.next, ρ', H') /\ ∃ kw' kf', oz aa ag ρ' H' (ws ++ br aa t) (D ++ [t]) kw' kf' := by
 have hwl := (IX.mp c.hw).1
 have hfl := (IX.mp c.hf).1
 have hb := ci.bd t (Jw _ (Jw _ Jj))
 have hl := ci.len
 have hl1 : D.length + (ws.length + 1) <= size := by simpa using hl
 have hbl := Ay fs t hb.1
 have g1 : ∀ G, aS G (aO aa ag) (.int 0) = some (.list (aa.map iL)) := fun G => Q8 G _ _
 have g2 : ∀ G, aS G (.list (aa.map iL)) (.int t) = some (iL (br aa t)) := ke hb.1 (by rw [fs.len]; exact hb.2)
 have m1 := oj (af := af) (o := fun H => ae ρ "_law_waits" H) (es := []) (cx c.w) (.inr rfl) c.hw List.getLast?_concat
 rw [List.dropLast_concat] at m1
 generalize e1 : upd ρ "_law_task" (.int t) = ρ1
 have p1 : ρ1 "_law_plan" = some (aO aa ag) := by rw [<- e1]; exact c.pl
 have w1 : ρ1 "_law_waits" = some (.ref kw) := by rw [<- e1]; exact c.w
 have f1 : ρ1 "_law_found" = some (.ref kf) := by rw [<- e1]; exact c.f
 have t1 : ρ1 "_law_task" = some (.int t) := by rw [<- e1]; rfl
 have hf1 : (H.set kw (aE ws))[kf]? = some (aE D) := by rw [Jq c.ne]; exact c.hf
 have m2 := i5 (af := af) (k := kf) (o := fun H => ae ρ1 "_law_found" H) (es := [fun H => ae ρ1 "_law_task" H]) (l := D) (t := t) (H := H.set kw (aE ws)) (cx f1) (by simp only [t1, Qa, Qb, Qq, Qr, Zj]) hf1 (by unfold aM; exact ay 0x111a11b3931038427a110000037922 hsz hl1)
 rw [bF] at m2
 generalize e2 : (H.set kw (aE ws)).set kf (aE (D ++ [t])) = H2 at m2
 have l2 : H2.length = H.length := by rw [<- e2]; simp
 have hw2 : H2[kw]? = some (aE ws) := by rw [<- e2, Jq (Ne.symm c.ne), JD hwl]
 have hf2 : H2[kf]? = some (aE (D ++ [t])) := by rw [<- e2, JD (by simpa using hfl)]
 have a1 := sZ (l' := br aa t) hw2 (by unfold aM; exact aN 0x1121ba1b1193c31038427b110000037a9313 hsz hl1 hbl)
 refine ⟨upd ρ1 "_law_waits" (.ref H2.length), H2 ++ [aE (ws ++ br aa t)], ?_, H2.length, kf, ⟨by simp only [p1, cond_false, Zk, Nat.reduceBEq, dM, sh], by simp only [cond_true, Zk, Nat.reduceBEq, sh], by simp only [f1, cond_false, Zk, Nat.reduceBEq, zj, sh], by simp, by rw [List.getElem?_append_left (by exact ay 0x911ba3b92a922 hfl l2)]; exact hf2, by exact ay 0x911b93ba2a962 hfl l2⟩⟩
 simp only [np, ↓m1, e1, x5, ↓m2, x4, w1, p1, t1, g1, g2, a1, oy, Qa, Qb, Qc, aq, asgN, Qg, aB, au, Zj]
theorem IG {aa ag : List (List Int)} {size : Nat} (p : ow size aa ag) {n : Nat} (hn : (a9 aa ag.flatten n).1 = []) (hk : ∀ k, k < n -> (a9 aa ag.flatten k).1 ≠ []) (hns : n <= size) (m af : Nat) :
  ai CC (m+1) af "_law_coming" [aO aa ag] [] = some (iL (ce (a9 aa ag.flatten n).2), []) := by
 rw [FD]
 show cC (nq (ai CC m) 0 (upd aF "_law_plan" (aO aa ag)) []) = _
 have hsz := p.sz
 have hfl : ag.flatten.length <= size := by have := (d6 p.f 0).len; simpa [a9] using this
 have hsum := fun G => IA (H := G) p.s0 (bC (by exact am 0x111a91038427a10f424037912 hsz hfl : ag.flatten.length <= 1000000))
 have hpl : ∀ G, aS G (aO aa ag) (.int 1) = some (.list (ag.map iL)) := fun G => Q9 G _ _ _
 have c0 : oz aa ag (upd (upd (upd aF "_law_plan" (aO aa ag)) "_law_found" (.ref 0)) "_law_waits" (.ref 1)) [aE [], aE ag.flatten] ag.flatten [] 1 0 := ⟨rfl, rfl, rfl, rfl, rfl, by decide⟩
 obtain ⟨ρ', H', w1, kw, kf, c1⟩ := s9 (C := fun ρ H' L D => ∃ kw kf, oz aa ag ρ H' L D kw kf) p.f (test := fun ρ H => aw (av (ae ρ "_law_waits" H) (fun a H => aH a [.NotEq] [(fun H => a8 [] H)] H))) (body := np (ai CC m) 0) hn hk
  (fun ρ H L D ⟨kw, kf, c⟩ => by simp only [c.w, hY c.hw, Qa, Qb, QF, QL, aw, QW, Ji, Zj, ↓ZA]) (fun ρ H ws t D ⟨kw, kf, c⟩ ci => IF p.f hsz _ _ c ci) n 0 d7 _ _ (az 4723839792) (by unfold d7; exact am 0x111038427a1a910186a037922 hns hsz) ⟨_, _, c0⟩
 have hl := (d6 p.f n).len
 have hso := s7 (v := .ref kf) rfl c1.hf (ay 0x111ab931038427a103e827912 hsz hl)
 have a1 : nq (ai CC m) 0 (upd aF "_law_plan" (aO aa ag)) [] = ru (ai CC m) 0 (upd (upd (upd aF "_law_plan" (aO aa ag)) "_law_found" (.ref 0)) "_law_waits" (.ref 1)) [aE [], aE ag.flatten] := by
  simp only [nq, x7, hpl, hsum, oy, Qa, Qb, Qc, asgN, au, Qq, Qr, aK, cond_true, cond_false, Q7, Jd, Zj, Zk, Nat.reduceBEq, ↓ZA, zj, dM]
  rfl
 rw [a1, ru, w1, Qc]
 simp only [x6, c1.f, hso, Qa, Qb, Qd, aC, Qq, Qr, aK, Zj]
 show (match fz H' (iL _) with | some v => some (v, []) | none => none) = _
 rw [show fz H' (iL (ce (a9 aa ag.flatten n).2)) = some (iL (ce (a9 aa ag.flatten n).2)) from i4 (qk _)]
end Mine.Internal
namespace Mine.Internal
open PySem PyProof.Rows
theorem IH {a b : List Int} (h : a.Perm b) : ce a = ce b := by
 have tr : ∀ a b c : Int, decide (a <= b) = true -> decide (b <= c) = true -> decide (a <= c) = true := fun a b c h1 h2 => Jf (Jp (Jr h1) (Jr h2))
 have tt : ∀ a b : Int, (decide (a <= b) || decide (b <= a)) = true := fun a b => Bool.or_eq_true_iff.mpr ((Int.le_total a b).imp Jf Jf)
 exact u2 ((List.mergeSort_perm a _).trans h) ((List.pairwise_mergeSort tr tt a).imp fun q => Jr q)
theorem II (D : List Int) : (ce D).length = D.length := List.length_mergeSort D
theorem IJ {D : List Int} {t : Int} (h : t ∈ ce D) : t ∈ D := (List.mergeSort_perm D _).mem_iff.mp h
noncomputable def dO (e : E5) : Option Int := match e with
 | .done _ x => some x
 | _ => none
noncomputable def IK (e : E5) : Option (Int × Int) := match e with
 | .done w x => some (x, w)
 | _ => none
def bO (es : List E5) : List Int := es.filterMap dO
def b8 (es : List E5) : List (Int × Int) := es.filterMap IK
theorem Az : ∀ es : List E5, (es.map f8).flatten = bO es
 | [] => rfl
 | e :: es => by
  rw [List.map_cons, List.flatten_cons, Az es]
  cases e <;> rfl
theorem oA : ∀ es : List E5, (b8 es).map (·.1) = bO es
 | [] => rfl
 | e :: es => by
  have := oA es
  cases e <;> first | exact this | exact congrArg (_ :: ·) this
noncomputable def bP (p : Int × Int) : AV := .tup [.int p.1, .int p.2]
theorem tc (ps : List (Int × Int)) : dP (ps.map fun p => (p.1, AV.int p.2)) = ps.map bP := by rw [dP, List.map_map]; rfl
theorem AB (ps : List (Int × Int)) : (ps.map fun p => (p.1, AV.int p.2)).map (·.1) = ps.map (·.1) := by rw [List.map_map]; rfl
theorem AC (e : E5) : (aL (Str.ofString e.tag) == 27304246985) = (dO e).isSome := by cases e <;> rfl
set_option tactic.hygienic true in
theorem oB {Φ : aR} {af : Nat} {K : HP} {e : E5} {es : List E5} {ps : List (Int × Int)} {ρ : an} (nd : (ps.map (·.1) ++ bO es).Nodup) (hl : ps.length + es.length <= 900000) (he : dO e = none)
  (ih : ∀ (ps : List (Int × Int)) (ρ : an), (ps.map (·.1) ++ bO es).Nodup -> ps.length + es.length <= 900000 -> ρ "found" = some (.dct K.length) -> ∃ ρ', bT (eL Φ af) (bb "event") (es.map E5.v) ρ (K ++ [ps.map bP]) = some (.next, ρ', K ++ [(ps ++ b8 es).map bP]) /\ ρ' "found" = some (.dct K.length)) (hf : ρ "found" = some (.dct K.length)) :
  ∃ ρ', sq (eL Φ af (upd ρ "event" e.v) (K ++ [ps.map bP])) (fun ρ H => bT (eL Φ af) (bb "event") (es.map E5.v) ρ H) = some (.next, ρ', K ++ [(ps ++ b8 es).map bP]) /\ ρ' "found" = some (.dct K.length) := by
 obtain ⟨ρ', h1, h2⟩ := ih ps (upd ρ "event" e.v) nd hl hf
 refine ⟨ρ', ?_, h2⟩
 obtain ⟨r, hr⟩ := kg e
 have hd := AC e
 rw [he] at hd
 rw [show eL Φ af (upd ρ "event" e.v) (K ++ [ps.map bP]) = some (.next, upd ρ "event" e.v, K ++ [ps.map bP]) by
  simp only [eL, hr, hd, Option.isSome_none, Qa, Qb, Qc, Qf, aq, au, QF, QK, aw, QW, cond_true, Q8, Zj, Zk, Nat.reduceBEq, Zl, j4, gn], Qc, h1]
set_option tactic.hygienic true in
theorem jo (Φ : aR) (af : Nat) (K : HP) : ∀ (es : List E5) (ps : List (Int × Int)) (ρ : an), (ps.map (·.1) ++ bO es).Nodup -> ps.length + es.length <= 900000 -> ρ "found" = some (.dct K.length) ->
  ∃ ρ', bT (eL Φ af) (bb "event") (es.map E5.v) ρ (K ++ [ps.map bP]) = some (.next, ρ', K ++ [(ps ++ b8 es).map bP]) /\ ρ' "found" = some (.dct K.length)
 | [], ps, ρ, _, _, hf => ⟨ρ, by rw [show ps ++ b8 [] = ps from JA ps]; rfl, hf⟩
 | e :: es, ps, ρ, nd, hl, hf => by
  rw [Jl] at hl
  have hf1 : (upd ρ "event" e.v) "found" = some (.dct K.length) := hf
  simp only [List.map_cons, bT, bb, Option.bind_some]
  cases e with
  | done w x =>
   have nd' : (ps.map (·.1) ++ (x :: bO es)).Nodup := nd
   have hx : x ∉ ps.map (·.1) := fun q => (List.nodup_append.mp nd').2.2 x q x Jj rfl
   have m2 := Aw (H := K ++ [ps.map bP]) (k := K.length) (ps := ps.map fun p => (p.1, AV.int p.2)) (t := x) (v := .int w) (by rw [n9, tc]) (by rw [AB]; exact hx) rfl (by rw [IZ]; unfold aM; exact am 0x110dbba03711a393110000037921 hl)
   rw [zE, show (ps.map fun p => (p.1, AV.int p.2)) ++ [(x, AV.int w)] = (ps ++ [(x, w)]).map fun p => (p.1, AV.int p.2) by rw [List.map_append]; rfl, tc] at m2
   obtain ⟨ρ', h1, h2⟩ := jo Φ af K es (ps ++ [(x, w)]) (upd ρ "event" (E5.done w x).v) (by rw [List.map_append, I5]; exact nd') (by rw [I2]; simp only [List.length_cons, List.length_nil]; exact am 0x110dbba03711a39310dbba037a1101393311 hl) hf1
   refine ⟨ρ', ?_, h2⟩
   rw [show eL Φ af (upd ρ "event" (E5.done w x).v) (K ++ [ps.map bP]) = some (.next, upd ρ "event" (E5.done w x).v, K ++ [(ps ++ [(x, w)]).map bP]) by
    simp only [eL, xA, E5.v, cK, asgI, hf, m2, Qa, Qb, Qc, Qe, aq, au, QF, QK, aw, QW, cond_true, cond_false, Jk, Q8, Q9, Za, Ja, Jb, Zj, Zk, Nat.reduceBEq, Zl, j4, gn, gq], Qc, h1, I5]
   rfl
  | own _ _ => exact oB nd (am 0x110dbba03711a39310dbba037a9311 hl) rfl (fun ps ρ a b c => jo Φ af K es ps ρ a b c) hf
  | taken _ _ _ => exact oB nd (am 0x110dbba03711a39310dbba037a9311 hl) rfl (fun ps ρ a b c => jo Φ af K es ps ρ a b c) hf
  | put _ _ => exact oB nd (am 0x110dbba03711a39310dbba037a9311 hl) rfl (fun ps ρ a b c => jo Φ af K es ps ρ a b c) hf
  | rests _ => exact oB nd (am 0x110dbba03711a39310dbba037a9311 hl) rfl (fun ps ρ a b c => jo Φ af K es ps ρ a b c) hf
set_option tactic.hygienic true in
theorem AD {es : List E5} (nd : (bO es).Nodup) (hl : es.length <= 900000) (m af : Nat) (H : HP) : ai CC (m+1) af "done_by" [.list (es.map E5.v)] H = some (.dct H.length, H ++ [(b8 es).map bP]) := by
 rw [Fw]
 obtain ⟨ρ', h1, h2⟩ := jo (ai CC m) af H es [] (upd (upd aF "events" (.list (es.map E5.v))) "found" (.dct H.length)) nd (by rw [List.length_nil]; exact az 0x110dbba037910dbba037901311 hl) rfl
 have a1 : newD H = some (.dct H.length, H ++ [[]]) := rfl
 have a2 : bJ (eL (ai CC m) af) (bb "event") (q7 (ai CC m) af (upd (upd aF "events" (.list (es.map E5.v))) "found" (.dct H.length))) (upd (upd aF "events" (.list (es.map E5.v))) "found" (.dct H.length)) (H ++ [[]]) = some (.next, ρ', H ++ [(b8 es).map bP]) := by
  simp only [bJ, q7, Qa, Qb, QC, cond_true, cond_false, Zj, Zk, Nat.reduceBEq, dN, gq]
  exact h1
 simp only [xE, xD, a1, xC, a2, xB, h2, Qa, Qb, Qc, Qd, aC, asgN, Qh, Zj]
theorem IL {H : HP} {k : Nat} {ps : List (Int × Int)} (t : Int) (h : H[k]? = some (ps.map bP)) : cN H (.int t) (.dct k) = some (decide (t ∈ ps.map (·.1))) := by
 show (H[k]?).map (dJ t) = _
 rw [h, <- tc, Option.map_some, s8, AB]
theorem AE {α : Type} {tst : an -> HP -> R Bool} {elt : an -> HP -> R AV} {x : Str} {ρ : an} {H : HP} {src : AV} {xs : List AV} (v : α -> AV) (d : α -> Option Int) (hs : cq src xs H) : ∀ {l : List α}, (∀ a ∈ l, tst (upd ρ x (v a)) H = some ((d a).isSome, H)) -> (∀ a ∈ l, ∀ t, d a = some t -> elt (upd ρ x (v a)) H = some (.int t, H)) -> dZ src xs tst elt x ρ (l.map v) H = some ((l.filterMap d).map AV.int, H)
 | [], _, _ => iW hs
 | a :: l, ht, he => by
  refine (iW hs).trans ?_
  have ih := AE v d hs (fun u m => ht u (JB _ m)) (fun u m => he u (JB _ m))
  show av (tst (upd ρ x (v a)) H) _ = _
  rw [ht a Jj, Qa]
  cases q : d a with
  | none => rw [List.filterMap_cons_none q]; exact ih
  | some t =>
   rw [List.filterMap_cons_some q]
   show av (elt (upd ρ x (v a)) H) _ = _
   rw [he a Jj t q, Qa, ih]
   rfl
theorem AF {α : Type} {tst : an -> HP -> R Bool} {elt : an -> HP -> R AV} {x : Str} {ρ : an} {it : HP -> R AV} {H H1 : HP} {l : List α} (v : α -> AV) (d : α -> Option Int) (hi : it H = some (.list (l.map v), H1)) (hl : l.length <= aM) (ht : ∀ a ∈ l, tst (upd ρ x (v a)) H1 = some ((d a).isSome, H1)) (he : ∀ a ∈ l, ∀ t, d a = some t -> elt (upd ρ x (v a)) H1 = some (.int t, H1)) :
  bg tst elt x ρ it H = some ((l.filterMap d).map AV.int, H1) := by
 have hl' : (l.map v).length <= aM := by rw [IZ]; exact hl
 simp only [bg, hi, Qa, show eg H1 (.list (l.map v)) = some (l.map v) from rfl, Qb, hl', if_true]
 exact AE (src := .list (l.map v)) (xs := l.map v) v d trivial ht he
theorem IM {aa ag : List (List Int)} {size : Nat} (p : ow size aa ag) {n : Nat} (hn : (a9 aa ag.flatten n).1 = []) (hk : ∀ k, k < n -> (a9 aa ag.flatten k).1 ≠ []) (hns : n <= size)
  {es : List E5} (nd : (bO es).Nodup) (hl : es.length <= 900000) (hall : ∀ t ∈ (a9 aa ag.flatten n).2, t ∈ bO es) (m af : Nat) (H : HP) :
  ∃ H', ai CC (m+2) af "undone" [aO aa ag, .list (es.map E5.v)] H = some (.list [], H') /\ Sub H H' := by
 have d := AD nd hl m af H
 obtain ⟨H2, c1, c2⟩ := IE p hn hk hns m af (H ++ [(b8 es).map bP])
 have hD := (d6 p.f n).len
 have hsz := p.sz
 have hc := c2 H.length _ (n9 H ((b8 es).map bP))
 have hcomp : bg (m6 (ai CC (m+1)) af) (rc (ai CC (m+1)) af) "task" (upd (upd (upd aF "plan" (aO aa ag)) "events" (.list (es.map E5.v))) "found" (.dct H.length)) (m7 (ai CC (m+1)) af (upd (upd (upd aF "plan" (aO aa ag)) "events" (.list (es.map E5.v))) "found" (.dct H.length))) (H ++ [(b8 es).map bP]) = some ([], H2) := by
  have := AF (l := ce (a9 aa ag.flatten n).2) (H1 := H2) (H := H ++ [(b8 es).map bP]) (it := m7 (ai CC (m+1)) af (upd (upd (upd aF "plan" (aO aa ag)) "events" (.list (es.map E5.v))) "found" (.dct H.length))) (tst := m6 (ai CC (m+1)) af) (elt := rc (ai CC (m+1)) af) (x := "task") (ρ := upd (upd (upd aF "plan" (aO aa ag)) "events" (.list (es.map E5.v))) "found" (.dct H.length)) AV.int (fun O => none) (by simp only [m7, c1, Qa, Qb, Qq, Qr, aP, cond_true, cond_false, Zj, Zk, Nat.reduceBEq, dN, gq, bU]; rfl) (by rw [II]; unfold aM; exact ay 0x111038427b1ba93110000037912 hD hsz)
   (fun t mt => by
    have hin : cN H2 (.int t) (.dct H.length) = some true := by rw [IL t hc, oA, Jf (hall t (IJ mt))]
    simp only [m6, hin, Qa, Qb, QF, QN, aw, QW, QX, QZ, cond_true, cond_false, Jg, Ji, Zj, Zk, Nat.reduceBEq, dN, gq, bU, fD]
    rfl) (fun t O u q => by cases q)
  rw [this]
  simp
 refine ⟨H2, ?_, (Sub.refl.app _).trans c2⟩
 rw [Fx]
 simp only [xH, xG, d, xF, hcomp, Qa, Qb, Qc, Qd, aC, asgN, Qh, Qq, Qr, aP, cond_true, cond_false, Q5, Zj, Zk, Nat.reduceBEq, dN, bU]
end Mine.Internal
namespace Mine.Internal
open PySem PyProof.Rows
theorem AG : ∀ {es : List Evt}, (∀ e ∈ es, e ≠ .none) -> aQ es = (es.map fq).map E5.v
 | [], _ => rfl
 | e :: es, h => by
  show e.v :: aQ es = (fq e).v :: (es.map fq).map E5.v
  rw [AG fun e m => h e (JB _ m)]
  cases e with
  | none => exact absurd rfl (h _ Jj)
  | _ => rfl
theorem AH : ∀ ag : List (List Int), Sy (b7 ag).1 (b7 ag).2 = s0 ag
 | [] => rfl
 | t :: ts => by
  have ih := AH ts
  have q : aX ⟨0, (t.length : Int), t⟩ .free = t := by
   show (t.drop 0).take ((t.length : Int).toNat - 0) = t
   simp
  have e : ∀ s : S3, ∀ l h r, s = ⟨l, h, r⟩ -> s.rows = l /\ s.hs = h /\ s.rs = r := fun s l h r e => by subst e; exact ⟨rfl, rfl, rfl⟩
  obtain ⟨i1, i2, i3⟩ := e _ _ _ _ ih
  show S3.mk (aX ⟨0, (t.length : Int), t⟩ .free :: _) (none :: _) (false :: _) = _
  rw [q]
  exact congr (congr (congrArg S3.mk (congrArg (t :: ·) i1)) (congrArg (none :: ·) i2)) (congrArg (false :: ·) i3)
section
variable {aa ag : List (List Int)} {c U : Int -> Nat}
theorem IN (ag : List (List Int)) : RZ aa c U (s0 ag) = wS U ag.flatten := by
 have h1 : ∀ l : List (List Int), ((l.map fun O => (none : Option (Int × Int))).map (hW aa c U)).sum = 0 := fun l => by
  induction l with
  | nil => rfl
  | cons a l ih => simp only [List.map_cons, List.sum_cons, ih]; rfl
 have h2 : ∀ l : List (List Int), (l.map (wS U)).sum = wS U l.flatten := fun l => by
  induction l with
  | nil => rfl
  | cons a l ih => rw [List.map_cons, List.sum_cons, ih, List.flatten_cons, qu]
 unfold RZ s0
 dsimp only
 rw [h1, h2]; rfl
theorem AI : ∀ (rows : List Rw) (sts : List St), Em rows sts -> (∀ s ∈ sts, bE (some s) = true) -> RZ aa c U (Sy rows sts) = 0
 | [], sts, _, h => by
  have : ∀ l : List St, (∀ s ∈ l, bE (some s) = true) -> ((l.map hld).map (hW aa c U)).sum = 0 := fun l hl => by
   induction l with
   | nil => rfl
   | cons a l ih =>
    have h1 := hl a Jj
    rw [List.map_cons, List.map_cons, List.sum_cons, ih fun s m => hl s (JB _ m)]
    cases a <;> first | rfl | cases h1
  show 0 + _ = 0
  rw [Nat.zero_add]; exact this sts h
 | r :: rows, [], _, _ => rfl
 | r :: rows, s :: sts, em, h => by
  have ih := AI rows sts (fun j r s h1 h2 => em (j + 1) r s h1 h2) fun s m => h s (JB _ m)
  have h1 := h s Jj
  have h2 := em 0 r s rfl rfl
  cases s with
  | rests =>
   have h3 : aX r .rests = [] := jc h2
   have e : RZ aa c U (Sy (r :: rows) (.rests :: sts)) = RZ aa c U (Sy rows sts) := by
    show (wS U (aX r .rests) + _) + (0 + _) = _
    rw [h3, Nat.zero_add]
    show 0 + _ + _ = _
    rw [Nat.zero_add]; rfl
   rw [e, ih]
  | _ => cases h1
end
section
variable {aa ag : List (List Int)} {size n W B : Nat} {y : Yy}
theorem IP (f : d5 aa ag.flatten size) (hn : (a9 aa ag.flatten n).1 = []) {E : List E5} (hr : run aa (s0 ag) E = some (Sy y.1 y.2)) (em : Em y.1 y.2) (ov : ec y = true) : (bO E).Perm (a9 aa ag.flatten n).2 := by
 refine List.perm_iff_count.mpr fun x => ?_
 obtain ⟨U, hU⟩ := wp (qr x) f
 have k := wE hU E (s0 ag) _ (by unfold s0; simp) (fun p m => by obtain ⟨_, _, q⟩ := Jm.mp m; cases q) hr
 rw [AI y.1 y.2 em (List.all_eq_true.mp ov), IN, Az] at k
 have h1 := qp (L0 := ag.flatten) hU n
 rw [hn] at h1
 have h2 : wS U [] = 0 := rfl
 rw [<- qs, <- qs]
 exact aN 0x1911019101c3bac33b90133a933 k h1 h2
set_option tactic.hygienic true in
theorem AJ (hbr : ∀ row ∈ aa, ∀ t ∈ row, 0 <= t /\ t < (aa.length : Int)) : ∀ (E : List E5) (s s' : S3) (B : Nat), Ok3 aa W B s -> run aa s E = some s' -> ∀ e ∈ E, 0 <= e.w /\ e.w < (W : Int)
 | [], _, _, _, _, _ => fun O m => nomatch m
 | e :: E, s, s', B, o, h => by
  obtain ⟨s1, hs, h⟩ := Option.bind_eq_some_iff.mp (show (cj aa s e).bind (fun s => run aa s E) = some s' from h)
  unfold cj at hs
  split at hs
  ·rename_i q
   have q2 := q.2.1
   rw [o.lr] at q2
   intro e' m
   rcases Jx.mp m with rfl | m
   ·exact ⟨q.1, q2⟩
   ·exact AJ hbr E s1 s' (B + 1) (sO hbr o (by exact aZ 0x111995ba59aa922 q2 (I7 (aG 0x11901990191 q.1))) hs).1 h e' m
  ·cases hs
end
end Mine.Internal
namespace Mine.Internal
open PySem PyProof.Rows
section
variable {aa ag : List (List Int)} {size n W : Nat} {y : Yy}
structure PX (size W : Nat) (aa ag : List (List Int)) : Prop where
 g : ow size aa ag
 hbr : ∀ row ∈ aa, ∀ t ∈ row, 0 <= t /\ t < (aa.length : Int)
 hb : ∀ t, (br aa t).length <= 900
 h1 : ag.length = W
 hW : W <= 12
 h2 : ∀ row ∈ ag, row.length <= 900 /\ ∀ t ∈ row, 0 <= t /\ t < (aa.length : Int)
structure td (ρ : an) (aa ag : List (List Int)) (W : Nat) (y : Yy) (E : List E5) (due : AV) : Prop where
 pl : ρ "_law_plan" = some (aO aa ag)
 ev : ρ "_law_events" = some (.list (E.map E5.v))
 mn : ρ "_law_many" = some (.int (W : Int))
 ya : ρ "_law_yard" = some (aU y.1 y.2)
 du : ρ "_law_due" = some due
set_option tactic.hygienic true in
theorem IQ (Φ : aR) (af : Nat) {due : AV} {E : List E5} {ρ : an} (e : td ρ aa ag W y E due) (hh : ∀ r ∈ y.1, r.t <= r.h) : ∃ ρ', bJ (nA Φ af) (bM ["_law_head", "_law_tail", "_law_places"]) (nB Φ af ρ) ρ [] = some (.next, ρ', []) /\ td ρ' aa ag W y E due := by
 have y0 : ∀ G, aS G (aU y.1 y.2) (.int 0) = some (.tup (y.1.map Rw.v)) := fun G => Q8 G _ _
 obtain ⟨ρ', H', h1, rfl, h2⟩ := iX (body := nA Φ af) (tgt := bM ["_law_head", "_law_tail", "_law_places"]) (it := nB Φ af ρ) (ρ := ρ) (H := []) (H1 := []) (src := .tup (y.1.map Rw.v)) (xs := y.1.map Rw.v)
  (fun O ρ G => G = [] /\ td ρ aa ag W y E due) (by simp only [nB, e.ya, y0, Qa, Qb, au, Zj]) rfl ⟨rfl, e⟩ (by
   rintro i v ρ G hv ⟨rfl, e⟩
   obtain ⟨r, hr, rfl⟩ := Jm.mp (List.mem_of_getElem? hv)
   have hn : ¬ r.h < r.t := by have := hh r hr; exact bj 4725516753 this
   refine ⟨upd (upd (upd ρ "_law_head" (.int r.h)) "_law_tail" (.int r.t)) "_law_places" (iT r.p), upd (upd (upd ρ "_law_head" (.int r.h)) "_law_tail" (.int r.t)) "_law_places" (iT r.p), [], rfl, ?_, rfl, ⟨e.pl, e.ev, e.mn, e.ya, e.du⟩⟩
   simp only [nA, hn, Qa, Qb, Qc, Qf, aq, QF, QG, aw, QW, cond_true, cond_false, decide_false, Zj, Zk, Nat.reduceBEq, Gh, Gi, Gj])
 exact ⟨ρ', h1, h2⟩
theorem IR (px : PX size W aa ag) (hn : (a9 aa ag.flatten n).1 = []) (hk : ∀ k, k < n -> (a9 aa ag.flatten k).1 ≠ []) (hns : n <= size) {E : List E5} (hl : E.length <= 900000) (hr : run aa (s0 ag) E = some (Sy y.1 y.2)) (ov : ec y = true) (em : Em y.1 y.2) (hyl : y.1.length = y.2.length) (hl2 : y.2.length <= 100)
  {ρ : an} (pl : ρ "_law_plan" = some (aO aa ag)) (ev : ρ "_law_events" = some (.list (E.map E5.v))) (mn : ρ "_law_many" = some (.int (W : Int))) (ya : ρ "_law_yard" = some (aU y.1 y.2)) (m : Nat) : ∃ ρ' H', jY (ai CC (m+6)) 0 ρ [] = some (.ret (.bool true), ρ', H') := by
 have pm := IP px.g.f hn hr em ov
 have hD := (d6 px.g.f n).len
 have hsz := px.g.sz
 have co := IG px.g hn hk hns (m+5) 0
 have nd : (bO E).Nodup := pm.nodup_iff.mpr (List.nodup_append.mp (d6 px.g.f n).nd).1
 obtain ⟨H', un, sb⟩ := IM px.g hn hk hns nd hl (fun t q => pm.mem_iff.mpr q) (m+4) 0 [(b8 E).map bP]
 have es := IH pm
 rw [<- es] at co
 have dl : (bO E).length <= 900 := by rw [pm.length_eq]; exact ay 0x111038427b1ba931038427912 hD hsz
 have sd : ∀ G, c7 .sorted [iL (bO E)] G = some (iL (ce (bO E))) := fun G => s7 rfl rfl (az 0x110384279103e827911 dl)
 have eq1 : ∀ G, dW G (iL (ce (bO E))) (iL (ce (bO E))) = some true := fun G => by rw [oi, Jf rfl]
 have cd : bg (rO (ai CC (m+6)) 0) (rP (ai CC (m+6)) 0) "_law_event" (upd ρ "_law_due" (iL (ce (bO E)))) (rQ (ai CC (m+6)) 0 (upd ρ "_law_due" (iL (ce (bO E))))) [] = some ((bO E).map AV.int, []) :=
  AF (l := E) E5.v dO (by simp only [rQ, ev, Qb, cond_false, Zj, Zk, Nat.reduceBEq, nR, gj]) (bC (az 0x110dbba037910f424037911 hl)) (fun e O => by
   obtain ⟨r, hr⟩ := kg e
   simp only [rO, hr, AC, Qa, Qb, au, QF, QK, aw, QW, QX, QZ, cond_true, cond_false, Q8, Zj, Zk, Nat.reduceBEq, Zl, nR, nS, j4]
   cases (dO e).isSome <;> rfl) (fun e O t q => by
   cases e with
   | done w x => cases q; simp only [rP, E5.v, cK, Qa, Qb, au, cond_true, cond_false, Za, Ja, Jb, Zj, Zk, Nat.reduceBEq, nR, nS]
   | _ => cases q)
 have io := sF (m+5) 0 y [] hl2
 rw [ov] at io
 have hh : ∀ r ∈ y.1, r.t <= r.h := fun r q => by
  obtain ⟨j, hj, rfl⟩ := List.mem_iff_getElem.mp q
  have hj2 : j < y.2.length := by exact ay 0x111b92ab3a922 hyl hj
  have h1 := List.all_eq_true.mp ov y.2[j] (List.getElem_mem hj2)
  have h2 := em j y.1[j] y.2[j] (I3 hj) (I3 hj2)
  generalize y.2[j] = s at h1 h2
  cases s with
  | rests => exact h2
  | _ => cases h1
 obtain ⟨ρ3, fl, e3⟩ := IQ (ai CC (m+6)) 0 (ρ := upd (upd ρ "_law_due" (iL (ce (bO E)))) "_law_done" (iL (bO E))) (aa := aa) (ag := ag) (W := W) (y := y) (E := E) (due := iL (ce (bO E))) ⟨pl, ev, mn, ya, rfl⟩ hh
 have hW := px.hW
 have rp := H8 px.hbr px.hb px.h1 (az 0x11c191642911 hW) px.h2 E hl hr (m+4)
 have rt := Iz px.hbr px.h1 (az 0x11c191642911 hW) px.h2 E hl hr (m+2)
 have db := AD nd hl (m+5) 0 []
 have k18 : jY (ai CC (m+6)) 0 ρ [] = nE (ai CC (m+6)) 0 ρ3 [] := by
  have cd' := congrArg dB cd
  rw [Q5] at cd'
  have a1 : jY (ai CC (m+6)) 0 ρ [] = rT (ai CC (m+6)) 0 (upd (upd ρ "_law_due" (iL (ce (bO E)))) "_law_done" (iL (bO E))) [] := by
   simp only [jY, pl, co, yI, cd', Qa, Qb, Qc, asgN, Qq, Qr, aP, Zj]
   rfl
  rw [a1]
  simp only [rT, sd, eq1, ya, io, yH, fl, Qa, Qb, Qc, Qf, aq, Qq, Qr, aP, aK, QF, QL, aw, QW, cD, QY, Q0, cond_true, cond_false, Jg, Ji, Zj, Zk, Nat.reduceBEq, Gg, nR, g8]
 have ist : ∀ G, cO .IsNot (.bool true) (.bool true) G = some false := fun G => rfl
 have isn : cI (sP (Sy y.1 y.2)) = false := rfl
 generalize e4 : upd ρ3 "_law_by" (.dct 0) = ρ4
 have k16 : nE (ai CC (m+6)) 0 ρ3 [] = rS (ai CC (m+6)) 0 ρ4 [(b8 E).map bP] := by
  have db' : ai CC (m+6) 0 "done_by" [.list (E.map E5.v)] [] = some (.dct 0, [(b8 E).map bP]) := db
  simp only [nE, e3.pl, e3.ev, rp, rt, ist, isn, yG, db', e4, Qa, Qb, Qc, Qf, aq, asgN, Qq, Qr, aP, QF, QO, aw, QW, QY, Q0, cond_false, Zj]
 have by4 : ρ4 "_law_by" = some (.dct 0) := by rw [<- e4]; rfl
 have pl4 : ρ4 "_law_plan" = some (aO aa ag) := by rw [<- e4]; exact e3.pl
 have ev4 : ρ4 "_law_events" = some (.list (E.map E5.v)) := by rw [<- e4]; exact e3.ev
 have du4 : ρ4 "_law_due" = some (iL (ce (bO E))) := by rw [<- e4]; exact e3.du
 have mn4 : ρ4 "_law_many" = some (.int (W : Int)) := by rw [<- e4]; exact e3.mn
 have sb1 : c7 .sorted [.dct 0] [(b8 E).map bP] = some (iL (ce (bO E))) := by
  show iC (((b8 E).map bP).map iA) = _
  rw [List.map_map, show (b8 E).map (iA ∘ bP) = (bO E).map AV.int by rw [<- oA, List.map_map]; rfl]
  unfold iC
  rw [Au]
  exact Id (bC (az 0x11038427910f424037911 dl))
 have h0 := sb 0 _ (show ([(b8 E).map bP] : HP)[0]? = some ((b8 E).map bP) from rfl)
 have pl2 : (b8 E).length <= 1000 := by rw [<- IZ (f := fun p : Int × Int => p.1), oA]; exact az 0x110384279103e827911 dl
 have wl : ∀ p ∈ b8 E, 0 <= p.2 /\ p.2 < (W : Int) := fun p q => by
  obtain ⟨e, me, hp⟩ := List.mem_filterMap.mp q
  have := AJ px.hbr E (s0 ag) _ 900 (sR px.h1 px.h2) hr e me
  cases e with
  | done w x => cases hp; exact this
  | _ => cases hp
 have cw : bg bq (rR (ai CC (m+6)) 0) "_law_w" ρ4 (yF (ai CC (m+6)) 0 ρ4) H' = some (((b8 E).map fun p => AV.int p.2).map fun O => AV.bool true, H') := by
  refine mo (src := .itm 0) (xs := (b8 E).map fun p => AV.int p.2) (fun O => AV.bool true) ?_ ?_ (by rw [IZ]; exact bC (az 0x1103e827910f424037911 pl2)) ?_
  ·show av (ae ρ4 "_law_by" H') _ = _
   rw [cx by4, Qa]
   show (if (true && (H'[0]?).isSome) = true then some (AV.itm 0, H') else none) = _
   rw [h0]; rfl
  ·show (H'[0]?).map _ = _
   rw [h0, Option.map_some, List.map_map]; rfl
  ·intro v hv
   obtain ⟨p, hp, rfl⟩ := Jm.mp hv
   obtain ⟨q1, q2⟩ := wl p hp
   simp only [rR, eu, mn4, q1, q2, Qa, Qb, QF, QG, QH, cond_true, cond_false, decide_true, Zj, Zk, Nat.reduceBEq, b6, zl]
 have cw' := congrArg dB cw
 rw [Q5] at cw'
 have eq2 : ∀ G, dW G (.list []) (.list []) = some true := fun G => (oi G [] []).trans rfl
 refine ⟨ρ4, H', ?_⟩
 rw [k18, k16]
 simp only [rS, by4, sb1, du4, eq1, pl4, ev4, un, eq2, cw', EK, EL, Qa, Qb, Qd, aC, Qq, Qr, aP, aK, Qx, QF, QK, QW, Q1, Q2, cond_true, Ji, Zj, ↓ZA]
end
end Mine.Internal
namespace Mine.Internal
open PySem PyProof.Rows
theorem IS {size aA : Nat} {aa ag : List (List Int)} (p : PlanOk size aA size aa ag) (h0 : 0 < aA) (h12 : aA <= 12) (hs : size <= 900) : PX size aA aa ag where
 g := ⟨Hw p, by rw [p.ls]; exact h0, hs⟩
 hbr := fun row m t mt => by
  obtain ⟨j, hj, e⟩ := List.mem_iff_getElem.mp m
  have := (p.br j row (by rw [I3 hj, e])).2 t mt
  rw [p.lb]; exact ⟨aV 0x11995a90191 this.1, aV 0x11959a959a1 this.2⟩
 hb := fun t => by
  unfold br
  cases hb : aa[t.toNat]? with
  | none => exact Nat.zero_le _
  | some row => exact Je (p.br _ _ hb).1 hs
 h1 := p.ls
 hW := h12
 h2 := fun row m => by
  obtain ⟨j, hj, e⟩ := List.mem_iff_getElem.mp m
  have := p.st j row (by rw [I3 hj, e])
  exact ⟨Je this.1 hs, fun t mt => by rw [p.lb]; exact this.2 t mt⟩
theorem AL {size aA : Nat} {aa ag : List (List Int)} (p : PlanOk size aA size aa ag) (hm0 : 0 < aA) (hm12 : aA <= 12) (hs : size <= 900) (hN : 2 * aA + 6 + (2 * aA + 12) * size < 4000) (ns : List Int) (n : Nat) {ρ : an} (sc : ρ "_law_script" = some (.list (ns.map AV.int))) (pl : ρ "_law_plan" = some (aO aa ag)) :
  ∃ ρ' H', nG (ai CC (n+6)) 0 ρ [] = some (.ret (.bool true), ρ', H') := by
 have px := IS p hm0 hm12 hs
 obtain ⟨V, hV, hVs⟩ := E9 aA px.g.f
 have j0 := HB (V := V) p hVs
 have pv : jk aa ag V aA (size + (2 * aA + 12) * size) := ⟨Hx p (az 0x11c191642911 hm12), hV, by exact ay 0x1110fa027a61b2633203842791015f9037a9312 hs hN⟩
 have s1 : ai CC (n+6) 0 "started" [aO aa ag] [] = some (aU (b7 ag).1 (b7 ag).2, []) := by
  rw [show aU (b7 ag).1 (b7 ag).2 = j9 ag from (Hs ag).symm]
  exact Hr (n+5) 0 _ _ [] (ag.map iL) ag rfl (by simp [List.map_map, Function.comp_def, iL, bf, eZ]) (bC (by rw [p.ls]; exact am 0x120fa027a619263320f424037911 hN))
 obtain ⟨cells, hc, hcl⟩ := Ht [] ns 22 62
 have hc' : dt [] (.list (ns.map AV.int)) (some 22) (some 62) = some (.list (cells.map AV.int)) := hc
 obtain ⟨wsI, hws, wl, wm⟩ := Hn (n+5) 0 cells aA [] hm0 (az 0x11c1911e2911 hm12) (az 0x113e2910bb827911 hcl)
 obtain ⟨ws, rfl, hwlt⟩ := zV wm
 rw [IZ] at wl
 have hiL : iL (ws.map fun (n : Nat) => (n : Int)) = .list (ws.map fun (w : Nat) => AV.int (w : Int)) := by unfold iL; rw [List.map_map]; rfl
 rw [hiL] at hws
 obtain ⟨y, es, t, j⟩ := j8 pv ws (b7 ag) hwlt j0
 have tl := t.len
 have hy2 : (b7 ag).2.length = aA := by rw [<- j0.yd.len, j0.len]
 have wv := zR t (by lia) (fun w m => by rw [hy2]; exact hwlt w m) (n+1) 0
 have hpl : ∀ G, aS G (aO aa ag) (.int 1) = some (.list (ag.map iL)) := fun G => Q9 G _ _ _
 have ls := p.ls
 have hc0 : ai CC (n+6) 0 "_law_cell_at" [.list (ns.map AV.int), .int 0] [] = some (.int (dF ns 0), []) := ka (n+5) 0 ns 0 [] (bt 16843152)
 have o22 := jm (i := 22) (by decide)
 have o62 := jm (i := 62) (by decide)
 generalize dF ns 0 = c at hc0
 generalize e2 : upd (upd (upd (upd ρ "_law_many" (.int (aA : Int))) "_law_yard" (aU y.1 y.2)) "_law_events" (.list (aQ es))) "_law_cell" (.int c) = ρ2
 have p2 : ρ2 "_law_plan" = some (aO aa ag) := by rw [<- e2]; exact pl
 have y2 : ρ2 "_law_yard" = some (aU y.1 y.2) := by rw [<- e2]; rfl
 have v2 : ρ2 "_law_events" = some (.list (aQ es)) := by rw [<- e2]; rfl
 have m2 : ρ2 "_law_many" = some (.int (aA : Int)) := by rw [<- e2]; rfl
 have c2 : ρ2 "_law_cell" = some (.int c) := by rw [<- e2]; rfl
 have a1 : nG (ai CC (n+6)) 0 ρ [] = nF (ai CC (n+6)) 0 ρ2 [] := by
  simp only [nG, pl, hpl, ls, yK, sc, s1, o22, o62, hc', hws, wv, yJ, hc0, e2, Qa, Qb, Qc, asgN, asgT, au, bX, Qq, Qr, aP, aK, Qs, bI, QA, cond_true, cond_false, Q4, Jk, bi, List.length_map, Ji, Zj, Zk, Nat.reduceBEq, gj, b6, dM, dg, g8]
 rw [a1]
 obtain ⟨nn, hns, hn, hk⟩ := wn px.g.f
 have fin : ∀ {y' : Yy} {es2 : List Evt} {ws2 : List Nat}, Jv aa V aA (size + (2 * aA + 12) * size) (2 * aA + 6 + (2 * aA + 12) * size) y' -> ec y' = true -> es2.length <= 400000 -> Tr aa ag V aA ws2 y y' es2 -> ∃ ρ' H', rU (ai CC (n+6)) 0 (upd (upd ρ2 "_law_yard" (aU y'.1 y'.2)) "_law_more" (.list (aQ es2))) [] = some (.ret (.bool true), ρ', H') := fun {y' es2 ws2} j' ov hl t2 => by
  have hcat := oa (a := aQ es) (b := aQ es2) (H := []) (bC (by unfold aQ; rw [IZ, IZ]; lia))
  have ta := t.app t2
  rw [show aQ es ++ aQ es2 = aQ (es ++ es2) by simp [aQ], AG ta.some] at hcat
  obtain ⟨em, hr⟩ := ta.sim j0.yd j0.em
  rw [AH] at hr
  have hyl := j'.yd.len
  obtain ⟨ρ', H', h⟩ := IR px hn hk hns (E := (es ++ es2).map fq) (by rw [IZ, I2]; lia) hr ov em hyl (by rw [<- hyl, j'.len]; exact az 0x11c191642911 hm12) (ρ := upd (upd (upd ρ2 "_law_yard" (aU y'.1 y'.2)) "_law_more" (.list (aQ es2))) "_law_events" (.list (((es ++ es2).map fq).map E5.v))) p2 rfl m2 rfl n
  refine ⟨ρ', H', ?_⟩
  simp only [rU, v2, hcat, h, Qa, Qb, Qc, asgN, aB, cond_true, cond_false, Zj, Zk, Nat.reduceBEq, gj, zk, g8]
 have hNW : (2 * aA + 6 + (2 * aA + 12) * size) * aA <= 4000 * 12 := Nat.mul_le_mul (am 0x110fa027a619263320fa027a619263311 hN) hm12
 by_cases q : c % 2 = 0
 ·obtain ⟨y', es2, hf, j3, ov, hl3, ws2, _, t2⟩ := Hj pv j (am 0x110fa027a619263320186a037a619263321 hN) (by lia) (n+1) 0
  obtain ⟨ρ', H', h⟩ := fin j3 ov (by lia) t2
  refine ⟨ρ', H', ?_⟩
  simp only [nF, c2, bK, q, yD, p2, y2, hf, h, Qa, Qb, Qc, Qe, aq, asgT, aB, Qq, Qr, aP, QF, QK, aw, QW, Q4, Jk, bi, Zg, decide_true, Int.reduceLT, Zj]
 ·obtain ⟨y', es2, hf, j3, ov, hl3, ws2, t2⟩ := HI pv j hN hm0 hm12 p.ls n 0 (c / 2)
  obtain ⟨ρ', H', h⟩ := fin j3 ov (by lia) t2
  refine ⟨ρ', H', ?_⟩
  simp only [nF, c2, bK, dE, q, yE, p2, y2, hf, h, Qa, Qb, Qc, Qf, aq, asgT, aB, Qq, Qr, aP, QF, QK, aw, QW, Q4, Jk, bi, Zg, decide_false, Int.reduceLT, Zj]
theorem law_eval (n : Nat) (ns : List Int) (hlen : ns.length <= 63) : ∃ H', ai CC (n+7) 0 "law" [.list (ns.map AV.int)] [] = some (.bool true, H') := by
 rw [FT]
 obtain ⟨size, aA, aa, ag, hplan, p, hm0, hm12, hs⟩ := Hv (n+4) 0 ns 1 20 (bt 17891728) (bt 289538448) (bt 0x103842714290)
 have hplan' : ai CC (n+6) 0 "_law_plan_by" [.list (ns.map AV.int), .int 1, .int 20] [] = some (aO aa ag, []) := hplan
 have hc0 : ai CC (n+6) 0 "_law_cell_at" [.list (ns.map AV.int), .int 0] [] = some (.int (dF ns 0), []) := ka (n+5) 0 ns 0 [] (bt 16843152)
 have hc1 : ai CC (n+6) 0 "_law_cell_at" [.list (ns.map AV.int), .int 1] [] = some (.int (dF ns 1), []) := ka (n+5) 0 ns 1 [] (bt 17891728)
 have hg : ¬ (ns.length : Int) > 63 := by exact az 0x113f291953f2d1 hlen
 have hmul : ∀ G, ct .Mult (.int 40) (.int 0) G = some (.int 0) := fun G => rfl
 have b0 : nI (ai CC (n+6)) 0 (upd aF "_law_script" (.list (ns.map AV.int))) [] = nH (ai CC (n+6)) 0 (upd (upd aF "_law_script" (.list (ns.map AV.int))) "_law_plan" (aO aa ag)) [] := by
  simp only [nI, hg, hmul, hplan', Int.add_zero, Qa, Qb, Qc, asgN, aB, Qo, Qq, Qr, aP, aK, Qs, Qy, bI, QA, QF, QI, cond_true, List.length_map, if_false, Ji, decide_false, Bool.false_eq_true, Zj, Zk, Nat.reduceBEq, dg]
 show ∃ H', ba (nI (ai CC (n+6)) 0 (upd aF "_law_script" (.list (ns.map AV.int))) []) = _
 rw [b0]
 by_cases q : dF ns 0 / 2 % 16 = 5
 ·obtain ⟨size2, many2, brood2, starts2, hlong, p2, hm2, hm3, hs2⟩ := HF (n+5) 0 (dF ns 1)
  have hlong' : ai CC (n+6) 0 "_law_long" [.int (dF ns 1)] [] = some (aO brood2 starts2, []) := hlong
  have hb : (2 * many2 + 12) * size2 <= 18 * 200 := Nat.mul_le_mul (az 0x213191122c1926311 hm3) hs2
  obtain ⟨ρ', H', h⟩ := AL p2 hm2 (az 0x113191c1911 hm3) (az 0x11c8291038427911 hs2) (by lia) ns n (ρ := upd (upd (upd aF "_law_script" (.list (ns.map AV.int))) "_law_plan" (aO aa ag)) "_law_plan" (aO brood2 starts2)) rfl rfl
  refine ⟨H', ?_⟩
  simp only [nH, hc0, dE, bK, q, yC, hc1, hlong', h, Qa, Qb, Qc, Qe, aq, asgN, Qh, aB, Qq, Qr, aP, QF, QK, aw, QW, cond_true, cond_false, Zg, decide_true, Int.reduceLT, Zj, Zk, Nat.reduceBEq, dM, dg]
 ·have hb : (2 * aA + 12) * size <= 36 * 20 := Nat.mul_le_mul (az 0x21c191242c1926311 hm12) (az 0x11142959142911 hs)
  obtain ⟨ρ', H', h⟩ := AL p hm0 hm12 (az 0x11142959038427911 hs) (by lia) ns n (ρ := upd (upd aF "_law_script" (.list (ns.map AV.int))) "_law_plan" (aO aa ag)) rfl rfl
  refine ⟨H', ?_⟩
  simp only [nH, hc0, dE, bK, q, h, Qa, Qb, Qc, Qf, aq, Qh, aB, Qq, Qr, aP, QF, QK, aw, QW, cond_true, cond_false, Zg, decide_false, Int.reduceLT, Zj, Zk, Nat.reduceBEq, dM, dg]
end Mine.Internal
theorem PySem.Challenge.cw_uf040021_13_holds : PySem.Challenge.rw_uf040021_13.Holds := by
  w_on
  refine PySem.W.holds_law Mine.Internal.said fun said => ?_
  refine PySem.W.holds_open (q := Mine.Internal.viewQ) (loose := []) (Xt := fun s => PySem.W.xlAt Mine.Internal.viewQ [] s && PySem.W.recOk (PySem.W.RowW.records (PySem.W.OpenRow.toRowW PySem.Challenge.rw_uf040021_13.row)) s) (XP := PySem.W.XL Mine.Internal.viewQ []) (Yf := PySem.W.Hook.obs PySem.W.Hook.none) (Ya := PySem.W.Hook.val PySem.W.Hook.none) (YP := PySem.W.Hook.says PySem.W.Hook.none) (N := 3992) Mine.Internal.left0 (PySem.W.Hook.of PySem.W.Hook.none) (PySem.W.Hook.keeps PySem.W.Hook.none) (fun s e => PySem.W.xl_of s (Bool.and_eq_true_iff.mp e).1) PySem.W.XL.keeps (by rfl) (by rfl) (by rfl) (fun s e => PySem.W.recFacts_of (Bool.and_eq_true_iff.mp e).2) (by rfl) (by first | assumption | decide +kernel) (by decide +kernel) ⟨rfl, rfl, rfl, rfl, rfl, by decide +kernel⟩ ?hw ?hc
  case hw => w_witness2
  exact (Mine.Internal.walk_of Mine.Internal.CC 60 rfl rfl (by decide) (by decide) (by kernel_rfl) (by decide +kernel) (.inr (by kernel_rfl)) (by decide +kernel) (by decide +kernel) (by decide +kernel) (fun ns h => Mine.Internal.law_eval 53 ns h))
