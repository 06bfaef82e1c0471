import JvmDerived
import JvmDerived.Pilot.@@N@@Statement
import JvmDerived.Pilot.@@N@@Code
set_option linter.unusedVariables false
set_option linter.unusedSimpArgs false
namespace Jvm.OwnEv
open Sem ClassFile Op Lib Jvm.Stand Jvm.Free Jvm.LawKit Jvm.RoadKit
/-! PART 1: a small evaluator of bytecode over a memory of its own (defs alone). A memory: the cells made (kind, class, size), and what they hold: ints, longs, references. -/
abbrev ELay : Type := List (Nat × String × Nat)
abbrev EMem : Type := ELay × (Nat → Nat → Int32) × (Nat → Nat → Int64) × (Nat → Nat → Value)
def up {α : Type} (f : Nat → Nat → α) (a k : Nat) (v : α) : Nat → Nat → α := fun x y => if x = a ∧ y = k then v else f x y
def szL (L : ELay) : Nat := (L.map fun c => c.2.2).sum
def wt (vs : List Value) : Nat := (vs.map fun v => v.category).sum
def setL : List Slot → Nat → Slot → Option (List Slot)
  | [], _, _ => none
  | _ :: t, 0, x => some (x :: t)
  | h :: t, n + 1, x => match setL t n x with
    | some t' => some (h :: t')
    | none => none
def storeSelfL (l : List Slot) (i : Nat) (v : Value) : Option (List Slot) :=
  match setL l i (.val v) with
  | none => none
  | some l1 => if v.category = 2 then
      match l1[i + 1]? with
      | none => none
      | some (.val old) => if old.category = 2 then
          match setL l1 (i + 2) .unset with
          | none => none
          | some l2 => setL l2 (i + 1) .second
        else setL l1 (i + 1) .second
      | some _ => setL l1 (i + 1) .second
    else some l1
def storeL (l : List Slot) (i : Nat) (v : Value) : Option (List Slot) :=
  match l[i]? with
  | none => none
  | some .second => match setL l (i - 1) .unset with
    | none => none
    | some l' => storeSelfL l' i v
  | some (.val old) => if old.category = 2 then
      match setL l (i + 1) .unset with
      | none => none
      | some l' => storeSelfL l' i v
    else storeSelfL l i v
  | some .unset => storeSelfL l i v
def fillL : List Value → List Slot
  | [] => []
  | v :: t => if v.category = 2 then .val v :: .second :: fillL t else .val v :: fillL t
def entryL (as : List Value) (maxL : Nat) : List Slot := fillL as ++ List.replicate (maxL - (fillL as).length) .unset
/-! what the sheet's words say -/
def kindD (d : String) : Nat := match parseFieldDescriptor d with
  | some .int => 1
  | some .boolean => 2
  | some .long => 3
  | some (.array _) => 4
  | some (.object _) => 4
  | _ => 0
def layGo (C n : String) : List Jvm.Cond → Nat → Option (Nat × String × Bool)
  | [], _ => none
  | .lays c o n' d :: t, k => if n' = n ∧ c = C ∧ o = C then some (k, d, false) else layGo C n t (k + 1)
  | .laysFinal c o n' d :: t, k => if n' = n ∧ c = C ∧ o = C then some (k, d, true) else layGo C n t (k + 1)
  | _ :: t, k => layGo C n t (k + 1)
def layAt (W : List Jvm.Cond) (C n : String) : Option (Nat × String × Bool) := layGo C n W 0
def fieldLk (own : String) (idx : Nat) : List Jvm.Cond → Option (String × String × String)
  | [] => none
  | .fieldLink o i r n d :: t => if i = idx ∧ o = own then some (r, n, d) else fieldLk own idx t
  | _ :: t => fieldLk own idx t
/-- the class, the field's place, its kind, final or not -/
def fieldAt (W : List Jvm.Cond) (own : String) (idx : Nat) : Option (String × Nat × Nat × Bool) :=
  match fieldLk own idx W with
  | none => none
  | some (r, n, d) => match layAt W r n with
    | none => none
    | some (k, d', fin) => if d' = d ∧ kindD d ≠ 0 then some (r, k, kindD d, fin) else none
def methodLk (own : String) (idx : Nat) : List Jvm.Cond → Option MethodName
  | [] => none
  | .methodLink o i y :: t => if i = idx ∧ o = own then some y else methodLk own idx t
  | _ :: t => methodLk own idx t
def classLk (own : String) (idx : Nat) : List Jvm.Cond → Option String
  | [] => none
  | .classLink o i C :: t => if i = idx ∧ o = own then some C else classLk own idx t
  | _ :: t => classLk own idx t
def instLk (C : String) : List Jvm.Cond → Option Nat
  | [] => none
  | .instantiable c n :: t => if c = C then some n else instLk C t
  | _ :: t => instLk C t
def meq (z y : MethodName) : Bool := decide (z.name = y.name) && (decide (z.desc = y.desc) && decide (z.cls = y.cls))
def codeLk (y : MethodName) : List Jvm.Cond → Option (ByteArray × Nat × Option FieldType)
  | [] => none
  | .code z b n r :: t => if meq z y = true then some (b, n, r) else codeLk y t
  | _ :: t => codeLk y t
def intLk (own : String) (idx : Nat) : List Jvm.Cond → Option Int32
  | [] => none
  | .constant o i v :: t => if i = idx ∧ o = own then some v else intLk own idx t
  | _ :: t => intLk own idx t
def longLk (own : String) (idx : Nat) : List Jvm.Cond → Option Int64
  | [] => none
  | .constantLong o i v :: t => if i = idx ∧ o = own then some v else longLk own idx t
  | _ :: t => longLk own idx t
def hasInit (C : String) : List Jvm.Cond → Bool
  | [] => false
  | .initialized c :: t => if c = C then true else hasInit C t
  | _ :: t => hasInit C t
def hasInst (y : MethodName) : List Jvm.Cond → Bool
  | [] => false
  | .instanceMethod z :: t => if meq z y = true then true else hasInst y t
  | _ :: t => hasInst y t
def hasPriv (y : MethodName) : List Jvm.Cond → Bool
  | [] => false
  | .privateMethod z :: t => if meq z y = true then true else hasPriv y t
  | _ :: t => hasPriv y t
def hasStat (y : MethodName) : List Jvm.Cond → Bool
  | [] => false
  | .static z :: t => if meq z y = true then true else hasStat y t
  | _ :: t => hasStat y t
def hasDecl (y : MethodName) : List Jvm.Cond → Bool
  | [] => false
  | .declares z :: t => if meq z y = true then true else hasDecl y t
  | _ :: t => hasDecl y t
def hasSel (y : MethodName) : List Jvm.Cond → Bool
  | [] => false
  | .selects C z z' :: t => if meq z y = true ∧ meq z' y = true ∧ C = y.cls then true else hasSel y t
  | _ :: t => hasSel y t
def hasArr (ty : FieldType) : List Jvm.Cond → Bool
  | [] => false
  | .arrayClass z :: t => if z = ty then true else hasArr ty t
  | _ :: t => hasArr ty t
def newAt (W : List Jvm.Cond) (own : String) (idx : Nat) : Option (String × Nat) :=
  match classLk own idx W with
  | none => none
  | some C => match instLk C W with
    | none => none
    | some n => if hasInit C W = true then some (C, n) else none
/-- kind: 0 invokevirtual of a public method, 1 of a private one, 2 a constructor, 3 static; the method, how many arguments, its body -/
def callAt (W : List Jvm.Cond) (own : String) (idx : Nat) (kd : Nat) : Option (MethodName × Nat × ByteArray × Nat × Option FieldType) :=
  match methodLk own idx W with
  | none => none
  | some z => match codeLk z W, parseMethodDescriptor z.desc with
    | some (b, n, r), some sig =>
      if hasInit z.cls W = true ∧ plainName z.cls = true ∧ z.cls ≠ "java/lang/invoke/MethodHandle" ∧ z.cls ≠ "java/lang/invoke/VarHandle" ∧
         ((kd = 0 ∧ hasDecl z W = true ∧ hasSel z W = true ∧ hasInst z W = true) ∨ (kd = 1 ∧ hasPriv z W = true ∧ hasInst z W = true ∧ (instLk z.cls W).isSome = true) ∨ (kd = 2 ∧ z.name = "<init>" ∧ hasInst z W = true ∧ r = none) ∨ (kd = 3 ∧ hasStat z W = true))
      then some (z, sig.parameters.length, b, n, r) else none
    | _, _ => none
def objInitAt (W : List Jvm.Cond) (own : String) (idx : Nat) : Bool :=
  match methodLk own idx W, codeLk Lib.objectInit W with
  | some z, some (b, n, r) => decide (z = Lib.objectInit) && hasInst Lib.objectInit W && decide (b = ⟨#[0xb1]⟩) && decide (n = 1) && decide (r = none)
  | _, _ => false
def jump (pc : Nat) (o : Int) : Option Nat := match (pc : Int) + o with
  | .ofNat n => some n
  | .negSucc _ => none
def getV (kd : Nat) (i : Int32) (j : Int64) (r : Value) : Value := match kd with
  | 1 => .int i
  | 2 => .int i
  | 3 => .long j
  | _ => r
def inb (j : Int32) (n : Nat) : Bool := decide (¬ j < 0) && decide (j.toNatClampNeg < n)
def lenOk (len : Nat) : Instr → Bool
  | .aload _ | .iload _ | .lload _ | .astore _ | .istore _ | .lstore _ | .bipush _ | .ldc _ | .newarray _ => len == 2
  | .sipush _ | .iinc _ _ | .ldc_w _ | .ldc2_w _ | .goto _ | .ifCond _ _ | .if_icmp _ _ | .ifnull _ | .ifnonnull _ | .getfield _ | .putfield _ | .new _ | .invokevirtual _ | .invokespecial _ | .invokestatic _ => len == 3
  | .tableswitch _ _ _ _ => true
  | _ => len == 1
/-- the steps that leave the memory as it is -/
def execP (W : List Jvm.Cond) (F Lb : Nat) (y : MethodName) (ins : Instr) (pc len : Nat) (ls : List Slot) (st : List Value) (M : EMem) : Option (Nat × List Slot × List Value) :=
  match ins with
  | .aload k => match ls[k]? with
    | some (.val (.ref a)) => some (pc + 2, ls, .ref a :: st)
    | some (.val .null) => some (pc + 2, ls, .null :: st)
    | _ => none
  | .aload_n k => match ls[k.val]? with
    | some (.val (.ref a)) => some (pc + 1, ls, .ref a :: st)
    | some (.val .null) => some (pc + 1, ls, .null :: st)
    | _ => none
  | .iload k => match ls[k]? with
    | some (.val (.int v)) => some (pc + 2, ls, .int v :: st)
    | _ => none
  | .iload_n k => match ls[k.val]? with
    | some (.val (.int v)) => some (pc + 1, ls, .int v :: st)
    | _ => none
  | .lload k => match ls[k]? with
    | some (.val (.long v)) => some (pc + 2, ls, .long v :: st)
    | _ => none
  | .lload_n k => match ls[k.val]? with
    | some (.val (.long v)) => some (pc + 1, ls, .long v :: st)
    | _ => none
  | .istore k => match st with
    | .int x :: r => match storeL ls k (.int x) with
      | some l' => some (pc + 2, l', r)
      | none => none
    | _ => none
  | .istore_n k => match st with
    | .int x :: r => match storeL ls k.val (.int x) with
      | some l' => some (pc + 1, l', r)
      | none => none
    | _ => none
  | .lstore k => match st with
    | .long x :: r => match storeL ls k (.long x) with
      | some l' => some (pc + 2, l', r)
      | none => none
    | _ => none
  | .lstore_n k => match st with
    | .long x :: r => match storeL ls k.val (.long x) with
      | some l' => some (pc + 1, l', r)
      | none => none
    | _ => none
  | .astore k => match st with
    | .ref x :: r => match storeL ls k (.ref x) with
      | some l' => some (pc + 2, l', r)
      | none => none
    | _ => none
  | .astore_n k => match st with
    | .ref x :: r => match storeL ls k.val (.ref x) with
      | some l' => some (pc + 1, l', r)
      | none => none
    | _ => none
  | .iinc k d => match ls[k]? with
    | some (.val (.int v)) => match storeL ls k (.int (v + Int32.ofInt d)) with
      | some l' => some (pc + 3, l', st)
      | none => none
    | _ => none
  | .iconst i => some (pc + 1, ls, .int (Int32.ofInt i) :: st)
  | .bipush i => some (pc + 2, ls, .int (Int8.ofInt i).toInt32 :: st)
  | .sipush i => some (pc + 3, ls, .int (Int16.ofInt i).toInt32 :: st)
  | .lconst k => some (pc + 1, ls, .long (Int64.ofNat k) :: st)
  | .ldc i => match intLk y.cls i W with
    | some v => some (pc + 2, ls, .int v :: st)
    | none => none
  | .ldc_w i => match intLk y.cls i W with
    | some v => some (pc + 3, ls, .int v :: st)
    | none => none
  | .ldc2_w i => match longLk y.cls i W with
    | some v => some (pc + 3, ls, .long v :: st)
    | none => none
  | .iadd => match st with
    | .int b :: .int a :: r => some (pc + 1, ls, .int (a + b) :: r)
    | _ => none
  | .isub => match st with
    | .int b :: .int a :: r => some (pc + 1, ls, .int (a - b) :: r)
    | _ => none
  | .imul => match st with
    | .int b :: .int a :: r => some (pc + 1, ls, .int (a * b) :: r)
    | _ => none
  | .iand => match st with
    | .int b :: .int a :: r => some (pc + 1, ls, .int (a &&& b) :: r)
    | _ => none
  | .ior => match st with
    | .int b :: .int a :: r => some (pc + 1, ls, .int (a ||| b) :: r)
    | _ => none
  | .ixor => match st with
    | .int b :: .int a :: r => some (pc + 1, ls, .int (a ^^^ b) :: r)
    | _ => none
  | .ishl => match st with
    | .int b :: .int a :: r => some (pc + 1, ls, .int (a <<< (b &&& 31)) :: r)
    | _ => none
  | .ishr => match st with
    | .int b :: .int a :: r => some (pc + 1, ls, .int (a >>> (b &&& 31)) :: r)
    | _ => none
  | .iushr => match st with
    | .int b :: .int a :: r => some (pc + 1, ls, .int (XT.ushr a b) :: r)
    | _ => none
  | .idiv => match st with
    | .int b :: .int a :: r => if b = 0 then none else some (pc + 1, ls, .int (a / b) :: r)
    | _ => none
  | .irem => match st with
    | .int b :: .int a :: r => if b = 0 then none else some (pc + 1, ls, .int (a - (a / b) * b) :: r)
    | _ => none
  | .ineg => match st with
    | .int a :: r => some (pc + 1, ls, .int (-a) :: r)
    | _ => none
  | .ladd => match st with
    | .long b :: .long a :: r => some (pc + 1, ls, .long (a + b) :: r)
    | _ => none
  | .lsub => match st with
    | .long b :: .long a :: r => some (pc + 1, ls, .long (a - b) :: r)
    | _ => none
  | .lmul => match st with
    | .long b :: .long a :: r => some (pc + 1, ls, .long (a * b) :: r)
    | _ => none
  | .land => match st with
    | .long b :: .long a :: r => some (pc + 1, ls, .long (a &&& b) :: r)
    | _ => none
  | .lor => match st with
    | .long b :: .long a :: r => some (pc + 1, ls, .long (a ||| b) :: r)
    | _ => none
  | .lxor => match st with
    | .long b :: .long a :: r => some (pc + 1, ls, .long (a ^^^ b) :: r)
    | _ => none
  | .lshl => match st with
    | .int b :: .long a :: r => some (pc + 1, ls, .long (a <<< (b.toInt64 &&& 63)) :: r)
    | _ => none
  | .lshr => match st with
    | .int b :: .long a :: r => some (pc + 1, ls, .long (a >>> (b.toInt64 &&& 63)) :: r)
    | _ => none
  | .lushr => match st with
    | .int b :: .long a :: r => some (pc + 1, ls, .long (XT.ushrL a b) :: r)
    | _ => none
  | .ldiv => match st with
    | .long b :: .long a :: r => if b = 0 then none else some (pc + 1, ls, .long (a / b) :: r)
    | _ => none
  | .lrem => match st with
    | .long b :: .long a :: r => if b = 0 then none else some (pc + 1, ls, .long (a - (a / b) * b) :: r)
    | _ => none
  | .lneg => match st with
    | .long a :: r => some (pc + 1, ls, .long (-a) :: r)
    | _ => none
  | .lcmp => match st with
    | .long b :: .long a :: r => some (pc + 1, ls, .int (XT.cmpL a b) :: r)
    | _ => none
  | .i2l => match st with
    | .int a :: r => some (pc + 1, ls, .long a.toInt64 :: r)
    | _ => none
  | .l2i => match st with
    | .long a :: r => some (pc + 1, ls, .int a.toInt32 :: r)
    | _ => none
  | .i2s => match st with
    | .int a :: r => some (pc + 1, ls, .int a.toInt16.toInt32 :: r)
    | _ => none
  | .dup => match st with
    | .int a :: r => some (pc + 1, ls, .int a :: .int a :: r)
    | .ref a :: r => some (pc + 1, ls, .ref a :: .ref a :: r)
    | _ => none
  | .dup2 => match st with
    | .int b :: .int a :: r => some (pc + 1, ls, .int b :: .int a :: .int b :: .int a :: r)
    | .int b :: .ref a :: r => some (pc + 1, ls, .int b :: .ref a :: .int b :: .ref a :: r)
    | .long b :: r => some (pc + 1, ls, .long b :: .long b :: r)
    | _ => none
  | .dup_x1 => match st with
    | .int b :: .ref a :: r => some (pc + 1, ls, .int b :: .ref a :: .int b :: r)
    | _ => none
  | .pop => match st with
    | .int _ :: r => some (pc + 1, ls, r)
    | .ref _ :: r => some (pc + 1, ls, r)
    | _ => none
  | .goto o => match jump pc o with
    | some t => some (t, ls, st)
    | none => none
  | .ifCond cd o => match st with
    | .int a :: r => match jump pc o with
      | some t => some (if ifCond.holds cd a = true then t else pc + 3, ls, r)
      | none => none
    | _ => none
  | .if_icmp cd o => match st with
    | .int b :: .int a :: r => match jump pc o with
      | some t => some (if if_icmp.holds cd a b = true then t else pc + 3, ls, r)
      | none => none
    | _ => none
  | .ifnull o => match st with
    | .null :: r => match jump pc o with
      | some t => some (t, ls, r)
      | none => none
    | .ref _ :: r => some (pc + 3, ls, r)
    | _ => none
  | .ifnonnull o => match st with
    | .ref _ :: r => match jump pc o with
      | some t => some (t, ls, r)
      | none => none
    | .null :: r => some (pc + 3, ls, r)
    | _ => none
  | .tableswitch dflt low high offs => match st with
    | .int i :: r => if i.toInt < low ∨ i.toInt > high then
        match jump pc dflt with
        | some t => some (t, ls, r)
        | none => none
      else match offs[(i.toInt - low).toNat]? with
        | none => none
        | some o => match jump pc o with
          | some t => some (t, ls, r)
          | none => none
    | _ => none
  | .getfield idx => match st with
    | .ref a :: r => match fieldAt W y.cls idx, M.1[a]? with
      | some (C, k, kd, _), some (0, C', _) => if C' = C then some (pc + 3, ls, getV kd (M.2.1 a k) (M.2.2.1 a k) (M.2.2.2 a k) :: r) else none
      | _, _ => none
    | _ => none
  | .arraylength => match st with
    | .ref a :: r => match M.1[a]? with
      | some (1, _, n) => some (pc + 1, ls, .int n.toInt32 :: r)
      | some (2, _, n) => some (pc + 1, ls, .int n.toInt32 :: r)
      | some (3, _, n) => some (pc + 1, ls, .int n.toInt32 :: r)
      | _ => none
    | _ => none
  | .iaload => match st with
    | .int j :: .ref a :: r => match M.1[a]? with
      | some (1, _, n) => if inb j n = true then some (pc + 1, ls, .int (M.2.1 a j.toNatClampNeg) :: r) else none
      | _ => none
    | _ => none
  | .baload => match st with
    | .int j :: .ref a :: r => match M.1[a]? with
      | some (3, _, n) => if inb j n = true then some (pc + 1, ls, .int (M.2.1 a j.toNatClampNeg) :: r) else none
      | _ => none
    | _ => none
  | .laload => match st with
    | .int j :: .ref a :: r => match M.1[a]? with
      | some (2, _, n) => if inb j n = true then some (pc + 1, ls, .long (M.2.2.1 a j.toNatClampNeg) :: r) else none
      | _ => none
    | _ => none
  | .invokespecial idx => match st with
    | .ref _ :: r => if objInitAt W y.cls idx = true ∧ 1 ≤ F ∧ wt r + 12 ≤ Lb then some (pc + 3, ls, r) else none
    | _ => none
  | _ => none
/-- the steps that write or make; ro: the cells below it are not written -/
def execM (W : List Jvm.Cond) (ro : Nat) (y : MethodName) (ins : Instr) (st : List Value) (M : EMem) : Option (List Value × EMem) :=
  match ins with
  | .putfield idx => match st with
    | v :: .ref a :: r => match fieldAt W y.cls idx, M.1[a]? with
      | some (C, k, kd, fin), some (0, C', _) =>
        if C' = C ∧ ro ≤ a ∧ (fin = false ∨ (y.cls = C ∧ y.name = "<init>")) ∧ (instLk C W).isSome = true then
          match kd, v with
          | 1, .int x => some (r, M.1, up M.2.1 a k x, M.2.2.1, M.2.2.2)
          | 2, .int x => some (r, M.1, up M.2.1 a k (x &&& 1), M.2.2.1, M.2.2.2)
          | 3, .long x => some (r, M.1, M.2.1, up M.2.2.1 a k x, M.2.2.2)
          | 4, .ref b => some (r, M.1, M.2.1, M.2.2.1, up M.2.2.2 a k (.ref b))
          | _, _ => none
        else none
      | _, _ => none
    | _ => none
  | .iastore => match st with
    | .int x :: .int j :: .ref a :: r => match M.1[a]? with
      | some (1, _, n) => if inb j n = true ∧ ro ≤ a then some (r, M.1, up M.2.1 a j.toNatClampNeg x, M.2.2.1, M.2.2.2) else none
      | _ => none
    | _ => none
  | .bastore => match st with
    | .int x :: .int j :: .ref a :: r => match M.1[a]? with
      | some (3, _, n) => if inb j n = true ∧ ro ≤ a then some (r, M.1, up M.2.1 a j.toNatClampNeg (x &&& 1), M.2.2.1, M.2.2.2) else none
      | _ => none
    | _ => none
  | .lastore => match st with
    | .long x :: .int j :: .ref a :: r => match M.1[a]? with
      | some (2, _, n) => if inb j n = true ∧ ro ≤ a then some (r, M.1, M.2.1, up M.2.2.1 a j.toNatClampNeg x, M.2.2.2) else none
      | _ => none
    | _ => none
  | .new idx => match newAt W y.cls idx with
    | some (C, n) => some (.ref M.1.length :: st, M.1 ++ [(0, C, n)], M.2.1, M.2.2.1, M.2.2.2)
    | none => none
  | .newarray .int => match st with
    | .int n :: r => if ¬ n < 0 ∧ n.toNatClampNeg * 8 ≤ 536870912 ∧ hasArr .int W = true then some (.ref M.1.length :: r, M.1 ++ [(1, "", n.toNatClampNeg)], M.2.1, M.2.2.1, M.2.2.2) else none
    | _ => none
  | .newarray .long => match st with
    | .int n :: r => if ¬ n < 0 ∧ n.toNatClampNeg * 8 ≤ 536870912 ∧ hasArr .long W = true then some (.ref M.1.length :: r, M.1 ++ [(2, "", n.toNatClampNeg)], M.2.1, M.2.2.1, M.2.2.2) else none
    | _ => none
  | .newarray .boolean => match st with
    | .int n :: r => if ¬ n < 0 ∧ n.toNatClampNeg * 8 ≤ 536870912 ∧ hasArr .boolean W = true then some (.ref M.1.length :: r, M.1 ++ [(3, "", n.toNatClampNeg)], M.2.1, M.2.2.1, M.2.2.2) else none
    | _ => none
  | _ => none
def retOf (ins : Instr) (len : Nat) (ret : Option FieldType) (st : List Value) : Option (Option Value) :=
  if len = 1 then
    match ins, ret, st with
    | .return_, none, [] => some none
    | .ireturn, some .int, [.int z] => some (some (.int z))
    | .ireturn, some .boolean, [.int z] => some (some (.int (z &&& 1)))
    | .lreturn, some .long, [.long z] => some (some (.long z))
    | _, _, _ => none
  else none
/-- the callee, her arguments (the receiver first), what lies under, her body -/
def callOf (W : List Jvm.Cond) (y : MethodName) (ins : Instr) (len : Nat) (st : List Value) (M : EMem) : Option (MethodName × List Value × List Value × ByteArray × Nat × Option FieldType) :=
  if len = 3 then
    match ins with
    | .invokevirtual idx => match callAt W y.cls idx 1 with
      | some (z, na, b, n, r) => match (st.drop na) with
        | .ref a :: rest => match M.1[a]? with
          | some (0, C, _) => if C = z.cls ∧ (st.take na).length = na then some (z, .ref a :: (st.take na).reverse, rest, b, n, r) else none
          | _ => none
        | _ => none
      | none => match callAt W y.cls idx 0 with
        | some (z, na, b, n, r) => match (st.drop na) with
          | .ref a :: rest => match M.1[a]? with
            | some (0, C, _) => if C = z.cls ∧ (st.take na).length = na then some (z, .ref a :: (st.take na).reverse, rest, b, n, r) else none
            | _ => none
          | _ => none
        | none => none
    | .invokespecial idx => match callAt W y.cls idx 2 with
      | some (z, na, b, n, r) => match (st.drop na) with
        | .ref a :: rest => if (st.take na).length = na then some (z, .ref a :: (st.take na).reverse, rest, b, n, r) else none
        | _ => none
      | none => none
    | .invokestatic idx => match callAt W y.cls idx 3 with
      | some (z, na, b, n, r) => if (st.take na).length = na then some (z, (st.take na).reverse, st.drop na, b, n, r) else none
      | none => none
    | _ => none
  else none
def run (W : List Jvm.Cond) (ro : Nat) : Nat → Nat → Nat → MethodName → ByteArray → Option FieldType → Nat → List Slot → List Value → EMem → Option (Option Value × EMem)
  | 0, _, _, _, _, _, _, _, _, _ => none
  | n + 1, F, Lb, y, code, ret, pc, ls, st, M =>
    match decode code pc with
    | .ok (ins, len) =>
      match (if lenOk len ins = true then execP W F Lb y ins pc len ls st M else none) with
      | some (pc', ls', st') => run W ro n F Lb y code ret pc' ls' st' M
      | none => match (if lenOk len ins = true then execM W ro y ins st M else none) with
        | some (st', M') => run W ro n F Lb y code ret (pc + len) ls st' M'
        | none => match retOf ins len ret st with
          | some v => some (v, M)
          | none => match callOf W y ins len st M with
            | some (z, as, rest, b, mx, r) =>
              if 1 ≤ F ∧ wt rest + (mx + 11) ≤ Lb ∧ (fillL as).length ≤ mx then
                match run W ro n (F - 1) (Lb - (wt rest + (mx + 11))) z b r 0 (entryL as mx) [] M with
                | some (v, M') => run W ro n F Lb y code ret (pc + 3) ls (v.toList ++ rest) M'
                | none => none
              else none
            | none => none
    | .error _ => none
end Jvm.OwnEv
namespace Jvm.OwnEv
open Sem ClassFile Op Lib Jvm.Stand Jvm.Free Jvm.LawKit Jvm.RoadKit
/-! PART 2: small facts: the variables, the words -/
def conc (ρ : Nat → Addr) : Value → Value
  | .ref a => .ref (ρ a)
  | v => v
def concS (ρ : Nat → Addr) : Slot → Slot
  | .val v => .val (conc ρ v)
  | s => s
theorem conc_cat (ρ : Nat → Addr) (v : Value) : (conc ρ v).category = v.category := by cases v <;> rfl
theorem wt_conc (ρ : Nat → Addr) (vs : List Value) : ((vs.map (conc ρ)).map fun v => v.category).sum = wt vs := by
  unfold wt
  rw [List.map_map]
  congr 1
  exact List.map_congr_left fun v _ => conc_cat ρ v
abbrev cl (ρ : Nat → Addr) (ls : List Slot) : Array Slot := (ls.map (concS ρ)).toArray
abbrev cs (ρ : Nat → Addr) (st : List Value) : List Value := st.map (conc ρ)
theorem get_cl {ρ : Nat → Addr} {ls : List Slot} {k : Nat} {x : Slot} (h : ls[k]? = some x) : (cl ρ ls)[k]? = some (concS ρ x) := by simp [cl, h]
theorem setL_some : ∀ {l : List Slot} {i : Nat} {x : Slot} {l' : List Slot}, setL l i x = some l' → i < l.length ∧ l' = l.set i x
  | [], _, _, _, h => by simp [setL] at h
  | _ :: t, 0, x, l', h => by simp only [setL, Option.some.injEq] at h; subst h; simp
  | y :: t, n + 1, x, l', h => by
    simp only [setL] at h
    split at h
    · rename_i t' ht
      cases h
      obtain ⟨h1, h2⟩ := setL_some ht
      subst h2
      exact ⟨by simp; omega, by simp⟩
    · cases h
theorem setAt_conc {ρ : Nat → Addr} {l : List Slot} {i : Nat} {x : Slot} {l' : List Slot} (h : setL l i x = some l') : setAt (cl ρ l) i (concS ρ x) = some (cl ρ l') := by
  obtain ⟨hi, rfl⟩ := setL_some h
  simp [setAt, hi, cl, List.map_set]
theorem setL_len {l : List Slot} {i : Nat} {x : Slot} {l' : List Slot} (h : setL l i x = some l') : l'.length = l.length := by
  obtain ⟨-, rfl⟩ := setL_some h; simp
theorem cl_get {ρ : Nat → Addr} {l : List Slot} {i : Nat} : (cl ρ l)[i]? = (l[i]?).map (concS ρ) := by simp [cl]
theorem storeSelf_conc {ρ : Nat → Addr} {l : List Slot} {i : Nat} {v : Value} {l' : List Slot} (h : storeSelfL l i v = some l') : storeSelf (cl ρ l) i (conc ρ v) = some (cl ρ l') := by
  unfold storeSelfL at h
  split at h
  · cases h
  rename_i l1 h1
  have e1 : setAt (cl ρ l) i (.val (conc ρ v)) = some (cl ρ l1) := setAt_conc (ρ := ρ) h1
  unfold storeSelf
  rw [e1]
  simp only [Option.bind_eq_bind, Option.bind_some, conc_cat]
  split at h
  · rename_i hc
    rw [if_pos hc, cl_get]
    split at h
    · cases h
    · rename_i old ho
      rw [ho]
      simp only [Option.map_some, Option.bind_some, concS, conc_cat]
      split at h
      · rename_i hc2
        rw [if_pos hc2]
        split at h
        · cases h
        · rename_i l2 h2
          have e2 : setAt (cl ρ l1) (i + 2) .unset = some (cl ρ l2) := setAt_conc (ρ := ρ) h2
          have e3 : setAt (cl ρ l2) (i + 1) .second = some (cl ρ l') := setAt_conc (ρ := ρ) h
          rw [e2]
          exact e3
      · rename_i hc2
        rw [if_neg hc2]
        exact setAt_conc (ρ := ρ) h
    · rename_i x hx ho
      have e3 : setAt (cl ρ l1) (i + 1) .second = some (cl ρ l') := setAt_conc (ρ := ρ) h
      rw [ho]
      cases x with
      | val w => exact absurd rfl (hx w)
      | unset => exact e3
      | second => exact e3
  · rename_i hc
    rw [if_neg hc]
    cases h
    rfl
theorem storeL_conc {ρ : Nat → Addr} {l : List Slot} {i : Nat} {v : Value} {l' : List Slot} (h : storeL l i v = some l') : storeLocals (cl ρ l) i (conc ρ v) = some (cl ρ l') := by
  unfold storeL at h
  unfold storeLocals
  rw [cl_get]
  split at h
  · cases h
  · rename_i ho
    rw [ho]
    split at h
    · cases h
    · rename_i l1 h1
      have e1 : setAt (cl ρ l) (i - 1) .unset = some (cl ρ l1) := setAt_conc (ρ := ρ) h1
      have e2 := storeSelf_conc (ρ := ρ) h
      simp only [Option.map_some, Option.bind_eq_bind, Option.bind_some, concS, e1]
      exact e2
  · rename_i old ho
    rw [ho]
    simp only [Option.map_some, Option.bind_eq_bind, Option.bind_some, concS, conc_cat]
    split at h
    · rename_i hc
      rw [if_pos hc]
      split at h
      · cases h
      · rename_i l1 h1
        have e1 : setAt (cl ρ l) (i + 1) .unset = some (cl ρ l1) := setAt_conc (ρ := ρ) h1
        rw [e1]
        exact storeSelf_conc (ρ := ρ) h
    · rename_i hc
      rw [if_neg hc]
      exact storeSelf_conc (ρ := ρ) h
  · rename_i ho
    rw [ho]
    exact storeSelf_conc (ρ := ρ) h
theorem storeSelfL_len {l : List Slot} {i : Nat} {v : Value} {l' : List Slot} (h : storeSelfL l i v = some l') : l'.length = l.length := by
  unfold storeSelfL at h
  split at h
  · cases h
  rename_i l1 h1
  have e1 := setL_len h1
  split at h
  · split at h
    · cases h
    · split at h
      · split at h
        · cases h
        · rename_i l2 h2
          rw [setL_len h, setL_len h2, e1]
      · rw [setL_len h, e1]
    · rw [setL_len h, e1]
  · cases h; exact e1
theorem storeL_len {l : List Slot} {i : Nat} {v : Value} {l' : List Slot} (h : storeL l i v = some l') : l'.length = l.length := by
  unfold storeL at h
  split at h
  · cases h
  · split at h
    · cases h
    · rename_i l1 h1
      rw [storeSelfL_len h, setL_len h1]
  · split at h
    · split at h
      · cases h
      · rename_i l1 h1
        rw [storeSelfL_len h, setL_len h1]
    · exact storeSelfL_len h
  · exact storeSelfL_len h
theorem fill_fold (ρ : Nat → Addr) : ∀ (as : List Value) (acc : Array Slot), (as.map (conc ρ)).foldl (fun acc v => if v.category = 2 then (acc.push (Slot.val v)).push .second else acc.push (.val v)) acc = acc ++ ((fillL as).map (concS ρ)).toArray
  | [], acc => by simp [fillL]
  | v :: t, acc => by
    simp only [List.map_cons, List.foldl_cons, conc_cat]
    rw [fill_fold ρ t]
    rw [show fillL (v :: t) = if v.category = 2 then .val v :: .second :: fillL t else .val v :: fillL t from rfl]
    apply Array.ext'
    split
    · simp [concS]
    · simp [concS]
theorem args_conc (ρ : Nat → Addr) (as : List Value) (mx : Nat) : argsToLocals (as.map (conc ρ)).toArray mx = cl ρ (entryL as mx) := by
  unfold argsToLocals
  simp only [List.foldl_toArray, fill_fold ρ as]
  simp [entryL, cl, concS]
theorem entryL_len {as : List Value} {mx : Nat} (h : (fillL as).length ≤ mx) : (entryL as mx).length = mx := by simp [entryL]; omega
theorem meq_eq {z y : MethodName} (h : meq z y = true) : z = y := by
  simp only [meq, Bool.and_eq_true, decide_eq_true_eq] at h
  obtain ⟨h1, h2, h3⟩ := h
  cases z; cases y
  simp only at h1 h2 h3
  subst h1 h2 h3
  rfl
/-! the words -/
theorem fieldLk_mem {own : String} {idx : Nat} {r n d : String} : ∀ {t : List Jvm.Cond}, fieldLk own idx t = some (r, n, d) → Jvm.Cond.fieldLink own idx r n d ∈ t
  | [], h => by simp [fieldLk] at h
  | w :: t, h => by
    unfold fieldLk at h
    split at h
    · rename_i heq; cases heq
    · rename_i heq
      cases heq
      split at h
      · rename_i hc; obtain ⟨rfl, rfl⟩ := hc; cases h; exact List.mem_cons_self
      · exact List.mem_cons_of_mem _ (fieldLk_mem h)
    · rename_i heq; cases heq; exact List.mem_cons_of_mem _ (fieldLk_mem h)
theorem methodLk_mem {own : String} {idx : Nat} {y : MethodName} : ∀ {t : List Jvm.Cond}, methodLk own idx t = some y → Jvm.Cond.methodLink own idx y ∈ t
  | [], h => by simp [methodLk] at h
  | w :: t, h => by
    unfold methodLk at h
    split at h
    · rename_i heq; cases heq
    · rename_i heq
      cases heq
      split at h
      · rename_i hc; obtain ⟨rfl, rfl⟩ := hc; cases h; exact List.mem_cons_self
      · exact List.mem_cons_of_mem _ (methodLk_mem h)
    · rename_i heq; cases heq; exact List.mem_cons_of_mem _ (methodLk_mem h)
theorem classLk_mem {own : String} {idx : Nat} {y : String} : ∀ {t : List Jvm.Cond}, classLk own idx t = some y → Jvm.Cond.classLink own idx y ∈ t
  | [], h => by simp [classLk] at h
  | w :: t, h => by
    unfold classLk at h
    split at h
    · rename_i heq; cases heq
    · rename_i heq
      cases heq
      split at h
      · rename_i hc; obtain ⟨rfl, rfl⟩ := hc; cases h; exact List.mem_cons_self
      · exact List.mem_cons_of_mem _ (classLk_mem h)
    · rename_i heq; cases heq; exact List.mem_cons_of_mem _ (classLk_mem h)
theorem intLk_mem {own : String} {idx : Nat} {y : Int32} : ∀ {t : List Jvm.Cond}, intLk own idx t = some y → Jvm.Cond.constant own idx y ∈ t
  | [], h => by simp [intLk] at h
  | w :: t, h => by
    unfold intLk at h
    split at h
    · rename_i heq; cases heq
    · rename_i heq
      cases heq
      split at h
      · rename_i hc; obtain ⟨rfl, rfl⟩ := hc; cases h; exact List.mem_cons_self
      · exact List.mem_cons_of_mem _ (intLk_mem h)
    · rename_i heq; cases heq; exact List.mem_cons_of_mem _ (intLk_mem h)
theorem longLk_mem {own : String} {idx : Nat} {y : Int64} : ∀ {t : List Jvm.Cond}, longLk own idx t = some y → Jvm.Cond.constantLong own idx y ∈ t
  | [], h => by simp [longLk] at h
  | w :: t, h => by
    unfold longLk at h
    split at h
    · rename_i heq; cases heq
    · rename_i heq
      cases heq
      split at h
      · rename_i hc; obtain ⟨rfl, rfl⟩ := hc; cases h; exact List.mem_cons_self
      · exact List.mem_cons_of_mem _ (longLk_mem h)
    · rename_i heq; cases heq; exact List.mem_cons_of_mem _ (longLk_mem h)
theorem instLk_mem {C : String} {n : Nat} : ∀ {t : List Jvm.Cond}, instLk C t = some n → Jvm.Cond.instantiable C n ∈ t
  | [], h => by simp [instLk] at h
  | w :: t, h => by
    unfold instLk at h
    split at h
    · rename_i heq; cases heq
    · rename_i heq
      cases heq
      split at h
      · rename_i hc; subst hc; cases h; exact List.mem_cons_self
      · exact List.mem_cons_of_mem _ (instLk_mem h)
    · rename_i heq; cases heq; exact List.mem_cons_of_mem _ (instLk_mem h)
theorem codeLk_mem {y : MethodName} {b : ByteArray} {n : Nat} {r : Option FieldType} : ∀ {t : List Jvm.Cond}, codeLk y t = some (b, n, r) → Jvm.Cond.code y b n r ∈ t
  | [], h => by simp [codeLk] at h
  | w :: t, h => by
    unfold codeLk at h
    split at h
    · rename_i heq; cases heq
    · rename_i heq
      cases heq
      split at h
      · rename_i hc; cases meq_eq hc; cases h; exact List.mem_cons_self
      · exact List.mem_cons_of_mem _ (codeLk_mem h)
    · rename_i heq; cases heq; exact List.mem_cons_of_mem _ (codeLk_mem h)
theorem hasInit_mem {y : String} : ∀ {t : List Jvm.Cond}, hasInit y t = true → Jvm.Cond.initialized y ∈ t
  | [], h => by simp [hasInit] at h
  | w :: t, h => by
    unfold hasInit at h
    split at h
    · rename_i heq; cases heq
    · rename_i heq
      cases heq
      split at h
      · rename_i hc; subst hc; exact List.mem_cons_self
      · exact List.mem_cons_of_mem _ (hasInit_mem h)
    · rename_i heq; cases heq; exact List.mem_cons_of_mem _ (hasInit_mem h)
theorem hasInst_mem {y : MethodName} : ∀ {t : List Jvm.Cond}, hasInst y t = true → Jvm.Cond.instanceMethod y ∈ t
  | [], h => by simp [hasInst] at h
  | w :: t, h => by
    unfold hasInst at h
    split at h
    · rename_i heq; cases heq
    · rename_i heq
      cases heq
      split at h
      · rename_i hc; cases meq_eq hc; exact List.mem_cons_self
      · exact List.mem_cons_of_mem _ (hasInst_mem h)
    · rename_i heq; cases heq; exact List.mem_cons_of_mem _ (hasInst_mem h)
theorem hasPriv_mem {y : MethodName} : ∀ {t : List Jvm.Cond}, hasPriv y t = true → Jvm.Cond.privateMethod y ∈ t
  | [], h => by simp [hasPriv] at h
  | w :: t, h => by
    unfold hasPriv at h
    split at h
    · rename_i heq; cases heq
    · rename_i heq
      cases heq
      split at h
      · rename_i hc; cases meq_eq hc; exact List.mem_cons_self
      · exact List.mem_cons_of_mem _ (hasPriv_mem h)
    · rename_i heq; cases heq; exact List.mem_cons_of_mem _ (hasPriv_mem h)
theorem hasStat_mem {y : MethodName} : ∀ {t : List Jvm.Cond}, hasStat y t = true → Jvm.Cond.static y ∈ t
  | [], h => by simp [hasStat] at h
  | w :: t, h => by
    unfold hasStat at h
    split at h
    · rename_i heq; cases heq
    · rename_i heq
      cases heq
      split at h
      · rename_i hc; cases meq_eq hc; exact List.mem_cons_self
      · exact List.mem_cons_of_mem _ (hasStat_mem h)
    · rename_i heq; cases heq; exact List.mem_cons_of_mem _ (hasStat_mem h)
theorem hasDecl_mem {y : MethodName} : ∀ {t : List Jvm.Cond}, hasDecl y t = true → Jvm.Cond.declares y ∈ t
  | [], h => by simp [hasDecl] at h
  | w :: t, h => by
    unfold hasDecl at h
    split at h
    · rename_i heq; cases heq
    · rename_i heq
      cases heq
      split at h
      · rename_i hc; cases meq_eq hc; exact List.mem_cons_self
      · exact List.mem_cons_of_mem _ (hasDecl_mem h)
    · rename_i heq; cases heq; exact List.mem_cons_of_mem _ (hasDecl_mem h)
theorem hasArr_mem {y : FieldType} : ∀ {t : List Jvm.Cond}, hasArr y t = true → Jvm.Cond.arrayClass y ∈ t
  | [], h => by simp [hasArr] at h
  | w :: t, h => by
    unfold hasArr at h
    split at h
    · rename_i heq; cases heq
    · rename_i heq
      cases heq
      split at h
      · rename_i hc; subst hc; exact List.mem_cons_self
      · exact List.mem_cons_of_mem _ (hasArr_mem h)
    · rename_i heq; cases heq; exact List.mem_cons_of_mem _ (hasArr_mem h)
theorem hasSel_mem {y : MethodName} : ∀ {t : List Jvm.Cond}, hasSel y t = true → Jvm.Cond.selects y.cls y y ∈ t
  | [], h => by simp [hasSel] at h
  | w :: t, h => by
    unfold hasSel at h
    split at h
    · rename_i heq; cases heq
    · rename_i heq
      cases heq
      split at h
      · rename_i hc; obtain ⟨c1, c2, rfl⟩ := hc; cases meq_eq c1; cases meq_eq c2; exact List.mem_cons_self
      · exact List.mem_cons_of_mem _ (hasSel_mem h)
    · rename_i heq; cases heq; exact List.mem_cons_of_mem _ (hasSel_mem h)
theorem layGo_spec {C n : String} {k : Nat} {d : String} {fin : Bool} : ∀ {t : List Jvm.Cond} {k0 : Nat}, layGo C n t k0 = some (k, d, fin) → k0 ≤ k ∧ t[k - k0]? = some (if fin = true then Jvm.Cond.laysFinal C C n d else Jvm.Cond.lays C C n d)
  | [], _, h => by simp [layGo] at h
  | w :: t, k0, h => by
    have next : layGo C n t (k0 + 1) = some (k, d, fin) → k0 ≤ k ∧ (w :: t)[k - k0]? = some (if fin = true then Jvm.Cond.laysFinal C C n d else Jvm.Cond.lays C C n d) := fun q => by
      obtain ⟨h1, h2⟩ := layGo_spec q
      refine ⟨by omega, ?_⟩
      have e : k - k0 = (k - (k0 + 1)) + 1 := by omega
      rw [e, List.getElem?_cons_succ]
      exact h2
    unfold layGo at h
    split at h
    · rename_i heq; cases heq
    · rename_i heq
      cases heq
      split at h
      · rename_i hc
        obtain ⟨rfl, rfl, rfl⟩ := hc
        cases h
        exact ⟨Nat.le_refl _, by simp⟩
      · exact next h
    · rename_i heq
      cases heq
      split at h
      · rename_i hc
        obtain ⟨rfl, rfl, rfl⟩ := hc
        cases h
        exact ⟨Nat.le_refl _, by simp⟩
      · exact next h
    · rename_i heq; cases heq; exact next h
theorem layAt_spec {W : List Jvm.Cond} {C n : String} {k : Nat} {d : String} {fin : Bool} (h : layAt W C n = some (k, d, fin)) : W[k]? = some (if fin = true then Jvm.Cond.laysFinal C C n d else Jvm.Cond.lays C C n d) := (layGo_spec h).2
theorem layAt_inj {W : List Jvm.Cond} {C n n' : String} {k : Nat} {d d' : String} {fin fin' : Bool} (h : layAt W C n = some (k, d, fin)) (h' : layAt W C n' = some (k, d', fin')) : n = n' := by
  have e := (layAt_spec h).symm.trans (layAt_spec h')
  cases fin <;> cases fin' <;> simp at e
  · exact e.1
  · exact e.1
theorem layAt_laid {W : List Jvm.Cond} {C n : String} {k : Nat} {d : String} {fin : Bool} {Z : State} {a0 : Array Value} (hw : ∀ d ∈ W, d.before a0 Z = true) (h : layAt W C n = some (k, d, fin)) : Laid Z a0 C C n d := by
  have e := hw _ (List.mem_of_getElem? (layAt_spec h))
  cases fin
  · exact Or.inl e
  · exact Or.inr e
theorem fieldAt_spec {W : List Jvm.Cond} {own : String} {idx : Nat} {C : String} {k kd : Nat} {fin : Bool} (h : fieldAt W own idx = some (C, k, kd, fin)) : ∃ n d, Jvm.Cond.fieldLink own idx C n d ∈ W ∧ layAt W C n = some (k, d, fin) ∧ kd = kindD d ∧ kindD d ≠ 0 := by
  unfold fieldAt at h
  split at h
  · cases h
  · rename_i r n d h1
    split at h
    · cases h
    · rename_i k' d' fin' h2
      split at h
      · rename_i hc
        cases h
        obtain ⟨rfl, hk⟩ := hc
        exact ⟨n, _, fieldLk_mem h1, h2, rfl, hk⟩
      · cases h
theorem kindD_1 {d : String} (h : kindD d = 1) : parseFieldDescriptor d = some .int := by
  unfold kindD at h
  split at h <;> first | assumption | (simp at h)
theorem kindD_2 {d : String} (h : kindD d = 2) : parseFieldDescriptor d = some .boolean := by
  unfold kindD at h
  split at h <;> first | assumption | (simp at h)
theorem kindD_3 {d : String} (h : kindD d = 3) : parseFieldDescriptor d = some .long := by
  unfold kindD at h
  split at h <;> first | assumption | (simp at h)
theorem kindD_4 {d : String} (h : kindD d = 4) : ∃ ty, parseFieldDescriptor d = some ty ∧ (∀ v : Value, narrow ty v = v) ∧ (∀ a, fits ty (.ref a) = true) ∧ defaultValue ty = .null := by
  unfold kindD at h
  split at h
  · simp at h
  · simp at h
  · simp at h
  · rename_i t ht; exact ⟨_, ht, fun _ => rfl, fun _ => rfl, rfl⟩
  · rename_i t ht; exact ⟨_, ht, fun _ => rfl, fun _ => rfl, rfl⟩
  · simp at h
theorem kindD_lt (d : String) : kindD d = 0 ∨ kindD d = 1 ∨ kindD d = 2 ∨ kindD d = 3 ∨ kindD d = 4 := by
  unfold kindD
  split <;> simp
theorem jump_spec {pc : Nat} {o : Int} {t : Nat} (h : jump pc o = some t) : 0 ≤ (pc : Int) + o ∧ ((pc : Int) + o).toNat = t := by
  unfold jump at h
  split at h
  · rename_i n hn
    cases h
    rw [hn]
    exact ⟨Int.natCast_nonneg _, rfl⟩
  · cases h
theorem inb_spec {j : Int32} {n : Nat} (h : inb j n = true) : ¬ (j < 0 ∨ n ≤ j.toNatClampNeg) := by
  simp only [inb, Bool.and_eq_true, decide_eq_true_eq] at h
  rintro (q | q)
  · exact h.1 q
  · omega
end Jvm.OwnEv
namespace Jvm.OwnEv
open Sem ClassFile Op Lib Jvm.Stand Jvm.Free Jvm.LawKit Jvm.RoadKit
/-! PART 3: the memory and the heap -/
def RelC (Z : State) (W : List Jvm.Cond) (ρ : Nat → Addr) (h : Heap) (mi : Nat → Nat → Int32) (ml : Nat → Nat → Int64) (mr : Nat → Nat → Value) (a : Nat) (c : Nat × String × Nat) : Prop :=
  (c.1 = 0 → Exa Z h (ρ a) c.2.1 ∧ ∀ n k d fin, layAt W c.2.1 n = some (k, d, fin) → kindD d ≠ 0 → Fld Z h (ρ a) c.2.1 n d (conc ρ (getV (kindD d) (mi a k) (ml a k) (mr a k)))) ∧
  (c.1 = 1 → ∃ cell : Cell, Arr Z h (ρ a) cell .int ∧ cell.slots.size = c.2.2 ∧ ∀ k, k < c.2.2 → cell.slots[k]? = some (.int (mi a k))) ∧
  (c.1 = 2 → ∃ cell : Cell, Arr Z h (ρ a) cell .long ∧ cell.slots.size = c.2.2 ∧ ∀ k, k < c.2.2 → cell.slots[k]? = some (.long (ml a k))) ∧
  (c.1 = 3 → ∃ cell : Cell, Arr Z h (ρ a) cell .boolean ∧ cell.slots.size = c.2.2 ∧ ∀ k, k < c.2.2 → cell.slots[k]? = some (.int (mi a k)))
def Rel (Z : State) (W : List Jvm.Cond) (ρ : Nat → Addr) (ro n0 : Nat) (h : Heap) (M : EMem) : Prop :=
  h.size = n0 + (M.1.length - ro) ∧ ro ≤ M.1.length ∧ (∀ a c, M.1[a]? = some c → RelC Z W ρ h M.2.1 M.2.2.1 M.2.2.2 a c) ∧
  (∀ a, M.1.length ≤ a → ∀ k, M.2.1 a k = 0 ∧ M.2.2.1 a k = 0 ∧ M.2.2.2 a k = .null)
section R
variable {Z : State} {W : List Jvm.Cond} {ρ : Nat → Addr} {h h' : Heap} {mi mi' : Nat → Nat → Int32} {ml ml' : Nat → Nat → Int64} {mr mr' : Nat → Nat → Value} {a b : Nat} {c : Nat × String × Nat} {a0 : Array Value}
theorem RelC.mono (hE : ∀ C, Exa Z h (ρ a) C → Exa Z h' (ρ a) C) (hF : ∀ C n d v, Fld Z h (ρ a) C n d v → Fld Z h' (ρ a) C n d v) (hA : ∀ cell ty, Arr Z h (ρ a) cell ty → Arr Z h' (ρ a) cell ty)
    (hi : ∀ k, mi' a k = mi a k) (hl : ∀ k, ml' a k = ml a k) (hr : ∀ k, mr' a k = mr a k) (X : RelC Z W ρ h mi ml mr a c) : RelC Z W ρ h' mi' ml' mr' a c := by
  obtain ⟨x0, x1, x2, x3⟩ := X
  refine ⟨fun q => ?_, fun q => ?_, fun q => ?_, fun q => ?_⟩
  · obtain ⟨e1, e2⟩ := x0 q
    exact ⟨hE _ e1, fun n k d fin e3 e4 => by rw [hi, hl, hr]; exact hF _ _ _ _ (e2 n k d fin e3 e4)⟩
  · obtain ⟨cell, e1, e2, e3⟩ := x1 q
    exact ⟨cell, hA _ _ e1, e2, fun k hk => by rw [hi]; exact e3 k hk⟩
  · obtain ⟨cell, e1, e2, e3⟩ := x2 q
    exact ⟨cell, hA _ _ e1, e2, fun k hk => by rw [hl]; exact e3 k hk⟩
  · obtain ⟨cell, e1, e2, e3⟩ := x3 q
    exact ⟨cell, hA _ _ e1, e2, fun k hk => by rw [hi]; exact e3 k hk⟩
theorem up_ne {α : Type} {f : Nat → Nat → α} {a k : Nat} {v : α} {x : Nat} (h : x ≠ a) (y : Nat) : up f a k v x y = f x y := by simp [up, h]
theorem up_eq {α : Type} {f : Nat → Nat → α} {a k : Nat} {v : α} : up f a k v a k = v := by simp [up]
theorem up_ne' {α : Type} {f : Nat → Nat → α} {a k : Nat} {v : α} {y : Nat} (h : y ≠ k) (x : Nat) : up f a k v x y = f x y := by simp [up, h]
theorem RelC.other {sl : Nat} {v : Value} (w : Wr h h' (ρ b) sl v) (ne : ρ a ≠ ρ b) (hi : ∀ k, mi' a k = mi a k) (hl : ∀ k, ml' a k = ml a k) (hr : ∀ k, mr' a k = mr a k) (X : RelC Z W ρ h mi ml mr a c) : RelC Z W ρ h' mi' ml' mr' a c :=
  X.mono (fun _ q => q.wr w) (fun _ _ _ _ q => q.other w (Or.inl ne)) (fun _ _ q => q.other w ne) hi hl hr
theorem RelC.ext (E : Ext h h') (X : RelC Z W ρ h mi ml mr a c) : RelC Z W ρ h' mi ml mr a c :=
  X.mono (fun _ q => q.ext E) (fun _ _ _ _ q => q.ext E) (fun _ _ q => q.ext E) (fun _ => rfl) (fun _ => rfl) (fun _ => rfl)
/-- a field is written -/
theorem RelC.put (hw : ∀ d ∈ W, d.before a0 Z = true) {C n d : String} {k : Nat} {fin : Bool} {u : Nat} {v : Value} (hla : layAt W C n = some (k, d, fin)) (hk0 : kindD d ≠ 0) (w : Wr h h' (ρ a) (Jvm.RoadKit.slotOf Z C n d) v)
    (hv : conc ρ (getV (kindD d) (mi' a k) (ml' a k) (mr' a k)) = v)
    (hi : ∀ j, j ≠ k → mi' a j = mi a j) (hl : ∀ j, j ≠ k → ml' a j = ml a j) (hr : ∀ j, j ≠ k → mr' a j = mr a j) (X : RelC Z W ρ h mi ml mr a (0, C, u)) : RelC Z W ρ h' mi' ml' mr' a (0, C, u) := by
  obtain ⟨x0, -⟩ := X
  refine ⟨fun q => ?_, fun q => (by cases q), fun q => (by cases q), fun q => (by cases q)⟩
  obtain ⟨e1, e2⟩ := x0 q
  refine ⟨e1.wr w, fun n' k' d' fin' e3 e4 => ?_⟩
  by_cases hn : n' = n
  · subst hn
    cases hla.symm.trans e3
    rw [hv]
    exact Fld.same w (e2 _ _ _ _ e3 e4)
  · have hk : k' ≠ k := fun q => by subst q; exact hn (layAt_inj e3 hla)
    rw [hi _ hk, hl _ hk, hr _ hk]
    have pd : ∀ {x : String}, kindD x ≠ 0 → ∃ t, parseFieldDescriptor x = some t := fun {x} q => by
      rcases kindD_lt x with z | z | z | z | z
      · exact absurd z q
      · exact ⟨_, kindD_1 z⟩
      · exact ⟨_, kindD_2 z⟩
      · exact ⟨_, kindD_3 z⟩
      · obtain ⟨t, ht, -⟩ := kindD_4 z; exact ⟨t, ht⟩
    obtain ⟨t1, ht1⟩ := pd e4
    obtain ⟨t2, ht2⟩ := pd hk0
    exact (e2 _ _ _ _ e3 e4).other w (Or.inr (slot_ne (layAt_laid hw e3) (layAt_laid hw hla) hn ht1 ht2))
theorem get_set {cell : Cell} {j k n : Nat} {v : Value} (hs : cell.slots.size = n) (hk : k < n) : (cell.setSlot j v).slots[k]? = if j = k then some v else cell.slots[k]? := by
  by_cases e : j = k
  · subst e
    simp [Cell.setSlot, hs, hk]
  · rw [if_neg e]
    exact Array.getElem?_setIfInBounds_ne e
theorem RelC.st1 {n : Nat} {u : String} {j : Nat} {x : Int32} (w : Wr h h' (ρ a) j (.int x)) (X : RelC Z W ρ h mi ml mr a (1, u, n)) : RelC Z W ρ h' (up mi a j x) ml mr a (1, u, n) := by
  obtain ⟨-, x1, -⟩ := X
  refine ⟨fun q => (by cases q), fun q => ?_, fun q => (by cases q), fun q => (by cases q)⟩
  obtain ⟨cell, e1, e2, e3⟩ := x1 q
  refine ⟨_, e1.same w, (sz_set _ _ _).trans e2, fun k hk => ?_⟩
  rw [get_set e2 hk]
  by_cases e : j = k
  · subst e; simp [up]
  · rw [if_neg e, e3 k hk]; simp [up, Ne.symm e]
theorem RelC.st3 {n : Nat} {u : String} {j : Nat} {x : Int32} (w : Wr h h' (ρ a) j (.int x)) (X : RelC Z W ρ h mi ml mr a (3, u, n)) : RelC Z W ρ h' (up mi a j x) ml mr a (3, u, n) := by
  obtain ⟨-, -, -, x1⟩ := X
  refine ⟨fun q => (by cases q), fun q => (by cases q), fun q => (by cases q), fun q => ?_⟩
  obtain ⟨cell, e1, e2, e3⟩ := x1 q
  refine ⟨_, e1.same w, (sz_set _ _ _).trans e2, fun k hk => ?_⟩
  rw [get_set e2 hk]
  by_cases e : j = k
  · subst e; simp [up]
  · rw [if_neg e, e3 k hk]; simp [up, Ne.symm e]
theorem RelC.st2 {n : Nat} {u : String} {j : Nat} {x : Int64} (w : Wr h h' (ρ a) j (.long x)) (X : RelC Z W ρ h mi ml mr a (2, u, n)) : RelC Z W ρ h' mi (up ml a j x) mr a (2, u, n) := by
  obtain ⟨-, -, x1, -⟩ := X
  refine ⟨fun q => (by cases q), fun q => (by cases q), fun q => ?_, fun q => (by cases q)⟩
  obtain ⟨cell, e1, e2, e3⟩ := x1 q
  refine ⟨_, e1.same w, (sz_set _ _ _).trans e2, fun k hk => ?_⟩
  rw [get_set e2 hk]
  by_cases e : j = k
  · subst e; simp [up]
  · rw [if_neg e, e3 k hk]; simp [up, Ne.symm e]
/-- one cell is written, the others stay -/
theorem Rel.write {ro n0 : Nat} {L : ELay} {sl : Nat} {v : Value} (hρ : ∀ a b, ρ a = ρ b → a = b) (w : Wr h h' (ρ a) sl v) (hc : L[a]? = some c)
    (hi : ∀ x, x ≠ a → ∀ k, mi' x k = mi x k) (hl : ∀ x, x ≠ a → ∀ k, ml' x k = ml x k) (hr : ∀ x, x ≠ a → ∀ k, mr' x k = mr x k)
    (self : RelC Z W ρ h mi ml mr a c → RelC Z W ρ h' mi' ml' mr' a c) (X : Rel Z W ρ ro n0 h (L, mi, ml, mr)) : Rel Z W ρ ro n0 h' (L, mi', ml', mr') := by
  obtain ⟨x1, x2, x3, x4⟩ := X
  have hlt : a < L.length := (List.getElem?_eq_some_iff.mp hc).1
  refine ⟨by rw [w.size]; exact x1, x2, fun b cb hb => ?_, fun b hb k => ?_⟩
  · by_cases e : b = a
    · subst e
      cases hc.symm.trans hb
      exact self (x3 _ _ hc)
    · exact (x3 b cb hb).other w (fun q => e (hρ _ _ q)) (hi b e) (hl b e) (hr b e)
  · have e : b ≠ a := fun q => by
      have hb' : L.length ≤ b := hb
      omega
    obtain ⟨y1, y2, y3⟩ := x4 b hb k
    exact ⟨(hi b e k).trans y1, (hl b e k).trans y2, (hr b e k).trans y3⟩
/-- one cell more -/
theorem Rel.push {ro n0 : Nat} {L : ELay} (E : Ext h h') (hsz : h'.size = h.size + 1) (new : RelC Z W ρ h' mi ml mr L.length c) (X : Rel Z W ρ ro n0 h (L, mi, ml, mr)) : Rel Z W ρ ro n0 h' (L ++ [c], mi, ml, mr) := by
  obtain ⟨x1, x2, x3, x4⟩ := X
  have x2' : ro ≤ L.length := x2
  have x1' : h.size = n0 + (L.length - ro) := x1
  refine ⟨?_, ?_, fun b cb hb => ?_, fun b hb k => ?_⟩
  · show h'.size = n0 + ((L ++ [c]).length - ro)
    rw [hsz, x1', List.length_append]
    simp; omega
  · show ro ≤ (L ++ [c]).length
    rw [List.length_append]; omega
  · have hb' : (L ++ [c])[b]? = some cb := hb
    by_cases e : b < L.length
    · rw [List.getElem?_append_left e] at hb'
      exact (x3 b cb hb').ext E
    · have hlt := (List.getElem?_eq_some_iff.mp hb').1
      rw [List.length_append] at hlt
      have : b = L.length := by simp at hlt; omega
      subst this
      simp at hb'
      subst hb'
      exact new
  · have hb' : (L ++ [c]).length ≤ b := hb
    rw [List.length_append] at hb'
    exact x4 b (by show L.length ≤ b; omega) k
end R
end Jvm.OwnEv
namespace Jvm.OwnEv
open Sem ClassFile Op Lib Jvm.Stand Jvm.Free Jvm.LawKit Jvm.RoadKit
/-! PART 4: the evaluator's plain steps are steps of the model -/
def Here (p : Program) (l : Launch) (e : Env) (R : Room) (s : State) (m : MethodId) (args : Array Value) (below : List Frame) (meth : Method) (c : Code) (Z : State) (W : List Jvm.Cond) (ρ : Nat → Addr) (ro n0 : Nat) (L0 : ELay) (T : State) (M : EMem) : Prop :=
  ∃ locs, Stand p l e R s m args below meth c T locs (M.1.length - L0.length) (szL M.1 - szL L0) ∧ Fr n0 locs ∧ Rel Z W ρ ro n0 T.heap M
theorem objInitAt_spec {W : List Jvm.Cond} {own : String} {idx : Nat} (h : objInitAt W own idx = true) : Jvm.Cond.methodLink own idx Lib.objectInit ∈ W ∧ Jvm.Cond.instanceMethod Lib.objectInit ∈ W ∧ Jvm.Cond.code Lib.objectInit ⟨#[0xb1]⟩ 1 none ∈ W := by
  unfold objInitAt at h
  split at h
  · rename_i z b n r h1 h2
    simp only [Bool.and_eq_true, decide_eq_true_eq] at h
    obtain ⟨⟨⟨⟨rfl, h3⟩, rfl⟩, rfl⟩, rfl⟩ := h
    exact ⟨methodLk_mem h1, hasInst_mem h3, codeLk_mem h2⟩
  · cases h
section S
variable {p : Program} {l : Launch} {e : Env} {R : Room} {s : State} {m : MethodId} {args : Array Value} {below : List Frame} {meth : Method} {c : Code} {Z : State} {a0 : Array Value} {W : List Jvm.Cond} {ρ : Nat → Addr} {ro n0 : Nat} {L0 : ELay} {y : MethodName} {T : State} {M : EMem}
set_option maxRecDepth 65536 in
set_option maxHeartbeats 40000000 in
theorem execP_sound (H : Here p l e R s m args below meth c Z W ρ ro n0 L0 T M) (hx : p.tables.exec = Jvm.exec) (hZ : Z.Warmed39 s.vm) (hw : ∀ d ∈ W, d.before a0 Z = true) (hown : s.vm.findClass y.cls = some m.cls) {F Lb : Nat} (hF : F ≤ R.frames) (hLb : Lb ≤ R.locals)
    {ls ls' : List Slot} {st st' : List Value} {ins : Instr} {pc pc' len : Nat} (hsz : ls.length = c.maxLocals) (hd : decode c.code pc = .ok (ins, len)) (hl : lenOk len ins = true) (h : execP W F Lb y ins pc len ls st M = some (pc', ls', st')) :
    ls'.length = ls.length ∧ ∃ T', Here p l e R s m args below meth c Z W ρ ro n0 L0 T' M ∧ ∀ target, Steps p.tables e below (T'.setTop (mkF m pc' (cl ρ ls') (cs ρ st'))) target → Steps p.tables e below (T.setTop (mkF m pc (cl ρ ls) (cs ρ st))) target := by
  obtain ⟨locs, X, N, Rl⟩ := H
  have A := X.here
  unfold execP at h
  split at h
  · rename_i k
    obtain rfl : len = 2 := by simpa [lenOk] using hl
    split at h
    · rename_i a ha; cases h; exact ⟨rfl, T, ⟨locs, X, N, Rl⟩, fun t k => XS.aload A hx rfl hd (get_cl ha) rfl k⟩
    · rename_i ha; cases h; exact ⟨rfl, T, ⟨locs, X, N, Rl⟩, fun t k => XS.aload A hx rfl hd (get_cl ha) rfl k⟩
    · cases h
  · rename_i k
    obtain rfl : len = 1 := by simpa [lenOk] using hl
    split at h
    · rename_i a ha; cases h; exact ⟨rfl, T, ⟨locs, X, N, Rl⟩, fun t k => XS.aloadN A hx rfl hd (get_cl ha) rfl k⟩
    · rename_i ha; cases h; exact ⟨rfl, T, ⟨locs, X, N, Rl⟩, fun t k => XS.aloadN A hx rfl hd (get_cl ha) rfl k⟩
    · cases h
  · rename_i k
    obtain rfl : len = 2 := by simpa [lenOk] using hl
    split at h
    · rename_i a ha; cases h; exact ⟨rfl, T, ⟨locs, X, N, Rl⟩, fun t k => XS.iload A hx rfl hd (get_cl ha) k⟩
    · cases h
  · rename_i k
    obtain rfl : len = 1 := by simpa [lenOk] using hl
    split at h
    · rename_i a ha; cases h; exact ⟨rfl, T, ⟨locs, X, N, Rl⟩, fun t k => XS.iloadN A hx rfl hd (get_cl ha) k⟩
    · cases h
  · rename_i k
    obtain rfl : len = 2 := by simpa [lenOk] using hl
    split at h
    · rename_i a ha; cases h; exact ⟨rfl, T, ⟨locs, X, N, Rl⟩, fun t k => XT.lload A hx rfl hd (get_cl ha) k⟩
    · cases h
  · rename_i k
    obtain rfl : len = 1 := by simpa [lenOk] using hl
    split at h
    · rename_i a ha; cases h; exact ⟨rfl, T, ⟨locs, X, N, Rl⟩, fun t k => XT.lloadN A hx rfl hd (get_cl ha) k⟩
    · cases h
  · rename_i k
    obtain rfl : len = 2 := by simpa [lenOk] using hl
    split at h
    · split at h
      · rename_i l' hs; cases h; exact ⟨storeL_len hs, T, ⟨locs, X, N, Rl⟩, fun t k => XS.istore A hx rfl hd rfl (storeL_conc (ρ := ρ) hs) k⟩
      · cases h
    · cases h
  · rename_i k
    obtain rfl : len = 1 := by simpa [lenOk] using hl
    split at h
    · split at h
      · rename_i l' hs; cases h; exact ⟨storeL_len hs, T, ⟨locs, X, N, Rl⟩, fun t k => XS.istoreN A hx rfl hd rfl (storeL_conc (ρ := ρ) hs) k⟩
      · cases h
    · cases h
  · rename_i k
    obtain rfl : len = 2 := by simpa [lenOk] using hl
    split at h
    · split at h
      · rename_i l' hs; cases h; exact ⟨storeL_len hs, T, ⟨locs, X, N, Rl⟩, fun t k => XT.lstore A hx rfl hd rfl (storeL_conc (ρ := ρ) hs) k⟩
      · cases h
    · cases h
  · rename_i k
    obtain rfl : len = 1 := by simpa [lenOk] using hl
    split at h
    · split at h
      · rename_i l' hs; cases h; exact ⟨storeL_len hs, T, ⟨locs, X, N, Rl⟩, fun t k => XT.lstoreN A hx rfl hd rfl (storeL_conc (ρ := ρ) hs) k⟩
      · cases h
    · cases h
  · rename_i k
    obtain rfl : len = 2 := by simpa [lenOk] using hl
    split at h
    · split at h
      · rename_i l' hs; cases h; exact ⟨storeL_len hs, T, ⟨locs, X, N, Rl⟩, fun t k => XS.astore A hx rfl hd rfl rfl (storeL_conc (ρ := ρ) hs) k⟩
      · cases h
    · cases h
  · rename_i k
    obtain rfl : len = 1 := by simpa [lenOk] using hl
    split at h
    · split at h
      · rename_i l' hs; cases h; exact ⟨storeL_len hs, T, ⟨locs, X, N, Rl⟩, fun t k => XS.astoreN A hx rfl hd rfl rfl (storeL_conc (ρ := ρ) hs) k⟩
      · cases h
    · cases h
  · rename_i k d
    obtain rfl : len = 3 := by simpa [lenOk] using hl
    split at h
    · rename_i v ha; split at h
      · rename_i l' hs; cases h; exact ⟨storeL_len hs, T, ⟨locs, X, N, Rl⟩, fun t k => XS.iinc A hx rfl hd (get_cl ha) (storeL_conc (ρ := ρ) hs) k⟩
      · cases h
    · cases h
  · rename_i i
    obtain rfl : len = 1 := by simpa [lenOk] using hl
    cases h; exact ⟨rfl, T, ⟨locs, X, N, Rl⟩, fun t k => XS.iconst A hx rfl hd k⟩
  · rename_i i
    obtain rfl : len = 2 := by simpa [lenOk] using hl
    cases h; exact ⟨rfl, T, ⟨locs, X, N, Rl⟩, fun t k => XS.bipush A hx rfl hd k⟩
  · rename_i i
    obtain rfl : len = 3 := by simpa [lenOk] using hl
    cases h; exact ⟨rfl, T, ⟨locs, X, N, Rl⟩, fun t k => XS.sipush A hx rfl hd k⟩
  · rename_i i
    obtain rfl : len = 1 := by simpa [lenOk] using hl
    cases h; exact ⟨rfl, T, ⟨locs, X, N, Rl⟩, fun t k => XT.lconst A hx rfl hd k⟩
  · rename_i i
    obtain rfl : len = 2 := by simpa [lenOk] using hl
    split at h
    · rename_i v hv; cases h; exact ⟨rfl, T, ⟨locs, X, N, Rl⟩, fun t k => X.ldcInt hx hown (mvT hZ (hw _ (intLk_mem hv))) (g := mkF m pc (cl ρ ls) (cs ρ st)) rfl hd t k⟩
    · cases h
  · rename_i i
    obtain rfl : len = 3 := by simpa [lenOk] using hl
    split at h
    · rename_i v hv; cases h; exact ⟨rfl, T, ⟨locs, X, N, Rl⟩, fun t k => X.ldcwInt hx hown (mvT hZ (hw _ (intLk_mem hv))) (g := mkF m pc (cl ρ ls) (cs ρ st)) rfl hd t k⟩
    · cases h
  · rename_i i
    obtain rfl : len = 3 := by simpa [lenOk] using hl
    split at h
    · rename_i v hv; cases h; exact ⟨rfl, T, ⟨locs, X, N, Rl⟩, fun t k => X.ldc2Long hx hown (mvT hZ (hw _ (longLk_mem hv))) (g := mkF m pc (cl ρ ls) (cs ρ st)) rfl hd t k⟩
    · cases h
  · obtain rfl : len = 1 := by simpa [lenOk] using hl
    split at h
    · cases h; exact ⟨rfl, T, ⟨locs, X, N, Rl⟩, fun t k => XS.iadd A hx rfl hd rfl k⟩
    · cases h
  · obtain rfl : len = 1 := by simpa [lenOk] using hl
    split at h
    · cases h; exact ⟨rfl, T, ⟨locs, X, N, Rl⟩, fun t k => XS.isub A hx rfl hd rfl k⟩
    · cases h
  · obtain rfl : len = 1 := by simpa [lenOk] using hl
    split at h
    · cases h; exact ⟨rfl, T, ⟨locs, X, N, Rl⟩, fun t k => XS.imul A hx rfl hd rfl k⟩
    · cases h
  · obtain rfl : len = 1 := by simpa [lenOk] using hl
    split at h
    · cases h; exact ⟨rfl, T, ⟨locs, X, N, Rl⟩, fun t k => XS.iand A hx rfl hd rfl k⟩
    · cases h
  · obtain rfl : len = 1 := by simpa [lenOk] using hl
    split at h
    · cases h; exact ⟨rfl, T, ⟨locs, X, N, Rl⟩, fun t k => XT.ior A hx rfl hd rfl k⟩
    · cases h
  · obtain rfl : len = 1 := by simpa [lenOk] using hl
    split at h
    · cases h; exact ⟨rfl, T, ⟨locs, X, N, Rl⟩, fun t k => XT.ixor A hx rfl hd rfl k⟩
    · cases h
  · obtain rfl : len = 1 := by simpa [lenOk] using hl
    split at h
    · cases h; exact ⟨rfl, T, ⟨locs, X, N, Rl⟩, fun t k => XT.ishl A hx rfl hd rfl k⟩
    · cases h
  · obtain rfl : len = 1 := by simpa [lenOk] using hl
    split at h
    · cases h; exact ⟨rfl, T, ⟨locs, X, N, Rl⟩, fun t k => XT.ishr A hx rfl hd rfl k⟩
    · cases h
  · obtain rfl : len = 1 := by simpa [lenOk] using hl
    split at h
    · cases h; exact ⟨rfl, T, ⟨locs, X, N, Rl⟩, fun t k => XT.iushr A hx rfl hd rfl k⟩
    · cases h
  · obtain rfl : len = 1 := by simpa [lenOk] using hl
    split at h
    · split at h
      · cases h
      · rename_i hb; cases h; exact ⟨rfl, T, ⟨locs, X, N, Rl⟩, fun t k => XS.idiv A hx rfl hd rfl hb k⟩
    · cases h
  · obtain rfl : len = 1 := by simpa [lenOk] using hl
    split at h
    · split at h
      · cases h
      · rename_i hb; cases h; exact ⟨rfl, T, ⟨locs, X, N, Rl⟩, fun t k => XS.irem A hx rfl hd rfl hb k⟩
    · cases h
  · obtain rfl : len = 1 := by simpa [lenOk] using hl
    split at h
    · cases h; exact ⟨rfl, T, ⟨locs, X, N, Rl⟩, fun t k => XS.ineg A hx rfl hd rfl k⟩
    · cases h
  · obtain rfl : len = 1 := by simpa [lenOk] using hl
    split at h
    · cases h; exact ⟨rfl, T, ⟨locs, X, N, Rl⟩, fun t k => XT.ladd A hx rfl hd rfl k⟩
    · cases h
  · obtain rfl : len = 1 := by simpa [lenOk] using hl
    split at h
    · cases h; exact ⟨rfl, T, ⟨locs, X, N, Rl⟩, fun t k => XT.lsub A hx rfl hd rfl k⟩
    · cases h
  · obtain rfl : len = 1 := by simpa [lenOk] using hl
    split at h
    · cases h; exact ⟨rfl, T, ⟨locs, X, N, Rl⟩, fun t k => XT.lmul A hx rfl hd rfl k⟩
    · cases h
  · obtain rfl : len = 1 := by simpa [lenOk] using hl
    split at h
    · cases h; exact ⟨rfl, T, ⟨locs, X, N, Rl⟩, fun t k => XT.land A hx rfl hd rfl k⟩
    · cases h
  · obtain rfl : len = 1 := by simpa [lenOk] using hl
    split at h
    · cases h; exact ⟨rfl, T, ⟨locs, X, N, Rl⟩, fun t k => XT.lor A hx rfl hd rfl k⟩
    · cases h
  · obtain rfl : len = 1 := by simpa [lenOk] using hl
    split at h
    · cases h; exact ⟨rfl, T, ⟨locs, X, N, Rl⟩, fun t k => XT.lxor A hx rfl hd rfl k⟩
    · cases h
  · obtain rfl : len = 1 := by simpa [lenOk] using hl
    split at h
    · cases h; exact ⟨rfl, T, ⟨locs, X, N, Rl⟩, fun t k => XT.lshl A hx rfl hd rfl k⟩
    · cases h
  · obtain rfl : len = 1 := by simpa [lenOk] using hl
    split at h
    · cases h; exact ⟨rfl, T, ⟨locs, X, N, Rl⟩, fun t k => XT.lshr A hx rfl hd rfl k⟩
    · cases h
  · obtain rfl : len = 1 := by simpa [lenOk] using hl
    split at h
    · cases h; exact ⟨rfl, T, ⟨locs, X, N, Rl⟩, fun t k => XT.lushr A hx rfl hd rfl k⟩
    · cases h
  · obtain rfl : len = 1 := by simpa [lenOk] using hl
    split at h
    · split at h
      · cases h
      · rename_i hb; cases h; exact ⟨rfl, T, ⟨locs, X, N, Rl⟩, fun t k => XT.ldiv A hx rfl hd rfl hb k⟩
    · cases h
  · obtain rfl : len = 1 := by simpa [lenOk] using hl
    split at h
    · split at h
      · cases h
      · rename_i hb; cases h; exact ⟨rfl, T, ⟨locs, X, N, Rl⟩, fun t k => XT.lrem A hx rfl hd rfl hb k⟩
    · cases h
  · obtain rfl : len = 1 := by simpa [lenOk] using hl
    split at h
    · cases h; exact ⟨rfl, T, ⟨locs, X, N, Rl⟩, fun t k => XT.lneg A hx rfl hd rfl k⟩
    · cases h
  · obtain rfl : len = 1 := by simpa [lenOk] using hl
    split at h
    · cases h; exact ⟨rfl, T, ⟨locs, X, N, Rl⟩, fun t k => XT.lcmp A hx rfl hd rfl k⟩
    · cases h
  · obtain rfl : len = 1 := by simpa [lenOk] using hl
    split at h
    · cases h; exact ⟨rfl, T, ⟨locs, X, N, Rl⟩, fun t k => XT.i2l A hx rfl hd rfl k⟩
    · cases h
  · obtain rfl : len = 1 := by simpa [lenOk] using hl
    split at h
    · cases h; exact ⟨rfl, T, ⟨locs, X, N, Rl⟩, fun t k => XT.l2i A hx rfl hd rfl k⟩
    · cases h
  · obtain rfl : len = 1 := by simpa [lenOk] using hl
    split at h
    · cases h; exact ⟨rfl, T, ⟨locs, X, N, Rl⟩, fun t k => XT.i2s A hx rfl hd rfl k⟩
    · cases h
  · obtain rfl : len = 1 := by simpa [lenOk] using hl
    split at h
    · cases h; exact ⟨rfl, T, ⟨locs, X, N, Rl⟩, fun t k => XS.dup A hx rfl hd rfl rfl k⟩
    · cases h; exact ⟨rfl, T, ⟨locs, X, N, Rl⟩, fun t k => XS.dup A hx rfl hd rfl rfl k⟩
    · cases h
  · obtain rfl : len = 1 := by simpa [lenOk] using hl
    split at h
    · cases h; exact ⟨rfl, T, ⟨locs, X, N, Rl⟩, fun t k => XT.dup2 A hx rfl hd rfl rfl rfl k⟩
    · cases h; exact ⟨rfl, T, ⟨locs, X, N, Rl⟩, fun t k => XT.dup2 A hx rfl hd rfl rfl rfl k⟩
    · cases h; exact ⟨rfl, T, ⟨locs, X, N, Rl⟩, fun t k => XT.dup2L A hx rfl hd rfl k⟩
    · cases h
  · obtain rfl : len = 1 := by simpa [lenOk] using hl
    split at h
    · cases h; exact ⟨rfl, T, ⟨locs, X, N, Rl⟩, fun t k => XT.dupX1 A hx rfl hd rfl rfl rfl k⟩
    · cases h
  · obtain rfl : len = 1 := by simpa [lenOk] using hl
    split at h
    · cases h; exact ⟨rfl, T, ⟨locs, X, N, Rl⟩, fun t k => XT.pop A hx rfl hd rfl rfl k⟩
    · cases h; exact ⟨rfl, T, ⟨locs, X, N, Rl⟩, fun t k => XT.pop A hx rfl hd rfl rfl k⟩
    · cases h
  · rename_i o
    obtain rfl : len = 3 := by simpa [lenOk] using hl
    split at h
    · rename_i t ht; cases h; obtain ⟨j1, j2⟩ := jump_spec ht
      exact ⟨rfl, T, ⟨locs, X, N, Rl⟩, fun t k => XS.goto A hx rfl rfl hd j1 j2 k⟩
    · cases h
  · rename_i cd o
    obtain rfl : len = 3 := by simpa [lenOk] using hl
    split at h
    · rename_i a r
      split at h
      · rename_i t ht; cases h; obtain ⟨j1, j2⟩ := jump_spec ht
        refine ⟨rfl, T, ⟨locs, X, N, Rl⟩, fun t k => ?_⟩
        cases hb : ifCond.holds cd a with
        | true => rw [hb, if_pos rfl] at k; exact XS.ifYes A hx rfl rfl hd rfl hb j1 j2 k
        | false => rw [hb, if_neg Bool.false_ne_true] at k; exact XS.ifNo A hx rfl hd rfl hb k
      · cases h
    · cases h
  · rename_i cd o
    obtain rfl : len = 3 := by simpa [lenOk] using hl
    split at h
    · rename_i b a r
      split at h
      · rename_i t ht; cases h; obtain ⟨j1, j2⟩ := jump_spec ht
        refine ⟨rfl, T, ⟨locs, X, N, Rl⟩, fun t k => ?_⟩
        cases hb : if_icmp.holds cd a b with
        | true => rw [hb, if_pos rfl] at k; exact XS.icmpYes A hx rfl rfl hd rfl hb j1 j2 k
        | false => rw [hb, if_neg Bool.false_ne_true] at k; exact XS.icmpNo A hx rfl hd rfl hb k
      · cases h
    · cases h
  · rename_i o
    obtain rfl : len = 3 := by simpa [lenOk] using hl
    split at h
    · split at h
      · rename_i t ht; cases h; obtain ⟨j1, j2⟩ := jump_spec ht
        exact ⟨rfl, T, ⟨locs, X, N, Rl⟩, fun t k => XS.ifnullYes A hx rfl rfl hd rfl j1 j2 k⟩
      · cases h
    · cases h; exact ⟨rfl, T, ⟨locs, X, N, Rl⟩, fun t k => XS.ifnullNo A hx rfl hd rfl k⟩
    · cases h
  · rename_i o
    obtain rfl : len = 3 := by simpa [lenOk] using hl
    split at h
    · split at h
      · rename_i t ht; cases h; obtain ⟨j1, j2⟩ := jump_spec ht
        exact ⟨rfl, T, ⟨locs, X, N, Rl⟩, fun t k => XT.ifnonnullYes A hx rfl rfl hd rfl j1 j2 k⟩
      · cases h
    · cases h; exact ⟨rfl, T, ⟨locs, X, N, Rl⟩, fun t k => XT.ifnonnullNo A hx rfl hd rfl k⟩
    · cases h
  · rename_i dflt low high offs
    split at h
    · split at h
      · rename_i hout; split at h
        · rename_i t ht; cases h; obtain ⟨j1, j2⟩ := jump_spec ht
          exact ⟨rfl, T, ⟨locs, X, N, Rl⟩, fun t k => XS.tswOut A hx rfl rfl hd rfl hout j1 j2 k⟩
        · cases h
      · rename_i hin; split at h
        · cases h
        · rename_i off hoff; split at h
          · rename_i t ht; cases h; obtain ⟨j1, j2⟩ := jump_spec ht
            exact ⟨rfl, T, ⟨locs, X, N, Rl⟩, fun t k => XS.tswIn A hx rfl rfl hd rfl hin hoff j1 j2 k⟩
          · cases h
    · cases h
  · rename_i idx
    obtain rfl : len = 3 := by simpa [lenOk] using hl
    split at h
    · rename_i a r; split at h
      · rename_i C k kd fin C' u hf hc
        split at h
        · rename_i hC
          cases h
          subst hC
          obtain ⟨n, d, q1, q2, rfl, q4⟩ := fieldAt_spec hf
          have Fd := ((Rl.2.2.1 _ _ hc).1 rfl).2 _ _ _ _ q2 q4
          obtain ⟨T', X', e', st'⟩ := getF X hx hZ hown (host := "") (Or.inl (hw _ q1)) Via.refl rfl Fd (g := mkF m pc (cl ρ ls) (cs ρ (.ref a :: r))) rfl rfl hd
          exact ⟨rfl, T', ⟨locs, X', N, by rw [e']; exact Rl⟩, fun t k => st' t k⟩
        · cases h
      · cases h
    · cases h
  · obtain rfl : len = 1 := by simpa [lenOk] using hl
    split at h
    · rename_i a r; split at h
      · rename_i u n hc
        cases h
        obtain ⟨cell, Ar, hs, -⟩ := (Rl.2.2.1 _ _ hc).2.1 rfl
        have hs' : cell.slots.size = n := hs
        refine ⟨rfl, T, ⟨locs, X, N, Rl⟩, fun t k => X.arraylength hx Ar.1 (State.isArrayOf_alike hZ.alike Ar.2.1) (g := mkF m pc (cl ρ ls) (cs ρ (.ref a :: r))) rfl rfl hd t ?_⟩
        rw [hs']; exact k
      · rename_i u n hc
        cases h
        obtain ⟨cell, Ar, hs, -⟩ := (Rl.2.2.1 _ _ hc).2.2.1 rfl
        have hs' : cell.slots.size = n := hs
        refine ⟨rfl, T, ⟨locs, X, N, Rl⟩, fun t k => X.arraylength hx Ar.1 (State.isArrayOf_alike hZ.alike Ar.2.1) (g := mkF m pc (cl ρ ls) (cs ρ (.ref a :: r))) rfl rfl hd t ?_⟩
        rw [hs']; exact k
      · rename_i u n hc
        cases h
        obtain ⟨cell, Ar, hs, -⟩ := (Rl.2.2.1 _ _ hc).2.2.2 rfl
        have hs' : cell.slots.size = n := hs
        refine ⟨rfl, T, ⟨locs, X, N, Rl⟩, fun t k => X.arraylength hx Ar.1 (State.isArrayOf_alike hZ.alike Ar.2.1) (g := mkF m pc (cl ρ ls) (cs ρ (.ref a :: r))) rfl rfl hd t ?_⟩
        rw [hs']; exact k
      · cases h
    · cases h
  · obtain rfl : len = 1 := by simpa [lenOk] using hl
    split at h
    · rename_i j a r; split at h
      · rename_i u n hc
        split at h
        · rename_i hj
          cases h
          obtain ⟨cell, Ar, hs, hv⟩ := (Rl.2.2.1 _ _ hc).2.1 rfl
          have hs' : cell.slots.size = n := hs
          have hj' := inb_spec hj
          have hlt : j.toNatClampNeg < n := by
            have := fun q => hj' (Or.inr q)
            omega
          exact ⟨rfl, T, ⟨locs, X, N, Rl⟩, fun t k => X.iaload hx Ar.1 (State.isArrayOf_alike hZ.alike Ar.2.1) Ar.2.2 (by rw [hs']; exact hj') (hv _ hlt) (g := mkF m pc (cl ρ ls) (cs ρ (.int j :: .ref a :: r))) rfl rfl hd t k⟩
        · cases h
      · cases h
    · cases h
  · obtain rfl : len = 1 := by simpa [lenOk] using hl
    split at h
    · rename_i j a r; split at h
      · rename_i u n hc
        split at h
        · rename_i hj
          cases h
          obtain ⟨cell, Ar, hs, hv⟩ := (Rl.2.2.1 _ _ hc).2.2.2 rfl
          have hs' : cell.slots.size = n := hs
          have hj' := inb_spec hj
          have hlt : j.toNatClampNeg < n := by
            have := fun q => hj' (Or.inr q)
            omega
          exact ⟨rfl, T, ⟨locs, X, N, Rl⟩, fun t k => X.baloadBooleans hx Ar.1 (State.isArrayOf_alike hZ.alike Ar.2.1) Ar.2.2 (by rw [hs']; exact hj') (hv _ hlt) (g := mkF m pc (cl ρ ls) (cs ρ (.int j :: .ref a :: r))) rfl rfl hd t k⟩
        · cases h
      · cases h
    · cases h
  · obtain rfl : len = 1 := by simpa [lenOk] using hl
    split at h
    · rename_i j a r; split at h
      · rename_i u n hc
        split at h
        · rename_i hj
          cases h
          obtain ⟨cell, Ar, hs, hv⟩ := (Rl.2.2.1 _ _ hc).2.2.1 rfl
          have hs' : cell.slots.size = n := hs
          have hj' := inb_spec hj
          have hlt : j.toNatClampNeg < n := by
            have := fun q => hj' (Or.inr q)
            omega
          exact ⟨rfl, T, ⟨locs, X, N, Rl⟩, fun t k => X.laload hx Ar.1 (State.isArrayOf_alike hZ.alike Ar.2.1) Ar.2.2 (by rw [hs']; exact hj') (hv _ hlt) (g := mkF m pc (cl ρ ls) (cs ρ (.int j :: .ref a :: r))) rfl rfl hd t k⟩
        · cases h
      · cases h
    · cases h
  · rename_i idx
    obtain rfl : len = 3 := by simpa [lenOk] using hl
    split at h
    · rename_i a r; split at h
      · rename_i hc
        cases h
        obtain ⟨c1, c2, c3⟩ := hc
        obtain ⟨w1, w2, w3⟩ := objInitAt_spec c1
        obtain ⟨T', X', e', stp⟩ := initO X hx hZ hown (hw _ w1) (hw _ w2) (hw _ w3) rfl (g := mkF m pc (cl ρ ls) (cs ρ (.ref a :: st'))) rfl (by simp [hsz]) rfl hd (by omega) (W := wt st') (by show 2 * 0 + ((st'.map (conc ρ)).map fun v => v.category).sum ≤ _; rw [wt_conc]; omega) (by omega)
        exact ⟨rfl, T', ⟨locs, X', N, by rw [e']; exact Rl⟩, fun t k => stp t k⟩
      · cases h
    · cases h
  · cases h
theorem execM_ext {ins : Instr} {st st' : List Value} {M M' : EMem} (h : execM W ro y ins st M = some (st', M')) : M.1.length ≤ M'.1.length ∧ szL M.1 ≤ szL M'.1 := by
  have push : ∀ (L : ELay) (x : Nat × String × Nat), L.length ≤ (L ++ [x]).length ∧ szL L ≤ szL (L ++ [x]) := fun L x => by simp [szL]
  unfold execM at h
  split at h
  · split at h
    · split at h
      · split at h
        · split at h <;> first | (cases h; exact ⟨Nat.le_refl _, Nat.le_refl _⟩) | cases h
        · cases h
      · cases h
    · cases h
  all_goals first
    | (split at h
       · split at h
         · split at h
           · cases h; exact ⟨Nat.le_refl _, Nat.le_refl _⟩
           · cases h
         · cases h
       · cases h)
    | (split at h
       · cases h; exact push _ _
       · cases h)
    | (split at h
       · split at h
         · cases h; exact push _ _
         · cases h
       · cases h)
    | cases h
theorem szL_push (L : ELay) (x : Nat × String × Nat) : szL (L ++ [x]) = szL L + x.2.2 := by simp [szL]
set_option maxRecDepth 65536 in
set_option maxHeartbeats 40000000 in
theorem execM_sound (H : Here p l e R s m args below meth c Z W ρ ro n0 L0 T M) (hx : p.tables.exec = Jvm.exec) (hZ : Z.Warmed39 s.vm) (hw : ∀ d ∈ W, d.before a0 Z = true) (hown : s.vm.findClass y.cls = some m.cls) (hnm : meth.name = y.name)
    (hρ : ∀ a b, ρ a = ρ b → a = b) (hρn : ∀ a, ro ≤ a → ρ a = n0 + (a - ro)) (hL : L0.length ≤ M.1.length) (hS : szL L0 ≤ szL M.1) (hs0 : s.heap.size = n0 + (L0.length - ro)) (hro : ro ≤ L0.length)
    {ls : List Slot} {st st' : List Value} {M' : EMem} {ins : Instr} {pc len : Nat} (hd : decode c.code pc = .ok (ins, len)) (hl : lenOk len ins = true) (hRc : M'.1.length - L0.length ≤ R.cells) (hRs : szL M'.1 - szL L0 ≤ R.slots) (h : execM W ro y ins st M = some (st', M')) :
    ∃ T', Here p l e R s m args below meth c Z W ρ ro n0 L0 T' M' ∧ ∀ target, Steps p.tables e below (T'.setTop (mkF m (pc + len) (cl ρ ls) (cs ρ st'))) target → Steps p.tables e below (T.setTop (mkF m pc (cl ρ ls) (cs ρ st))) target := by
  obtain ⟨locs, X, N, Rl⟩ := H
  obtain ⟨L, mi, ml, mr⟩ := M
  have hL' : L0.length ≤ L.length := hL
  have hS' : szL L0 ≤ szL L := hS
  have hsize : T.heap.size = n0 + (L.length - ro) := Rl.1
  have hnew : T.heap.size = ρ L.length := by rw [hρn _ (Nat.le_trans hro hL'), hsize]
  unfold execM at h
  split at h
  · rename_i idx
    obtain rfl : len = 3 := by simpa [lenOk] using hl
    split at h
    · rename_i v a r
      split at h
      · rename_i C k kd fin C' u hf hc
        split at h
        · rename_i hC
          obtain ⟨rfl, hra, hfin, hinst⟩ := hC
          obtain ⟨n, d, q1, q2, rfl, q4⟩ := fieldAt_spec hf
          obtain ⟨ni, hni⟩ := Option.isSome_iff_exists.mp hinst
          have hcell : L[a]? = some (0, C', u) := hc
          obtain ⟨Ex, Fs⟩ := (Rl.2.2.1 _ _ hc).1 rfl
          have Fd := Fs _ _ _ _ q2 q4
          have hge : n0 ≤ ρ a := by rw [hρn a hra]; omega
          have Lw : (Jvm.Cond.lays C' C' n d).before a0 Z = true ∨ ((Jvm.Cond.laysFinal C' C' n d).before a0 Z = true ∧ y.cls = C' ∧ meth.name = "<init>") := by
            have e := hw _ (List.mem_of_getElem? (layAt_spec q2))
            cases fin with
            | false => exact Or.inl e
            | true =>
              rcases hfin with z | ⟨z1, z2⟩
              · cases z
              · exact Or.inr ⟨e, z1, hnm.trans z2⟩
          split at h
          · rename_i x hk
            cases h
            obtain ⟨T', h', X', e', w, stp⟩ := putFN X hx hZ hown (hw _ q1) Via.refl rfl Fd Ex Lw (hw _ (instLk_mem hni)) (ty := .int) (v' := .int x) (kindD_1 hk) rfl rfl (g := mkF m pc (cl ρ ls) (cs ρ (.int x :: .ref a :: st'))) rfl rfl hd
            refine ⟨T', ⟨_, X', Fr.snoc X' N hge, ?_⟩, fun t k => stp t k⟩
            rw [e']
            exact Rel.write hρ w hcell (fun x hx k => up_ne hx k) (fun _ _ _ => rfl) (fun _ _ _ => rfl) (RelC.put hw q2 q4 w (by rw [hk, up_eq]; rfl) (fun j hj => up_ne' hj a) (fun _ _ => rfl) (fun _ _ => rfl)) Rl
          · rename_i x hk
            cases h
            obtain ⟨T', h', X', e', w, stp⟩ := putFN X hx hZ hown (hw _ q1) Via.refl rfl Fd Ex Lw (hw _ (instLk_mem hni)) (ty := .boolean) (v' := .int (x &&& 1)) (kindD_2 hk) rfl (fits_nar_bool x) (g := mkF m pc (cl ρ ls) (cs ρ (.int x :: .ref a :: st'))) rfl rfl hd
            refine ⟨T', ⟨_, X', Fr.snoc X' N hge, ?_⟩, fun t k => stp t k⟩
            rw [e']
            exact Rel.write hρ w hcell (fun x hx k => up_ne hx k) (fun _ _ _ => rfl) (fun _ _ _ => rfl) (RelC.put hw q2 q4 w (by rw [hk, up_eq]; rfl) (fun j hj => up_ne' hj a) (fun _ _ => rfl) (fun _ _ => rfl)) Rl
          · rename_i x hk
            cases h
            obtain ⟨T', h', X', e', w, stp⟩ := putFN X hx hZ hown (hw _ q1) Via.refl rfl Fd Ex Lw (hw _ (instLk_mem hni)) (ty := .long) (v' := .long x) (kindD_3 hk) rfl rfl (g := mkF m pc (cl ρ ls) (cs ρ (.long x :: .ref a :: st'))) rfl rfl hd
            refine ⟨T', ⟨_, X', Fr.snoc X' N hge, ?_⟩, fun t k => stp t k⟩
            rw [e']
            exact Rel.write hρ w hcell (fun _ _ _ => rfl) (fun x hx k => up_ne hx k) (fun _ _ _ => rfl) (RelC.put hw q2 q4 w (by rw [hk, up_eq]; rfl) (fun _ _ => rfl) (fun j hj => up_ne' hj a) (fun _ _ => rfl)) Rl
          · rename_i b hk
            cases h
            obtain ⟨ty, t1, t2, t3, -⟩ := kindD_4 hk
            obtain ⟨T', h', X', e', w, stp⟩ := putFN X hx hZ hown (hw _ q1) Via.refl rfl Fd Ex Lw (hw _ (instLk_mem hni)) (ty := ty) (v' := .ref (ρ b)) t1 (t2 _) (t3 _) (g := mkF m pc (cl ρ ls) (cs ρ (.ref b :: .ref a :: st'))) rfl rfl hd
            refine ⟨T', ⟨_, X', Fr.snoc X' N hge, ?_⟩, fun t k => stp t k⟩
            rw [e']
            exact Rel.write hρ w hcell (fun _ _ _ => rfl) (fun _ _ _ => rfl) (fun x hx k => up_ne hx k) (RelC.put hw q2 q4 w (by rw [hk, up_eq]; rfl) (fun _ _ => rfl) (fun _ _ => rfl) (fun j hj => up_ne' hj a)) Rl
          · cases h
        · cases h
      · cases h
    · cases h
  · obtain rfl : len = 1 := by simpa [lenOk] using hl
    split at h
    · rename_i x j a r
      split at h
      · rename_i u n hc
        split at h
        · rename_i hj
          obtain ⟨hj, hra⟩ := hj
          cases h
          have hcell : L[a]? = some (_, u, n) := hc
          obtain ⟨cell, Ar, hs, hv⟩ := (Rl.2.2.1 _ _ hc).2.1 rfl
          have hs' : cell.slots.size = n := hs
          have hge : n0 ≤ ρ a := by rw [hρn a hra]; omega
          obtain ⟨T', h', X', e', w, stp⟩ := stI X hx hZ rfl Ar (by rw [hs']; exact inb_spec hj) (g := mkF m pc (cl ρ ls) (cs ρ (.int x :: .int j :: .ref a :: st'))) rfl rfl hd
          refine ⟨T', ⟨_, X', Fr.snoc X' N hge, ?_⟩, fun t k => stp t k⟩
          rw [e']
          exact Rel.write hρ w hcell (fun x hx k => up_ne hx k) (fun _ _ _ => rfl) (fun _ _ _ => rfl) (RelC.st1 w) Rl
        · cases h
      · cases h
    · cases h
  · obtain rfl : len = 1 := by simpa [lenOk] using hl
    split at h
    · rename_i x j a r
      split at h
      · rename_i u n hc
        split at h
        · rename_i hj
          obtain ⟨hj, hra⟩ := hj
          cases h
          have hcell : L[a]? = some (_, u, n) := hc
          obtain ⟨cell, Ar, hs, hv⟩ := (Rl.2.2.1 _ _ hc).2.2.2 rfl
          have hs' : cell.slots.size = n := hs
          have hge : n0 ≤ ρ a := by rw [hρn a hra]; omega
          obtain ⟨T', h', X', e', w, stp⟩ := stZ X hx hZ rfl Ar (by rw [hs']; exact inb_spec hj) (g := mkF m pc (cl ρ ls) (cs ρ (.int x :: .int j :: .ref a :: st'))) rfl rfl hd
          refine ⟨T', ⟨_, X', Fr.snoc X' N hge, ?_⟩, fun t k => stp t k⟩
          rw [e']
          exact Rel.write hρ w hcell (fun x hx k => up_ne hx k) (fun _ _ _ => rfl) (fun _ _ _ => rfl) (RelC.st3 w) Rl
        · cases h
      · cases h
    · cases h
  · obtain rfl : len = 1 := by simpa [lenOk] using hl
    split at h
    · rename_i x j a r
      split at h
      · rename_i u n hc
        split at h
        · rename_i hj
          obtain ⟨hj, hra⟩ := hj
          cases h
          have hcell : L[a]? = some (_, u, n) := hc
          obtain ⟨cell, Ar, hs, hv⟩ := (Rl.2.2.1 _ _ hc).2.2.1 rfl
          have hs' : cell.slots.size = n := hs
          have hge : n0 ≤ ρ a := by rw [hρn a hra]; omega
          obtain ⟨T', h', X', e', w, stp⟩ := stJ X hx hZ rfl Ar (by rw [hs']; exact inb_spec hj) (g := mkF m pc (cl ρ ls) (cs ρ (.long x :: .int j :: .ref a :: st'))) rfl rfl hd
          refine ⟨T', ⟨_, X', Fr.snoc X' N hge, ?_⟩, fun t k => stp t k⟩
          rw [e']
          exact Rel.write hρ w hcell (fun _ _ _ => rfl) (fun x hx k => up_ne hx k) (fun _ _ _ => rfl) (RelC.st2 w) Rl
        · cases h
      · cases h
    · cases h
  · rename_i idx
    obtain rfl : len = 3 := by simpa [lenOk] using hl
    split at h
    · rename_i C n hn
      cases h
      obtain ⟨w1, w2, w3⟩ : Jvm.Cond.classLink y.cls idx C ∈ W ∧ Jvm.Cond.instantiable C n ∈ W ∧ Jvm.Cond.initialized C ∈ W := by
        unfold newAt at hn
        split at hn
        · cases hn
        · rename_i C' h1
          split at hn
          · cases hn
          · rename_i n' h2
            split at hn
            · rename_i h3
              cases hn
              exact ⟨classLk_mem h1, instLk_mem h2, hasInit_mem h3⟩
            · cases hn
      have c1 : (L ++ [((0 : Nat), C, n)]).length - L0.length = L.length - L0.length + 1 := by rw [List.length_append]; simp; omega
      have c2 : szL (L ++ [((0 : Nat), C, n)]) - szL L0 = szL L - szL L0 + n := by rw [szL_push]; simp only; omega
      have hRc' : (L ++ [((0 : Nat), C, n)]).length - L0.length ≤ R.cells := hRc
      have hRs' : szL (L ++ [((0 : Nat), C, n)]) - szL L0 ≤ R.slots := hRs
      obtain ⟨T', h', X', e', E, Ex, D, -, st'⟩ := newO X hx hZ hown (hw _ w1) (hw _ w2) (hw _ w3) rfl (g := mkF m pc (cl ρ ls) (cs ρ st)) rfl hd (by show L.length - L0.length + 1 ≤ _; omega) (by show szL L - szL L0 + n ≤ _; omega)
      have hup : T'.heap.size ≤ s.heap.size + (L.length - L0.length + 1) := X'.heapSize
      have hlo : T.heap.size < h'.size := Ex.lt
      refine ⟨T', ⟨locs, by rw [← c1, ← c2] at X'; exact X', N, ?_⟩, fun t k => st' t ?_⟩
      · rw [e']
        rw [e'] at hup
        refine Rel.push E (by omega) ⟨fun _ => ⟨by rw [← hnew]; exact Ex, fun nm k d fin q1 q2 => ?_⟩, fun q => (by cases q), fun q => (by cases q), fun q => (by cases q)⟩ Rl
        obtain ⟨z1, z2, z3⟩ := Rl.2.2.2 L.length (Nat.le_refl _) k
        have z1' : mi L.length k = 0 := z1
        have z2' : ml L.length k = 0 := z2
        have z3' : mr L.length k = .null := z3
        dsimp only
        rw [z1', z2', z3', ← hnew]
        have Lw := layAt_laid hw q1
        rcases kindD_lt d with z | z | z | z | z
        · exact absurd z q2
        · rw [z]; exact D Lw (kindD_1 z)
        · rw [z]; exact D Lw (kindD_2 z)
        · rw [z]; exact D Lw (kindD_3 z)
        · obtain ⟨ty, t1, -, -, t4⟩ := kindD_4 z
          have q := D Lw t1
          rw [t4] at q
          rw [z]; exact q
      · rw [hnew]; exact k
    · cases h
  · obtain rfl : len = 2 := by simpa [lenOk] using hl
    split at h
    · rename_i n r
      split at h
      · rename_i hc
        obtain ⟨hn, hb, ha⟩ := hc
        cases h
        have c1 : (L ++ [((1 : Nat), "", n.toNatClampNeg)]).length - L0.length = L.length - L0.length + 1 := by rw [List.length_append]; simp; omega
        have c2 : szL (L ++ [((1 : Nat), "", n.toNatClampNeg)]) - szL L0 = szL L - szL L0 + n.toNatClampNeg := by rw [szL_push]; simp only; omega
        have hRc' : (L ++ [((1 : Nat), "", n.toNatClampNeg)]).length - L0.length ≤ R.cells := hRc
        have hRs' : szL (L ++ [((1 : Nat), "", n.toNatClampNeg)]) - szL L0 ≤ R.slots := hRs
        obtain ⟨T', h', cA, X', e', E, Ar, st'⟩ := newP X hx hZ (aty := .int) (hw _ (hasArr_mem ha)) rfl (g := mkF m pc (cl ρ ls) (cs ρ (.int n :: r))) rfl hd rfl hn (cap := n.toNatClampNeg) (Nat.le_refl _) hb (by show L.length - L0.length + 1 ≤ _; omega) (by show szL L - szL L0 + n.toNatClampNeg ≤ _; omega)
        have hup : T'.heap.size ≤ s.heap.size + (L.length - L0.length + 1) := X'.heapSize
        have hlo : T.heap.size < h'.size := Ar.lt
        refine ⟨T', ⟨locs, by rw [← c1, ← c2] at X'; exact X', N, ?_⟩, fun t k => st' t ?_⟩
        · rw [e']
          rw [e'] at hup
          refine Rel.push E (by omega) ⟨fun q => (by cases q), fun _ => ?_, fun q => (by cases q), fun q => (by cases q)⟩ Rl
          refine ⟨_, by rw [← hnew]; exact Ar, sz_new _ _ _, fun k hk => ?_⟩
          have hk' : k < n.toNatClampNeg := hk
          have z1 : mi L.length k = 0 := (Rl.2.2.2 L.length (Nat.le_refl _) k).1
          dsimp only
          rw [z1]
          simp [newA, hk']
          rfl
        · rw [hnew]; exact k
      · cases h
    · cases h
  · obtain rfl : len = 2 := by simpa [lenOk] using hl
    split at h
    · rename_i n r
      split at h
      · rename_i hc
        obtain ⟨hn, hb, ha⟩ := hc
        cases h
        have c1 : (L ++ [((2 : Nat), "", n.toNatClampNeg)]).length - L0.length = L.length - L0.length + 1 := by rw [List.length_append]; simp; omega
        have c2 : szL (L ++ [((2 : Nat), "", n.toNatClampNeg)]) - szL L0 = szL L - szL L0 + n.toNatClampNeg := by rw [szL_push]; simp only; omega
        have hRc' : (L ++ [((2 : Nat), "", n.toNatClampNeg)]).length - L0.length ≤ R.cells := hRc
        have hRs' : szL (L ++ [((2 : Nat), "", n.toNatClampNeg)]) - szL L0 ≤ R.slots := hRs
        obtain ⟨T', h', cA, X', e', E, Ar, st'⟩ := newP X hx hZ (aty := .long) (hw _ (hasArr_mem ha)) rfl (g := mkF m pc (cl ρ ls) (cs ρ (.int n :: r))) rfl hd rfl hn (cap := n.toNatClampNeg) (Nat.le_refl _) hb (by show L.length - L0.length + 1 ≤ _; omega) (by show szL L - szL L0 + n.toNatClampNeg ≤ _; omega)
        have hup : T'.heap.size ≤ s.heap.size + (L.length - L0.length + 1) := X'.heapSize
        have hlo : T.heap.size < h'.size := Ar.lt
        refine ⟨T', ⟨locs, by rw [← c1, ← c2] at X'; exact X', N, ?_⟩, fun t k => st' t ?_⟩
        · rw [e']
          rw [e'] at hup
          refine Rel.push E (by omega) ⟨fun q => (by cases q), fun q => (by cases q), fun _ => ?_, fun q => (by cases q)⟩ Rl
          refine ⟨_, by rw [← hnew]; exact Ar, sz_new _ _ _, fun k hk => ?_⟩
          have hk' : k < n.toNatClampNeg := hk
          have z1 : ml L.length k = 0 := (Rl.2.2.2 L.length (Nat.le_refl _) k).2.1
          dsimp only
          rw [z1]
          simp [newA, hk']
          rfl
        · rw [hnew]; exact k
      · cases h
    · cases h
  · obtain rfl : len = 2 := by simpa [lenOk] using hl
    split at h
    · rename_i n r
      split at h
      · rename_i hc
        obtain ⟨hn, hb, ha⟩ := hc
        cases h
        have c1 : (L ++ [((3 : Nat), "", n.toNatClampNeg)]).length - L0.length = L.length - L0.length + 1 := by rw [List.length_append]; simp; omega
        have c2 : szL (L ++ [((3 : Nat), "", n.toNatClampNeg)]) - szL L0 = szL L - szL L0 + n.toNatClampNeg := by rw [szL_push]; simp only; omega
        have hRc' : (L ++ [((3 : Nat), "", n.toNatClampNeg)]).length - L0.length ≤ R.cells := hRc
        have hRs' : szL (L ++ [((3 : Nat), "", n.toNatClampNeg)]) - szL L0 ≤ R.slots := hRs
        obtain ⟨T', h', cA, X', e', E, Ar, st'⟩ := newP X hx hZ (aty := .boolean) (hw _ (hasArr_mem ha)) rfl (g := mkF m pc (cl ρ ls) (cs ρ (.int n :: r))) rfl hd rfl hn (cap := n.toNatClampNeg) (Nat.le_refl _) hb (by show L.length - L0.length + 1 ≤ _; omega) (by show szL L - szL L0 + n.toNatClampNeg ≤ _; omega)
        have hup : T'.heap.size ≤ s.heap.size + (L.length - L0.length + 1) := X'.heapSize
        have hlo : T.heap.size < h'.size := Ar.lt
        refine ⟨T', ⟨locs, by rw [← c1, ← c2] at X'; exact X', N, ?_⟩, fun t k => st' t ?_⟩
        · rw [e']
          rw [e'] at hup
          refine Rel.push E (by omega) ⟨fun q => (by cases q), fun q => (by cases q), fun q => (by cases q), fun _ => ?_⟩ Rl
          refine ⟨_, by rw [← hnew]; exact Ar, sz_new _ _ _, fun k hk => ?_⟩
          have hk' : k < n.toNatClampNeg := hk
          have z1 : mi L.length k = 0 := (Rl.2.2.2 L.length (Nat.le_refl _) k).1
          dsimp only
          rw [z1]
          simp [newA, hk']
          rfl
        · rw [hnew]; exact k
      · cases h
    · cases h
  · cases h
end S
end Jvm.OwnEv
namespace Jvm.OwnEv
open Sem ClassFile Op Lib Jvm.Stand Jvm.Free Jvm.LawKit Jvm.RoadKit
/-! PART 5: what the evaluator answers, the model does -/
theorem run_ext {W : List Jvm.Cond} {ro : Nat} : ∀ (n : Nat) {F Lb : Nat} {y : MethodName} {code : ByteArray} {ret : Option FieldType} {pc : Nat} {ls : List Slot} {st : List Value} {M M' : EMem} {v : Option Value},
    run W ro n F Lb y code ret pc ls st M = some (v, M') → M.1.length ≤ M'.1.length ∧ szL M.1 ≤ szL M'.1
  | 0, _, _, _, _, _, _, _, _, _, _, _, h => by simp [run] at h
  | n + 1, F, Lb, y, code, ret, pc, ls, st, M, M', v, h => by
    unfold run at h
    split at h
    · split at h
      · exact run_ext n h
      · split at h
        · rename_i he
          split at he
          · have q1 := execM_ext he
            have q2 := run_ext n h
            exact ⟨Nat.le_trans q1.1 q2.1, Nat.le_trans q1.2 q2.2⟩
          · cases he
        · split at h
          · cases h; exact ⟨Nat.le_refl _, Nat.le_refl _⟩
          · split at h
            · split at h
              · split at h
                · rename_i hr
                  have q1 := run_ext n hr
                  have q2 := run_ext n h
                  exact ⟨Nat.le_trans q1.1 q2.1, Nat.le_trans q1.2 q2.2⟩
                · cases h
              · cases h
            · cases h
    · cases h
theorem callAt_spec {W : List Jvm.Cond} {own : String} {idx kd : Nat} {z : MethodName} {na : Nat} {b : ByteArray} {mx : Nat} {r : Option FieldType} (h : callAt W own idx kd = some (z, na, b, mx, r)) :
    Jvm.Cond.methodLink own idx z ∈ W ∧ Jvm.Cond.code z b mx r ∈ W ∧ Jvm.Cond.initialized z.cls ∈ W ∧ plainName z.cls = true ∧ (z.cls ≠ "java/lang/invoke/MethodHandle" ∧ z.cls ≠ "java/lang/invoke/VarHandle") ∧ (∀ sig, parseMethodDescriptor z.desc = some sig → na = sig.parameters.length) ∧
    ((kd = 0 ∧ hasDecl z W = true ∧ hasSel z W = true ∧ hasInst z W = true) ∨ (kd = 1 ∧ hasPriv z W = true ∧ hasInst z W = true ∧ (instLk z.cls W).isSome = true) ∨ (kd = 2 ∧ z.name = "<init>" ∧ hasInst z W = true ∧ r = none) ∨ (kd = 3 ∧ hasStat z W = true)) := by
  unfold callAt at h
  split at h
  · cases h
  · rename_i z' h1
    split at h
    · rename_i b' n' r' sig h2 h3
      split at h
      · rename_i hc
        cases h
        obtain ⟨c2, c3, c4, c5, c6⟩ := hc
        exact ⟨methodLk_mem h1, codeLk_mem h2, hasInit_mem c2, c3, ⟨c4, c5⟩, fun sig' q => by rw [h3] at q; cases q; rfl, c6⟩
      · cases h
    · cases h
section S
variable {l : Launch} {Z : State} {a0 : Array Value} {W : List Jvm.Cond} {ρ : Nat → Addr} {ro n0 : Nat}
/-- what a run of n steps promises -/
def Good (l : Launch) (Z : State) (W : List Jvm.Cond) (ρ : Nat → Addr) (ro n0 : Nat) (n : Nat) : Prop :=
  ∀ ⦃F Lb : Nat⦄ ⦃y : MethodName⦄ ⦃code : ByteArray⦄ ⦃ret : Option FieldType⦄ ⦃pc : Nat⦄ ⦃ls : List Slot⦄ ⦃st : List Value⦄ ⦃M M' : EMem⦄ ⦃v : Option Value⦄, run W ro n F Lb y code ret pc ls st M = some (v, M') →
    ∀ ⦃p : Program⦄ ⦃e : Env⦄ ⦃R : Room⦄ ⦃s : State⦄ ⦃m : MethodId⦄ ⦃args : Array Value⦄ ⦃below : List Frame⦄ ⦃meth : Method⦄ ⦃c : Code⦄ ⦃L0 : ELay⦄ ⦃T : State⦄, p.tables.exec = Jvm.exec → Z.Warmed39 s.vm → s.vm.findClass y.cls = some m.cls → meth.name = y.name → c.code = code → meth.sig.returnType = ret → meth.locks = false → ls.length = c.maxLocals →
      F ≤ R.frames → Lb ≤ R.locals → M'.1.length - L0.length ≤ R.cells → szL M'.1 - szL L0 ≤ R.slots → L0.length ≤ M.1.length → szL L0 ≤ szL M.1 → s.heap.size = n0 + (L0.length - ro) → ro ≤ L0.length → Here p l e R s m args below meth c Z W ρ ro n0 L0 T M →
      ∃ (s₂ : State) (L : List Loc), Steps p.tables e below (T.setTop (mkF m pc (cl ρ ls) (cs ρ st))) s₂ ∧ s₂.status = .running ∧ Ended s₂ below (.returned (v.map (conc ρ))) ∧ Rel Z W ρ ro n0 s₂.heap M' ∧ Fr n0 L ∧ s.WarmedH s₂.vm ∧
        s.sameButNew ({ s₂ with vm := s.vm } : State) L (M'.1.length - L0.length) (szL M'.1 - szL L0)
theorem met_of {n : Nat} (G : Good l Z W ρ ro n0 n) {F Lb : Nat} {z : MethodName} {b : ByteArray} {r : Option FieldType} {as : List Value} {mx : Nat} {M M' : EMem} {v : Option Value} (h : run W ro n F Lb z b r 0 (entryL as mx) [] M = some (v, M'))
    (hfl : (fillL as).length ≤ mx) (hp : plainName z.cls = true) {h0 : Heap} (Rl : Rel Z W ρ ro n0 h0 M) {R : Room} (hF : F ≤ R.frames) (hLb : Lb ≤ R.locals) (hRc : M'.1.length - M.1.length ≤ R.cells) (hRs : szL M'.1 - szL M.1 ≤ R.slots) (ws : List Jvm.Cond) :
    MetFree l z (head1 (Jvm.Cond.code z b mx r :: ws) R) (fun a U => a = (as.map (conc ρ)).toArray ∧ Z.Warmed39 U.vm ∧ U.heap = h0) (fun _ _ _ _ _ => True)
      (fun _ U o U' => ∃ v' L, o = .returned v' ∧ (v' = v.map (conc ρ) ∧ Rel Z W ρ ro n0 U'.heap M' ∧ Fr n0 L) ∧ FrameEnd U o U' L (M'.1.length - M.1.length) (szL M'.1 - szL M.1)) := by
  refine MetFree.of_bodySF (plainFor_of_name hp) hisR ?_
  intro p e s m args below meth c s₁ Bd hml0 hP hK
  obtain ⟨rfl, hZ, hh⟩ := hP
  have hown : s.vm.findClass z.cls = some m.cls := findClass_of_methodNamed Bd.named
  have hnm := (name_of_methodNamed Bd.named Bd.method).1
  have X0 : Stand p l e R s m (as.map (conc ρ)).toArray below meth c s₁ [] 0 0 := Stand.of_body Bd
  have e0 : s₁.heap = h0 := by rw [← hh, Bd.state]; rfl
  have hH : Here p l e R s m (as.map (conc ρ)).toArray below meth c Z W ρ ro n0 M.1 s₁ M := ⟨[], by rw [Nat.sub_self, Nat.sub_self]; exact X0, Fr.nil n0, by rw [e0]; exact Rl⟩
  obtain ⟨s₂, L, q1, q2, q3, q4, q5, q6, q7⟩ := G h (p := p) (e := e) (R := R) (s := s) (m := m) (below := below) (L0 := M.1) (T := s₁) Bd.exec hZ hown hnm Bd.bytes Bd.returns Bd.notSynchronized (by rw [entryL_len hfl, hml0]) hF hLb hRc hRs (Nat.le_refl _) (Nat.le_refl _) (by rw [hh]; exact Rl.1) Rl.2.1 hH
  refine ⟨s₂, _, castTop ?_ q1, q2, q3, _, L, rfl, ⟨rfl, q4, q5⟩, ⟨_, rfl⟩, q6, q7⟩
  show ({ method := m, pc := 0, locals := argsToLocals (as.map (conc ρ)).toArray mx, stack := [], locked := none } : JFrame) = _
  rw [args_conc]
  rfl
theorem toL_conc (v : Option Value) (rest : List Value) : (v.map (conc ρ)).toList ++ cs ρ rest = cs ρ (v.toList ++ rest) := by cases v <;> simp
theorem split_st {st rest : List Value} {na : Nat} {x : Value} (h : st.drop na = x :: rest) : cs ρ st = ((st.take na).reverse.map (conc ρ)).reverse ++ conc ρ x :: cs ρ rest := by
  have e : st = st.take na ++ (x :: rest) := by rw [← h]; exact (List.take_append_drop na st).symm
  rw [← List.map_reverse, List.reverse_reverse]
  conv => lhs; rw [e]
  simp [cs]
theorem split_st0 {st : List Value} {na : Nat} : cs ρ st = ((st.take na).reverse.map (conc ρ)).reverse ++ cs ρ (st.drop na) := by
  rw [← List.map_reverse, List.reverse_reverse]
  conv => lhs; rw [← List.take_append_drop na st]
  simp [cs]
set_option maxRecDepth 65536 in
set_option maxHeartbeats 40000000 in
/-- a call by the callee's own run -/
theorem call_sound {n : Nat} (G : Good l Z W ρ ro n0 n) (hw : ∀ d ∈ W, d.before a0 Z = true) {p : Program} {e : Env} {R : Room} {s : State} {m : MethodId} {args : Array Value} {below : List Frame} {meth : Method} {c : Code} {L0 : ELay} {T : State} {M M' : EMem} {y : MethodName}
    (H : Here p l e R s m args below meth c Z W ρ ro n0 L0 T M) (hx : p.tables.exec = Jvm.exec) (hZ : Z.Warmed39 s.vm) (hown : s.vm.findClass y.cls = some m.cls) {F Lb : Nat} (hF : F ≤ R.frames) (hLb : Lb ≤ R.locals)
    {ls : List Slot} {st : List Value} {ins : Instr} {pc len : Nat} (hsz : ls.length = c.maxLocals) (hd : decode c.code pc = .ok (ins, len)) {z : MethodName} {as rest : List Value} {b : ByteArray} {mx : Nat} {r : Option FieldType} {v : Option Value}
    (hc : callOf W y ins len st M = some (z, as, rest, b, mx, r)) (h1 : 1 ≤ F) (h2 : wt rest + (mx + 11) ≤ Lb) (h3 : (fillL as).length ≤ mx) (hr : run W ro n (F - 1) (Lb - (wt rest + (mx + 11))) z b r 0 (entryL as mx) [] M = some (v, M'))
    (hL : L0.length ≤ M.1.length) (hS : szL L0 ≤ szL M.1) (hRc : M'.1.length - L0.length ≤ R.cells) (hRs : szL M'.1 - szL L0 ≤ R.slots) :
    ∃ T', Here p l e R s m args below meth c Z W ρ ro n0 L0 T' M' ∧ Steps p.tables e below (T.setTop (mkF m pc (cl ρ ls) (cs ρ st))) (T'.setTop (mkF m (pc + 3) (cl ρ ls) (cs ρ (v.toList ++ rest)))) := by
  obtain ⟨locs, X, N, Rl⟩ := H
  have hext := run_ext n hr
  have hsize : (mkF m pc (cl ρ ls) (cs ρ st)).locals.size = c.maxLocals := by simp [hsz]
  have hW : ∀ q : List Value, q = rest → 2 * (mkF m pc (cl ρ ls) (cs ρ st)).monitorRoom + ((cs ρ q).map fun v => v.category).sum ≤ wt rest := fun q e => by
    subst e
    show 2 * 0 + ((q.map (conc ρ)).map fun v => v.category).sum ≤ _
    rw [wt_conc]; omega
  unfold callOf at hc
  split at hc
  · rename_i hlen
    subst hlen
    split at hc
    · rename_i idx
      split at hc
      · rename_i z' na b' n' r' hca
        split at hc
        · rename_i a rest' hdrop
          split at hc
          · rename_i C u hcell
            split at hc
            · rename_i hcond
              cases hc
              obtain ⟨rfl, hna⟩ := hcond
              obtain ⟨k1, k2, k3, k4, k5, k6, k7⟩ := callAt_spec hca
              rcases k7 with ⟨q, -⟩ | ⟨-, g1, g2, g3⟩ | ⟨q, -⟩ | ⟨q, -⟩
              · cases q
              · obtain ⟨ni, hni⟩ := Option.isSome_iff_exists.mp g3
                have E := ((Rl.2.2.1 _ _ hcell).1 rfl).1
                obtain ⟨cq, q1, q2⟩ := E.cell
                have hpriv : s.PrivateAt z := Cond.privateMethod_at (mvP hZ (hw _ (hasPriv_mem g1)) (args := #[]))
                obtain ⟨ci, ki, i1, i2, i3, i4, -⟩ := Cond.instantiable_spec (mvT (args := args) hZ (hw _ (instLk_mem hni)))
                have hsel : (Jvm.Cond.selects z.cls z z).before args s = true := selects_self_of_private i1 i2 (by simp only [Bool.or_eq_false_iff] at i4; exact i4.1) hpriv (mvT hZ (hw _ (hasInst_mem g2))) k5
                have back := backOf (R := R) (p := p) (e := e) (below := below) (s := s) (args := args) (len := 3) (W := wt rest) (rm := { frames := F - 1, cells := M'.1.length - M.1.length, slots := szL M'.1 - szL M.1, locals := Lb - (wt rest + (mx + 11)) }) (Q := fun v' h' L => v' = v.map (conc ρ) ∧ Rel Z W ρ ro n0 h' M' ∧ Fr n0 L) (met_of G hr h3 k4 Rl (R := { frames := F - 1, cells := M'.1.length - M.1.length, slots := szL M'.1 - szL M.1, locals := Lb - (wt rest + (mx + 11)) }) (Nat.le_refl _) (Nat.le_refl _) (Nat.le_refl _) (Nat.le_refl _) []) hZ (hw _ k2) (hw _ k3) (by show F - 1 + 1 ≤ _; omega) (by show wt rest + (mx + 11) + (Lb - (wt rest + (mx + 11))) ≤ _; omega)
                obtain ⟨v', vm₁, ⟨T', Lq, cq', nq⟩, hW₁, X', ⟨L', ⟨rfl, hR', hN'⟩, l', y', z'⟩, st'⟩ := X.privateBack hx (y := z) hown (mvT hZ (hw _ k1)) (mvT hZ (hw _ (hasInst_mem g2))) hsel hpriv (mvT hZ (hw _ k2)) k5 back (g := mkF m pc (cl ρ ls) (cs ρ st)) rfl hsize (Steps.refl _) (a := ρ a) q1 q2 (argsL := (st.take na).reverse.map (conc ρ)) (rest := cs ρ rest)
                  (fun sig hs => by rw [← k6 sig hs]; simpa using hna) (split_st hdrop) (hW _ rfl) hd (fun _ _ => ⟨by simp [conc], rfl, by show M.1.length - L0.length + (M'.1.length - M.1.length) ≤ _; omega, by show szL M.1 - szL L0 + (szL M'.1 - szL M.1) ≤ _; omega⟩)
                dsimp only [Pt.U, Pt.locs, Pt.cells, Pt.slots] at X' l' y' z' st' hR'
                subst l' y' z'
                refine ⟨T', ⟨_, ?_, Fr.app N hN', hR'⟩, ?_⟩
                · have c1 : M'.1.length - L0.length = M.1.length - L0.length + (M'.1.length - M.1.length) := by omega
                  have c2 : szL M'.1 - szL L0 = szL M.1 - szL L0 + (szL M'.1 - szL M.1) := by omega
                  rw [c1, c2]; exact X'
                · rw [← toL_conc]; exact st'
              · cases q
              · cases q
            · cases hc
          · cases hc
        · cases hc
      · split at hc
        · rename_i z' na b' n' r' hca
          split at hc
          · rename_i a rest' hdrop
            split at hc
            · rename_i C u hcell
              split at hc
              · rename_i hcond
                cases hc
                obtain ⟨rfl, hna⟩ := hcond
                obtain ⟨k1, k2, k3, k4, k5, k6, k7⟩ := callAt_spec hca
                rcases k7 with ⟨-, g1, g2, g3⟩ | ⟨q, -⟩ | ⟨q, -⟩ | ⟨q, -⟩
                · have E := ((Rl.2.2.1 _ _ hcell).1 rfl).1
                  obtain ⟨cB, kB, q1, q2, q3⟩ := isOf (T := T) hZ rfl E
                  have back := backOf (R := R) (p := p) (e := e) (below := below) (s := s) (args := args) (len := 3) (W := wt rest) (rm := { frames := F - 1, cells := M'.1.length - M.1.length, slots := szL M'.1 - szL M.1, locals := Lb - (wt rest + (mx + 11)) }) (Q := fun v' h' L => v' = v.map (conc ρ) ∧ Rel Z W ρ ro n0 h' M' ∧ Fr n0 L) (met_of G hr h3 k4 Rl (R := { frames := F - 1, cells := M'.1.length - M.1.length, slots := szL M'.1 - szL M.1, locals := Lb - (wt rest + (mx + 11)) }) (Nat.le_refl _) (Nat.le_refl _) (Nat.le_refl _) (Nat.le_refl _) []) hZ (hw _ k2) (hw _ k3) (by show F - 1 + 1 ≤ _; omega) (by show wt rest + (mx + 11) + (Lb - (wt rest + (mx + 11))) ≤ _; omega)
                  have hsel : (Jvm.Cond.selects z.cls z z).before args s = true := mvT hZ (hw _ (hasSel_mem g2))
                  obtain ⟨v', vm₁, ⟨T', Lq, cq', nq⟩, hW₁, X', ⟨L', ⟨rfl, hR', hN'⟩, l', y', z'⟩, st'⟩ := X.virtualBack hx (y := z) (z := z) hown (mvT hZ (hw _ k1)) (mvT hZ (hw _ (hasDecl_mem g1))) (notFace_of_selects hsel) hsel (mvT hZ (hw _ (hasInst_mem g3))) k5 back q1 q3 (g := mkF m pc (cl ρ ls) (cs ρ st)) rfl hsize (Steps.refl _) (argsL := (st.take na).reverse.map (conc ρ)) (rest := cs ρ rest)
                    (fun sig hs => by rw [← k6 sig hs]; simpa using hna) (split_st hdrop) (hW _ rfl) hd (fun _ _ => ⟨by simp [conc], rfl, by show M.1.length - L0.length + (M'.1.length - M.1.length) ≤ _; omega, by show szL M.1 - szL L0 + (szL M'.1 - szL M.1) ≤ _; omega⟩)
                  dsimp only [Pt.U, Pt.locs, Pt.cells, Pt.slots] at X' l' y' z' st' hR'
                  subst l' y' z'
                  refine ⟨T', ⟨_, ?_, Fr.app N hN', hR'⟩, ?_⟩
                  · have c1 : M'.1.length - L0.length = M.1.length - L0.length + (M'.1.length - M.1.length) := by omega
                    have c2 : szL M'.1 - szL L0 = szL M.1 - szL L0 + (szL M'.1 - szL M.1) := by omega
                    rw [c1, c2]; exact X'
                  · rw [← toL_conc]; exact st'
                · cases q
                · cases q
                · cases q
              · cases hc
            · cases hc
          · cases hc
        · cases hc
    · rename_i idx
      split at hc
      · rename_i z' na b' n' r' hca
        split at hc
        · rename_i a rest' hdrop
          split at hc
          · rename_i hna
            cases hc
            obtain ⟨k1, k2, k3, k4, k5, k6, k7⟩ := callAt_spec hca
            rcases k7 with ⟨q, -⟩ | ⟨q, -⟩ | ⟨-, g1, g2, g3⟩ | ⟨q, -⟩
            · cases q
            · cases q
            · subst g3
              have back := backOf (R := R) (p := p) (e := e) (below := below) (s := s) (args := args) (len := 3) (W := wt rest) (rm := { frames := F - 1, cells := M'.1.length - M.1.length, slots := szL M'.1 - szL M.1, locals := Lb - (wt rest + (mx + 11)) }) (Q := fun v' h' L => v' = v.map (conc ρ) ∧ Rel Z W ρ ro n0 h' M' ∧ Fr n0 L) (met_of G hr h3 k4 Rl (R := { frames := F - 1, cells := M'.1.length - M.1.length, slots := szL M'.1 - szL M.1, locals := Lb - (wt rest + (mx + 11)) }) (Nat.le_refl _) (Nat.le_refl _) (Nat.le_refl _) (Nat.le_refl _) []) hZ (hw _ k2) (hw _ k3) (by show F - 1 + 1 ≤ _; omega) (by show wt rest + (mx + 11) + (Lb - (wt rest + (mx + 11))) ≤ _; omega)
              obtain ⟨v', vm₁, ⟨T', Lq, cq', nq⟩, hW₁, X', ⟨L', ⟨rfl, hR', hN'⟩, l', y', z'⟩, st'⟩ := X.specialBack hx (y := z) g1 hown (mvT hZ (hw _ k1)) (mvT hZ (hw _ (hasInst_mem g2))) (mvT hZ (hw _ k2)) k5 back (g := mkF m pc (cl ρ ls) (cs ρ st)) rfl hsize (Steps.refl _) (a := ρ a) (argsL := (st.take na).reverse.map (conc ρ)) (rest := cs ρ rest)
                (fun sig hs => by rw [← k6 sig hs]; simpa using hna) (split_st hdrop) (hW _ rfl) hd (fun _ _ => ⟨by simp [conc], rfl, by show M.1.length - L0.length + (M'.1.length - M.1.length) ≤ _; omega, by show szL M.1 - szL L0 + (szL M'.1 - szL M.1) ≤ _; omega⟩)
              dsimp only [Pt.U, Pt.locs, Pt.cells, Pt.slots] at X' l' y' z' st' hR'
              subst l' y' z'
              refine ⟨T', ⟨_, ?_, Fr.app N hN', hR'⟩, ?_⟩
              · have c1 : M'.1.length - L0.length = M.1.length - L0.length + (M'.1.length - M.1.length) := by omega
                have c2 : szL M'.1 - szL L0 = szL M.1 - szL L0 + (szL M'.1 - szL M.1) := by omega
                rw [c1, c2]; exact X'
              · rw [← toL_conc]; exact st'
            · cases q
          · cases hc
        · cases hc
      · cases hc
    · rename_i idx
      split at hc
      · rename_i z' na b' n' r' hca
        split at hc
        · rename_i hna
          cases hc
          obtain ⟨k1, k2, k3, k4, k5, k6, k7⟩ := callAt_spec hca
          rcases k7 with ⟨q, -⟩ | ⟨q, -⟩ | ⟨q, -⟩ | ⟨-, g1⟩
          · cases q
          · cases q
          · cases q
          · have back := backOf (R := R) (p := p) (e := e) (below := below) (s := s) (args := args) (len := 3) (W := wt (st.drop na)) (rm := { frames := F - 1, cells := M'.1.length - M.1.length, slots := szL M'.1 - szL M.1, locals := Lb - (wt (st.drop na) + (mx + 11)) }) (Q := fun v' h' L => v' = v.map (conc ρ) ∧ Rel Z W ρ ro n0 h' M' ∧ Fr n0 L) (met_of G hr h3 k4 Rl (R := { frames := F - 1, cells := M'.1.length - M.1.length, slots := szL M'.1 - szL M.1, locals := Lb - (wt (st.drop na) + (mx + 11)) }) (Nat.le_refl _) (Nat.le_refl _) (Nat.le_refl _) (Nat.le_refl _) []) hZ (hw _ k2) (hw _ k3) (by show F - 1 + 1 ≤ _; omega) (by show wt (st.drop na) + (mx + 11) + (Lb - (wt (st.drop na) + (mx + 11))) ≤ _; omega)
            obtain ⟨v', vm₁, ⟨T', Lq, cq', nq⟩, hW₁, X', ⟨L', ⟨rfl, hR', hN'⟩, l', y', z'⟩, st'⟩ := Jvm.LawKit.callS X hx (y := z) hown (mvT hZ (hw _ k1)) (mvT hZ (hw _ (hasStat_mem g1))) (mvT hZ (hw _ k3)) (mvT hZ (hw _ k2)) k5 back (g := mkF m pc (cl ρ ls) (cs ρ st)) rfl hsize (argsL := (st.take na).reverse.map (conc ρ)) (rest := cs ρ (st.drop na))
              (fun sig hs => by rw [← k6 sig hs]; simpa using hna) split_st0 (hW _ rfl) hd (fun _ _ => ⟨rfl, rfl, by show M.1.length - L0.length + (M'.1.length - M.1.length) ≤ _; omega, by show szL M.1 - szL L0 + (szL M'.1 - szL M.1) ≤ _; omega⟩)
            dsimp only [Pt.U, Pt.locs, Pt.cells, Pt.slots] at X' l' y' z' st' hR'
            subst l' y' z'
            refine ⟨T', ⟨_, ?_, Fr.app N hN', hR'⟩, ?_⟩
            · have c1 : M'.1.length - L0.length = M.1.length - L0.length + (M'.1.length - M.1.length) := by omega
              have c2 : szL M'.1 - szL L0 = szL M.1 - szL L0 + (szL M'.1 - szL M.1) := by omega
              rw [c1, c2]; exact X'
            · rw [← toL_conc]; exact st' _ (Steps.refl _)
        · cases hc
      · cases hc
    · cases hc
  · cases hc
set_option maxRecDepth 65536 in
set_option maxHeartbeats 40000000 in
theorem run_good (hw : ∀ d ∈ W, d.before a0 Z = true) (hρ : ∀ a b, ρ a = ρ b → a = b) (hρn : ∀ a, ro ≤ a → ρ a = n0 + (a - ro)) : ∀ n, Good l Z W ρ ro n0 n
  | 0 => fun F Lb y code ret pc ls st M M' v h => by simp [run] at h
  | n + 1 => by
    have G := run_good hw hρ hρn n
    intro F Lb y code ret pc ls st M M' v h p e R s m args below meth c L0 T hx hZ hown hnm hby hret hlocks hsz hF hLb hRc hRs hL hS hs0 hro H
    unfold run at h
    split at h
    · rename_i ins len hdec
      have hd : decode c.code pc = .ok (ins, len) := by rw [hby]; exact hdec
      split at h
      · rename_i pc' ls' st' hP
        split at hP
        · rename_i hlo
          obtain ⟨g1, T', H', g2⟩ := execP_sound H hx hZ hw hown hF hLb hsz hd hlo hP
          obtain ⟨s₂, L, q1, q⟩ := G h hx hZ hown hnm hby hret hlocks (g1.trans hsz) hF hLb hRc hRs hL hS hs0 hro H'
          exact ⟨s₂, L, g2 _ q1, q⟩
        · cases hP
      · split at h
        · rename_i st' M'' hM
          split at hM
          · rename_i hlo
            have q1 := execM_ext hM
            have q2 := run_ext n h
            obtain ⟨T', H', g2⟩ := execM_sound H hx hZ hw hown hnm hρ hρn hL hS hs0 hro (ls := ls) hd hlo (by omega) (by omega) hM
            obtain ⟨s₂, L, q1, q⟩ := G h hx hZ hown hnm hby hret hlocks hsz hF hLb hRc hRs (by omega) (by omega) hs0 hro H'
            exact ⟨s₂, L, g2 _ q1, q⟩
          · cases hM
        · split at h
          · rename_i v' hv
            cases h
            obtain ⟨locs, X, N, Rl⟩ := H
            unfold retOf at hv
            split at hv
            · rename_i hlen
              subst hlen
              split at hv
              · cases hv
                obtain ⟨fs, hr, hrun, hended, hWm, hsame⟩ := X.leave (v := none) (fun _ => rfl) hlocks
                exact ⟨_, locs, X.returnOut hx hret hd hr, hrun, hended, Rl, N, hWm, hsame⟩
              · rename_i zz _ _
                cases hv
                obtain ⟨fs, hr, hrun, hended, hWm, hsame⟩ := X.leave (v := some (.int zz)) (fun q => by rw [hret] at q; cases q) hlocks
                exact ⟨_, locs, X.ireturnOut hx hret rfl (Or.inl rfl) hd hr, hrun, hended, Rl, N, hWm, hsame⟩
              · rename_i zz _ _
                cases hv
                obtain ⟨fs, hr, hrun, hended, hWm, hsame⟩ := X.leave (v := some (.int (zz &&& 1))) (fun q => by rw [hret] at q; cases q) hlocks
                exact ⟨_, locs, retN X hx (t := .boolean) hret (Or.inl rfl) hd hr, hrun, hended, Rl, N, hWm, hsame⟩
              · rename_i zz _ _
                cases hv
                obtain ⟨fs, hr, hrun, hended, hWm, hsame⟩ := X.leave (v := some (.long zz)) (fun q => by rw [hret] at q; cases q) hlocks
                exact ⟨_, locs, X.lreturnOut hx hret hd hr, hrun, hended, Rl, N, hWm, hsame⟩
              · cases hv
            · cases hv
          · split at h
            · rename_i z as rest b mx r hc
              split at h
              · rename_i hcond
                obtain ⟨h1, h2, h3⟩ := hcond
                split at h
                · rename_i v'' M'' hr
                  have q1 := run_ext n hr
                  have q2 := run_ext n h
                  obtain ⟨T', H', g2⟩ := call_sound G hw H hx hZ hown hF hLb hsz hd hc h1 h2 h3 hr hL hS (by omega) (by omega)
                  obtain ⟨s₂, L, q1, q⟩ := G h hx hZ hown hnm hby hret hlocks hsz hF hLb hRc hRs (by omega) (by omega) hs0 hro H'
                  exact ⟨s₂, L, g2.trans q1, q⟩
                · cases h
              · cases h
            · cases h
    · cases h
end S
end Jvm.OwnEv
namespace Jvm.OwnEv
open Sem ClassFile Op Lib Jvm.Stand Jvm.Free Jvm.LawKit Jvm.RoadKit
/-! PART 6: the run comes to an end that Q says: the rules -/
theorem execP_special {W : List Jvm.Cond} {F Lb : Nat} {y : MethodName} {pc len idx : Nat} {ls : List Slot} {st : List Value} {M : EMem} : execP W F Lb y (.invokespecial idx) pc len ls st M = match st with
    | .ref _ :: r => if objInitAt W y.cls idx = true ∧ 1 ≤ F ∧ wt r + 12 ≤ Lb then some (pc + 3, ls, r) else none
    | _ => none := rfl
theorem objInit_no {W : List Jvm.Cond} {own : String} {idx kd : Nat} {z : MethodName} {na : Nat} {b : ByteArray} {mx : Nat} {r : Option FieldType} (h : callAt W own idx kd = some (z, na, b, mx, r)) : objInitAt W own idx = false := by
  cases q : objInitAt W own idx with
  | false => rfl
  | true =>
    have hm : methodLk own idx W = some Lib.objectInit := by
      unfold objInitAt at q
      split at q
      · rename_i z' b' n' r' h1 h2
        simp only [Bool.and_eq_true, decide_eq_true_eq] at q
        rw [h1, q.1.1.1.1]
      · cases q
    have hpn : plainName Lib.objectInit.cls = false := by decide
    unfold callAt at h
    rw [hm] at h
    simp only at h
    split at h
    · split at h
      · rename_i hc
        rw [hpn] at hc
        simp at hc
      · cases h
    · cases h
theorem run_succ {W : List Jvm.Cond} {ro : Nat} : ∀ (n : Nat) {F Lb : Nat} {y : MethodName} {code : ByteArray} {ret : Option FieldType} {pc : Nat} {ls : List Slot} {st : List Value} {M : EMem} {x : Option Value × EMem} {F' Lb' : Nat}, F ≤ F' → Lb ≤ Lb' →
    run W ro n F Lb y code ret pc ls st M = some x → run W ro (n + 1) F' Lb' y code ret pc ls st M = some x
  | 0, _, _, _, _, _, _, _, _, _, _, _, _, _, _, h => by simp [run] at h
  | n + 1, F, Lb, y, code, ret, pc, ls, st, M, x, F', Lb', hF, hL, h => by
    unfold run at h
    unfold run
    split at h
    · rename_i ins len hd
      split at h
      · rename_i pc' ls' st' hP
        have hP' : (if lenOk len ins = true then execP W F' Lb' y ins pc len ls st M else none) = some (pc', ls', st') := by
          split at hP
          · rename_i hl
            rw [if_pos hl]
            by_cases hi : ∃ idx, ins = .invokespecial idx
            · obtain ⟨idx, rfl⟩ := hi
              rw [execP_special] at hP ⊢
              split at hP
              · split at hP
                · rename_i hc
                  rw [if_pos ⟨hc.1, Nat.le_trans hc.2.1 hF, Nat.le_trans hc.2.2 hL⟩]
                  exact hP
                · cases hP
              · cases hP
            · have e : execP W F' Lb' y ins pc len ls st M = execP W F Lb y ins pc len ls st M := by
                cases ins <;> first | rfl | (exact absurd ⟨_, rfl⟩ hi)
              rw [e]; exact hP
          · cases hP
        rw [hP']
        exact run_succ n hF hL h
      · rename_i hP
        split at h
        · rename_i st' M' hM
          have hP' : (if lenOk len ins = true then execP W F' Lb' y ins pc len ls st M else none) = none := by
            split at hP
            · rename_i hl
              rw [if_pos hl]
              rw [if_pos hl] at hM
              cases ins <;> first | exact hP | (simp [execM] at hM)
            · rename_i hl
              rw [if_neg hl]
          rw [hP']
          exact run_succ n hF hL h
        · rename_i hM
          split at h
          · rename_i v hv
            have hP' : (if lenOk len ins = true then execP W F' Lb' y ins pc len ls st M else none) = none := by
              split at hP
              · rename_i hl
                rw [if_pos hl]
                cases ins <;> first | exact hP | (simp [retOf] at hv)
              · rename_i hl
                rw [if_neg hl]
            rw [hP']
            exact h
          · rename_i hv
            split at h
            · rename_i z as rest b mx r hc
              split at h
              · rename_i hcond
                obtain ⟨h1, h2, h3⟩ := hcond
                split at h
                · rename_i v M' hr
                  have hP' : (if lenOk len ins = true then execP W F' Lb' y ins pc len ls st M else none) = none := by
                    split at hP
                    · rename_i hl
                      rw [if_pos hl]
                      by_cases hi : ∃ idx, ins = .invokespecial idx
                      · obtain ⟨idx, rfl⟩ := hi
                        rw [execP_special]
                        split
                        · rw [if_neg]
                          intro q
                          have hcc : ∃ u, callAt W y.cls idx 2 = some u := by
                            cases hcq : callAt W y.cls idx 2 with
                            | some u => exact ⟨u, rfl⟩
                            | none =>
                              have e : ∀ s' : List Value, callOf W y (.invokespecial idx) len s' M = none := fun s' => by
                                unfold callOf
                                split
                                · simp only [hcq]
                                · rfl
                              rw [e] at hc; cases hc
                          obtain ⟨⟨u1, u2, u3, u4, u5⟩, hu⟩ := hcc
                          have q1 := q.1
                          rw [objInit_no hu] at q1
                          cases q1
                        · rfl
                      · have e : execP W F' Lb' y ins pc len ls st M = execP W F Lb y ins pc len ls st M := by
                          cases ins <;> first | rfl | (exact absurd ⟨_, rfl⟩ hi)
                        rw [e]; exact hP
                    · rename_i hl
                      rw [if_neg hl]
                  rw [hP']
                  simp only
                  rw [if_pos ⟨Nat.le_trans h1 hF, Nat.le_trans h2 hL, h3⟩, run_succ n (by omega) (by omega) hr]
                  exact run_succ n hF hL h
                · cases h
              · cases h
            · cases h
    · cases h
theorem run_mono {W : List Jvm.Cond} {ro n n' F Lb : Nat} {y : MethodName} {code : ByteArray} {ret : Option FieldType} {pc : Nat} {ls : List Slot} {st : List Value} {M : EMem} {x : Option Value × EMem} {F' Lb' : Nat} (hn : n < n') (hF : F ≤ F') (hL : Lb ≤ Lb')
    (h : run W ro n F Lb y code ret pc ls st M = some x) : run W ro n' F' Lb' y code ret pc ls st M = some x := by
  have : ∀ k, run W ro (n + 1 + k) F' Lb' y code ret pc ls st M = some x := fun k => by
    induction k with
    | zero => exact run_succ n hF hL h
    | succ k ih => exact run_succ _ (Nat.le_refl _) (Nat.le_refl _) ih
  have e : n' = n + 1 + (n' - (n + 1)) := by omega
  rw [e]; exact this _
def Wp (W : List Jvm.Cond) (ro F Lb : Nat) (y : MethodName) (code : ByteArray) (ret : Option FieldType) (pc : Nat) (ls : List Slot) (st : List Value) (M : EMem) (Q : Option Value → EMem → Prop) : Prop :=
  ∃ n v M', run W ro n F Lb y code ret pc ls st M = some (v, M') ∧ Q v M'
section Rules
variable {W : List Jvm.Cond} {ro F Lb : Nat} {y : MethodName} {code : ByteArray} {ret : Option FieldType} {pc : Nat} {ls : List Slot} {st : List Value} {M : EMem} {Q : Option Value → EMem → Prop}
theorem Wp.mono {Q' : Option Value → EMem → Prop} (h : Wp W ro F Lb y code ret pc ls st M Q) (q : ∀ v M', Q v M' → Q' v M') : Wp W ro F Lb y code ret pc ls st M Q' := by
  obtain ⟨n, v, M', h1, h2⟩ := h; exact ⟨n, v, M', h1, q _ _ h2⟩
theorem Wp.room {F' Lb' : Nat} (hF : F ≤ F') (hL : Lb ≤ Lb') (h : Wp W ro F Lb y code ret pc ls st M Q) : Wp W ro F' Lb' y code ret pc ls st M Q := by
  obtain ⟨n, v, M', h1, h2⟩ := h; exact ⟨n + 1, v, M', run_succ n hF hL h1, h2⟩
theorem Wp.p {ins : Instr} {len pc' : Nat} {ls' : List Slot} {st' : List Value} (hd : decode code pc = .ok (ins, len)) (hl : lenOk len ins = true) (he : execP W F Lb y ins pc len ls st M = some (pc', ls', st')) (k : Wp W ro F Lb y code ret pc' ls' st' M Q) : Wp W ro F Lb y code ret pc ls st M Q := by
  obtain ⟨n, v, M', h1, h2⟩ := k
  refine ⟨n + 1, v, M', ?_, h2⟩
  unfold run
  rw [hd]
  simp only
  rw [if_pos hl, he]
  exact h1
theorem Wp.m {ins : Instr} {len : Nat} {st' : List Value} {M1 : EMem} (hd : decode code pc = .ok (ins, len)) (hl : lenOk len ins = true) (hp : execP W F Lb y ins pc len ls st M = none) (he : execM W ro y ins st M = some (st', M1)) (k : Wp W ro F Lb y code ret (pc + len) ls st' M1 Q) : Wp W ro F Lb y code ret pc ls st M Q := by
  obtain ⟨n, v, M', h1, h2⟩ := k
  refine ⟨n + 1, v, M', ?_, h2⟩
  unfold run
  rw [hd]
  simp only
  rw [if_pos hl, hp]
  simp only
  rw [if_pos hl, he]
  exact h1
theorem Wp.r {ins : Instr} {len : Nat} {v : Option Value} (hd : decode code pc = .ok (ins, len)) (hp : execP W F Lb y ins pc len ls st M = none) (hm : execM W ro y ins st M = none) (hr : retOf ins len ret st = some v) (q : Q v M) : Wp W ro F Lb y code ret pc ls st M Q := by
  refine ⟨1, v, M, ?_, q⟩
  unfold run
  rw [hd]
  simp only
  rw [hp, ite_self, hm, ite_self]
  simp only
  rw [hr]
theorem Wp.c {ins : Instr} {len : Nat} {z : MethodName} {as rest : List Value} {b : ByteArray} {mx : Nat} {r : Option FieldType} {F' Lb' w : Nat} (hd : decode code pc = .ok (ins, len)) (hp : execP W F Lb y ins pc len ls st M = none) (hm : execM W ro y ins st M = none) (hr : retOf ins len ret st = none)
    (hc : callOf W y ins len st M = some (z, as, rest, b, mx, r)) (hw : wt rest = w) (h1 : F' + 1 ≤ F) (h2 : w + (mx + 11) + Lb' ≤ Lb) (h3 : (fillL as).length ≤ mx) (k : Wp W ro F' Lb' z b r 0 (entryL as mx) [] M fun v M' => Wp W ro F Lb y code ret (pc + 3) ls (v.toList ++ rest) M' Q) : Wp W ro F Lb y code ret pc ls st M Q := by
  obtain ⟨n1, v1, M1, k1, n2, v2, M2, k2, hq⟩ := k
  subst hw
  refine ⟨n1 + n2 + 3, v2, M2, ?_, hq⟩
  unfold run
  rw [hd]
  simp only
  rw [hp, ite_self, hm, ite_self]
  simp only
  rw [hr, hc]
  simp only
  rw [if_pos ⟨by omega, by omega, h3⟩, run_mono (n' := n1 + n2 + 2) (by omega) (by omega) (by omega) k1]
  exact run_mono (by omega) (Nat.le_refl _) (Nat.le_refl _) k2
theorem Wp.icmp {cd : ClassFile.Cond} {o : Int} {t : Nat} {a b : Int32} {r : List Value} (hd : decode code pc = .ok (.if_icmp cd o, 3)) (hj : jump pc o = some t) (k1 : if_icmp.holds cd a b = true → Wp W ro F Lb y code ret t ls r M Q) (k2 : if_icmp.holds cd a b = false → Wp W ro F Lb y code ret (pc + 3) ls r M Q) : Wp W ro F Lb y code ret pc ls (.int b :: .int a :: r) M Q := by
  have he : execP W F Lb y (.if_icmp cd o) pc 3 ls (.int b :: .int a :: r) M = some (if if_icmp.holds cd a b = true then t else pc + 3, ls, r) := by simp only [execP, hj]
  refine Wp.p hd rfl he ?_
  cases h : if_icmp.holds cd a b with
  | true => rw [if_pos rfl]; exact k1 h
  | false => rw [if_neg Bool.false_ne_true]; exact k2 h
theorem Wp.if0 {cd : ClassFile.Cond} {o : Int} {t : Nat} {a : Int32} {r : List Value} (hd : decode code pc = .ok (.ifCond cd o, 3)) (hj : jump pc o = some t) (k1 : if_icmp.holds cd a 0 = true → Wp W ro F Lb y code ret t ls r M Q) (k2 : if_icmp.holds cd a 0 = false → Wp W ro F Lb y code ret (pc + 3) ls r M Q) : Wp W ro F Lb y code ret pc ls (.int a :: r) M Q := by
  have he : execP W F Lb y (.ifCond cd o) pc 3 ls (.int a :: r) M = some (if ifCond.holds cd a = true then t else pc + 3, ls, r) := by simp only [execP, hj]
  refine Wp.p hd rfl he ?_
  rw [RoadKit.if0]
  cases h : if_icmp.holds cd a 0 with
  | true => rw [if_pos rfl]; exact k1 h
  | false => rw [if_neg Bool.false_ne_true]; exact k2 h
theorem Wp.icmp_lt {o : Int} {t : Nat} {a b : Int32} {r : List Value} (hd : decode code pc = .ok (.if_icmp .lt o, 3)) (hj : jump pc o = some t) (k1 : a < b → Wp W ro F Lb y code ret t ls r M Q) (k2 : ¬ a < b → Wp W ro F Lb y code ret (pc + 3) ls r M Q) : Wp W ro F Lb y code ret pc ls (.int b :: .int a :: r) M Q :=
  Wp.icmp hd hj (fun h => k1 (Classical.byContradiction fun q => by rw [(flt (x := a) (y := b) (by exact q)).1] at h; cases h)) (fun h => k2 (Classical.byContradiction fun q => by rw [(tlt (x := a) (y := b) (by simpa using q)).1] at h; cases h))
theorem Wp.if_lt {o : Int} {t : Nat} {a : Int32} {r : List Value} (hd : decode code pc = .ok (.ifCond .lt o, 3)) (hj : jump pc o = some t) (k1 : a < 0 → Wp W ro F Lb y code ret t ls r M Q) (k2 : ¬ a < 0 → Wp W ro F Lb y code ret (pc + 3) ls r M Q) : Wp W ro F Lb y code ret pc ls (.int a :: r) M Q :=
  Wp.if0 hd hj (fun h => k1 (Classical.byContradiction fun q => by rw [(flt (x := a) (y := 0) (by exact q)).1] at h; cases h)) (fun h => k2 (Classical.byContradiction fun q => by rw [(tlt (x := a) (y := 0) (by simpa using q)).1] at h; cases h))
theorem Wp.icmp_ge {o : Int} {t : Nat} {a b : Int32} {r : List Value} (hd : decode code pc = .ok (.if_icmp .ge o, 3)) (hj : jump pc o = some t) (k1 : ¬ a < b → Wp W ro F Lb y code ret t ls r M Q) (k2 : a < b → Wp W ro F Lb y code ret (pc + 3) ls r M Q) : Wp W ro F Lb y code ret pc ls (.int b :: .int a :: r) M Q :=
  Wp.icmp hd hj (fun h => k1 (Classical.byContradiction fun q => by rw [(tlt (x := a) (y := b) (by simpa using q)).2.1] at h; cases h)) (fun h => k2 (Classical.byContradiction fun q => by rw [(flt (x := a) (y := b) (by exact q)).2.1] at h; cases h))
theorem Wp.if_ge {o : Int} {t : Nat} {a : Int32} {r : List Value} (hd : decode code pc = .ok (.ifCond .ge o, 3)) (hj : jump pc o = some t) (k1 : ¬ a < 0 → Wp W ro F Lb y code ret t ls r M Q) (k2 : a < 0 → Wp W ro F Lb y code ret (pc + 3) ls r M Q) : Wp W ro F Lb y code ret pc ls (.int a :: r) M Q :=
  Wp.if0 hd hj (fun h => k1 (Classical.byContradiction fun q => by rw [(tlt (x := a) (y := 0) (by simpa using q)).2.1] at h; cases h)) (fun h => k2 (Classical.byContradiction fun q => by rw [(flt (x := a) (y := 0) (by exact q)).2.1] at h; cases h))
theorem Wp.icmp_gt {o : Int} {t : Nat} {a b : Int32} {r : List Value} (hd : decode code pc = .ok (.if_icmp .gt o, 3)) (hj : jump pc o = some t) (k1 : b < a → Wp W ro F Lb y code ret t ls r M Q) (k2 : ¬ b < a → Wp W ro F Lb y code ret (pc + 3) ls r M Q) : Wp W ro F Lb y code ret pc ls (.int b :: .int a :: r) M Q :=
  Wp.icmp hd hj (fun h => k1 (Classical.byContradiction fun q => by rw [(flt (x := b) (y := a) (by exact q)).2.2.1] at h; cases h)) (fun h => k2 (Classical.byContradiction fun q => by rw [(tlt (x := b) (y := a) (by simpa using q)).2.2.1] at h; cases h))
theorem Wp.if_gt {o : Int} {t : Nat} {a : Int32} {r : List Value} (hd : decode code pc = .ok (.ifCond .gt o, 3)) (hj : jump pc o = some t) (k1 : 0 < a → Wp W ro F Lb y code ret t ls r M Q) (k2 : ¬ 0 < a → Wp W ro F Lb y code ret (pc + 3) ls r M Q) : Wp W ro F Lb y code ret pc ls (.int a :: r) M Q :=
  Wp.if0 hd hj (fun h => k1 (Classical.byContradiction fun q => by rw [(flt (x := 0) (y := a) (by exact q)).2.2.1] at h; cases h)) (fun h => k2 (Classical.byContradiction fun q => by rw [(tlt (x := 0) (y := a) (by simpa using q)).2.2.1] at h; cases h))
theorem Wp.icmp_le {o : Int} {t : Nat} {a b : Int32} {r : List Value} (hd : decode code pc = .ok (.if_icmp .le o, 3)) (hj : jump pc o = some t) (k1 : ¬ b < a → Wp W ro F Lb y code ret t ls r M Q) (k2 : b < a → Wp W ro F Lb y code ret (pc + 3) ls r M Q) : Wp W ro F Lb y code ret pc ls (.int b :: .int a :: r) M Q :=
  Wp.icmp hd hj (fun h => k1 (Classical.byContradiction fun q => by rw [(tlt (x := b) (y := a) (by simpa using q)).2.2.2] at h; cases h)) (fun h => k2 (Classical.byContradiction fun q => by rw [(flt (x := b) (y := a) (by exact q)).2.2.2] at h; cases h))
theorem Wp.if_le {o : Int} {t : Nat} {a : Int32} {r : List Value} (hd : decode code pc = .ok (.ifCond .le o, 3)) (hj : jump pc o = some t) (k1 : ¬ 0 < a → Wp W ro F Lb y code ret t ls r M Q) (k2 : 0 < a → Wp W ro F Lb y code ret (pc + 3) ls r M Q) : Wp W ro F Lb y code ret pc ls (.int a :: r) M Q :=
  Wp.if0 hd hj (fun h => k1 (Classical.byContradiction fun q => by rw [(tlt (x := 0) (y := a) (by simpa using q)).2.2.2] at h; cases h)) (fun h => k2 (Classical.byContradiction fun q => by rw [(flt (x := 0) (y := a) (by exact q)).2.2.2] at h; cases h))
theorem Wp.icmp_eq {o : Int} {t : Nat} {a b : Int32} {r : List Value} (hd : decode code pc = .ok (.if_icmp .eq o, 3)) (hj : jump pc o = some t) (k1 : a = b → Wp W ro F Lb y code ret t ls r M Q) (k2 : ¬ a = b → Wp W ro F Lb y code ret (pc + 3) ls r M Q) : Wp W ro F Lb y code ret pc ls (.int b :: .int a :: r) M Q :=
  Wp.icmp hd hj (fun h => k1 (Classical.byContradiction fun q => by rw [(feq (x := a) (y := b) (by exact q)).1] at h; cases h)) (fun h => k2 (Classical.byContradiction fun q => by rw [(teq (x := a) (y := b) (by simpa using q)).1] at h; cases h))
theorem Wp.if_eq {o : Int} {t : Nat} {a : Int32} {r : List Value} (hd : decode code pc = .ok (.ifCond .eq o, 3)) (hj : jump pc o = some t) (k1 : a = 0 → Wp W ro F Lb y code ret t ls r M Q) (k2 : ¬ a = 0 → Wp W ro F Lb y code ret (pc + 3) ls r M Q) : Wp W ro F Lb y code ret pc ls (.int a :: r) M Q :=
  Wp.if0 hd hj (fun h => k1 (Classical.byContradiction fun q => by rw [(feq (x := a) (y := 0) (by exact q)).1] at h; cases h)) (fun h => k2 (Classical.byContradiction fun q => by rw [(teq (x := a) (y := 0) (by simpa using q)).1] at h; cases h))
theorem Wp.icmp_ne {o : Int} {t : Nat} {a b : Int32} {r : List Value} (hd : decode code pc = .ok (.if_icmp .ne o, 3)) (hj : jump pc o = some t) (k1 : ¬ a = b → Wp W ro F Lb y code ret t ls r M Q) (k2 : a = b → Wp W ro F Lb y code ret (pc + 3) ls r M Q) : Wp W ro F Lb y code ret pc ls (.int b :: .int a :: r) M Q :=
  Wp.icmp hd hj (fun h => k1 (Classical.byContradiction fun q => by rw [(teq (x := a) (y := b) (by simpa using q)).2] at h; cases h)) (fun h => k2 (Classical.byContradiction fun q => by rw [(feq (x := a) (y := b) (by exact q)).2] at h; cases h))
theorem Wp.if_ne {o : Int} {t : Nat} {a : Int32} {r : List Value} (hd : decode code pc = .ok (.ifCond .ne o, 3)) (hj : jump pc o = some t) (k1 : ¬ a = 0 → Wp W ro F Lb y code ret t ls r M Q) (k2 : a = 0 → Wp W ro F Lb y code ret (pc + 3) ls r M Q) : Wp W ro F Lb y code ret pc ls (.int a :: r) M Q :=
  Wp.if0 hd hj (fun h => k1 (Classical.byContradiction fun q => by rw [(teq (x := a) (y := 0) (by simpa using q)).2] at h; cases h)) (fun h => k2 (Classical.byContradiction fun q => by rw [(feq (x := a) (y := 0) (by exact q)).2] at h; cases h))
variable {L : ELay} {mi : Nat → Nat → Int32} {ml : Nat → Nat → Int64} {mr : Nat → Nat → Value}
theorem Wp.iconst {i : Int} {r : List Value} (v : Int32) (hd : decode code pc = .ok (.iconst i, 1)) (hv : Int32.ofInt i = v) (k : Wp W ro F Lb y code ret (pc + 1) ls (.int v :: r) M Q) : Wp W ro F Lb y code ret pc ls r M Q := by
  subst hv; exact Wp.p hd rfl rfl k
theorem Wp.bipush {i : Int} {r : List Value} (v : Int32) (hd : decode code pc = .ok (.bipush i, 2)) (hv : (Int8.ofInt i).toInt32 = v) (k : Wp W ro F Lb y code ret (pc + 2) ls (.int v :: r) M Q) : Wp W ro F Lb y code ret pc ls r M Q := by
  subst hv; exact Wp.p hd rfl rfl k
theorem Wp.sipush {i : Int} {r : List Value} (v : Int32) (hd : decode code pc = .ok (.sipush i, 3)) (hv : (Int16.ofInt i).toInt32 = v) (k : Wp W ro F Lb y code ret (pc + 3) ls (.int v :: r) M Q) : Wp W ro F Lb y code ret pc ls r M Q := by
  subst hv; exact Wp.p hd rfl rfl k
theorem Wp.lconst {i : Fin 2} {r : List Value} (v : Int64) (hd : decode code pc = .ok (.lconst i, 1)) (hv : Int64.ofNat i = v) (k : Wp W ro F Lb y code ret (pc + 1) ls (.long v :: r) M Q) : Wp W ro F Lb y code ret pc ls r M Q := by
  subst hv; exact Wp.p hd rfl rfl k
theorem Wp.iinc {i : Nat} {d : Int} {x : Int32} {l' : List Slot} (v : Int32) (hd : decode code pc = .ok (.iinc i d, 3)) (hv : Int32.ofInt d = v) (hl : ls[i]? = some (.val (.int x))) (hs : storeL ls i (.int (x + v)) = some l') (k : Wp W ro F Lb y code ret (pc + 3) l' st M Q) : Wp W ro F Lb y code ret pc ls st M Q := by
  subst hv
  exact Wp.p hd rfl (by simp only [execP, hl, hs]) k
theorem Wp.ldc {i : Nat} {r : List Value} {v : Int32} (hd : decode code pc = .ok (.ldc i, 2)) (hv : intLk y.cls i W = some v) (k : Wp W ro F Lb y code ret (pc + 2) ls (.int v :: r) M Q) : Wp W ro F Lb y code ret pc ls r M Q :=
  Wp.p hd rfl (by simp only [execP, hv]) k
theorem Wp.ldcw {i : Nat} {r : List Value} {v : Int32} (hd : decode code pc = .ok (.ldc_w i, 3)) (hv : intLk y.cls i W = some v) (k : Wp W ro F Lb y code ret (pc + 3) ls (.int v :: r) M Q) : Wp W ro F Lb y code ret pc ls r M Q :=
  Wp.p hd rfl (by simp only [execP, hv]) k
theorem Wp.ldc2 {i : Nat} {r : List Value} {v : Int64} (hd : decode code pc = .ok (.ldc2_w i, 3)) (hv : longLk y.cls i W = some v) (k : Wp W ro F Lb y code ret (pc + 3) ls (.long v :: r) M Q) : Wp W ro F Lb y code ret pc ls r M Q :=
  Wp.p hd rfl (by simp only [execP, hv]) k
theorem Wp.getI {i a k n : Nat} {C : String} {fin : Bool} {r : List Value} (v : Int32) (hd : decode code pc = .ok (.getfield i, 3)) (hf : fieldAt W y.cls i = some (C, k, 1, fin)) (hc : L[a]? = some (0, C, n)) (hv : mi a k = v) (q : Wp W ro F Lb y code ret (pc + 3) ls (.int v :: r) (L, mi, ml, mr) Q) : Wp W ro F Lb y code ret pc ls (.ref a :: r) (L, mi, ml, mr) Q := by
  subst hv
  exact Wp.p hd rfl (by simp only [execP, hf, hc, getV, if_true]) q
theorem Wp.getZ {i a k n : Nat} {C : String} {fin : Bool} {r : List Value} (v : Int32) (hd : decode code pc = .ok (.getfield i, 3)) (hf : fieldAt W y.cls i = some (C, k, 2, fin)) (hc : L[a]? = some (0, C, n)) (hv : mi a k = v) (q : Wp W ro F Lb y code ret (pc + 3) ls (.int v :: r) (L, mi, ml, mr) Q) : Wp W ro F Lb y code ret pc ls (.ref a :: r) (L, mi, ml, mr) Q := by
  subst hv
  exact Wp.p hd rfl (by simp only [execP, hf, hc, getV, if_true]) q
theorem Wp.getJ {i a k n : Nat} {C : String} {fin : Bool} {r : List Value} (v : Int64) (hd : decode code pc = .ok (.getfield i, 3)) (hf : fieldAt W y.cls i = some (C, k, 3, fin)) (hc : L[a]? = some (0, C, n)) (hv : ml a k = v) (q : Wp W ro F Lb y code ret (pc + 3) ls (.long v :: r) (L, mi, ml, mr) Q) : Wp W ro F Lb y code ret pc ls (.ref a :: r) (L, mi, ml, mr) Q := by
  subst hv
  exact Wp.p hd rfl (by simp only [execP, hf, hc, getV, if_true]) q
theorem Wp.getR {i a k n b : Nat} {C : String} {fin : Bool} {r : List Value} (hd : decode code pc = .ok (.getfield i, 3)) (hf : fieldAt W y.cls i = some (C, k, 4, fin)) (hc : L[a]? = some (0, C, n)) (hr : mr a k = .ref b) (q : Wp W ro F Lb y code ret (pc + 3) ls (.ref b :: r) (L, mi, ml, mr) Q) : Wp W ro F Lb y code ret pc ls (.ref a :: r) (L, mi, ml, mr) Q :=
  Wp.p hd rfl (by simp only [execP, hf, hc, getV, if_true, hr]) q
theorem Wp.len {a n kd : Nat} {u : String} {r : List Value} (hd : decode code pc = .ok (.arraylength, 1)) (hc : L[a]? = some (kd, u, n)) (hk : kd = 1 ∨ kd = 2 ∨ kd = 3) (q : Wp W ro F Lb y code ret (pc + 1) ls (.int n.toInt32 :: r) (L, mi, ml, mr) Q) : Wp W ro F Lb y code ret pc ls (.ref a :: r) (L, mi, ml, mr) Q := by
  rcases hk with rfl | rfl | rfl <;> exact Wp.p hd rfl (by simp only [execP, hc]) q
theorem Wp.iaload {a n k : Nat} {u : String} {j : Int32} {r : List Value} (v : Int32) (hd : decode code pc = .ok (.iaload, 1)) (hc : L[a]? = some (1, u, n)) (hk : j.toNatClampNeg = k) (hj : inb j n = true) (hv : mi a k = v) (q : Wp W ro F Lb y code ret (pc + 1) ls (.int v :: r) (L, mi, ml, mr) Q) : Wp W ro F Lb y code ret pc ls (.int j :: .ref a :: r) (L, mi, ml, mr) Q := by
  subst hk hv
  exact Wp.p hd rfl (by simp only [execP, hc, hj, if_true]) q
theorem Wp.baload {a n k : Nat} {u : String} {j : Int32} {r : List Value} (v : Int32) (hd : decode code pc = .ok (.baload, 1)) (hc : L[a]? = some (3, u, n)) (hk : j.toNatClampNeg = k) (hj : inb j n = true) (hv : mi a k = v) (q : Wp W ro F Lb y code ret (pc + 1) ls (.int v :: r) (L, mi, ml, mr) Q) : Wp W ro F Lb y code ret pc ls (.int j :: .ref a :: r) (L, mi, ml, mr) Q := by
  subst hk hv
  exact Wp.p hd rfl (by simp only [execP, hc, hj, if_true]) q
theorem Wp.laload {a n k : Nat} {u : String} {j : Int32} {r : List Value} (v : Int64) (hd : decode code pc = .ok (.laload, 1)) (hc : L[a]? = some (2, u, n)) (hk : j.toNatClampNeg = k) (hj : inb j n = true) (hv : ml a k = v) (q : Wp W ro F Lb y code ret (pc + 1) ls (.long v :: r) (L, mi, ml, mr) Q) : Wp W ro F Lb y code ret pc ls (.int j :: .ref a :: r) (L, mi, ml, mr) Q := by
  subst hk hv
  exact Wp.p hd rfl (by simp only [execP, hc, hj, if_true]) q
theorem Wp.iastore {a n k : Nat} {u : String} {j x : Int32} {r : List Value} (hd : decode code pc = .ok (.iastore, 1)) (hc : L[a]? = some (1, u, n)) (hk : j.toNatClampNeg = k) (hj : inb j n = true) (ha : ro ≤ a) (q : Wp W ro F Lb y code ret (pc + 1) ls r (L, up mi a k x, ml, mr) Q) : Wp W ro F Lb y code ret pc ls (.int x :: .int j :: .ref a :: r) (L, mi, ml, mr) Q := by
  subst hk
  exact Wp.m hd rfl rfl (by simp only [execM, hc]; rw [if_pos ⟨hj, ha⟩]) q
theorem Wp.bastore {a n k : Nat} {u : String} {j x : Int32} {r : List Value} (v : Int32) (hd : decode code pc = .ok (.bastore, 1)) (hc : L[a]? = some (3, u, n)) (hk : j.toNatClampNeg = k) (hj : inb j n = true) (ha : ro ≤ a) (hv : x &&& 1 = v) (q : Wp W ro F Lb y code ret (pc + 1) ls r (L, up mi a k v, ml, mr) Q) : Wp W ro F Lb y code ret pc ls (.int x :: .int j :: .ref a :: r) (L, mi, ml, mr) Q := by
  subst hk hv
  exact Wp.m hd rfl rfl (by simp only [execM, hc]; rw [if_pos ⟨hj, ha⟩]) q
theorem Wp.lastore {a n k : Nat} {u : String} {j : Int32} {x : Int64} {r : List Value} (hd : decode code pc = .ok (.lastore, 1)) (hc : L[a]? = some (2, u, n)) (hk : j.toNatClampNeg = k) (hj : inb j n = true) (ha : ro ≤ a) (q : Wp W ro F Lb y code ret (pc + 1) ls r (L, mi, up ml a k x, mr) Q) : Wp W ro F Lb y code ret pc ls (.long x :: .int j :: .ref a :: r) (L, mi, ml, mr) Q := by
  subst hk
  exact Wp.m hd rfl rfl (by simp only [execM, hc]; rw [if_pos ⟨hj, ha⟩]) q
theorem Wp.putI {i a k n u : Nat} {C : String} {fin : Bool} {x : Int32} {r : List Value} (hd : decode code pc = .ok (.putfield i, 3)) (hf : fieldAt W y.cls i = some (C, k, 1, fin)) (hc : L[a]? = some (0, C, n)) (ha : ro ≤ a) (hi : instLk C W = some u) (hfin : fin = false ∨ (y.cls = C ∧ y.name = "<init>")) (q : Wp W ro F Lb y code ret (pc + 3) ls r (L, up mi a k x, ml, mr) Q) : Wp W ro F Lb y code ret pc ls (.int x :: .ref a :: r) (L, mi, ml, mr) Q :=
  Wp.m hd rfl rfl (by simp only [execM, hf, hc]; rw [if_pos ⟨trivial, ha, hfin, by rw [hi]; rfl⟩]) q
theorem Wp.putZ {i a k n u : Nat} {C : String} {fin : Bool} {x : Int32} {r : List Value} (v : Int32) (hd : decode code pc = .ok (.putfield i, 3)) (hf : fieldAt W y.cls i = some (C, k, 2, fin)) (hc : L[a]? = some (0, C, n)) (ha : ro ≤ a) (hi : instLk C W = some u) (hfin : fin = false ∨ (y.cls = C ∧ y.name = "<init>")) (hv : x &&& 1 = v) (q : Wp W ro F Lb y code ret (pc + 3) ls r (L, up mi a k v, ml, mr) Q) : Wp W ro F Lb y code ret pc ls (.int x :: .ref a :: r) (L, mi, ml, mr) Q := by
  subst hv
  exact Wp.m hd rfl rfl (by simp only [execM, hf, hc]; rw [if_pos ⟨trivial, ha, hfin, by rw [hi]; rfl⟩]) q
theorem Wp.putJ {i a k n u : Nat} {C : String} {fin : Bool} {x : Int64} {r : List Value} (hd : decode code pc = .ok (.putfield i, 3)) (hf : fieldAt W y.cls i = some (C, k, 3, fin)) (hc : L[a]? = some (0, C, n)) (ha : ro ≤ a) (hi : instLk C W = some u) (hfin : fin = false ∨ (y.cls = C ∧ y.name = "<init>")) (q : Wp W ro F Lb y code ret (pc + 3) ls r (L, mi, up ml a k x, mr) Q) : Wp W ro F Lb y code ret pc ls (.long x :: .ref a :: r) (L, mi, ml, mr) Q :=
  Wp.m hd rfl rfl (by simp only [execM, hf, hc]; rw [if_pos ⟨trivial, ha, hfin, by rw [hi]; rfl⟩]) q
theorem Wp.putR {i a k n u b : Nat} {C : String} {fin : Bool} {r : List Value} (hd : decode code pc = .ok (.putfield i, 3)) (hf : fieldAt W y.cls i = some (C, k, 4, fin)) (hc : L[a]? = some (0, C, n)) (ha : ro ≤ a) (hi : instLk C W = some u) (hfin : fin = false ∨ (y.cls = C ∧ y.name = "<init>")) (q : Wp W ro F Lb y code ret (pc + 3) ls r (L, mi, ml, up mr a k (.ref b)) Q) : Wp W ro F Lb y code ret pc ls (.ref b :: .ref a :: r) (L, mi, ml, mr) Q :=
  Wp.m hd rfl rfl (by simp only [execM, hf, hc]; rw [if_pos ⟨trivial, ha, hfin, by rw [hi]; rfl⟩]) q
theorem Wp.new {i n a : Nat} {L' : ELay} {C : String} {r : List Value} (hd : decode code pc = .ok (.new i, 3)) (hn : newAt W y.cls i = some (C, n)) (ha : L.length = a) (hL : L ++ [(0, C, n)] = L') (q : Wp W ro F Lb y code ret (pc + 3) ls (.ref a :: r) (L', mi, ml, mr) Q) : Wp W ro F Lb y code ret pc ls r (L, mi, ml, mr) Q := by
  subst ha hL
  exact Wp.m hd rfl rfl (by simp only [execM, hn]) q
theorem Wp.new_int {n : Int32} {a z : Nat} {L' : ELay} {r : List Value} (hd : decode code pc = .ok (.newarray .int, 2)) (ha : hasArr .int W = true) (hn : ¬ n < 0 ∧ n.toNatClampNeg * 8 ≤ 536870912) (hz : n.toNatClampNeg = z) (he : L.length = a) (hL : L ++ [(1, "", z)] = L') (q : Wp W ro F Lb y code ret (pc + 2) ls (.ref a :: r) (L', mi, ml, mr) Q) : Wp W ro F Lb y code ret pc ls (.int n :: r) (L, mi, ml, mr) Q := by
  subst hz he hL
  exact Wp.m hd rfl rfl (by simp only [execM]; rw [if_pos ⟨hn.1, hn.2, ha⟩]) q
theorem Wp.new_long {n : Int32} {a z : Nat} {L' : ELay} {r : List Value} (hd : decode code pc = .ok (.newarray .long, 2)) (ha : hasArr .long W = true) (hn : ¬ n < 0 ∧ n.toNatClampNeg * 8 ≤ 536870912) (hz : n.toNatClampNeg = z) (he : L.length = a) (hL : L ++ [(2, "", z)] = L') (q : Wp W ro F Lb y code ret (pc + 2) ls (.ref a :: r) (L', mi, ml, mr) Q) : Wp W ro F Lb y code ret pc ls (.int n :: r) (L, mi, ml, mr) Q := by
  subst hz he hL
  exact Wp.m hd rfl rfl (by simp only [execM]; rw [if_pos ⟨hn.1, hn.2, ha⟩]) q
theorem Wp.new_boolean {n : Int32} {a z : Nat} {L' : ELay} {r : List Value} (hd : decode code pc = .ok (.newarray .boolean, 2)) (ha : hasArr .boolean W = true) (hn : ¬ n < 0 ∧ n.toNatClampNeg * 8 ≤ 536870912) (hz : n.toNatClampNeg = z) (he : L.length = a) (hL : L ++ [(3, "", z)] = L') (q : Wp W ro F Lb y code ret (pc + 2) ls (.ref a :: r) (L', mi, ml, mr) Q) : Wp W ro F Lb y code ret pc ls (.int n :: r) (L, mi, ml, mr) Q := by
  subst hz he hL
  exact Wp.m hd rfl rfl (by simp only [execM]; rw [if_pos ⟨hn.1, hn.2, ha⟩]) q
theorem Wp.objInit {i a w : Nat} {r : List Value} (hd : decode code pc = .ok (.invokespecial i, 3)) (ho : objInitAt W y.cls i = true) (hw : wt r = w) (h1 : 1 ≤ F) (h2 : w + 12 ≤ Lb) (q : Wp W ro F Lb y code ret (pc + 3) ls r M Q) : Wp W ro F Lb y code ret pc ls (.ref a :: r) M Q :=
  Wp.p hd rfl (by simp only [execP]; rw [if_pos ⟨ho, h1, by rw [hw]; exact h2⟩]) q
/-- a private method -/
theorem Wp.callP {i na mx a n F' Lb' w : Nat} {z : MethodName} {b : ByteArray} {rt : Option FieldType} {as rest : List Value} (hd : decode code pc = .ok (.invokevirtual i, 3)) (hc : callAt W y.cls i 1 = some (z, na, b, mx, rt)) (hl : L[a]? = some (0, z.cls, n)) (hs : st = as.reverse ++ .ref a :: rest) (hna : as.length = na) (hw : wt rest = w) (h1 : F' + 1 ≤ F) (h2 : w + (mx + 11) + Lb' ≤ Lb) (h3 : (fillL (.ref a :: as)).length ≤ mx)
    (k : Wp W ro F' Lb' z b rt 0 (entryL (.ref a :: as) mx) [] (L, mi, ml, mr) fun v M' => Wp W ro F Lb y code ret (pc + 3) ls (v.toList ++ rest) M' Q) : Wp W ro F Lb y code ret pc ls st (L, mi, ml, mr) Q := by
  subst hs hna
  refine Wp.c hd rfl rfl rfl ?_ hw h1 h2 h3 k
  have e1 : (as.reverse ++ Value.ref a :: rest).drop as.length = .ref a :: rest := by rw [← List.length_reverse (as := as), List.drop_left]
  have e2 : (as.reverse ++ Value.ref a :: rest).take as.length = as.reverse := by rw [← List.length_reverse (as := as), List.take_left]
  simp only [callOf, if_true, hc, e1, e2, hl, List.length_reverse, and_self, List.reverse_reverse]
theorem Wp.callV {i na mx a n F' Lb' w : Nat} {z : MethodName} {b : ByteArray} {rt : Option FieldType} {as rest : List Value} (hd : decode code pc = .ok (.invokevirtual i, 3)) (hc0 : callAt W y.cls i 1 = none) (hc : callAt W y.cls i 0 = some (z, na, b, mx, rt)) (hl : L[a]? = some (0, z.cls, n)) (hs : st = as.reverse ++ .ref a :: rest) (hna : as.length = na) (hw : wt rest = w) (h1 : F' + 1 ≤ F) (h2 : w + (mx + 11) + Lb' ≤ Lb) (h3 : (fillL (.ref a :: as)).length ≤ mx)
    (k : Wp W ro F' Lb' z b rt 0 (entryL (.ref a :: as) mx) [] (L, mi, ml, mr) fun v M' => Wp W ro F Lb y code ret (pc + 3) ls (v.toList ++ rest) M' Q) : Wp W ro F Lb y code ret pc ls st (L, mi, ml, mr) Q := by
  subst hs hna
  refine Wp.c hd rfl rfl rfl ?_ hw h1 h2 h3 k
  have e1 : (as.reverse ++ Value.ref a :: rest).drop as.length = .ref a :: rest := by rw [← List.length_reverse (as := as), List.drop_left]
  have e2 : (as.reverse ++ Value.ref a :: rest).take as.length = as.reverse := by rw [← List.length_reverse (as := as), List.take_left]
  simp only [callOf, if_true, hc0, hc, e1, e2, hl, List.length_reverse, and_self, List.reverse_reverse]
theorem Wp.callI {i na mx a F' Lb' w : Nat} {z : MethodName} {b : ByteArray} {rt : Option FieldType} {as rest : List Value} (hd : decode code pc = .ok (.invokespecial i, 3)) (ho : objInitAt W y.cls i = false) (hc : callAt W y.cls i 2 = some (z, na, b, mx, rt)) (hs : st = as.reverse ++ .ref a :: rest) (hna : as.length = na) (hw : wt rest = w) (h1 : F' + 1 ≤ F) (h2 : w + (mx + 11) + Lb' ≤ Lb) (h3 : (fillL (.ref a :: as)).length ≤ mx)
    (k : Wp W ro F' Lb' z b rt 0 (entryL (.ref a :: as) mx) [] M fun v M' => Wp W ro F Lb y code ret (pc + 3) ls (v.toList ++ rest) M' Q) : Wp W ro F Lb y code ret pc ls st M Q := by
  subst hs hna
  refine Wp.c hd ?_ rfl rfl ?_ hw h1 h2 h3 k
  · have e : ∀ s' : List Value, execP W F Lb y (.invokespecial i) pc 3 ls s' M = none := fun s' => by
      simp only [execP, ho]
      split
      · rw [if_neg]; intro q; cases q.1
      · rfl
    exact e _
  have e1 : (as.reverse ++ Value.ref a :: rest).drop as.length = .ref a :: rest := by rw [← List.length_reverse (as := as), List.drop_left]
  have e2 : (as.reverse ++ Value.ref a :: rest).take as.length = as.reverse := by rw [← List.length_reverse (as := as), List.take_left]
  simp only [callOf, if_true, hc, e1, e2, List.length_reverse, List.reverse_reverse]
theorem Wp.callS {i na mx F' Lb' w : Nat} {z : MethodName} {b : ByteArray} {rt : Option FieldType} {as rest : List Value} (hd : decode code pc = .ok (.invokestatic i, 3)) (hc : callAt W y.cls i 3 = some (z, na, b, mx, rt)) (hs : st = as.reverse ++ rest) (hna : as.length = na) (hw : wt rest = w) (h1 : F' + 1 ≤ F) (h2 : w + (mx + 11) + Lb' ≤ Lb) (h3 : (fillL as).length ≤ mx)
    (k : Wp W ro F' Lb' z b rt 0 (entryL as mx) [] M fun v M' => Wp W ro F Lb y code ret (pc + 3) ls (v.toList ++ rest) M' Q) : Wp W ro F Lb y code ret pc ls st M Q := by
  subst hs hna
  refine Wp.c hd rfl rfl rfl ?_ hw h1 h2 h3 k
  have e1 : (as.reverse ++ rest).drop as.length = rest := by rw [← List.length_reverse (as := as), List.drop_left]
  have e2 : (as.reverse ++ rest).take as.length = as.reverse := by rw [← List.length_reverse (as := as), List.take_left]
  simp only [callOf, if_true, hc, e1, e2, List.length_reverse, List.reverse_reverse]
theorem Wp.top {a : Int32} {r : List Value} (v : Int32) (h : a = v) (k : Wp W ro F Lb y code ret pc ls (.int v :: r) M Q) : Wp W ro F Lb y code ret pc ls (.int a :: r) M Q := by subst h; exact k
theorem Wp.topJ {a : Int64} {r : List Value} (v : Int64) (h : a = v) (k : Wp W ro F Lb y code ret pc ls (.long v :: r) M Q) : Wp W ro F Lb y code ret pc ls (.long a :: r) M Q := by subst h; exact k
theorem Wp.icmpT {cd : ClassFile.Cond} {o : Int} {t : Nat} {a b : Int32} {r : List Value} (hd : decode code pc = .ok (.if_icmp cd o, 3)) (hj : jump pc o = some t) (h : if_icmp.holds cd a b = true) (k : Wp W ro F Lb y code ret t ls r M Q) : Wp W ro F Lb y code ret pc ls (.int b :: .int a :: r) M Q :=
  Wp.icmp hd hj (fun _ => k) (fun q => by rw [h] at q; cases q)
theorem Wp.icmpF {cd : ClassFile.Cond} {o : Int} {t : Nat} {a b : Int32} {r : List Value} (hd : decode code pc = .ok (.if_icmp cd o, 3)) (hj : jump pc o = some t) (h : if_icmp.holds cd a b = false) (k : Wp W ro F Lb y code ret (pc + 3) ls r M Q) : Wp W ro F Lb y code ret pc ls (.int b :: .int a :: r) M Q :=
  Wp.icmp hd hj (fun q => by rw [h] at q; cases q) (fun _ => k)
theorem Wp.ifT {cd : ClassFile.Cond} {o : Int} {t : Nat} {a : Int32} {r : List Value} (hd : decode code pc = .ok (.ifCond cd o, 3)) (hj : jump pc o = some t) (h : if_icmp.holds cd a 0 = true) (k : Wp W ro F Lb y code ret t ls r M Q) : Wp W ro F Lb y code ret pc ls (.int a :: r) M Q :=
  Wp.if0 hd hj (fun _ => k) (fun q => by rw [h] at q; cases q)
theorem Wp.ifF {cd : ClassFile.Cond} {o : Int} {t : Nat} {a : Int32} {r : List Value} (hd : decode code pc = .ok (.ifCond cd o, 3)) (hj : jump pc o = some t) (h : if_icmp.holds cd a 0 = false) (k : Wp W ro F Lb y code ret (pc + 3) ls r M Q) : Wp W ro F Lb y code ret pc ls (.int a :: r) M Q :=
  Wp.if0 hd hj (fun q => by rw [h] at q; cases q) (fun _ => k)
theorem Wp.idiv {a b : Int32} {r : List Value} (hd : decode code pc = .ok (.idiv, 1)) (hb : ¬ b = 0) (k : Wp W ro F Lb y code ret (pc + 1) ls (.int (a / b) :: r) M Q) : Wp W ro F Lb y code ret pc ls (.int b :: .int a :: r) M Q :=
  Wp.p hd rfl (by simp only [execP]; rw [if_neg hb]) k
theorem Wp.irem {a b : Int32} {r : List Value} (hd : decode code pc = .ok (.irem, 1)) (hb : ¬ b = 0) (k : Wp W ro F Lb y code ret (pc + 1) ls (.int (a - (a / b) * b) :: r) M Q) : Wp W ro F Lb y code ret pc ls (.int b :: .int a :: r) M Q :=
  Wp.p hd rfl (by simp only [execP]; rw [if_neg hb]) k
theorem Wp.ldiv {a b : Int64} {r : List Value} (hd : decode code pc = .ok (.ldiv, 1)) (hb : ¬ b = 0) (k : Wp W ro F Lb y code ret (pc + 1) ls (.long (a / b) :: r) M Q) : Wp W ro F Lb y code ret pc ls (.long b :: .long a :: r) M Q :=
  Wp.p hd rfl (by simp only [execP]; rw [if_neg hb]) k
theorem Wp.lrem {a b : Int64} {r : List Value} (hd : decode code pc = .ok (.lrem, 1)) (hb : ¬ b = 0) (k : Wp W ro F Lb y code ret (pc + 1) ls (.long (a - (a / b) * b) :: r) M Q) : Wp W ro F Lb y code ret pc ls (.long b :: .long a :: r) M Q :=
  Wp.p hd rfl (by simp only [execP]; rw [if_neg hb]) k
theorem storeL_one {l l' : List Slot} {i : Nat} {o : Slot} {v : Value} (h : l[i]? = some o) (ho : One o) (hv : v.category = 1) (hs : setL l i (.val v) = some l') : storeL l i v = some l' := by
  unfold storeL
  rw [h]
  have e : storeSelfL l i v = some l' := by
    unfold storeSelfL
    rw [hs]
    simp [hv]
  rcases ho with rfl | ⟨w, rfl, hw⟩
  · exact e
  · simp [hw, e]
theorem Wp.istoreO {ins : Instr} {i len : Nat} {o : Slot} {x : Int32} {l' : List Slot} {r : List Value} (hd : decode code pc = .ok (ins, len)) (hi : (ins = .istore i ∧ len = 2) ∨ (∃ n : Fin 4, ins = .istore_n n ∧ n.val = i ∧ len = 1)) (h : ls[i]? = some o) (ho : One o) (hs : setL ls i (.val (.int x)) = some l') (k : Wp W ro F Lb y code ret (pc + len) l' r M Q) : Wp W ro F Lb y code ret pc ls (.int x :: r) M Q := by
  rcases hi with ⟨rfl, rfl⟩ | ⟨n, rfl, rfl, rfl⟩
  · exact Wp.p hd rfl (by simp only [execP, storeL_one h ho (v := .int x) rfl hs]) k
  · exact Wp.p hd rfl (by simp only [execP, storeL_one h ho (v := .int x) rfl hs]) k
def OneJ (a b : Slot) : Prop := (a = .unset ∧ b = .unset) ∨ (∃ w, a = .val (.long w) ∧ b = .second)
theorem storeL_oneJ {l l1 l2 : List Slot} {i : Nat} {a b : Slot} {x : Int64} (h : l[i]? = some a) (h' : l[i + 1]? = some b) (ho : OneJ a b) (h1 : setL l i (.val (.long x)) = some l1) (h2 : setL l1 (i + 1) .second = some l2) : storeL l i (.long x) = some l2 := by
  obtain ⟨hi, rfl⟩ := setL_some h1
  obtain ⟨hi2, rfl⟩ := setL_some h2
  have hlen : i + 1 < l.length := by simpa using hi2
  have set_ok : ∀ (l : List Slot) (j : Nat) (y : Slot), j < l.length → setL l j y = some (l.set j y) := fun l => by
    induction l with
    | nil => intro j y hj; simp at hj
    | cons q t ih =>
      intro j y hj
      cases j with
      | zero => rfl
      | succ j => simp only [setL, ih j y (by simpa using hj), List.set_cons_succ]
  rcases ho with ⟨rfl, rfl⟩ | ⟨w, rfl, rfl⟩
  · have e : (l.set i (.val (.long x)))[i + 1]? = some .unset := by rw [List.getElem?_set_ne (by omega)]; exact h'
    simp only [storeL, h, storeSelfL, h1, Value.category, if_true, e]
    exact h2
  · have e0 : setL l (i + 1) .unset = some (l.set (i + 1) .unset) := set_ok _ _ _ hlen
    have e1 : setL (l.set (i + 1) .unset) i (.val (.long x)) = some ((l.set (i + 1) .unset).set i (.val (.long x))) := set_ok _ _ _ (by simpa using hi)
    have e2 : ((l.set (i + 1) .unset).set i (.val (.long x)))[i + 1]? = some .unset := by rw [List.getElem?_set_ne (by omega)]; simp [hlen]
    have e3 : setL ((l.set (i + 1) .unset).set i (.val (.long x))) (i + 1) .second = some (((l.set (i + 1) .unset).set i (.val (.long x))).set (i + 1) .second) := set_ok _ _ _ (by simpa using hlen)
    simp only [storeL, h, storeSelfL, Value.category, if_true, e0, e1, e2, e3]
    congr 1
    apply List.ext_getElem?
    intro j
    by_cases q1 : j = i + 1
    · subst q1; simp [hlen]
    · by_cases q2 : j = i
      · subst q2
        have z1 : (((l.set (j + 1) Slot.unset).set j (.val (.long x))).set (j + 1) .second)[j]? = some (.val (.long x)) := by
          rw [List.getElem?_set_ne (by omega)]; exact List.getElem?_set_self (by simpa using hi)
        have z2 : ((l.set j (Slot.val (.long x))).set (j + 1) .second)[j]? = some (.val (.long x)) := by
          rw [List.getElem?_set_ne (by omega)]; exact List.getElem?_set_self hi
        rw [z1, z2]
      · rw [List.getElem?_set_ne (by omega), List.getElem?_set_ne (by omega), List.getElem?_set_ne (by omega), List.getElem?_set_ne (by omega), List.getElem?_set_ne (by omega)]
theorem Wp.lstoreO {ins : Instr} {i len : Nat} {a b : Slot} {x : Int64} {l1 l2 : List Slot} {r : List Value} (hd : decode code pc = .ok (ins, len)) (hi : (ins = .lstore i ∧ len = 2) ∨ (∃ n : Fin 4, ins = .lstore_n n ∧ n.val = i ∧ len = 1)) (h : ls[i]? = some a) (h' : ls[i + 1]? = some b) (ho : OneJ a b) (h1 : setL ls i (.val (.long x)) = some l1) (h2 : setL l1 (i + 1) .second = some l2) (k : Wp W ro F Lb y code ret (pc + len) l2 r M Q) : Wp W ro F Lb y code ret pc ls (.long x :: r) M Q := by
  rcases hi with ⟨rfl, rfl⟩ | ⟨n, rfl, rfl, rfl⟩
  · exact Wp.p hd rfl (by simp only [execP, storeL_oneJ h h' ho h1 h2]) k
  · exact Wp.p hd rfl (by simp only [execP, storeL_oneJ h h' ho h1 h2]) k
theorem Wp.tswD {dflt low high : Int} {offs : Array Int} {len t : Nat} {i : Int32} {r : List Value} (hd : decode code pc = .ok (.tableswitch dflt low high offs, len)) (hout : i.toInt < low ∨ i.toInt > high) (hj : jump pc dflt = some t) (k : Wp W ro F Lb y code ret t ls r M Q) : Wp W ro F Lb y code ret pc ls (.int i :: r) M Q :=
  Wp.p hd rfl (by simp only [execP]; rw [if_pos hout, hj]) k
theorem Wp.retV (hd : decode code pc = .ok (.return_, 1)) (q : Q none M) : Wp W ro F Lb y code none pc ls [] M Q := Wp.r hd rfl rfl rfl q
theorem Wp.retI {x : Int32} (hd : decode code pc = .ok (.ireturn, 1)) (q : Q (some (.int x)) M) : Wp W ro F Lb y code (some .int) pc ls [.int x] M Q := Wp.r hd rfl rfl rfl q
theorem Wp.retJ {x : Int64} (hd : decode code pc = .ok (.lreturn, 1)) (q : Q (some (.long x)) M) : Wp W ro F Lb y code (some .long) pc ls [.long x] M Q := Wp.r hd rfl rfl rfl q
theorem Wp.retZ {x : Int32} (v : Int32) (hd : decode code pc = .ok (.ireturn, 1)) (hv : x &&& 1 = v) (q : Q (some (.int v)) M) : Wp W ro F Lb y code (some .boolean) pc ls [.int x] M Q := by
  subst hv; exact Wp.r hd rfl rfl rfl q
end Rules
end Jvm.OwnEv
namespace Jvm.OwnEv
open Sem ClassFile Op Lib Jvm.Stand Jvm.Free Jvm.LawKit Jvm.RoadKit
/-! PART 7: from a law's run to its claim -/
theorem law_run {l : Launch} {W : List Jvm.Cond} {x : MethodName} {code : ByteArray} {maxL : Nat} {ret : Option FieldType} {R : Room} {as : List Value} {s : State} {a0 : Array Value} (hw : ∀ d ∈ W, d.before a0 s = true) {ro : Nat} {M0 : EMem} {ρ : Nat → Addr} (hρ : ∀ a b, ρ a = ρ b → a = b) (hρn : ∀ a, ro ≤ a → ρ a = s.heap.size + (a - ro))
    (Rl : Rel s W ρ ro s.heap.size s.heap M0) (hp : plainName x.cls = true) (hfl : (fillL as).length ≤ maxL)
    (h : Wp W ro R.frames R.locals x code ret 0 (entryL as maxL) [] M0 fun v M' => v = some (.int 1) ∧ M'.1.length - M0.1.length ≤ R.cells ∧ szL M'.1 - szL M0.1 ≤ R.slots) (ws : List Jvm.Cond) :
    MetFree l x (head1 (Jvm.Cond.code x code maxL ret :: ws) R) (fun a U => a = (as.map (conc ρ)).toArray ∧ s.Warmed39 U.vm ∧ U.heap = s.heap) (fun _ _ _ _ _ => True)
      (fun _ U o U' => ∃ v' L, o = .returned v' ∧ (v' = some (.int 1) ∧ Fr s.heap.size L) ∧ FrameEnd U o U' L R.cells R.slots) := by
  obtain ⟨n, v, M', h1, rfl, h3, h4⟩ := h
  have M1 := met_of (run_good (l := l) hw hρ hρn n) h1 hfl hp Rl (R := R) (Nat.le_refl _) (Nat.le_refl _) h3 h4 ws
  intro p e ha hc hk s' m args below hf happ hP hK
  obtain ⟨n', o, q1, q2, q3, v', L, q4, ⟨q5, q6, q7⟩, q8⟩ := M1 p e ha hc hk s' m args below hf happ hP hK
  exact ⟨n', o, q1, q2, q3, v', L, q4, ⟨q5, q7⟩, q8.1, q8.2.1, q8.2.2.mono h3 h4⟩
/-- the memory ahead of a law of ints -/
abbrev mem0 : EMem := ([], fun _ _ => 0, fun _ _ => 0, fun _ _ => .null)
theorem rel0 (s : State) (W : List Jvm.Cond) : Rel s W (fun a => s.heap.size + a) 0 s.heap.size s.heap mem0 :=
  ⟨rfl, Nat.le_refl _, fun a c h => by simp at h, fun _ _ _ => ⟨rfl, rfl, rfl⟩⟩
/-- the memory ahead of a law that is handed an array of ints -/
abbrev mem1 (n : Nat) (f : Nat → Int32) : EMem := ([(1, "", n)], fun a k => if a = 0 then f k else 0, fun _ _ => 0, fun _ _ => .null)
def rho1 (sa n0 : Nat) : Nat → Nat := fun a => if a = 0 then sa else n0 + (a - 1)
theorem rho1_inj {sa n0 : Nat} (h : sa < n0) (a b : Nat) (e : rho1 sa n0 a = rho1 sa n0 b) : a = b := by
  unfold rho1 at e
  split at e <;> split at e <;> omega
theorem rho1_n {sa n0 : Nat} (a : Nat) (h : 1 ≤ a) : rho1 sa n0 a = n0 + (a - 1) := by
  unfold rho1
  rw [if_neg (by omega)]
theorem rel1 {s : State} (W : List Jvm.Cond) {sa : Addr} {c : Cell} {f : Nat → Int32} (A : Arr s s.heap sa c .int) (hf : ∀ k, k < c.slots.size → c.slots[k]? = some (.int (f k))) : Rel s W (rho1 sa s.heap.size) 1 s.heap.size s.heap (mem1 c.slots.size f) := by
  refine ⟨rfl, Nat.le_refl _, fun a cc h => ?_, fun a h k => ⟨?_, rfl, rfl⟩⟩
  · cases a with
    | zero =>
      simp at h
      subst h
      exact ⟨fun q => (by cases q), fun _ => ⟨c, A, rfl, fun k hk => by simpa using hf k hk⟩, fun q => (by cases q), fun q => (by cases q)⟩
    | succ a => simp at h
  · have h' : 1 ≤ a := h
    exact if_neg (by omega)
theorem script_start {s : State} {a : Addr} {c : Cell} (hf : Fit s) (A : Arr s s.heap a c .int) (hn : c.slots.size < 2 ^ 31) : ∃ f : Nat → Int32, ∀ k, k < c.slots.size → c.slots[k]? = some (.int (f k)) := by
  refine ⟨fun k => atv c k.toInt32, fun k hk => ?_⟩
  obtain ⟨n, -, S⟩ := Scr.start hf A hn
  have h1 := idx_in hk hn
  have e : k.toInt32.toNatClampNeg = k := by
    have q : k.toInt32.toInt = k := len_toInt (by omega)
    simp only [Int32.toNatClampNeg, q]; rfl
  have h2 := S.2.2.2 k.toInt32 h1
  rw [e] at h2
  exact h2
theorem script_len {s : State} {a : Addr} {c : Cell} (A : Arr s s.heap a c .int) (h : (Jvm.Cond.le (Term.length (Term.arg 0)) (Term.int 260)).value #[Value.ref a] s none s [] = some true) : c.slots.size ≤ 260 := by
  have e := A.fin (Vm.Alike.refl _)
  by_cases hn : c.slots.size < 2 ^ 31
  · have el : (Term.length (Term.arg 0)).eval #[Value.ref a] s none [] s = some (.int c.slots.size.toInt32) := by
      simp [Term.eval, e, hn]
    have q := gotT (Cond.le_ints el (Term.int_eval 260)) h
    rw [Int32.le_iff_toInt_le, len_toInt hn] at q
    simp at q
    omega
  · have el : (Term.length (Term.arg 0)).eval #[Value.ref a] s none [] s = none := by
      simp [Term.eval, e, hn]
    simp [Cond.value, el] at h
end Jvm.OwnEv
namespace Jvm.OwnEv
open Sem ClassFile Op Lib Jvm.Stand Jvm.Free Jvm.LawKit Jvm.RoadKit
/-! PART 8: small facts on words and ints -/
theorem codeLk_at {y : MethodName} {b : ByteArray} {n : Nat} {r : Option FieldType} : ∀ {W : List Jvm.Cond} {i : Nat}, W[i]? = some (.code y b n r) → codeLk y (W.take i) = none → codeLk y W = some (b, n, r)
  | [], i, h, _ => by simp at h
  | w :: t, 0, h, _ => by
    simp at h
    subst h
    have : meq y y = true := by simp [meq]
    simp [codeLk, this]
  | w :: t, i + 1, h, h2 => by
    rw [List.getElem?_cons_succ] at h
    rw [List.take_succ_cons] at h2
    have key : codeLk y (t.take i) = none ∧ codeLk y (w :: t) = codeLk y t := by
      unfold codeLk at h2
      split at h2
      · rename_i heq; cases heq
      · rename_i heq
        cases heq
        split at h2
        · cases h2
        · rename_i hm
          exact ⟨h2, by rw [codeLk, if_neg hm]⟩
      · rename_i hno heq
        cases heq
        refine ⟨h2, ?_⟩
        rw [codeLk]
        exact hno
    rw [key.2]
    exact codeLk_at h key.1
theorem callAt_of {W : List Jvm.Cond} {own : String} {idx kd : Nat} {z : MethodName} {b : ByteArray} {n na : Nat} {r : Option FieldType} {sig : MethodDescriptor} (hm : methodLk own idx W = some z) (hc : codeLk z W = some (b, n, r)) (hp : parseMethodDescriptor z.desc = some sig)
    (h : hasInit z.cls W = true ∧ plainName z.cls = true ∧ z.cls ≠ "java/lang/invoke/MethodHandle" ∧ z.cls ≠ "java/lang/invoke/VarHandle" ∧ ((kd = 0 ∧ hasDecl z W = true ∧ hasSel z W = true ∧ hasInst z W = true) ∨ (kd = 1 ∧ hasPriv z W = true ∧ hasInst z W = true ∧ (instLk z.cls W).isSome = true) ∨ (kd = 2 ∧ z.name = "<init>" ∧ hasInst z W = true ∧ r = none) ∨ (kd = 3 ∧ hasStat z W = true)))
    (hn : sig.parameters.length = na) : callAt W own idx kd = some (z, na, b, n, r) := by
  subst hn
  unfold callAt
  rw [hm]
  simp only
  rw [hc, hp]
  simp only
  rw [if_pos h]
theorem callAt_pub {W : List Jvm.Cond} {own : String} {idx : Nat} {z : MethodName} (hm : methodLk own idx W = some z) (hp : hasPriv z W = false) : callAt W own idx 1 = none := by
  unfold callAt
  rw [hm]
  simp only
  split
  · rw [if_neg]
    rintro ⟨-, -, -, -, h⟩
    rcases h with h | h | h | h
    · cases h.1
    · rw [hp] at h; cases h.2.1
    · cases h.1
    · cases h.1
  · rfl
theorem inb_iff {j : Int32} {n : Nat} : inb j n = true ↔ 0 ≤ j.toInt ∧ j.toInt < n := by
  simp only [inb, Bool.and_eq_true, decide_eq_true_eq, Int32.lt_iff_toInt_lt, Int32.toNatClampNeg, Int32.reduceToInt]
  omega
theorem inb_of {j : Int32} {n : Nat} (h : 0 ≤ j.toInt ∧ j.toInt < n) : inb j n = true := inb_iff.mpr h
theorem inb_lt {j : Int32} {n : Nat} (m : Int32) (h1 : ¬ j < 0) (h2 : j < m) (hm : m.toInt = n) : inb j n = true := by
  rw [inb_iff]
  rw [Int32.lt_iff_toInt_lt] at h1 h2
  simp at h1
  omega
theorem clamp_inj {a b : Int32} (ha : ¬ a < 0) (hb : ¬ b < 0) (h : a.toNatClampNeg = b.toNatClampNeg) : a = b := by
  rw [Int32.lt_iff_toInt_lt] at ha hb
  simp at ha hb
  simp only [Int32.toNatClampNeg] at h
  apply Int32.toInt_inj.mp
  omega
theorem clamp_lt {j : Int32} {n : Nat} (m : Int32) (h1 : ¬ j < 0) (h2 : j < m) (hm : m.toInt = n) : j.toNatClampNeg < n := by
  rw [Int32.lt_iff_toInt_lt] at h1 h2
  simp at h1
  simp only [Int32.toNatClampNeg]
  omega
theorem up_at {α : Type} (f : Nat → Nat → α) (a k : Nat) (v : α) (x y : Nat) : up f a k v x y = if x = a ∧ y = k then v else f x y := rfl
theorem succ_int {x n : Int32} (h : x < n) : (x + 1).toInt = x.toInt + 1 := by
  rw [Int32.lt_iff_toInt_lt] at h
  have h1 := c_iadd x 1
  have h2 := rng32 (x + 1)
  have h3 := rng32 x
  have h4 := rng32 n
  have h5 : (1 : Int32).toInt = 1 := by decide
  omega
theorem succ_nn {x n : Int32} (hx : ¬ x < 0) (h : x < n) : ¬ x + 1 < 0 := by
  have hs := succ_int h
  rw [Int32.lt_iff_toInt_lt] at hx ⊢
  have z : (0 : Int32).toInt = 0 := by decide
  rw [z] at hx ⊢
  omega
theorem succ_dec {x n : Int32} (h : x < n) : (n.toInt - (x + 1).toInt).toNat < (n.toInt - x.toInt).toNat := by
  have hs := succ_int h
  rw [Int32.lt_iff_toInt_lt] at h
  omega
theorem lt_of_succ {a x n : Int32} (h : x < n) (h2 : a < x + 1) (q : ¬ a = x) : a < x := by
  have hs := succ_int h
  rw [Int32.lt_iff_toInt_lt] at h2 ⊢
  have : a.toInt ≠ x.toInt := fun z => q (Int32.toInt_inj.mp z)
  omega
theorem pred_int {x : Int32} (hx : ¬ x < 0) : (x + -1).toInt = x.toInt - 1 := by
  have h1 := c_iadd x (-1)
  have h2 := rng32 (x + -1)
  have h3 := rng32 x
  have h5 : (-1 : Int32).toInt = -1 := by decide
  have z : (0 : Int32).toInt = 0 := by decide
  rw [Int32.lt_iff_toInt_lt, z] at hx
  omega
theorem mul_int {a b : Int32} (h1 : -2147483648 ≤ a.toInt * b.toInt) (h2 : a.toInt * b.toInt < 2147483648) : (a * b).toInt = a.toInt * b.toInt := by
  have h3 := c_imul a b
  have h4 := rng32 (a * b)
  generalize a.toInt * b.toInt = p at *
  omega
theorem add_int {a b : Int32} (h1 : -2147483648 ≤ a.toInt + b.toInt) (h2 : a.toInt + b.toInt < 2147483648) : (a + b).toInt = a.toInt + b.toInt := by
  have h3 := c_iadd a b
  have h4 := rng32 (a + b)
  omega
theorem sub_int {a b : Int32} (h1 : -2147483648 ≤ a.toInt - b.toInt) (h2 : a.toInt - b.toInt < 2147483648) : (a - b).toInt = a.toInt - b.toInt := by
  have h3 := c_isub a b
  have h4 := rng32 (a - b)
  omega
theorem nn_int {a : Int32} (h : ¬ a < 0) : 0 ≤ a.toInt := by
  rw [Int32.lt_iff_toInt_lt] at h
  have z : (0 : Int32).toInt = 0 := by decide
  rw [z] at h; omega
theorem lt_int {a b : Int32} (h : a < b) : a.toInt < b.toInt := Int32.lt_iff_toInt_lt.mp h
theorem ge_int {a b : Int32} (h : ¬ a < b) : b.toInt ≤ a.toInt := by rw [Int32.lt_iff_toInt_lt] at h; omega
/-- a place of a table of rows -/
theorem idx2 {x y w h : Int32} (hx : ¬ x < 0) (hxw : x < w) (hy : ¬ y < 0) (hyh : y < h) (hw : ¬ 16 < w) (hh : ¬ 16 < h) : (y * w + x).toInt = y.toInt * w.toInt + x.toInt ∧ 0 ≤ y.toInt * w.toInt + x.toInt ∧ y.toInt * w.toInt + x.toInt < 256 ∧ y.toInt * w.toInt + x.toInt < h.toInt * w.toInt := by
  have a1 := nn_int hx
  have a2 := nn_int hy
  have a3 := lt_int hxw
  have a4 := lt_int hyh
  have a5 := ge_int hw
  have a6 := ge_int hh
  have c16 : (16 : Int32).toInt = 16 := by decide
  rw [c16] at a5 a6
  have m1 : 0 ≤ y.toInt * w.toInt := Int.mul_nonneg a2 (by omega)
  have m2 : (y.toInt + 1) * w.toInt ≤ h.toInt * w.toInt := Int.mul_le_mul_of_nonneg_right (by omega) (by omega)
  have m3 : h.toInt * w.toInt ≤ 16 * w.toInt := Int.mul_le_mul_of_nonneg_right (by omega) (by omega)
  rw [Int.add_mul] at m2
  have e1 : (y * w).toInt = y.toInt * w.toInt := mul_int (by omega) (by omega)
  have e2 : (y * w + x).toInt = (y * w).toInt + x.toInt := add_int (by rw [e1]; omega) (by rw [e1]; omega)
  rw [e2, e1]
  exact ⟨rfl, by omega, by omega, by omega⟩
theorem and1 {z : Int32} (h : z = 0 ∨ z = 1) : z &&& 1 = z := by rcases h with rfl | rfl <;> decide
end Jvm.OwnEv
namespace Jvm.Pilot.@@N@@
open Jvm Jvm.ClassFile Sem Op Lib Jvm.Free Jvm.Stand Jvm.LawKit Jvm.RoadKit Jvm.OwnEv Bundle Jvm.Pilot.@@N@@.Jvm.D
abbrev RR1 : Nat → Nat → Value := (up (up (up (up (up (up (up (up (up (up (up (up (up (up (up (up (up (up (up (up (up (up (up (up (up (up (up (up (up (up (up (up (fun _ _ => Value.null) 0 43 (.ref 1)) 0 45 (.ref 2)) 0 47 (.ref 3)) 0 49 (.ref 4)) 0 51 (.ref 5)) 0 53 (.ref 6)) 0 55 (.ref 7)) 0 57 (.ref 8)) 0 59 (.ref 9)) 0 61 (.ref 10)) 0 63 (.ref 11)) 0 65 (.ref 12)) 0 67 (.ref 13)) 0 69 (.ref 14)) 0 71 (.ref 15)) 0 73 (.ref 16)) 0 75 (.ref 17)) 0 77 (.ref 18)) 0 79 (.ref 19)) 0 81 (.ref 20)) 0 83 (.ref 21)) 0 85 (.ref 22)) 0 87 (.ref 23)) 0 89 (.ref 24)) 0 91 (.ref 25)) 0 93 (.ref 26)) 0 95 (.ref 27)) 0 97 (.ref 28)) 0 99 (.ref 29)) 0 101 (.ref 30)) 0 103 (.ref 31)) 0 105 (.ref 32))
abbrev LL1 : ELay := [(0, "OptimisticLazy", 72), (1, "", 64), (1, "", 64), (1, "", 64), (1, "", 64), (1, "", 64), (1, "", 64), (1, "", 64), (1, "", 64), (1, "", 64), (1, "", 128), (1, "", 128), (1, "", 128), (1, "", 128), (1, "", 128), (1, "", 128), (1, "", 128), (1, "", 128), (1, "", 128), (1, "", 128), (1, "", 128), (1, "", 128), (1, "", 128), (1, "", 128), (1, "", 128), (1, "", 256), (1, "", 256), (1, "", 256), (1, "", 256), (1, "", 256), (1, "", 256), (1, "", 256), (1, "", 256)]
abbrev QL : Option Value → EMem → Prop := fun v M' => v = some (.int 1) ∧ M'.1.length - 0 ≤ room_1.cells ∧ szL M'.1 - 0 ≤ room_1.slots
theorem ql1 {mi : Nat → Nat → Int32} {ml : Nat → Nat → Int64} {v : Int32} (h : v = 1) : QL (some (.int v)) (LL1, mi, ml, RR1) := ⟨by rw [h], by show LL1.length - 0 ≤ room_1.cells; decide, by show szL LL1 - 0 ≤ room_1.slots; decide⟩
theorem d_clamp_0 : decode prog_1_method_16_code 0 = .ok (.iload_n 1, 1) := by decide +kernel
theorem d_clamp_1 : decode prog_1_method_16_code 1 = .ok (.iload_n 2, 1) := by decide +kernel
theorem d_clamp_2 : decode prog_1_method_16_code 2 = .ok (.if_icmp .ge 5, 3) := by decide +kernel
theorem d_clamp_7 : decode prog_1_method_16_code 7 = .ok (.iload_n 1, 1) := by decide +kernel
theorem d_clamp_8 : decode prog_1_method_16_code 8 = .ok (.iload_n 3, 1) := by decide +kernel
theorem d_clamp_14 : decode prog_1_method_16_code 14 = .ok (.iload_n 1, 1) := by decide +kernel
theorem d_clamp_15 : decode prog_1_method_16_code 15 = .ok (.ireturn, 1) := by decide +kernel
theorem d_clamp_12 : decode prog_1_method_16_code 12 = .ok (.iload_n 3, 1) := by decide +kernel
theorem d_clamp_13 : decode prog_1_method_16_code 13 = .ok (.ireturn, 1) := by decide +kernel
theorem d_clamp_9 : decode prog_1_method_16_code 9 = .ok (.if_icmp .le 5, 3) := by decide +kernel
theorem d_clamp_5 : decode prog_1_method_16_code 5 = .ok (.iload_n 2, 1) := by decide +kernel
theorem d_clamp_6 : decode prog_1_method_16_code 6 = .ok (.ireturn, 1) := by decide +kernel
abbrev W_clamp (pc : Nat) (ls : List Slot) (st : List Value) (M : EMem) (Q : Option Value → EMem → Prop) : Prop := Wp tables_1 0 0 0 (⟨"OptimisticLazy", "clamp", "(III)I"⟩ : MethodName) prog_1_method_16_code (some .int) pc ls st M Q
theorem d_law_arity_0 : decode method_2_code 0 = .ok (.iload_n 0, 1) := by decide +kernel
theorem d_law_arity_1 : decode method_2_code 1 = .ok (.iconst 3, 1) := by decide +kernel
theorem d_law_arity_2 : decode method_2_code 2 = .ok (.if_icmp .gt 5, 3) := by decide +kernel
theorem d_law_arity_7 : decode method_2_code 7 = .ok (.iload_n 0, 1) := by decide +kernel
theorem d_law_arity_8 : decode method_2_code 8 = .ok (.bipush 12, 2) := by decide +kernel
theorem d_law_arity_15 : decode method_2_code 15 = .ok (.iconst 2, 1) := by decide +kernel
theorem d_law_arity_16 : decode method_2_code 16 = .ok (.ireturn, 1) := by decide +kernel
theorem d_law_arity_13 : decode method_2_code 13 = .ok (.iconst 3, 1) := by decide +kernel
theorem d_law_arity_14 : decode method_2_code 14 = .ok (.ireturn, 1) := by decide +kernel
theorem d_law_arity_10 : decode method_2_code 10 = .ok (.if_icmp .ne 5, 3) := by decide +kernel
theorem d_law_arity_5 : decode method_2_code 5 = .ok (.iconst 0, 1) := by decide +kernel
theorem d_law_arity_6 : decode method_2_code 6 = .ok (.ireturn, 1) := by decide +kernel
abbrev W_law_arity (pc : Nat) (ls : List Slot) (st : List Value) (M : EMem) (Q : Option Value → EMem → Prop) : Prop := Wp tables_1 0 0 0 (⟨"OptimisticLazyL2", "arity", "(I)I"⟩ : MethodName) method_2_code (some .int) pc ls st M Q
theorem d_arity_0 : decode prog_1_method_17_code 0 = .ok (.iload_n 1, 1) := by decide +kernel
theorem d_arity_1 : decode prog_1_method_17_code 1 = .ok (.bipush 12, 2) := by decide +kernel
theorem d_arity_3 : decode prog_1_method_17_code 3 = .ok (.if_icmp .ne 5, 3) := by decide +kernel
theorem d_arity_8 : decode prog_1_method_17_code 8 = .ok (.iload_n 1, 1) := by decide +kernel
theorem d_arity_9 : decode prog_1_method_17_code 9 = .ok (.iconst 4, 1) := by decide +kernel
theorem d_arity_21 : decode prog_1_method_17_code 21 = .ok (.iconst 0, 1) := by decide +kernel
theorem d_arity_22 : decode prog_1_method_17_code 22 = .ok (.ireturn, 1) := by decide +kernel
theorem d_arity_13 : decode prog_1_method_17_code 13 = .ok (.iload_n 1, 1) := by decide +kernel
theorem d_arity_14 : decode prog_1_method_17_code 14 = .ok (.bipush 13, 2) := by decide +kernel
theorem d_arity_19 : decode prog_1_method_17_code 19 = .ok (.iconst 2, 1) := by decide +kernel
theorem d_arity_20 : decode prog_1_method_17_code 20 = .ok (.ireturn, 1) := by decide +kernel
theorem d_arity_16 : decode prog_1_method_17_code 16 = .ok (.if_icmp .gt 5, 3) := by decide +kernel
theorem d_arity_10 : decode prog_1_method_17_code 10 = .ok (.if_icmp .lt 11, 3) := by decide +kernel
theorem d_arity_6 : decode prog_1_method_17_code 6 = .ok (.iconst 3, 1) := by decide +kernel
theorem d_arity_7 : decode prog_1_method_17_code 7 = .ok (.ireturn, 1) := by decide +kernel
abbrev W_arity (pc : Nat) (ls : List Slot) (st : List Value) (M : EMem) (Q : Option Value → EMem → Prop) : Prop := Wp tables_1 0 0 0 (⟨"OptimisticLazy", "arity", "(I)I"⟩ : MethodName) prog_1_method_17_code (some .int) pc ls st M Q
theorem d_storesArg_0 : decode prog_1_method_18_code 0 = .ok (.iload_n 1, 1) := by decide +kernel
theorem d_storesArg_1 : decode prog_1_method_18_code 1 = .ok (.ifCond .eq 19, 3) := by decide +kernel
theorem d_storesArg_20 : decode prog_1_method_18_code 20 = .ok (.iconst 1, 1) := by decide +kernel
theorem d_storesArg_21 : decode prog_1_method_18_code 21 = .ok (.goto 4, 3) := by decide +kernel
theorem d_storesArg_4 : decode prog_1_method_18_code 4 = .ok (.iload_n 1, 1) := by decide +kernel
theorem d_storesArg_5 : decode prog_1_method_18_code 5 = .ok (.iconst 1, 1) := by decide +kernel
theorem d_storesArg_9 : decode prog_1_method_18_code 9 = .ok (.iload_n 1, 1) := by decide +kernel
theorem d_storesArg_10 : decode prog_1_method_18_code 10 = .ok (.iconst 2, 1) := by decide +kernel
theorem d_storesArg_14 : decode prog_1_method_18_code 14 = .ok (.iload_n 1, 1) := by decide +kernel
theorem d_storesArg_15 : decode prog_1_method_18_code 15 = .ok (.bipush 13, 2) := by decide +kernel
theorem d_storesArg_24 : decode prog_1_method_18_code 24 = .ok (.iconst 0, 1) := by decide +kernel
theorem d_storesArg_17 : decode prog_1_method_18_code 17 = .ok (.if_icmp .ne 7, 3) := by decide +kernel
theorem d_storesArg_11 : decode prog_1_method_18_code 11 = .ok (.if_icmp .eq 9, 3) := by decide +kernel
theorem d_storesArg_6 : decode prog_1_method_18_code 6 = .ok (.if_icmp .eq 14, 3) := by decide +kernel
abbrev W_storesArg (pc : Nat) (ls : List Slot) (st : List Value) (M : EMem) (Q : Option Value → EMem → Prop) : Prop := Wp tables_1 0 0 0 (⟨"OptimisticLazy", "storesArg", "(I)Z"⟩ : MethodName) prog_1_method_18_code (some .boolean) pc ls st M Q
theorem d_storesArg_25 : decode prog_1_method_18_code 25 = .ok (.ireturn, 1) := by decide +kernel
theorem d_isNode_0 : decode prog_1_method_19_code 0 = .ok (.iload_n 1, 1) := by decide +kernel
theorem d_isNode_1 : decode prog_1_method_19_code 1 = .ok (.ifCond .lt 21, 3) := by decide +kernel
theorem d_isNode_22 : decode prog_1_method_19_code 22 = .ok (.iconst 0, 1) := by decide +kernel
theorem d_isNode_4 : decode prog_1_method_19_code 4 = .ok (.iload_n 1, 1) := by decide +kernel
theorem d_isNode_5 : decode prog_1_method_19_code 5 = .ok (.aload_n 0, 1) := by decide +kernel
theorem d_isNode_6 : decode prog_1_method_19_code 6 = .ok (.getfield 168, 3) := by decide +kernel
theorem fa_c168 : fieldAt tables_1 "OptimisticLazy" 168 = some ("OptimisticLazy", 119, 1, false) := by decide +kernel
theorem d_isNode_12 : decode prog_1_method_19_code 12 = .ok (.iload_n 1, 1) := by decide +kernel
theorem d_isNode_13 : decode prog_1_method_19_code 13 = .ok (.bipush 64, 2) := by decide +kernel
theorem d_isNode_18 : decode prog_1_method_19_code 18 = .ok (.iconst 1, 1) := by decide +kernel
theorem d_isNode_19 : decode prog_1_method_19_code 19 = .ok (.goto 4, 3) := by decide +kernel
theorem d_isNode_15 : decode prog_1_method_19_code 15 = .ok (.if_icmp .ge 7, 3) := by decide +kernel
theorem d_isNode_9 : decode prog_1_method_19_code 9 = .ok (.if_icmp .ge 13, 3) := by decide +kernel
abbrev W_isNode (pc : Nat) (ls : List Slot) (st : List Value) (M : EMem) (Q : Option Value → EMem → Prop) : Prop := Wp tables_1 0 0 0 (⟨"OptimisticLazy", "isNode", "(I)Z"⟩ : MethodName) prog_1_method_19_code (some .boolean) pc ls st M Q
theorem d_isNode_23 : decode prog_1_method_19_code 23 = .ok (.ireturn, 1) := by decide +kernel
theorem d_depth_0 : decode prog_1_method_5_code 0 = .ok (.aload_n 0, 1) := by decide +kernel
theorem d_depth_1 : decode prog_1_method_5_code 1 = .ok (.getfield 175, 3) := by decide +kernel
theorem fa_c175 : fieldAt tables_1 "OptimisticLazy" 175 = some ("OptimisticLazy", 121, 1, false) := by decide +kernel
theorem d_depth_4 : decode prog_1_method_5_code 4 = .ok (.ireturn, 1) := by decide +kernel
abbrev W_depth (pc : Nat) (ls : List Slot) (st : List Value) (M : EMem) (Q : Option Value → EMem → Prop) : Prop := Wp tables_1 0 0 0 (⟨"OptimisticLazy", "depth", "()I"⟩ : MethodName) prog_1_method_5_code (some .int) pc ls st M Q
theorem d_nodeCount_0 : decode prog_1_method_6_code 0 = .ok (.aload_n 0, 1) := by decide +kernel
theorem d_nodeCount_1 : decode prog_1_method_6_code 1 = .ok (.getfield 168, 3) := by decide +kernel
theorem d_nodeCount_4 : decode prog_1_method_6_code 4 = .ok (.ireturn, 1) := by decide +kernel
abbrev W_nodeCount (pc : Nat) (ls : List Slot) (st : List Value) (M : EMem) (Q : Option Value → EMem → Prop) : Prop := Wp tables_1 0 0 0 (⟨"OptimisticLazy", "nodeCount", "()I"⟩ : MethodName) prog_1_method_6_code (some .int) pc ls st M Q
theorem d_clearMachine_0 : decode prog_1_method_26_code 0 = .ok (.aload_n 0, 1) := by decide +kernel
theorem d_clearMachine_1 : decode prog_1_method_26_code 1 = .ok (.iconst 0, 1) := by decide +kernel
theorem d_clearMachine_2 : decode prog_1_method_26_code 2 = .ok (.putfield 226, 3) := by decide +kernel
theorem fa_c226 : fieldAt tables_1 "OptimisticLazy" 226 = some ("OptimisticLazy", 137, 1, false) := by decide +kernel
theorem in_OptimisticLazy : instLk "OptimisticLazy" tables_1 = some 72 := by decide +kernel
theorem d_clearMachine_5 : decode prog_1_method_26_code 5 = .ok (.aload_n 0, 1) := by decide +kernel
theorem d_clearMachine_6 : decode prog_1_method_26_code 6 = .ok (.iconst 0, 1) := by decide +kernel
theorem d_clearMachine_7 : decode prog_1_method_26_code 7 = .ok (.putfield 213, 3) := by decide +kernel
theorem fa_c213 : fieldAt tables_1 "OptimisticLazy" 213 = some ("OptimisticLazy", 139, 1, false) := by decide +kernel
theorem d_clearMachine_10 : decode prog_1_method_26_code 10 = .ok (.aload_n 0, 1) := by decide +kernel
theorem d_clearMachine_11 : decode prog_1_method_26_code 11 = .ok (.iconst 0, 1) := by decide +kernel
theorem d_clearMachine_12 : decode prog_1_method_26_code 12 = .ok (.putfield 229, 3) := by decide +kernel
theorem fa_c229 : fieldAt tables_1 "OptimisticLazy" 229 = some ("OptimisticLazy", 141, 1, false) := by decide +kernel
theorem d_clearMachine_15 : decode prog_1_method_26_code 15 = .ok (.aload_n 0, 1) := by decide +kernel
theorem d_clearMachine_16 : decode prog_1_method_26_code 16 = .ok (.iconst 0, 1) := by decide +kernel
theorem d_clearMachine_17 : decode prog_1_method_26_code 17 = .ok (.putfield 232, 3) := by decide +kernel
theorem fa_c232 : fieldAt tables_1 "OptimisticLazy" 232 = some ("OptimisticLazy", 143, 1, false) := by decide +kernel
theorem d_clearMachine_20 : decode prog_1_method_26_code 20 = .ok (.aload_n 0, 1) := by decide +kernel
theorem d_clearMachine_21 : decode prog_1_method_26_code 21 = .ok (.iconst (-1), 1) := by decide +kernel
theorem d_clearMachine_22 : decode prog_1_method_26_code 22 = .ok (.putfield 235, 3) := by decide +kernel
theorem fa_c235 : fieldAt tables_1 "OptimisticLazy" 235 = some ("OptimisticLazy", 145, 1, false) := by decide +kernel
theorem d_clearMachine_25 : decode prog_1_method_26_code 25 = .ok (.aload_n 0, 1) := by decide +kernel
theorem d_clearMachine_26 : decode prog_1_method_26_code 26 = .ok (.iconst (-1), 1) := by decide +kernel
theorem d_clearMachine_27 : decode prog_1_method_26_code 27 = .ok (.putfield 238, 3) := by decide +kernel
theorem fa_c238 : fieldAt tables_1 "OptimisticLazy" 238 = some ("OptimisticLazy", 147, 1, false) := by decide +kernel
theorem d_clearMachine_30 : decode prog_1_method_26_code 30 = .ok (.aload_n 0, 1) := by decide +kernel
theorem d_clearMachine_31 : decode prog_1_method_26_code 31 = .ok (.iconst 0, 1) := by decide +kernel
theorem d_clearMachine_32 : decode prog_1_method_26_code 32 = .ok (.putfield 241, 3) := by decide +kernel
theorem fa_c241 : fieldAt tables_1 "OptimisticLazy" 241 = some ("OptimisticLazy", 149, 1, false) := by decide +kernel
theorem d_clearMachine_35 : decode prog_1_method_26_code 35 = .ok (.aload_n 0, 1) := by decide +kernel
theorem d_clearMachine_36 : decode prog_1_method_26_code 36 = .ok (.iconst 0, 1) := by decide +kernel
theorem d_clearMachine_37 : decode prog_1_method_26_code 37 = .ok (.putfield 244, 3) := by decide +kernel
theorem fa_c244 : fieldAt tables_1 "OptimisticLazy" 244 = some ("OptimisticLazy", 151, 2, false) := by decide +kernel
theorem d_clearMachine_40 : decode prog_1_method_26_code 40 = .ok (.aload_n 0, 1) := by decide +kernel
theorem d_clearMachine_41 : decode prog_1_method_26_code 41 = .ok (.iconst 0, 1) := by decide +kernel
theorem d_clearMachine_42 : decode prog_1_method_26_code 42 = .ok (.putfield 198, 3) := by decide +kernel
theorem fa_c198 : fieldAt tables_1 "OptimisticLazy" 198 = some ("OptimisticLazy", 153, 1, false) := by decide +kernel
theorem d_clearMachine_45 : decode prog_1_method_26_code 45 = .ok (.aload_n 0, 1) := by decide +kernel
theorem d_clearMachine_46 : decode prog_1_method_26_code 46 = .ok (.iconst 0, 1) := by decide +kernel
theorem d_clearMachine_47 : decode prog_1_method_26_code 47 = .ok (.putfield 204, 3) := by decide +kernel
theorem fa_c204 : fieldAt tables_1 "OptimisticLazy" 204 = some ("OptimisticLazy", 155, 1, false) := by decide +kernel
theorem d_clearMachine_50 : decode prog_1_method_26_code 50 = .ok (.aload_n 0, 1) := by decide +kernel
theorem d_clearMachine_51 : decode prog_1_method_26_code 51 = .ok (.iconst 0, 1) := by decide +kernel
theorem d_clearMachine_52 : decode prog_1_method_26_code 52 = .ok (.putfield 248, 3) := by decide +kernel
theorem fa_c248 : fieldAt tables_1 "OptimisticLazy" 248 = some ("OptimisticLazy", 157, 2, false) := by decide +kernel
theorem d_clearMachine_55 : decode prog_1_method_26_code 55 = .ok (.aload_n 0, 1) := by decide +kernel
theorem d_clearMachine_56 : decode prog_1_method_26_code 56 = .ok (.iconst (-1), 1) := by decide +kernel
theorem d_clearMachine_57 : decode prog_1_method_26_code 57 = .ok (.putfield 251, 3) := by decide +kernel
theorem fa_c251 : fieldAt tables_1 "OptimisticLazy" 251 = some ("OptimisticLazy", 159, 1, false) := by decide +kernel
theorem d_clearMachine_60 : decode prog_1_method_26_code 60 = .ok (.aload_n 0, 1) := by decide +kernel
theorem d_clearMachine_61 : decode prog_1_method_26_code 61 = .ok (.iconst 0, 1) := by decide +kernel
theorem d_clearMachine_62 : decode prog_1_method_26_code 62 = .ok (.putfield 254, 3) := by decide +kernel
theorem fa_c254 : fieldAt tables_1 "OptimisticLazy" 254 = some ("OptimisticLazy", 161, 1, false) := by decide +kernel
theorem d_clearMachine_65 : decode prog_1_method_26_code 65 = .ok (.aload_n 0, 1) := by decide +kernel
theorem d_clearMachine_66 : decode prog_1_method_26_code 66 = .ok (.iconst 0, 1) := by decide +kernel
theorem d_clearMachine_67 : decode prog_1_method_26_code 67 = .ok (.putfield 257, 3) := by decide +kernel
theorem fa_c257 : fieldAt tables_1 "OptimisticLazy" 257 = some ("OptimisticLazy", 163, 1, false) := by decide +kernel
theorem d_clearMachine_70 : decode prog_1_method_26_code 70 = .ok (.aload_n 0, 1) := by decide +kernel
theorem d_clearMachine_71 : decode prog_1_method_26_code 71 = .ok (.iconst 0, 1) := by decide +kernel
theorem d_clearMachine_72 : decode prog_1_method_26_code 72 = .ok (.putfield 260, 3) := by decide +kernel
theorem fa_c260 : fieldAt tables_1 "OptimisticLazy" 260 = some ("OptimisticLazy", 165, 1, false) := by decide +kernel
theorem d_clearMachine_75 : decode prog_1_method_26_code 75 = .ok (.aload_n 0, 1) := by decide +kernel
theorem d_clearMachine_76 : decode prog_1_method_26_code 76 = .ok (.iconst (-1), 1) := by decide +kernel
theorem d_clearMachine_77 : decode prog_1_method_26_code 77 = .ok (.putfield 263, 3) := by decide +kernel
theorem fa_c263 : fieldAt tables_1 "OptimisticLazy" 263 = some ("OptimisticLazy", 167, 1, false) := by decide +kernel
theorem d_clearMachine_80 : decode prog_1_method_26_code 80 = .ok (.aload_n 0, 1) := by decide +kernel
theorem d_clearMachine_81 : decode prog_1_method_26_code 81 = .ok (.iconst (-1), 1) := by decide +kernel
theorem d_clearMachine_82 : decode prog_1_method_26_code 82 = .ok (.putfield 266, 3) := by decide +kernel
theorem fa_c266 : fieldAt tables_1 "OptimisticLazy" 266 = some ("OptimisticLazy", 169, 1, false) := by decide +kernel
theorem d_clearMachine_85 : decode prog_1_method_26_code 85 = .ok (.return_, 1) := by decide +kernel
abbrev W_clearMachine (pc : Nat) (ls : List Slot) (st : List Value) (M : EMem) (Q : Option Value → EMem → Prop) : Prop := Wp tables_1 0 0 0 (⟨"OptimisticLazy", "clearMachine", "()V"⟩ : MethodName) prog_1_method_26_code none pc ls st M Q
theorem d_clearNodeSlot_0 : decode prog_1_method_24_code 0 = .ok (.iload_n 1, 1) := by decide +kernel
theorem d_clearNodeSlot_1 : decode prog_1_method_24_code 1 = .ok (.ifCond .lt 9, 3) := by decide +kernel
theorem d_clearNodeSlot_10 : decode prog_1_method_24_code 10 = .ok (.return_, 1) := by decide +kernel
theorem d_clearNodeSlot_4 : decode prog_1_method_24_code 4 = .ok (.iload_n 1, 1) := by decide +kernel
theorem d_clearNodeSlot_5 : decode prog_1_method_24_code 5 = .ok (.bipush 64, 2) := by decide +kernel
theorem d_clearNodeSlot_7 : decode prog_1_method_24_code 7 = .ok (.if_icmp .lt 4, 3) := by decide +kernel
theorem d_clearNodeSlot_11 : decode prog_1_method_24_code 11 = .ok (.aload_n 0, 1) := by decide +kernel
theorem d_clearNodeSlot_12 : decode prog_1_method_24_code 12 = .ok (.getfield 58, 3) := by decide +kernel
theorem fa_c58 : fieldAt tables_1 "OptimisticLazy" 58 = some ("OptimisticLazy", 43, 4, true) := by decide +kernel
theorem d_clearNodeSlot_15 : decode prog_1_method_24_code 15 = .ok (.iload_n 1, 1) := by decide +kernel
theorem d_clearNodeSlot_16 : decode prog_1_method_24_code 16 = .ok (.iconst 0, 1) := by decide +kernel
theorem d_clearNodeSlot_17 : decode prog_1_method_24_code 17 = .ok (.iastore, 1) := by decide +kernel
theorem d_clearNodeSlot_18 : decode prog_1_method_24_code 18 = .ok (.aload_n 0, 1) := by decide +kernel
theorem d_clearNodeSlot_19 : decode prog_1_method_24_code 19 = .ok (.getfield 62, 3) := by decide +kernel
theorem fa_c62 : fieldAt tables_1 "OptimisticLazy" 62 = some ("OptimisticLazy", 45, 4, true) := by decide +kernel
theorem d_clearNodeSlot_22 : decode prog_1_method_24_code 22 = .ok (.iload_n 1, 1) := by decide +kernel
theorem d_clearNodeSlot_23 : decode prog_1_method_24_code 23 = .ok (.iconst 0, 1) := by decide +kernel
theorem d_clearNodeSlot_24 : decode prog_1_method_24_code 24 = .ok (.iastore, 1) := by decide +kernel
theorem d_clearNodeSlot_25 : decode prog_1_method_24_code 25 = .ok (.aload_n 0, 1) := by decide +kernel
theorem d_clearNodeSlot_26 : decode prog_1_method_24_code 26 = .ok (.getfield 65, 3) := by decide +kernel
theorem fa_c65 : fieldAt tables_1 "OptimisticLazy" 65 = some ("OptimisticLazy", 47, 4, true) := by decide +kernel
theorem d_clearNodeSlot_29 : decode prog_1_method_24_code 29 = .ok (.iload_n 1, 1) := by decide +kernel
theorem d_clearNodeSlot_30 : decode prog_1_method_24_code 30 = .ok (.iconst (-1), 1) := by decide +kernel
theorem d_clearNodeSlot_31 : decode prog_1_method_24_code 31 = .ok (.iastore, 1) := by decide +kernel
theorem d_clearNodeSlot_32 : decode prog_1_method_24_code 32 = .ok (.aload_n 0, 1) := by decide +kernel
theorem d_clearNodeSlot_33 : decode prog_1_method_24_code 33 = .ok (.getfield 68, 3) := by decide +kernel
theorem fa_c68 : fieldAt tables_1 "OptimisticLazy" 68 = some ("OptimisticLazy", 49, 4, true) := by decide +kernel
theorem d_clearNodeSlot_36 : decode prog_1_method_24_code 36 = .ok (.iload_n 1, 1) := by decide +kernel
theorem d_clearNodeSlot_37 : decode prog_1_method_24_code 37 = .ok (.iconst (-1), 1) := by decide +kernel
theorem d_clearNodeSlot_38 : decode prog_1_method_24_code 38 = .ok (.iastore, 1) := by decide +kernel
theorem d_clearNodeSlot_39 : decode prog_1_method_24_code 39 = .ok (.aload_n 0, 1) := by decide +kernel
theorem d_clearNodeSlot_40 : decode prog_1_method_24_code 40 = .ok (.getfield 71, 3) := by decide +kernel
theorem fa_c71 : fieldAt tables_1 "OptimisticLazy" 71 = some ("OptimisticLazy", 51, 4, true) := by decide +kernel
theorem d_clearNodeSlot_43 : decode prog_1_method_24_code 43 = .ok (.iload_n 1, 1) := by decide +kernel
theorem d_clearNodeSlot_44 : decode prog_1_method_24_code 44 = .ok (.iconst (-1), 1) := by decide +kernel
theorem d_clearNodeSlot_45 : decode prog_1_method_24_code 45 = .ok (.iastore, 1) := by decide +kernel
theorem d_clearNodeSlot_46 : decode prog_1_method_24_code 46 = .ok (.aload_n 0, 1) := by decide +kernel
theorem d_clearNodeSlot_47 : decode prog_1_method_24_code 47 = .ok (.getfield 74, 3) := by decide +kernel
theorem fa_c74 : fieldAt tables_1 "OptimisticLazy" 74 = some ("OptimisticLazy", 53, 4, true) := by decide +kernel
theorem d_clearNodeSlot_50 : decode prog_1_method_24_code 50 = .ok (.iload_n 1, 1) := by decide +kernel
theorem d_clearNodeSlot_51 : decode prog_1_method_24_code 51 = .ok (.iconst (-1), 1) := by decide +kernel
theorem d_clearNodeSlot_52 : decode prog_1_method_24_code 52 = .ok (.iastore, 1) := by decide +kernel
theorem d_clearNodeSlot_53 : decode prog_1_method_24_code 53 = .ok (.aload_n 0, 1) := by decide +kernel
theorem d_clearNodeSlot_54 : decode prog_1_method_24_code 54 = .ok (.getfield 77, 3) := by decide +kernel
theorem fa_c77 : fieldAt tables_1 "OptimisticLazy" 77 = some ("OptimisticLazy", 55, 4, true) := by decide +kernel
theorem d_clearNodeSlot_57 : decode prog_1_method_24_code 57 = .ok (.iload_n 1, 1) := by decide +kernel
theorem d_clearNodeSlot_58 : decode prog_1_method_24_code 58 = .ok (.iconst (-1), 1) := by decide +kernel
theorem d_clearNodeSlot_59 : decode prog_1_method_24_code 59 = .ok (.iastore, 1) := by decide +kernel
theorem d_clearNodeSlot_60 : decode prog_1_method_24_code 60 = .ok (.aload_n 0, 1) := by decide +kernel
theorem d_clearNodeSlot_61 : decode prog_1_method_24_code 61 = .ok (.getfield 80, 3) := by decide +kernel
theorem fa_c80 : fieldAt tables_1 "OptimisticLazy" 80 = some ("OptimisticLazy", 57, 4, true) := by decide +kernel
theorem d_clearNodeSlot_64 : decode prog_1_method_24_code 64 = .ok (.iload_n 1, 1) := by decide +kernel
theorem d_clearNodeSlot_65 : decode prog_1_method_24_code 65 = .ok (.aload_n 0, 1) := by decide +kernel
theorem d_clearNodeSlot_66 : decode prog_1_method_24_code 66 = .ok (.getfield 162, 3) := by decide +kernel
theorem fa_c162 : fieldAt tables_1 "OptimisticLazy" 162 = some ("OptimisticLazy", 113, 1, false) := by decide +kernel
theorem d_clearNodeSlot_69 : decode prog_1_method_24_code 69 = .ok (.iastore, 1) := by decide +kernel
theorem d_clearNodeSlot_70 : decode prog_1_method_24_code 70 = .ok (.aload_n 0, 1) := by decide +kernel
theorem d_clearNodeSlot_71 : decode prog_1_method_24_code 71 = .ok (.getfield 83, 3) := by decide +kernel
theorem fa_c83 : fieldAt tables_1 "OptimisticLazy" 83 = some ("OptimisticLazy", 59, 4, true) := by decide +kernel
theorem d_clearNodeSlot_74 : decode prog_1_method_24_code 74 = .ok (.iload_n 1, 1) := by decide +kernel
theorem d_clearNodeSlot_75 : decode prog_1_method_24_code 75 = .ok (.iconst (-1), 1) := by decide +kernel
theorem d_clearNodeSlot_76 : decode prog_1_method_24_code 76 = .ok (.iastore, 1) := by decide +kernel
theorem d_clearNodeSlot_77 : decode prog_1_method_24_code 77 = .ok (.return_, 1) := by decide +kernel
abbrev W_clearNodeSlot (pc : Nat) (ls : List Slot) (st : List Value) (M : EMem) (Q : Option Value → EMem → Prop) : Prop := Wp tables_1 0 0 0 (⟨"OptimisticLazy", "clearNodeSlot", "(I)V"⟩ : MethodName) prog_1_method_24_code none pc ls st M Q
theorem d_clearCell_0 : decode prog_1_method_25_code 0 = .ok (.iload_n 1, 1) := by decide +kernel
theorem d_clearCell_1 : decode prog_1_method_25_code 1 = .ok (.ifCond .lt 10, 3) := by decide +kernel
theorem d_clearCell_11 : decode prog_1_method_25_code 11 = .ok (.return_, 1) := by decide +kernel
theorem d_clearCell_4 : decode prog_1_method_25_code 4 = .ok (.iload_n 1, 1) := by decide +kernel
theorem d_clearCell_5 : decode prog_1_method_25_code 5 = .ok (.sipush 128, 3) := by decide +kernel
theorem d_clearCell_8 : decode prog_1_method_25_code 8 = .ok (.if_icmp .lt 4, 3) := by decide +kernel
theorem d_clearCell_12 : decode prog_1_method_25_code 12 = .ok (.aload_n 0, 1) := by decide +kernel
theorem d_clearCell_13 : decode prog_1_method_25_code 13 = .ok (.getfield 86, 3) := by decide +kernel
theorem fa_c86 : fieldAt tables_1 "OptimisticLazy" 86 = some ("OptimisticLazy", 61, 4, true) := by decide +kernel
theorem d_clearCell_16 : decode prog_1_method_25_code 16 = .ok (.iload_n 1, 1) := by decide +kernel
theorem d_clearCell_17 : decode prog_1_method_25_code 17 = .ok (.iconst (-1), 1) := by decide +kernel
theorem d_clearCell_18 : decode prog_1_method_25_code 18 = .ok (.iastore, 1) := by decide +kernel
theorem d_clearCell_19 : decode prog_1_method_25_code 19 = .ok (.aload_n 0, 1) := by decide +kernel
theorem d_clearCell_20 : decode prog_1_method_25_code 20 = .ok (.getfield 89, 3) := by decide +kernel
theorem fa_c89 : fieldAt tables_1 "OptimisticLazy" 89 = some ("OptimisticLazy", 63, 4, true) := by decide +kernel
theorem d_clearCell_23 : decode prog_1_method_25_code 23 = .ok (.iload_n 1, 1) := by decide +kernel
theorem d_clearCell_24 : decode prog_1_method_25_code 24 = .ok (.iconst (-1), 1) := by decide +kernel
theorem d_clearCell_25 : decode prog_1_method_25_code 25 = .ok (.iastore, 1) := by decide +kernel
theorem d_clearCell_26 : decode prog_1_method_25_code 26 = .ok (.aload_n 0, 1) := by decide +kernel
theorem d_clearCell_27 : decode prog_1_method_25_code 27 = .ok (.getfield 92, 3) := by decide +kernel
theorem fa_c92 : fieldAt tables_1 "OptimisticLazy" 92 = some ("OptimisticLazy", 65, 4, true) := by decide +kernel
theorem d_clearCell_30 : decode prog_1_method_25_code 30 = .ok (.iload_n 1, 1) := by decide +kernel
theorem d_clearCell_31 : decode prog_1_method_25_code 31 = .ok (.iconst (-1), 1) := by decide +kernel
theorem d_clearCell_32 : decode prog_1_method_25_code 32 = .ok (.iastore, 1) := by decide +kernel
theorem d_clearCell_33 : decode prog_1_method_25_code 33 = .ok (.aload_n 0, 1) := by decide +kernel
theorem d_clearCell_34 : decode prog_1_method_25_code 34 = .ok (.getfield 95, 3) := by decide +kernel
theorem fa_c95 : fieldAt tables_1 "OptimisticLazy" 95 = some ("OptimisticLazy", 67, 4, true) := by decide +kernel
theorem d_clearCell_37 : decode prog_1_method_25_code 37 = .ok (.iload_n 1, 1) := by decide +kernel
theorem d_clearCell_38 : decode prog_1_method_25_code 38 = .ok (.iconst 0, 1) := by decide +kernel
theorem d_clearCell_39 : decode prog_1_method_25_code 39 = .ok (.iastore, 1) := by decide +kernel
theorem d_clearCell_40 : decode prog_1_method_25_code 40 = .ok (.aload_n 0, 1) := by decide +kernel
theorem d_clearCell_41 : decode prog_1_method_25_code 41 = .ok (.getfield 98, 3) := by decide +kernel
theorem fa_c98 : fieldAt tables_1 "OptimisticLazy" 98 = some ("OptimisticLazy", 69, 4, true) := by decide +kernel
theorem d_clearCell_44 : decode prog_1_method_25_code 44 = .ok (.iload_n 1, 1) := by decide +kernel
theorem d_clearCell_45 : decode prog_1_method_25_code 45 = .ok (.iconst 0, 1) := by decide +kernel
theorem d_clearCell_46 : decode prog_1_method_25_code 46 = .ok (.iastore, 1) := by decide +kernel
theorem d_clearCell_47 : decode prog_1_method_25_code 47 = .ok (.aload_n 0, 1) := by decide +kernel
theorem d_clearCell_48 : decode prog_1_method_25_code 48 = .ok (.getfield 101, 3) := by decide +kernel
theorem fa_c101 : fieldAt tables_1 "OptimisticLazy" 101 = some ("OptimisticLazy", 71, 4, true) := by decide +kernel
theorem d_clearCell_51 : decode prog_1_method_25_code 51 = .ok (.iload_n 1, 1) := by decide +kernel
theorem d_clearCell_52 : decode prog_1_method_25_code 52 = .ok (.iconst (-1), 1) := by decide +kernel
theorem d_clearCell_53 : decode prog_1_method_25_code 53 = .ok (.iastore, 1) := by decide +kernel
theorem d_clearCell_54 : decode prog_1_method_25_code 54 = .ok (.aload_n 0, 1) := by decide +kernel
theorem d_clearCell_55 : decode prog_1_method_25_code 55 = .ok (.getfield 104, 3) := by decide +kernel
theorem fa_c104 : fieldAt tables_1 "OptimisticLazy" 104 = some ("OptimisticLazy", 73, 4, true) := by decide +kernel
theorem d_clearCell_58 : decode prog_1_method_25_code 58 = .ok (.iload_n 1, 1) := by decide +kernel
theorem d_clearCell_59 : decode prog_1_method_25_code 59 = .ok (.iconst 0, 1) := by decide +kernel
theorem d_clearCell_60 : decode prog_1_method_25_code 60 = .ok (.iastore, 1) := by decide +kernel
theorem d_clearCell_61 : decode prog_1_method_25_code 61 = .ok (.aload_n 0, 1) := by decide +kernel
theorem d_clearCell_62 : decode prog_1_method_25_code 62 = .ok (.getfield 107, 3) := by decide +kernel
theorem fa_c107 : fieldAt tables_1 "OptimisticLazy" 107 = some ("OptimisticLazy", 75, 4, true) := by decide +kernel
theorem d_clearCell_65 : decode prog_1_method_25_code 65 = .ok (.iload_n 1, 1) := by decide +kernel
theorem d_clearCell_66 : decode prog_1_method_25_code 66 = .ok (.iconst 0, 1) := by decide +kernel
theorem d_clearCell_67 : decode prog_1_method_25_code 67 = .ok (.iastore, 1) := by decide +kernel
theorem d_clearCell_68 : decode prog_1_method_25_code 68 = .ok (.aload_n 0, 1) := by decide +kernel
theorem d_clearCell_69 : decode prog_1_method_25_code 69 = .ok (.getfield 110, 3) := by decide +kernel
theorem fa_c110 : fieldAt tables_1 "OptimisticLazy" 110 = some ("OptimisticLazy", 77, 4, true) := by decide +kernel
theorem d_clearCell_72 : decode prog_1_method_25_code 72 = .ok (.iload_n 1, 1) := by decide +kernel
theorem d_clearCell_73 : decode prog_1_method_25_code 73 = .ok (.iconst (-1), 1) := by decide +kernel
theorem d_clearCell_74 : decode prog_1_method_25_code 74 = .ok (.iastore, 1) := by decide +kernel
theorem d_clearCell_75 : decode prog_1_method_25_code 75 = .ok (.aload_n 0, 1) := by decide +kernel
theorem d_clearCell_76 : decode prog_1_method_25_code 76 = .ok (.getfield 113, 3) := by decide +kernel
theorem fa_c113 : fieldAt tables_1 "OptimisticLazy" 113 = some ("OptimisticLazy", 79, 4, true) := by decide +kernel
theorem d_clearCell_79 : decode prog_1_method_25_code 79 = .ok (.iload_n 1, 1) := by decide +kernel
theorem d_clearCell_80 : decode prog_1_method_25_code 80 = .ok (.iconst 0, 1) := by decide +kernel
theorem d_clearCell_81 : decode prog_1_method_25_code 81 = .ok (.iastore, 1) := by decide +kernel
theorem d_clearCell_82 : decode prog_1_method_25_code 82 = .ok (.aload_n 0, 1) := by decide +kernel
theorem d_clearCell_83 : decode prog_1_method_25_code 83 = .ok (.getfield 116, 3) := by decide +kernel
theorem fa_c116 : fieldAt tables_1 "OptimisticLazy" 116 = some ("OptimisticLazy", 81, 4, true) := by decide +kernel
theorem d_clearCell_86 : decode prog_1_method_25_code 86 = .ok (.iload_n 1, 1) := by decide +kernel
theorem d_clearCell_87 : decode prog_1_method_25_code 87 = .ok (.iconst 0, 1) := by decide +kernel
theorem d_clearCell_88 : decode prog_1_method_25_code 88 = .ok (.iastore, 1) := by decide +kernel
theorem d_clearCell_89 : decode prog_1_method_25_code 89 = .ok (.aload_n 0, 1) := by decide +kernel
theorem d_clearCell_90 : decode prog_1_method_25_code 90 = .ok (.getfield 119, 3) := by decide +kernel
theorem fa_c119 : fieldAt tables_1 "OptimisticLazy" 119 = some ("OptimisticLazy", 83, 4, true) := by decide +kernel
theorem d_clearCell_93 : decode prog_1_method_25_code 93 = .ok (.iload_n 1, 1) := by decide +kernel
theorem d_clearCell_94 : decode prog_1_method_25_code 94 = .ok (.iconst (-1), 1) := by decide +kernel
theorem d_clearCell_95 : decode prog_1_method_25_code 95 = .ok (.iastore, 1) := by decide +kernel
theorem d_clearCell_96 : decode prog_1_method_25_code 96 = .ok (.aload_n 0, 1) := by decide +kernel
theorem d_clearCell_97 : decode prog_1_method_25_code 97 = .ok (.getfield 122, 3) := by decide +kernel
theorem fa_c122 : fieldAt tables_1 "OptimisticLazy" 122 = some ("OptimisticLazy", 85, 4, true) := by decide +kernel
theorem d_clearCell_100 : decode prog_1_method_25_code 100 = .ok (.iload_n 1, 1) := by decide +kernel
theorem d_clearCell_101 : decode prog_1_method_25_code 101 = .ok (.iconst (-1), 1) := by decide +kernel
theorem d_clearCell_102 : decode prog_1_method_25_code 102 = .ok (.iastore, 1) := by decide +kernel
theorem d_clearCell_103 : decode prog_1_method_25_code 103 = .ok (.aload_n 0, 1) := by decide +kernel
theorem d_clearCell_104 : decode prog_1_method_25_code 104 = .ok (.getfield 125, 3) := by decide +kernel
theorem fa_c125 : fieldAt tables_1 "OptimisticLazy" 125 = some ("OptimisticLazy", 87, 4, true) := by decide +kernel
theorem d_clearCell_107 : decode prog_1_method_25_code 107 = .ok (.iload_n 1, 1) := by decide +kernel
theorem d_clearCell_108 : decode prog_1_method_25_code 108 = .ok (.iconst 0, 1) := by decide +kernel
theorem d_clearCell_109 : decode prog_1_method_25_code 109 = .ok (.iastore, 1) := by decide +kernel
theorem d_clearCell_110 : decode prog_1_method_25_code 110 = .ok (.aload_n 0, 1) := by decide +kernel
theorem d_clearCell_111 : decode prog_1_method_25_code 111 = .ok (.getfield 128, 3) := by decide +kernel
theorem fa_c128 : fieldAt tables_1 "OptimisticLazy" 128 = some ("OptimisticLazy", 89, 4, true) := by decide +kernel
theorem d_clearCell_114 : decode prog_1_method_25_code 114 = .ok (.iload_n 1, 1) := by decide +kernel
theorem d_clearCell_115 : decode prog_1_method_25_code 115 = .ok (.iconst 0, 1) := by decide +kernel
theorem d_clearCell_116 : decode prog_1_method_25_code 116 = .ok (.iastore, 1) := by decide +kernel
theorem d_clearCell_117 : decode prog_1_method_25_code 117 = .ok (.return_, 1) := by decide +kernel
abbrev W_clearCell (pc : Nat) (ls : List Slot) (st : List Value) (M : EMem) (Q : Option Value → EMem → Prop) : Prop := Wp tables_1 0 0 0 (⟨"OptimisticLazy", "clearCell", "(I)V"⟩ : MethodName) prog_1_method_25_code none pc ls st M Q
theorem d_clearAll_0 : decode prog_1_method_23_code 0 = .ok (.aload_n 0, 1) := by decide +kernel
theorem d_clearAll_1 : decode prog_1_method_23_code 1 = .ok (.iconst 0, 1) := by decide +kernel
theorem d_clearAll_2 : decode prog_1_method_23_code 2 = .ok (.putfield 168, 3) := by decide +kernel
theorem d_clearAll_5 : decode prog_1_method_23_code 5 = .ok (.aload_n 0, 1) := by decide +kernel
theorem d_clearAll_6 : decode prog_1_method_23_code 6 = .ok (.iconst 0, 1) := by decide +kernel
theorem d_clearAll_7 : decode prog_1_method_23_code 7 = .ok (.putfield 175, 3) := by decide +kernel
theorem d_clearAll_10 : decode prog_1_method_23_code 10 = .ok (.aload_n 0, 1) := by decide +kernel
theorem d_clearAll_11 : decode prog_1_method_23_code 11 = .ok (.iconst 0, 1) := by decide +kernel
theorem d_clearAll_12 : decode prog_1_method_23_code 12 = .ok (.putfield 201, 3) := by decide +kernel
theorem fa_c201 : fieldAt tables_1 "OptimisticLazy" 201 = some ("OptimisticLazy", 123, 1, false) := by decide +kernel
theorem d_clearAll_15 : decode prog_1_method_23_code 15 = .ok (.aload_n 0, 1) := by decide +kernel
theorem d_clearAll_16 : decode prog_1_method_23_code 16 = .ok (.iconst 0, 1) := by decide +kernel
theorem d_clearAll_17 : decode prog_1_method_23_code 17 = .ok (.putfield 207, 3) := by decide +kernel
theorem fa_c207 : fieldAt tables_1 "OptimisticLazy" 207 = some ("OptimisticLazy", 125, 1, false) := by decide +kernel
theorem d_clearAll_20 : decode prog_1_method_23_code 20 = .ok (.aload_n 0, 1) := by decide +kernel
theorem d_clearAll_21 : decode prog_1_method_23_code 21 = .ok (.iconst 0, 1) := by decide +kernel
theorem d_clearAll_22 : decode prog_1_method_23_code 22 = .ok (.putfield 210, 3) := by decide +kernel
theorem fa_c210 : fieldAt tables_1 "OptimisticLazy" 210 = some ("OptimisticLazy", 127, 1, false) := by decide +kernel
theorem d_clearAll_25 : decode prog_1_method_23_code 25 = .ok (.iconst 0, 1) := by decide +kernel
theorem d_clearAll_26 : decode prog_1_method_23_code 26 = .ok (.istore_n 1, 1) := by decide +kernel
abbrev W_clearAll (pc : Nat) (ls : List Slot) (st : List Value) (M : EMem) (Q : Option Value → EMem → Prop) : Prop := Wp tables_1 0 1 13 (⟨"OptimisticLazy", "clearAll", "()V"⟩ : MethodName) prog_1_method_23_code none pc ls st M Q
theorem d_clearAll_27 : decode prog_1_method_23_code 27 = .ok (.iload_n 1, 1) := by decide +kernel
theorem d_clearAll_28 : decode prog_1_method_23_code 28 = .ok (.bipush 64, 2) := by decide +kernel
theorem d_clearAll_30 : decode prog_1_method_23_code 30 = .ok (.if_icmp .ge 14, 3) := by decide +kernel
theorem d_clearAll_33 : decode prog_1_method_23_code 33 = .ok (.aload_n 0, 1) := by decide +kernel
theorem d_clearAll_34 : decode prog_1_method_23_code 34 = .ok (.iload_n 1, 1) := by decide +kernel
theorem d_clearAll_44 : decode prog_1_method_23_code 44 = .ok (.aload_n 0, 1) := by decide +kernel
theorem d_clearAll_45 : decode prog_1_method_23_code 45 = .ok (.invokevirtual 220, 3) := by decide +kernel
theorem ml_c220 : methodLk "OptimisticLazy" 220 tables_1 = some (⟨"OptimisticLazy", "clearMachine", "()V"⟩ : MethodName) := by decide +kernel
theorem cl_clearMachine : codeLk (⟨"OptimisticLazy", "clearMachine", "()V"⟩ : MethodName) tables_1 = some (prog_1_method_26_code, 1, none) := codeLk_at (i := 135) rfl (by decide +kernel)
theorem pd_clearMachine : parseMethodDescriptor "()V" = some ⟨[], none⟩ := by decide +kernel
theorem cc_clearMachine_1 : hasInit (⟨"OptimisticLazy", "clearMachine", "()V"⟩ : MethodName).cls tables_1 = true ∧ plainName (⟨"OptimisticLazy", "clearMachine", "()V"⟩ : MethodName).cls = true ∧ (⟨"OptimisticLazy", "clearMachine", "()V"⟩ : MethodName).cls ≠ "java/lang/invoke/MethodHandle" ∧ (⟨"OptimisticLazy", "clearMachine", "()V"⟩ : MethodName).cls ≠ "java/lang/invoke/VarHandle" ∧ (((1 : Nat) = 0 ∧ hasDecl (⟨"OptimisticLazy", "clearMachine", "()V"⟩ : MethodName) tables_1 = true ∧ hasSel (⟨"OptimisticLazy", "clearMachine", "()V"⟩ : MethodName) tables_1 = true ∧ hasInst (⟨"OptimisticLazy", "clearMachine", "()V"⟩ : MethodName) tables_1 = true) ∨ ((1 : Nat) = 1 ∧ hasPriv (⟨"OptimisticLazy", "clearMachine", "()V"⟩ : MethodName) tables_1 = true ∧ hasInst (⟨"OptimisticLazy", "clearMachine", "()V"⟩ : MethodName) tables_1 = true ∧ (instLk (⟨"OptimisticLazy", "clearMachine", "()V"⟩ : MethodName).cls tables_1).isSome = true) ∨ ((1 : Nat) = 2 ∧ (⟨"OptimisticLazy", "clearMachine", "()V"⟩ : MethodName).name = "<init>" ∧ hasInst (⟨"OptimisticLazy", "clearMachine", "()V"⟩ : MethodName) tables_1 = true ∧ (none : Option FieldType) = none) ∨ ((1 : Nat) = 3 ∧ hasStat (⟨"OptimisticLazy", "clearMachine", "()V"⟩ : MethodName) tables_1 = true)) := by decide +kernel
theorem ca_c220_1 : callAt tables_1 "OptimisticLazy" 220 1 = some ((⟨"OptimisticLazy", "clearMachine", "()V"⟩ : MethodName), 0, prog_1_method_26_code, 1, none) := callAt_of ml_c220 cl_clearMachine pd_clearMachine cc_clearMachine_1 rfl
theorem d_clearAll_48 : decode prog_1_method_23_code 48 = .ok (.iconst 0, 1) := by decide +kernel
theorem d_clearAll_49 : decode prog_1_method_23_code 49 = .ok (.istore_n 1, 1) := by decide +kernel
theorem d_clearAll_35 : decode prog_1_method_23_code 35 = .ok (.invokevirtual 216, 3) := by decide +kernel
theorem ml_c216 : methodLk "OptimisticLazy" 216 tables_1 = some (⟨"OptimisticLazy", "clearNodeSlot", "(I)V"⟩ : MethodName) := by decide +kernel
theorem cl_clearNodeSlot : codeLk (⟨"OptimisticLazy", "clearNodeSlot", "(I)V"⟩ : MethodName) tables_1 = some (prog_1_method_24_code, 2, none) := codeLk_at (i := 131) rfl (by decide +kernel)
theorem pd_clearNodeSlot : parseMethodDescriptor "(I)V" = some ⟨[.int], none⟩ := by decide +kernel
theorem cc_clearNodeSlot_1 : hasInit (⟨"OptimisticLazy", "clearNodeSlot", "(I)V"⟩ : MethodName).cls tables_1 = true ∧ plainName (⟨"OptimisticLazy", "clearNodeSlot", "(I)V"⟩ : MethodName).cls = true ∧ (⟨"OptimisticLazy", "clearNodeSlot", "(I)V"⟩ : MethodName).cls ≠ "java/lang/invoke/MethodHandle" ∧ (⟨"OptimisticLazy", "clearNodeSlot", "(I)V"⟩ : MethodName).cls ≠ "java/lang/invoke/VarHandle" ∧ (((1 : Nat) = 0 ∧ hasDecl (⟨"OptimisticLazy", "clearNodeSlot", "(I)V"⟩ : MethodName) tables_1 = true ∧ hasSel (⟨"OptimisticLazy", "clearNodeSlot", "(I)V"⟩ : MethodName) tables_1 = true ∧ hasInst (⟨"OptimisticLazy", "clearNodeSlot", "(I)V"⟩ : MethodName) tables_1 = true) ∨ ((1 : Nat) = 1 ∧ hasPriv (⟨"OptimisticLazy", "clearNodeSlot", "(I)V"⟩ : MethodName) tables_1 = true ∧ hasInst (⟨"OptimisticLazy", "clearNodeSlot", "(I)V"⟩ : MethodName) tables_1 = true ∧ (instLk (⟨"OptimisticLazy", "clearNodeSlot", "(I)V"⟩ : MethodName).cls tables_1).isSome = true) ∨ ((1 : Nat) = 2 ∧ (⟨"OptimisticLazy", "clearNodeSlot", "(I)V"⟩ : MethodName).name = "<init>" ∧ hasInst (⟨"OptimisticLazy", "clearNodeSlot", "(I)V"⟩ : MethodName) tables_1 = true ∧ (none : Option FieldType) = none) ∨ ((1 : Nat) = 3 ∧ hasStat (⟨"OptimisticLazy", "clearNodeSlot", "(I)V"⟩ : MethodName) tables_1 = true)) := by decide +kernel
theorem ca_c216_1 : callAt tables_1 "OptimisticLazy" 216 1 = some ((⟨"OptimisticLazy", "clearNodeSlot", "(I)V"⟩ : MethodName), 1, prog_1_method_24_code, 2, none) := callAt_of ml_c216 cl_clearNodeSlot pd_clearNodeSlot cc_clearNodeSlot_1 rfl
theorem d_clearAll_38 : decode prog_1_method_23_code 38 = .ok (.iinc 1 1, 3) := by decide +kernel
theorem d_clearAll_41 : decode prog_1_method_23_code 41 = .ok (.goto (-14), 3) := by decide +kernel
theorem d_clearAll_50 : decode prog_1_method_23_code 50 = .ok (.iload_n 1, 1) := by decide +kernel
theorem d_clearAll_51 : decode prog_1_method_23_code 51 = .ok (.sipush 128, 3) := by decide +kernel
theorem d_clearAll_54 : decode prog_1_method_23_code 54 = .ok (.if_icmp .ge 14, 3) := by decide +kernel
theorem d_clearAll_57 : decode prog_1_method_23_code 57 = .ok (.aload_n 0, 1) := by decide +kernel
theorem d_clearAll_58 : decode prog_1_method_23_code 58 = .ok (.iload_n 1, 1) := by decide +kernel
theorem d_clearAll_68 : decode prog_1_method_23_code 68 = .ok (.return_, 1) := by decide +kernel
theorem d_clearAll_59 : decode prog_1_method_23_code 59 = .ok (.invokevirtual 223, 3) := by decide +kernel
theorem ml_c223 : methodLk "OptimisticLazy" 223 tables_1 = some (⟨"OptimisticLazy", "clearCell", "(I)V"⟩ : MethodName) := by decide +kernel
theorem cl_clearCell : codeLk (⟨"OptimisticLazy", "clearCell", "(I)V"⟩ : MethodName) tables_1 = some (prog_1_method_25_code, 2, none) := codeLk_at (i := 173) rfl (by decide +kernel)
theorem pd_clearCell : parseMethodDescriptor "(I)V" = some ⟨[.int], none⟩ := by decide +kernel
theorem cc_clearCell_1 : hasInit (⟨"OptimisticLazy", "clearCell", "(I)V"⟩ : MethodName).cls tables_1 = true ∧ plainName (⟨"OptimisticLazy", "clearCell", "(I)V"⟩ : MethodName).cls = true ∧ (⟨"OptimisticLazy", "clearCell", "(I)V"⟩ : MethodName).cls ≠ "java/lang/invoke/MethodHandle" ∧ (⟨"OptimisticLazy", "clearCell", "(I)V"⟩ : MethodName).cls ≠ "java/lang/invoke/VarHandle" ∧ (((1 : Nat) = 0 ∧ hasDecl (⟨"OptimisticLazy", "clearCell", "(I)V"⟩ : MethodName) tables_1 = true ∧ hasSel (⟨"OptimisticLazy", "clearCell", "(I)V"⟩ : MethodName) tables_1 = true ∧ hasInst (⟨"OptimisticLazy", "clearCell", "(I)V"⟩ : MethodName) tables_1 = true) ∨ ((1 : Nat) = 1 ∧ hasPriv (⟨"OptimisticLazy", "clearCell", "(I)V"⟩ : MethodName) tables_1 = true ∧ hasInst (⟨"OptimisticLazy", "clearCell", "(I)V"⟩ : MethodName) tables_1 = true ∧ (instLk (⟨"OptimisticLazy", "clearCell", "(I)V"⟩ : MethodName).cls tables_1).isSome = true) ∨ ((1 : Nat) = 2 ∧ (⟨"OptimisticLazy", "clearCell", "(I)V"⟩ : MethodName).name = "<init>" ∧ hasInst (⟨"OptimisticLazy", "clearCell", "(I)V"⟩ : MethodName) tables_1 = true ∧ (none : Option FieldType) = none) ∨ ((1 : Nat) = 3 ∧ hasStat (⟨"OptimisticLazy", "clearCell", "(I)V"⟩ : MethodName) tables_1 = true)) := by decide +kernel
theorem ca_c223_1 : callAt tables_1 "OptimisticLazy" 223 1 = some ((⟨"OptimisticLazy", "clearCell", "(I)V"⟩ : MethodName), 1, prog_1_method_25_code, 2, none) := callAt_of ml_c223 cl_clearCell pd_clearCell cc_clearCell_1 rfl
theorem d_clearAll_62 : decode prog_1_method_23_code 62 = .ok (.iinc 1 1, 3) := by decide +kernel
theorem d_clearAll_65 : decode prog_1_method_23_code 65 = .ok (.goto (-15), 3) := by decide +kernel
theorem d_init_0 : decode prog_1_method_1_code 0 = .ok (.aload_n 0, 1) := by decide +kernel
theorem d_init_1 : decode prog_1_method_1_code 1 = .ok (.invokespecial 1, 3) := by decide +kernel
theorem oi_c1 : objInitAt tables_1 "OptimisticLazy" 1 = true := by decide +kernel
theorem d_init_4 : decode prog_1_method_1_code 4 = .ok (.aload_n 0, 1) := by decide +kernel
theorem d_init_5 : decode prog_1_method_1_code 5 = .ok (.iconst 0, 1) := by decide +kernel
theorem d_init_6 : decode prog_1_method_1_code 6 = .ok (.putfield 7, 3) := by decide +kernel
theorem fa_c7 : fieldAt tables_1 "OptimisticLazy" 7 = some ("OptimisticLazy", 10, 1, true) := by decide +kernel
theorem d_init_9 : decode prog_1_method_1_code 9 = .ok (.aload_n 0, 1) := by decide +kernel
theorem d_init_10 : decode prog_1_method_1_code 10 = .ok (.iconst 1, 1) := by decide +kernel
theorem d_init_11 : decode prog_1_method_1_code 11 = .ok (.putfield 13, 3) := by decide +kernel
theorem fa_c13 : fieldAt tables_1 "OptimisticLazy" 13 = some ("OptimisticLazy", 12, 1, true) := by decide +kernel
theorem d_init_14 : decode prog_1_method_1_code 14 = .ok (.aload_n 0, 1) := by decide +kernel
theorem d_init_15 : decode prog_1_method_1_code 15 = .ok (.iconst 2, 1) := by decide +kernel
theorem d_init_16 : decode prog_1_method_1_code 16 = .ok (.putfield 16, 3) := by decide +kernel
theorem fa_c16 : fieldAt tables_1 "OptimisticLazy" 16 = some ("OptimisticLazy", 14, 1, true) := by decide +kernel
theorem d_init_19 : decode prog_1_method_1_code 19 = .ok (.aload_n 0, 1) := by decide +kernel
theorem d_init_20 : decode prog_1_method_1_code 20 = .ok (.iconst 3, 1) := by decide +kernel
theorem d_init_21 : decode prog_1_method_1_code 21 = .ok (.putfield 19, 3) := by decide +kernel
theorem fa_c19 : fieldAt tables_1 "OptimisticLazy" 19 = some ("OptimisticLazy", 16, 1, true) := by decide +kernel
theorem d_init_24 : decode prog_1_method_1_code 24 = .ok (.aload_n 0, 1) := by decide +kernel
theorem d_init_25 : decode prog_1_method_1_code 25 = .ok (.iconst 0, 1) := by decide +kernel
theorem d_init_26 : decode prog_1_method_1_code 26 = .ok (.putfield 22, 3) := by decide +kernel
theorem fa_c22 : fieldAt tables_1 "OptimisticLazy" 22 = some ("OptimisticLazy", 18, 1, true) := by decide +kernel
theorem d_init_29 : decode prog_1_method_1_code 29 = .ok (.aload_n 0, 1) := by decide +kernel
theorem d_init_30 : decode prog_1_method_1_code 30 = .ok (.iconst 1, 1) := by decide +kernel
theorem d_init_31 : decode prog_1_method_1_code 31 = .ok (.putfield 25, 3) := by decide +kernel
theorem fa_c25 : fieldAt tables_1 "OptimisticLazy" 25 = some ("OptimisticLazy", 20, 1, true) := by decide +kernel
theorem d_init_34 : decode prog_1_method_1_code 34 = .ok (.aload_n 0, 1) := by decide +kernel
theorem d_init_35 : decode prog_1_method_1_code 35 = .ok (.iconst 2, 1) := by decide +kernel
theorem d_init_36 : decode prog_1_method_1_code 36 = .ok (.putfield 28, 3) := by decide +kernel
theorem fa_c28 : fieldAt tables_1 "OptimisticLazy" 28 = some ("OptimisticLazy", 22, 1, true) := by decide +kernel
theorem d_init_39 : decode prog_1_method_1_code 39 = .ok (.aload_n 0, 1) := by decide +kernel
theorem d_init_40 : decode prog_1_method_1_code 40 = .ok (.iconst 3, 1) := by decide +kernel
theorem d_init_41 : decode prog_1_method_1_code 41 = .ok (.putfield 31, 3) := by decide +kernel
theorem fa_c31 : fieldAt tables_1 "OptimisticLazy" 31 = some ("OptimisticLazy", 24, 1, true) := by decide +kernel
theorem d_init_44 : decode prog_1_method_1_code 44 = .ok (.aload_n 0, 1) := by decide +kernel
theorem d_init_45 : decode prog_1_method_1_code 45 = .ok (.iconst 0, 1) := by decide +kernel
theorem d_init_46 : decode prog_1_method_1_code 46 = .ok (.putfield 34, 3) := by decide +kernel
theorem fa_c34 : fieldAt tables_1 "OptimisticLazy" 34 = some ("OptimisticLazy", 26, 1, true) := by decide +kernel
theorem d_init_49 : decode prog_1_method_1_code 49 = .ok (.aload_n 0, 1) := by decide +kernel
theorem d_init_50 : decode prog_1_method_1_code 50 = .ok (.iconst 1, 1) := by decide +kernel
theorem d_init_51 : decode prog_1_method_1_code 51 = .ok (.putfield 37, 3) := by decide +kernel
theorem fa_c37 : fieldAt tables_1 "OptimisticLazy" 37 = some ("OptimisticLazy", 28, 1, true) := by decide +kernel
theorem d_init_54 : decode prog_1_method_1_code 54 = .ok (.aload_n 0, 1) := by decide +kernel
theorem d_init_55 : decode prog_1_method_1_code 55 = .ok (.iconst 2, 1) := by decide +kernel
theorem d_init_56 : decode prog_1_method_1_code 56 = .ok (.putfield 40, 3) := by decide +kernel
theorem fa_c40 : fieldAt tables_1 "OptimisticLazy" 40 = some ("OptimisticLazy", 30, 1, true) := by decide +kernel
theorem d_init_59 : decode prog_1_method_1_code 59 = .ok (.aload_n 0, 1) := by decide +kernel
theorem d_init_60 : decode prog_1_method_1_code 60 = .ok (.iconst 0, 1) := by decide +kernel
theorem d_init_61 : decode prog_1_method_1_code 61 = .ok (.putfield 43, 3) := by decide +kernel
theorem fa_c43 : fieldAt tables_1 "OptimisticLazy" 43 = some ("OptimisticLazy", 32, 1, true) := by decide +kernel
theorem d_init_64 : decode prog_1_method_1_code 64 = .ok (.aload_n 0, 1) := by decide +kernel
theorem d_init_65 : decode prog_1_method_1_code 65 = .ok (.iconst 1, 1) := by decide +kernel
theorem d_init_66 : decode prog_1_method_1_code 66 = .ok (.putfield 46, 3) := by decide +kernel
theorem fa_c46 : fieldAt tables_1 "OptimisticLazy" 46 = some ("OptimisticLazy", 34, 1, true) := by decide +kernel
theorem d_init_69 : decode prog_1_method_1_code 69 = .ok (.aload_n 0, 1) := by decide +kernel
theorem d_init_70 : decode prog_1_method_1_code 70 = .ok (.iconst 2, 1) := by decide +kernel
theorem d_init_71 : decode prog_1_method_1_code 71 = .ok (.putfield 49, 3) := by decide +kernel
theorem fa_c49 : fieldAt tables_1 "OptimisticLazy" 49 = some ("OptimisticLazy", 36, 1, true) := by decide +kernel
theorem d_init_74 : decode prog_1_method_1_code 74 = .ok (.aload_n 0, 1) := by decide +kernel
theorem d_init_75 : decode prog_1_method_1_code 75 = .ok (.iconst 3, 1) := by decide +kernel
theorem d_init_76 : decode prog_1_method_1_code 76 = .ok (.putfield 52, 3) := by decide +kernel
theorem fa_c52 : fieldAt tables_1 "OptimisticLazy" 52 = some ("OptimisticLazy", 38, 1, true) := by decide +kernel
theorem d_init_79 : decode prog_1_method_1_code 79 = .ok (.aload_n 0, 1) := by decide +kernel
theorem d_init_80 : decode prog_1_method_1_code 80 = .ok (.bipush 32, 2) := by decide +kernel
theorem d_init_82 : decode prog_1_method_1_code 82 = .ok (.putfield 55, 3) := by decide +kernel
theorem fa_c55 : fieldAt tables_1 "OptimisticLazy" 55 = some ("OptimisticLazy", 40, 1, true) := by decide +kernel
theorem d_init_85 : decode prog_1_method_1_code 85 = .ok (.aload_n 0, 1) := by decide +kernel
theorem d_init_86 : decode prog_1_method_1_code 86 = .ok (.bipush 64, 2) := by decide +kernel
theorem d_init_88 : decode prog_1_method_1_code 88 = .ok (.newarray .int, 2) := by decide +kernel
theorem ar_int : hasArr .int tables_1 = true := by decide +kernel
theorem d_init_90 : decode prog_1_method_1_code 90 = .ok (.putfield 58, 3) := by decide +kernel
theorem d_init_93 : decode prog_1_method_1_code 93 = .ok (.aload_n 0, 1) := by decide +kernel
theorem d_init_94 : decode prog_1_method_1_code 94 = .ok (.bipush 64, 2) := by decide +kernel
theorem d_init_96 : decode prog_1_method_1_code 96 = .ok (.newarray .int, 2) := by decide +kernel
theorem d_init_98 : decode prog_1_method_1_code 98 = .ok (.putfield 62, 3) := by decide +kernel
theorem d_init_101 : decode prog_1_method_1_code 101 = .ok (.aload_n 0, 1) := by decide +kernel
theorem d_init_102 : decode prog_1_method_1_code 102 = .ok (.bipush 64, 2) := by decide +kernel
theorem d_init_104 : decode prog_1_method_1_code 104 = .ok (.newarray .int, 2) := by decide +kernel
theorem d_init_106 : decode prog_1_method_1_code 106 = .ok (.putfield 65, 3) := by decide +kernel
theorem d_init_109 : decode prog_1_method_1_code 109 = .ok (.aload_n 0, 1) := by decide +kernel
theorem d_init_110 : decode prog_1_method_1_code 110 = .ok (.bipush 64, 2) := by decide +kernel
theorem d_init_112 : decode prog_1_method_1_code 112 = .ok (.newarray .int, 2) := by decide +kernel
theorem d_init_114 : decode prog_1_method_1_code 114 = .ok (.putfield 68, 3) := by decide +kernel
theorem d_init_117 : decode prog_1_method_1_code 117 = .ok (.aload_n 0, 1) := by decide +kernel
theorem d_init_118 : decode prog_1_method_1_code 118 = .ok (.bipush 64, 2) := by decide +kernel
theorem d_init_120 : decode prog_1_method_1_code 120 = .ok (.newarray .int, 2) := by decide +kernel
theorem d_init_122 : decode prog_1_method_1_code 122 = .ok (.putfield 71, 3) := by decide +kernel
theorem d_init_125 : decode prog_1_method_1_code 125 = .ok (.aload_n 0, 1) := by decide +kernel
theorem d_init_126 : decode prog_1_method_1_code 126 = .ok (.bipush 64, 2) := by decide +kernel
theorem d_init_128 : decode prog_1_method_1_code 128 = .ok (.newarray .int, 2) := by decide +kernel
theorem d_init_130 : decode prog_1_method_1_code 130 = .ok (.putfield 74, 3) := by decide +kernel
theorem d_init_133 : decode prog_1_method_1_code 133 = .ok (.aload_n 0, 1) := by decide +kernel
theorem d_init_134 : decode prog_1_method_1_code 134 = .ok (.bipush 64, 2) := by decide +kernel
theorem d_init_136 : decode prog_1_method_1_code 136 = .ok (.newarray .int, 2) := by decide +kernel
theorem d_init_138 : decode prog_1_method_1_code 138 = .ok (.putfield 77, 3) := by decide +kernel
theorem d_init_141 : decode prog_1_method_1_code 141 = .ok (.aload_n 0, 1) := by decide +kernel
theorem d_init_142 : decode prog_1_method_1_code 142 = .ok (.bipush 64, 2) := by decide +kernel
theorem d_init_144 : decode prog_1_method_1_code 144 = .ok (.newarray .int, 2) := by decide +kernel
theorem d_init_146 : decode prog_1_method_1_code 146 = .ok (.putfield 80, 3) := by decide +kernel
theorem d_init_149 : decode prog_1_method_1_code 149 = .ok (.aload_n 0, 1) := by decide +kernel
theorem d_init_150 : decode prog_1_method_1_code 150 = .ok (.bipush 64, 2) := by decide +kernel
theorem d_init_152 : decode prog_1_method_1_code 152 = .ok (.newarray .int, 2) := by decide +kernel
theorem d_init_154 : decode prog_1_method_1_code 154 = .ok (.putfield 83, 3) := by decide +kernel
theorem d_init_157 : decode prog_1_method_1_code 157 = .ok (.aload_n 0, 1) := by decide +kernel
theorem d_init_158 : decode prog_1_method_1_code 158 = .ok (.sipush 128, 3) := by decide +kernel
theorem d_init_161 : decode prog_1_method_1_code 161 = .ok (.newarray .int, 2) := by decide +kernel
theorem d_init_163 : decode prog_1_method_1_code 163 = .ok (.putfield 86, 3) := by decide +kernel
theorem d_init_166 : decode prog_1_method_1_code 166 = .ok (.aload_n 0, 1) := by decide +kernel
theorem d_init_167 : decode prog_1_method_1_code 167 = .ok (.sipush 128, 3) := by decide +kernel
theorem d_init_170 : decode prog_1_method_1_code 170 = .ok (.newarray .int, 2) := by decide +kernel
theorem d_init_172 : decode prog_1_method_1_code 172 = .ok (.putfield 89, 3) := by decide +kernel
theorem d_init_175 : decode prog_1_method_1_code 175 = .ok (.aload_n 0, 1) := by decide +kernel
theorem d_init_176 : decode prog_1_method_1_code 176 = .ok (.sipush 128, 3) := by decide +kernel
theorem d_init_179 : decode prog_1_method_1_code 179 = .ok (.newarray .int, 2) := by decide +kernel
theorem d_init_181 : decode prog_1_method_1_code 181 = .ok (.putfield 92, 3) := by decide +kernel
theorem d_init_184 : decode prog_1_method_1_code 184 = .ok (.aload_n 0, 1) := by decide +kernel
theorem d_init_185 : decode prog_1_method_1_code 185 = .ok (.sipush 128, 3) := by decide +kernel
theorem d_init_188 : decode prog_1_method_1_code 188 = .ok (.newarray .int, 2) := by decide +kernel
theorem d_init_190 : decode prog_1_method_1_code 190 = .ok (.putfield 95, 3) := by decide +kernel
theorem d_init_193 : decode prog_1_method_1_code 193 = .ok (.aload_n 0, 1) := by decide +kernel
theorem d_init_194 : decode prog_1_method_1_code 194 = .ok (.sipush 128, 3) := by decide +kernel
theorem d_init_197 : decode prog_1_method_1_code 197 = .ok (.newarray .int, 2) := by decide +kernel
theorem d_init_199 : decode prog_1_method_1_code 199 = .ok (.putfield 98, 3) := by decide +kernel
theorem d_init_202 : decode prog_1_method_1_code 202 = .ok (.aload_n 0, 1) := by decide +kernel
theorem d_init_203 : decode prog_1_method_1_code 203 = .ok (.sipush 128, 3) := by decide +kernel
theorem d_init_206 : decode prog_1_method_1_code 206 = .ok (.newarray .int, 2) := by decide +kernel
theorem d_init_208 : decode prog_1_method_1_code 208 = .ok (.putfield 101, 3) := by decide +kernel
theorem d_init_211 : decode prog_1_method_1_code 211 = .ok (.aload_n 0, 1) := by decide +kernel
theorem d_init_212 : decode prog_1_method_1_code 212 = .ok (.sipush 128, 3) := by decide +kernel
theorem d_init_215 : decode prog_1_method_1_code 215 = .ok (.newarray .int, 2) := by decide +kernel
theorem d_init_217 : decode prog_1_method_1_code 217 = .ok (.putfield 104, 3) := by decide +kernel
theorem d_init_220 : decode prog_1_method_1_code 220 = .ok (.aload_n 0, 1) := by decide +kernel
theorem d_init_221 : decode prog_1_method_1_code 221 = .ok (.sipush 128, 3) := by decide +kernel
theorem d_init_224 : decode prog_1_method_1_code 224 = .ok (.newarray .int, 2) := by decide +kernel
theorem d_init_226 : decode prog_1_method_1_code 226 = .ok (.putfield 107, 3) := by decide +kernel
theorem d_init_229 : decode prog_1_method_1_code 229 = .ok (.aload_n 0, 1) := by decide +kernel
theorem d_init_230 : decode prog_1_method_1_code 230 = .ok (.sipush 128, 3) := by decide +kernel
theorem d_init_233 : decode prog_1_method_1_code 233 = .ok (.newarray .int, 2) := by decide +kernel
theorem d_init_235 : decode prog_1_method_1_code 235 = .ok (.putfield 110, 3) := by decide +kernel
theorem d_init_238 : decode prog_1_method_1_code 238 = .ok (.aload_n 0, 1) := by decide +kernel
theorem d_init_239 : decode prog_1_method_1_code 239 = .ok (.sipush 128, 3) := by decide +kernel
theorem d_init_242 : decode prog_1_method_1_code 242 = .ok (.newarray .int, 2) := by decide +kernel
theorem d_init_244 : decode prog_1_method_1_code 244 = .ok (.putfield 113, 3) := by decide +kernel
theorem d_init_247 : decode prog_1_method_1_code 247 = .ok (.aload_n 0, 1) := by decide +kernel
theorem d_init_248 : decode prog_1_method_1_code 248 = .ok (.sipush 128, 3) := by decide +kernel
theorem d_init_251 : decode prog_1_method_1_code 251 = .ok (.newarray .int, 2) := by decide +kernel
theorem d_init_253 : decode prog_1_method_1_code 253 = .ok (.putfield 116, 3) := by decide +kernel
theorem d_init_256 : decode prog_1_method_1_code 256 = .ok (.aload_n 0, 1) := by decide +kernel
theorem d_init_257 : decode prog_1_method_1_code 257 = .ok (.sipush 128, 3) := by decide +kernel
theorem d_init_260 : decode prog_1_method_1_code 260 = .ok (.newarray .int, 2) := by decide +kernel
theorem d_init_262 : decode prog_1_method_1_code 262 = .ok (.putfield 119, 3) := by decide +kernel
theorem d_init_265 : decode prog_1_method_1_code 265 = .ok (.aload_n 0, 1) := by decide +kernel
theorem d_init_266 : decode prog_1_method_1_code 266 = .ok (.sipush 128, 3) := by decide +kernel
theorem d_init_269 : decode prog_1_method_1_code 269 = .ok (.newarray .int, 2) := by decide +kernel
theorem d_init_271 : decode prog_1_method_1_code 271 = .ok (.putfield 122, 3) := by decide +kernel
theorem d_init_274 : decode prog_1_method_1_code 274 = .ok (.aload_n 0, 1) := by decide +kernel
theorem d_init_275 : decode prog_1_method_1_code 275 = .ok (.sipush 128, 3) := by decide +kernel
theorem d_init_278 : decode prog_1_method_1_code 278 = .ok (.newarray .int, 2) := by decide +kernel
theorem d_init_280 : decode prog_1_method_1_code 280 = .ok (.putfield 125, 3) := by decide +kernel
theorem d_init_283 : decode prog_1_method_1_code 283 = .ok (.aload_n 0, 1) := by decide +kernel
theorem d_init_284 : decode prog_1_method_1_code 284 = .ok (.sipush 128, 3) := by decide +kernel
theorem d_init_287 : decode prog_1_method_1_code 287 = .ok (.newarray .int, 2) := by decide +kernel
theorem d_init_289 : decode prog_1_method_1_code 289 = .ok (.putfield 128, 3) := by decide +kernel
theorem d_init_292 : decode prog_1_method_1_code 292 = .ok (.aload_n 0, 1) := by decide +kernel
theorem d_init_293 : decode prog_1_method_1_code 293 = .ok (.sipush 256, 3) := by decide +kernel
theorem d_init_296 : decode prog_1_method_1_code 296 = .ok (.newarray .int, 2) := by decide +kernel
theorem d_init_298 : decode prog_1_method_1_code 298 = .ok (.putfield 131, 3) := by decide +kernel
theorem fa_c131 : fieldAt tables_1 "OptimisticLazy" 131 = some ("OptimisticLazy", 91, 4, true) := by decide +kernel
theorem d_init_301 : decode prog_1_method_1_code 301 = .ok (.aload_n 0, 1) := by decide +kernel
theorem d_init_302 : decode prog_1_method_1_code 302 = .ok (.sipush 256, 3) := by decide +kernel
theorem d_init_305 : decode prog_1_method_1_code 305 = .ok (.newarray .int, 2) := by decide +kernel
theorem d_init_307 : decode prog_1_method_1_code 307 = .ok (.putfield 134, 3) := by decide +kernel
theorem fa_c134 : fieldAt tables_1 "OptimisticLazy" 134 = some ("OptimisticLazy", 93, 4, true) := by decide +kernel
theorem d_init_310 : decode prog_1_method_1_code 310 = .ok (.aload_n 0, 1) := by decide +kernel
theorem d_init_311 : decode prog_1_method_1_code 311 = .ok (.sipush 256, 3) := by decide +kernel
theorem d_init_314 : decode prog_1_method_1_code 314 = .ok (.newarray .int, 2) := by decide +kernel
theorem d_init_316 : decode prog_1_method_1_code 316 = .ok (.putfield 137, 3) := by decide +kernel
theorem fa_c137 : fieldAt tables_1 "OptimisticLazy" 137 = some ("OptimisticLazy", 95, 4, true) := by decide +kernel
theorem d_init_319 : decode prog_1_method_1_code 319 = .ok (.aload_n 0, 1) := by decide +kernel
theorem d_init_320 : decode prog_1_method_1_code 320 = .ok (.sipush 256, 3) := by decide +kernel
theorem d_init_323 : decode prog_1_method_1_code 323 = .ok (.newarray .int, 2) := by decide +kernel
theorem d_init_325 : decode prog_1_method_1_code 325 = .ok (.putfield 140, 3) := by decide +kernel
theorem fa_c140 : fieldAt tables_1 "OptimisticLazy" 140 = some ("OptimisticLazy", 97, 4, true) := by decide +kernel
theorem d_init_328 : decode prog_1_method_1_code 328 = .ok (.aload_n 0, 1) := by decide +kernel
theorem d_init_329 : decode prog_1_method_1_code 329 = .ok (.sipush 256, 3) := by decide +kernel
theorem d_init_332 : decode prog_1_method_1_code 332 = .ok (.newarray .int, 2) := by decide +kernel
theorem d_init_334 : decode prog_1_method_1_code 334 = .ok (.putfield 143, 3) := by decide +kernel
theorem fa_c143 : fieldAt tables_1 "OptimisticLazy" 143 = some ("OptimisticLazy", 99, 4, true) := by decide +kernel
theorem d_init_337 : decode prog_1_method_1_code 337 = .ok (.aload_n 0, 1) := by decide +kernel
theorem d_init_338 : decode prog_1_method_1_code 338 = .ok (.sipush 256, 3) := by decide +kernel
theorem d_init_341 : decode prog_1_method_1_code 341 = .ok (.newarray .int, 2) := by decide +kernel
theorem d_init_343 : decode prog_1_method_1_code 343 = .ok (.putfield 146, 3) := by decide +kernel
theorem fa_c146 : fieldAt tables_1 "OptimisticLazy" 146 = some ("OptimisticLazy", 101, 4, true) := by decide +kernel
theorem d_init_346 : decode prog_1_method_1_code 346 = .ok (.aload_n 0, 1) := by decide +kernel
theorem d_init_347 : decode prog_1_method_1_code 347 = .ok (.sipush 256, 3) := by decide +kernel
theorem d_init_350 : decode prog_1_method_1_code 350 = .ok (.newarray .int, 2) := by decide +kernel
theorem d_init_352 : decode prog_1_method_1_code 352 = .ok (.putfield 149, 3) := by decide +kernel
theorem fa_c149 : fieldAt tables_1 "OptimisticLazy" 149 = some ("OptimisticLazy", 103, 4, true) := by decide +kernel
theorem d_init_355 : decode prog_1_method_1_code 355 = .ok (.aload_n 0, 1) := by decide +kernel
theorem d_init_356 : decode prog_1_method_1_code 356 = .ok (.sipush 256, 3) := by decide +kernel
theorem d_init_359 : decode prog_1_method_1_code 359 = .ok (.newarray .int, 2) := by decide +kernel
theorem d_init_361 : decode prog_1_method_1_code 361 = .ok (.putfield 152, 3) := by decide +kernel
theorem fa_c152 : fieldAt tables_1 "OptimisticLazy" 152 = some ("OptimisticLazy", 105, 4, true) := by decide +kernel
theorem d_init_364 : decode prog_1_method_1_code 364 = .ok (.aload_n 0, 1) := by decide +kernel
theorem d_init_365 : decode prog_1_method_1_code 365 = .ok (.aload_n 0, 1) := by decide +kernel
theorem d_init_366 : decode prog_1_method_1_code 366 = .ok (.iload_n 1, 1) := by decide +kernel
theorem d_init_367 : decode prog_1_method_1_code 367 = .ok (.bipush 8, 2) := by decide +kernel
theorem d_init_369 : decode prog_1_method_1_code 369 = .ok (.bipush 64, 2) := by decide +kernel
theorem d_init_371 : decode prog_1_method_1_code 371 = .ok (.invokevirtual 155, 3) := by decide +kernel
theorem ml_c155 : methodLk "OptimisticLazy" 155 tables_1 = some (⟨"OptimisticLazy", "clamp", "(III)I"⟩ : MethodName) := by decide +kernel
theorem cl_clamp : codeLk (⟨"OptimisticLazy", "clamp", "(III)I"⟩ : MethodName) tables_1 = some (prog_1_method_16_code, 4, (some .int)) := codeLk_at (i := 109) rfl (by decide +kernel)
theorem pd_clamp : parseMethodDescriptor "(III)I" = some ⟨[.int, .int, .int], some .int⟩ := by decide +kernel
theorem cc_clamp_1 : hasInit (⟨"OptimisticLazy", "clamp", "(III)I"⟩ : MethodName).cls tables_1 = true ∧ plainName (⟨"OptimisticLazy", "clamp", "(III)I"⟩ : MethodName).cls = true ∧ (⟨"OptimisticLazy", "clamp", "(III)I"⟩ : MethodName).cls ≠ "java/lang/invoke/MethodHandle" ∧ (⟨"OptimisticLazy", "clamp", "(III)I"⟩ : MethodName).cls ≠ "java/lang/invoke/VarHandle" ∧ (((1 : Nat) = 0 ∧ hasDecl (⟨"OptimisticLazy", "clamp", "(III)I"⟩ : MethodName) tables_1 = true ∧ hasSel (⟨"OptimisticLazy", "clamp", "(III)I"⟩ : MethodName) tables_1 = true ∧ hasInst (⟨"OptimisticLazy", "clamp", "(III)I"⟩ : MethodName) tables_1 = true) ∨ ((1 : Nat) = 1 ∧ hasPriv (⟨"OptimisticLazy", "clamp", "(III)I"⟩ : MethodName) tables_1 = true ∧ hasInst (⟨"OptimisticLazy", "clamp", "(III)I"⟩ : MethodName) tables_1 = true ∧ (instLk (⟨"OptimisticLazy", "clamp", "(III)I"⟩ : MethodName).cls tables_1).isSome = true) ∨ ((1 : Nat) = 2 ∧ (⟨"OptimisticLazy", "clamp", "(III)I"⟩ : MethodName).name = "<init>" ∧ hasInst (⟨"OptimisticLazy", "clamp", "(III)I"⟩ : MethodName) tables_1 = true ∧ ((some .int) : Option FieldType) = none) ∨ ((1 : Nat) = 3 ∧ hasStat (⟨"OptimisticLazy", "clamp", "(III)I"⟩ : MethodName) tables_1 = true)) := by decide +kernel
theorem ca_c155_1 : callAt tables_1 "OptimisticLazy" 155 1 = some ((⟨"OptimisticLazy", "clamp", "(III)I"⟩ : MethodName), 3, prog_1_method_16_code, 4, (some .int)) := callAt_of ml_c155 cl_clamp pd_clamp cc_clamp_1 rfl
abbrev W_init (pc : Nat) (ls : List Slot) (st : List Value) (M : EMem) (Q : Option Value → EMem → Prop) : Prop := Wp tables_1 0 2 26 (⟨"OptimisticLazy", "<init>", "(II)V"⟩ : MethodName) prog_1_method_1_code none pc ls st M Q
theorem d_init_374 : decode prog_1_method_1_code 374 = .ok (.putfield 159, 3) := by decide +kernel
theorem fa_c159 : fieldAt tables_1 "OptimisticLazy" 159 = some ("OptimisticLazy", 111, 1, false) := by decide +kernel
theorem d_init_377 : decode prog_1_method_1_code 377 = .ok (.aload_n 0, 1) := by decide +kernel
theorem d_init_378 : decode prog_1_method_1_code 378 = .ok (.aload_n 0, 1) := by decide +kernel
theorem d_init_379 : decode prog_1_method_1_code 379 = .ok (.iload_n 2, 1) := by decide +kernel
theorem d_init_380 : decode prog_1_method_1_code 380 = .ok (.iconst 0, 1) := by decide +kernel
theorem d_init_381 : decode prog_1_method_1_code 381 = .ok (.bipush 32, 2) := by decide +kernel
theorem d_init_383 : decode prog_1_method_1_code 383 = .ok (.invokevirtual 155, 3) := by decide +kernel
theorem d_init_386 : decode prog_1_method_1_code 386 = .ok (.putfield 162, 3) := by decide +kernel
theorem d_init_389 : decode prog_1_method_1_code 389 = .ok (.aload_n 0, 1) := by decide +kernel
theorem d_init_390 : decode prog_1_method_1_code 390 = .ok (.invokevirtual 165, 3) := by decide +kernel
theorem ml_c165 : methodLk "OptimisticLazy" 165 tables_1 = some (⟨"OptimisticLazy", "clearAll", "()V"⟩ : MethodName) := by decide +kernel
theorem cl_clearAll : codeLk (⟨"OptimisticLazy", "clearAll", "()V"⟩ : MethodName) tables_1 = some (prog_1_method_23_code, 2, none) := codeLk_at (i := 117) rfl (by decide +kernel)
theorem pd_clearAll : parseMethodDescriptor "()V" = some ⟨[], none⟩ := by decide +kernel
theorem cc_clearAll_1 : hasInit (⟨"OptimisticLazy", "clearAll", "()V"⟩ : MethodName).cls tables_1 = true ∧ plainName (⟨"OptimisticLazy", "clearAll", "()V"⟩ : MethodName).cls = true ∧ (⟨"OptimisticLazy", "clearAll", "()V"⟩ : MethodName).cls ≠ "java/lang/invoke/MethodHandle" ∧ (⟨"OptimisticLazy", "clearAll", "()V"⟩ : MethodName).cls ≠ "java/lang/invoke/VarHandle" ∧ (((1 : Nat) = 0 ∧ hasDecl (⟨"OptimisticLazy", "clearAll", "()V"⟩ : MethodName) tables_1 = true ∧ hasSel (⟨"OptimisticLazy", "clearAll", "()V"⟩ : MethodName) tables_1 = true ∧ hasInst (⟨"OptimisticLazy", "clearAll", "()V"⟩ : MethodName) tables_1 = true) ∨ ((1 : Nat) = 1 ∧ hasPriv (⟨"OptimisticLazy", "clearAll", "()V"⟩ : MethodName) tables_1 = true ∧ hasInst (⟨"OptimisticLazy", "clearAll", "()V"⟩ : MethodName) tables_1 = true ∧ (instLk (⟨"OptimisticLazy", "clearAll", "()V"⟩ : MethodName).cls tables_1).isSome = true) ∨ ((1 : Nat) = 2 ∧ (⟨"OptimisticLazy", "clearAll", "()V"⟩ : MethodName).name = "<init>" ∧ hasInst (⟨"OptimisticLazy", "clearAll", "()V"⟩ : MethodName) tables_1 = true ∧ (none : Option FieldType) = none) ∨ ((1 : Nat) = 3 ∧ hasStat (⟨"OptimisticLazy", "clearAll", "()V"⟩ : MethodName) tables_1 = true)) := by decide +kernel
theorem ca_c165_1 : callAt tables_1 "OptimisticLazy" 165 1 = some ((⟨"OptimisticLazy", "clearAll", "()V"⟩ : MethodName), 0, prog_1_method_23_code, 2, none) := callAt_of ml_c165 cl_clearAll pd_clearAll cc_clearAll_1 rfl
theorem d_init_393 : decode prog_1_method_1_code 393 = .ok (.return_, 1) := by decide +kernel
theorem d_attachChildren_0 : decode prog_1_method_22_code 0 = .ok (.aload_n 0, 1) := by decide +kernel
theorem d_attachChildren_1 : decode prog_1_method_22_code 1 = .ok (.getfield 65, 3) := by decide +kernel
theorem d_attachChildren_4 : decode prog_1_method_22_code 4 = .ok (.iload_n 1, 1) := by decide +kernel
theorem d_attachChildren_5 : decode prog_1_method_22_code 5 = .ok (.iconst (-1), 1) := by decide +kernel
theorem d_attachChildren_6 : decode prog_1_method_22_code 6 = .ok (.iastore, 1) := by decide +kernel
theorem d_attachChildren_7 : decode prog_1_method_22_code 7 = .ok (.aload_n 0, 1) := by decide +kernel
theorem d_attachChildren_8 : decode prog_1_method_22_code 8 = .ok (.getfield 68, 3) := by decide +kernel
theorem d_attachChildren_11 : decode prog_1_method_22_code 11 = .ok (.iload_n 1, 1) := by decide +kernel
theorem d_attachChildren_12 : decode prog_1_method_22_code 12 = .ok (.iconst (-1), 1) := by decide +kernel
theorem d_attachChildren_13 : decode prog_1_method_22_code 13 = .ok (.iastore, 1) := by decide +kernel
theorem d_attachChildren_14 : decode prog_1_method_22_code 14 = .ok (.aload_n 0, 1) := by decide +kernel
theorem d_attachChildren_15 : decode prog_1_method_22_code 15 = .ok (.getfield 71, 3) := by decide +kernel
theorem d_attachChildren_18 : decode prog_1_method_22_code 18 = .ok (.iload_n 1, 1) := by decide +kernel
theorem d_attachChildren_19 : decode prog_1_method_22_code 19 = .ok (.iconst (-1), 1) := by decide +kernel
theorem d_attachChildren_20 : decode prog_1_method_22_code 20 = .ok (.iastore, 1) := by decide +kernel
theorem d_attachChildren_21 : decode prog_1_method_22_code 21 = .ok (.iload_n 2, 1) := by decide +kernel
theorem d_attachChildren_22 : decode prog_1_method_22_code 22 = .ok (.iconst 2, 1) := by decide +kernel
theorem d_attachChildren_23 : decode prog_1_method_22_code 23 = .ok (.if_icmp .lt 20, 3) := by decide +kernel
theorem d_attachChildren_43 : decode prog_1_method_22_code 43 = .ok (.return_, 1) := by decide +kernel
theorem d_attachChildren_26 : decode prog_1_method_22_code 26 = .ok (.aload_n 0, 1) := by decide +kernel
theorem d_attachChildren_27 : decode prog_1_method_22_code 27 = .ok (.getfield 175, 3) := by decide +kernel
theorem d_attachChildren_30 : decode prog_1_method_22_code 30 = .ok (.iload_n 2, 1) := by decide +kernel
theorem d_attachChildren_31 : decode prog_1_method_22_code 31 = .ok (.if_icmp .lt 12, 3) := by decide +kernel
theorem d_attachChildren_34 : decode prog_1_method_22_code 34 = .ok (.aload_n 0, 1) := by decide +kernel
theorem d_attachChildren_35 : decode prog_1_method_22_code 35 = .ok (.getfield 175, 3) := by decide +kernel
theorem d_attachChildren_38 : decode prog_1_method_22_code 38 = .ok (.bipush 64, 2) := by decide +kernel
theorem d_attachChildren_40 : decode prog_1_method_22_code 40 = .ok (.if_icmp .le 4, 3) := by decide +kernel
theorem d_attachChildren_44 : decode prog_1_method_22_code 44 = .ok (.iload_n 2, 1) := by decide +kernel
theorem d_attachChildren_45 : decode prog_1_method_22_code 45 = .ok (.iconst 3, 1) := by decide +kernel
theorem d_attachChildren_103 : decode prog_1_method_22_code 103 = .ok (.aload_n 0, 1) := by decide +kernel
theorem d_attachChildren_104 : decode prog_1_method_22_code 104 = .ok (.getfield 65, 3) := by decide +kernel
theorem d_attachChildren_107 : decode prog_1_method_22_code 107 = .ok (.iload_n 1, 1) := by decide +kernel
theorem d_attachChildren_108 : decode prog_1_method_22_code 108 = .ok (.aload_n 0, 1) := by decide +kernel
theorem d_attachChildren_109 : decode prog_1_method_22_code 109 = .ok (.getfield 74, 3) := by decide +kernel
theorem d_attachChildren_112 : decode prog_1_method_22_code 112 = .ok (.aload_n 0, 1) := by decide +kernel
theorem d_attachChildren_113 : decode prog_1_method_22_code 113 = .ok (.getfield 175, 3) := by decide +kernel
theorem d_attachChildren_116 : decode prog_1_method_22_code 116 = .ok (.iconst 2, 1) := by decide +kernel
theorem d_attachChildren_117 : decode prog_1_method_22_code 117 = .ok (.isub, 1) := by decide +kernel
theorem d_attachChildren_118 : decode prog_1_method_22_code 118 = .ok (.iaload, 1) := by decide +kernel
theorem d_attachChildren_46 : decode prog_1_method_22_code 46 = .ok (.if_icmp .ne 57, 3) := by decide +kernel
theorem d_attachChildren_119 : decode prog_1_method_22_code 119 = .ok (.iastore, 1) := by decide +kernel
theorem d_attachChildren_120 : decode prog_1_method_22_code 120 = .ok (.aload_n 0, 1) := by decide +kernel
theorem d_attachChildren_121 : decode prog_1_method_22_code 121 = .ok (.getfield 68, 3) := by decide +kernel
theorem d_attachChildren_124 : decode prog_1_method_22_code 124 = .ok (.iload_n 1, 1) := by decide +kernel
theorem d_attachChildren_125 : decode prog_1_method_22_code 125 = .ok (.aload_n 0, 1) := by decide +kernel
theorem d_attachChildren_126 : decode prog_1_method_22_code 126 = .ok (.getfield 74, 3) := by decide +kernel
theorem d_attachChildren_129 : decode prog_1_method_22_code 129 = .ok (.aload_n 0, 1) := by decide +kernel
theorem d_attachChildren_130 : decode prog_1_method_22_code 130 = .ok (.getfield 175, 3) := by decide +kernel
theorem d_attachChildren_133 : decode prog_1_method_22_code 133 = .ok (.iconst 1, 1) := by decide +kernel
theorem d_attachChildren_134 : decode prog_1_method_22_code 134 = .ok (.isub, 1) := by decide +kernel
theorem d_attachChildren_135 : decode prog_1_method_22_code 135 = .ok (.iaload, 1) := by decide +kernel
theorem d_attachChildren_136 : decode prog_1_method_22_code 136 = .ok (.iastore, 1) := by decide +kernel
abbrev W_attachChildren (pc : Nat) (ls : List Slot) (st : List Value) (M : EMem) (Q : Option Value → EMem → Prop) : Prop := Wp tables_1 0 0 0 (⟨"OptimisticLazy", "attachChildren", "(II)V"⟩ : MethodName) prog_1_method_22_code none pc ls st M Q
theorem d_attachChildren_49 : decode prog_1_method_22_code 49 = .ok (.aload_n 0, 1) := by decide +kernel
theorem d_attachChildren_50 : decode prog_1_method_22_code 50 = .ok (.getfield 65, 3) := by decide +kernel
theorem d_attachChildren_53 : decode prog_1_method_22_code 53 = .ok (.iload_n 1, 1) := by decide +kernel
theorem d_attachChildren_54 : decode prog_1_method_22_code 54 = .ok (.aload_n 0, 1) := by decide +kernel
theorem d_attachChildren_55 : decode prog_1_method_22_code 55 = .ok (.getfield 74, 3) := by decide +kernel
theorem d_attachChildren_58 : decode prog_1_method_22_code 58 = .ok (.aload_n 0, 1) := by decide +kernel
theorem d_attachChildren_59 : decode prog_1_method_22_code 59 = .ok (.getfield 175, 3) := by decide +kernel
theorem d_attachChildren_62 : decode prog_1_method_22_code 62 = .ok (.iconst 3, 1) := by decide +kernel
theorem d_attachChildren_63 : decode prog_1_method_22_code 63 = .ok (.isub, 1) := by decide +kernel
theorem d_attachChildren_64 : decode prog_1_method_22_code 64 = .ok (.iaload, 1) := by decide +kernel
theorem d_attachChildren_65 : decode prog_1_method_22_code 65 = .ok (.iastore, 1) := by decide +kernel
theorem d_attachChildren_66 : decode prog_1_method_22_code 66 = .ok (.aload_n 0, 1) := by decide +kernel
theorem d_attachChildren_67 : decode prog_1_method_22_code 67 = .ok (.getfield 68, 3) := by decide +kernel
theorem d_attachChildren_70 : decode prog_1_method_22_code 70 = .ok (.iload_n 1, 1) := by decide +kernel
theorem d_attachChildren_71 : decode prog_1_method_22_code 71 = .ok (.aload_n 0, 1) := by decide +kernel
theorem d_attachChildren_72 : decode prog_1_method_22_code 72 = .ok (.getfield 74, 3) := by decide +kernel
theorem d_attachChildren_75 : decode prog_1_method_22_code 75 = .ok (.aload_n 0, 1) := by decide +kernel
theorem d_attachChildren_76 : decode prog_1_method_22_code 76 = .ok (.getfield 175, 3) := by decide +kernel
theorem d_attachChildren_79 : decode prog_1_method_22_code 79 = .ok (.iconst 2, 1) := by decide +kernel
theorem d_attachChildren_80 : decode prog_1_method_22_code 80 = .ok (.isub, 1) := by decide +kernel
theorem d_attachChildren_81 : decode prog_1_method_22_code 81 = .ok (.iaload, 1) := by decide +kernel
theorem d_attachChildren_82 : decode prog_1_method_22_code 82 = .ok (.iastore, 1) := by decide +kernel
theorem d_attachChildren_83 : decode prog_1_method_22_code 83 = .ok (.aload_n 0, 1) := by decide +kernel
theorem d_attachChildren_84 : decode prog_1_method_22_code 84 = .ok (.getfield 71, 3) := by decide +kernel
theorem d_attachChildren_87 : decode prog_1_method_22_code 87 = .ok (.iload_n 1, 1) := by decide +kernel
theorem d_attachChildren_88 : decode prog_1_method_22_code 88 = .ok (.aload_n 0, 1) := by decide +kernel
theorem d_attachChildren_89 : decode prog_1_method_22_code 89 = .ok (.getfield 74, 3) := by decide +kernel
theorem d_attachChildren_92 : decode prog_1_method_22_code 92 = .ok (.aload_n 0, 1) := by decide +kernel
theorem d_attachChildren_93 : decode prog_1_method_22_code 93 = .ok (.getfield 175, 3) := by decide +kernel
theorem d_attachChildren_96 : decode prog_1_method_22_code 96 = .ok (.iconst 1, 1) := by decide +kernel
theorem d_attachChildren_97 : decode prog_1_method_22_code 97 = .ok (.isub, 1) := by decide +kernel
theorem d_attachChildren_98 : decode prog_1_method_22_code 98 = .ok (.iaload, 1) := by decide +kernel
theorem d_attachChildren_99 : decode prog_1_method_22_code 99 = .ok (.iastore, 1) := by decide +kernel
theorem d_attachChildren_100 : decode prog_1_method_22_code 100 = .ok (.goto 37, 3) := by decide +kernel
theorem d_attachChildren_137 : decode prog_1_method_22_code 137 = .ok (.aload_n 0, 1) := by decide +kernel
theorem d_attachChildren_138 : decode prog_1_method_22_code 138 = .ok (.aload_n 0, 1) := by decide +kernel
theorem d_attachChildren_139 : decode prog_1_method_22_code 139 = .ok (.getfield 175, 3) := by decide +kernel
theorem d_attachChildren_142 : decode prog_1_method_22_code 142 = .ok (.iload_n 2, 1) := by decide +kernel
theorem d_attachChildren_143 : decode prog_1_method_22_code 143 = .ok (.isub, 1) := by decide +kernel
theorem d_attachChildren_144 : decode prog_1_method_22_code 144 = .ok (.putfield 175, 3) := by decide +kernel
theorem d_attachChildren_147 : decode prog_1_method_22_code 147 = .ok (.return_, 1) := by decide +kernel
theorem d_push_0 : decode prog_1_method_2_code 0 = .ok (.iload_n 1, 1) := by decide +kernel
theorem d_push_1 : decode prog_1_method_2_code 1 = .ok (.ifCond .lt 9, 3) := by decide +kernel
theorem d_push_10 : decode prog_1_method_2_code 10 = .ok (.iconst (-1), 1) := by decide +kernel
theorem d_push_11 : decode prog_1_method_2_code 11 = .ok (.ireturn, 1) := by decide +kernel
theorem d_push_4 : decode prog_1_method_2_code 4 = .ok (.iload_n 1, 1) := by decide +kernel
theorem d_push_5 : decode prog_1_method_2_code 5 = .ok (.bipush 13, 2) := by decide +kernel
theorem d_push_12 : decode prog_1_method_2_code 12 = .ok (.aload_n 0, 1) := by decide +kernel
theorem d_push_13 : decode prog_1_method_2_code 13 = .ok (.getfield 168, 3) := by decide +kernel
theorem d_push_16 : decode prog_1_method_2_code 16 = .ok (.aload_n 0, 1) := by decide +kernel
theorem d_push_17 : decode prog_1_method_2_code 17 = .ok (.getfield 159, 3) := by decide +kernel
theorem d_push_26 : decode prog_1_method_2_code 26 = .ok (.aload_n 0, 1) := by decide +kernel
theorem d_push_27 : decode prog_1_method_2_code 27 = .ok (.iload_n 1, 1) := by decide +kernel
theorem d_push_7 : decode prog_1_method_2_code 7 = .ok (.if_icmp .le 5, 3) := by decide +kernel
theorem d_push_20 : decode prog_1_method_2_code 20 = .ok (.if_icmp .ne 6, 3) := by decide +kernel
theorem d_push_28 : decode prog_1_method_2_code 28 = .ok (.invokevirtual 171, 3) := by decide +kernel
theorem ml_c171 : methodLk "OptimisticLazy" 171 tables_1 = some (⟨"OptimisticLazy", "arity", "(I)I"⟩ : MethodName) := by decide +kernel
theorem cl_arity : codeLk (⟨"OptimisticLazy", "arity", "(I)I"⟩ : MethodName) tables_1 = some (prog_1_method_17_code, 2, (some .int)) := codeLk_at (i := 182) rfl (by decide +kernel)
theorem pd_arity : parseMethodDescriptor "(I)I" = some ⟨[.int], some .int⟩ := by decide +kernel
theorem cc_arity_1 : hasInit (⟨"OptimisticLazy", "arity", "(I)I"⟩ : MethodName).cls tables_1 = true ∧ plainName (⟨"OptimisticLazy", "arity", "(I)I"⟩ : MethodName).cls = true ∧ (⟨"OptimisticLazy", "arity", "(I)I"⟩ : MethodName).cls ≠ "java/lang/invoke/MethodHandle" ∧ (⟨"OptimisticLazy", "arity", "(I)I"⟩ : MethodName).cls ≠ "java/lang/invoke/VarHandle" ∧ (((1 : Nat) = 0 ∧ hasDecl (⟨"OptimisticLazy", "arity", "(I)I"⟩ : MethodName) tables_1 = true ∧ hasSel (⟨"OptimisticLazy", "arity", "(I)I"⟩ : MethodName) tables_1 = true ∧ hasInst (⟨"OptimisticLazy", "arity", "(I)I"⟩ : MethodName) tables_1 = true) ∨ ((1 : Nat) = 1 ∧ hasPriv (⟨"OptimisticLazy", "arity", "(I)I"⟩ : MethodName) tables_1 = true ∧ hasInst (⟨"OptimisticLazy", "arity", "(I)I"⟩ : MethodName) tables_1 = true ∧ (instLk (⟨"OptimisticLazy", "arity", "(I)I"⟩ : MethodName).cls tables_1).isSome = true) ∨ ((1 : Nat) = 2 ∧ (⟨"OptimisticLazy", "arity", "(I)I"⟩ : MethodName).name = "<init>" ∧ hasInst (⟨"OptimisticLazy", "arity", "(I)I"⟩ : MethodName) tables_1 = true ∧ ((some .int) : Option FieldType) = none) ∨ ((1 : Nat) = 3 ∧ hasStat (⟨"OptimisticLazy", "arity", "(I)I"⟩ : MethodName) tables_1 = true)) := by decide +kernel
theorem ca_c171_1 : callAt tables_1 "OptimisticLazy" 171 1 = some ((⟨"OptimisticLazy", "arity", "(I)I"⟩ : MethodName), 1, prog_1_method_17_code, 2, (some .int)) := callAt_of ml_c171 cl_arity pd_arity cc_arity_1 rfl
abbrev W_push (pc : Nat) (ls : List Slot) (st : List Value) (M : EMem) (Q : Option Value → EMem → Prop) : Prop := Wp tables_1 0 1 15 (⟨"OptimisticLazy", "push", "(II)I"⟩ : MethodName) prog_1_method_2_code (some .int) pc ls st M Q
theorem d_push_31 : decode prog_1_method_2_code 31 = .ok (.istore_n 3, 1) := by decide +kernel
theorem d_push_32 : decode prog_1_method_2_code 32 = .ok (.aload_n 0, 1) := by decide +kernel
theorem d_push_33 : decode prog_1_method_2_code 33 = .ok (.getfield 175, 3) := by decide +kernel
theorem d_push_36 : decode prog_1_method_2_code 36 = .ok (.iload_n 3, 1) := by decide +kernel
theorem d_push_37 : decode prog_1_method_2_code 37 = .ok (.if_icmp .ge 6, 3) := by decide +kernel
theorem d_push_43 : decode prog_1_method_2_code 43 = .ok (.iload_n 1, 1) := by decide +kernel
theorem d_push_44 : decode prog_1_method_2_code 44 = .ok (.iconst 1, 1) := by decide +kernel
theorem d_push_54 : decode prog_1_method_2_code 54 = .ok (.iload_n 2, 1) := by decide +kernel
theorem d_push_64 : decode prog_1_method_2_code 64 = .ok (.bipush (-4), 2) := by decide +kernel
theorem d_push_66 : decode prog_1_method_2_code 66 = .ok (.ireturn, 1) := by decide +kernel
theorem d_push_58 : decode prog_1_method_2_code 58 = .ok (.iload_n 2, 1) := by decide +kernel
theorem d_push_59 : decode prog_1_method_2_code 59 = .ok (.bipush 7, 2) := by decide +kernel
theorem d_push_67 : decode prog_1_method_2_code 67 = .ok (.aload_n 0, 1) := by decide +kernel
theorem d_push_68 : decode prog_1_method_2_code 68 = .ok (.getfield 168, 3) := by decide +kernel
theorem d_push_71 : decode prog_1_method_2_code 71 = .ok (.istore 4, 2) := by decide +kernel
theorem d_push_73 : decode prog_1_method_2_code 73 = .ok (.iload 4, 2) := by decide +kernel
theorem d_push_94 : decode prog_1_method_2_code 94 = .ok (.bipush (-2), 2) := by decide +kernel
theorem d_push_96 : decode prog_1_method_2_code 96 = .ok (.ireturn, 1) := by decide +kernel
theorem d_push_78 : decode prog_1_method_2_code 78 = .ok (.iload 4, 2) := by decide +kernel
theorem d_push_80 : decode prog_1_method_2_code 80 = .ok (.bipush 64, 2) := by decide +kernel
theorem d_push_85 : decode prog_1_method_2_code 85 = .ok (.aload_n 0, 1) := by decide +kernel
theorem d_push_86 : decode prog_1_method_2_code 86 = .ok (.getfield 175, 3) := by decide +kernel
theorem d_push_89 : decode prog_1_method_2_code 89 = .ok (.bipush 64, 2) := by decide +kernel
theorem d_push_97 : decode prog_1_method_2_code 97 = .ok (.aload_n 0, 1) := by decide +kernel
theorem d_push_98 : decode prog_1_method_2_code 98 = .ok (.getfield 58, 3) := by decide +kernel
theorem d_push_101 : decode prog_1_method_2_code 101 = .ok (.iload 4, 2) := by decide +kernel
theorem d_push_103 : decode prog_1_method_2_code 103 = .ok (.iload_n 1, 1) := by decide +kernel
theorem d_push_45 : decode prog_1_method_2_code 45 = .ok (.if_icmp .eq 9, 3) := by decide +kernel
theorem d_push_48 : decode prog_1_method_2_code 48 = .ok (.iload_n 1, 1) := by decide +kernel
theorem d_push_49 : decode prog_1_method_2_code 49 = .ok (.bipush 13, 2) := by decide +kernel
theorem d_push_51 : decode prog_1_method_2_code 51 = .ok (.if_icmp .ne 16, 3) := by decide +kernel
theorem d_push_40 : decode prog_1_method_2_code 40 = .ok (.bipush (-3), 2) := by decide +kernel
theorem d_push_42 : decode prog_1_method_2_code 42 = .ok (.ireturn, 1) := by decide +kernel
theorem d_push_23 : decode prog_1_method_2_code 23 = .ok (.bipush (-2), 2) := by decide +kernel
theorem d_push_25 : decode prog_1_method_2_code 25 = .ok (.ireturn, 1) := by decide +kernel
theorem d_push_55 : decode prog_1_method_2_code 55 = .ok (.ifCond .lt 9, 3) := by decide +kernel
theorem d_push_61 : decode prog_1_method_2_code 61 = .ok (.if_icmp .le 6, 3) := by decide +kernel
theorem d_push_75 : decode prog_1_method_2_code 75 = .ok (.ifCond .lt 19, 3) := by decide +kernel
theorem d_push_82 : decode prog_1_method_2_code 82 = .ok (.if_icmp .ge 12, 3) := by decide +kernel
theorem d_push_91 : decode prog_1_method_2_code 91 = .ok (.if_icmp .le 6, 3) := by decide +kernel
theorem d_push_104 : decode prog_1_method_2_code 104 = .ok (.iastore, 1) := by decide +kernel
theorem d_push_105 : decode prog_1_method_2_code 105 = .ok (.aload_n 0, 1) := by decide +kernel
theorem d_push_106 : decode prog_1_method_2_code 106 = .ok (.getfield 62, 3) := by decide +kernel
theorem d_push_109 : decode prog_1_method_2_code 109 = .ok (.iload 4, 2) := by decide +kernel
theorem d_push_111 : decode prog_1_method_2_code 111 = .ok (.aload_n 0, 1) := by decide +kernel
theorem d_push_112 : decode prog_1_method_2_code 112 = .ok (.iload_n 1, 1) := by decide +kernel
theorem d_push_113 : decode prog_1_method_2_code 113 = .ok (.invokevirtual 178, 3) := by decide +kernel
theorem ml_c178 : methodLk "OptimisticLazy" 178 tables_1 = some (⟨"OptimisticLazy", "storesArg", "(I)Z"⟩ : MethodName) := by decide +kernel
theorem cl_storesArg : codeLk (⟨"OptimisticLazy", "storesArg", "(I)Z"⟩ : MethodName) tables_1 = some (prog_1_method_18_code, 2, (some .boolean)) := codeLk_at (i := 186) rfl (by decide +kernel)
theorem pd_storesArg : parseMethodDescriptor "(I)Z" = some ⟨[.int], some .boolean⟩ := by decide +kernel
theorem cc_storesArg_1 : hasInit (⟨"OptimisticLazy", "storesArg", "(I)Z"⟩ : MethodName).cls tables_1 = true ∧ plainName (⟨"OptimisticLazy", "storesArg", "(I)Z"⟩ : MethodName).cls = true ∧ (⟨"OptimisticLazy", "storesArg", "(I)Z"⟩ : MethodName).cls ≠ "java/lang/invoke/MethodHandle" ∧ (⟨"OptimisticLazy", "storesArg", "(I)Z"⟩ : MethodName).cls ≠ "java/lang/invoke/VarHandle" ∧ (((1 : Nat) = 0 ∧ hasDecl (⟨"OptimisticLazy", "storesArg", "(I)Z"⟩ : MethodName) tables_1 = true ∧ hasSel (⟨"OptimisticLazy", "storesArg", "(I)Z"⟩ : MethodName) tables_1 = true ∧ hasInst (⟨"OptimisticLazy", "storesArg", "(I)Z"⟩ : MethodName) tables_1 = true) ∨ ((1 : Nat) = 1 ∧ hasPriv (⟨"OptimisticLazy", "storesArg", "(I)Z"⟩ : MethodName) tables_1 = true ∧ hasInst (⟨"OptimisticLazy", "storesArg", "(I)Z"⟩ : MethodName) tables_1 = true ∧ (instLk (⟨"OptimisticLazy", "storesArg", "(I)Z"⟩ : MethodName).cls tables_1).isSome = true) ∨ ((1 : Nat) = 2 ∧ (⟨"OptimisticLazy", "storesArg", "(I)Z"⟩ : MethodName).name = "<init>" ∧ hasInst (⟨"OptimisticLazy", "storesArg", "(I)Z"⟩ : MethodName) tables_1 = true ∧ ((some .boolean) : Option FieldType) = none) ∨ ((1 : Nat) = 3 ∧ hasStat (⟨"OptimisticLazy", "storesArg", "(I)Z"⟩ : MethodName) tables_1 = true)) := by decide +kernel
theorem ca_c178_1 : callAt tables_1 "OptimisticLazy" 178 1 = some ((⟨"OptimisticLazy", "storesArg", "(I)Z"⟩ : MethodName), 1, prog_1_method_18_code, 2, (some .boolean)) := callAt_of ml_c178 cl_storesArg pd_storesArg cc_storesArg_1 rfl
theorem d_push_116 : decode prog_1_method_2_code 116 = .ok (.ifCond .eq 7, 3) := by decide +kernel
theorem d_push_123 : decode prog_1_method_2_code 123 = .ok (.iconst 0, 1) := by decide +kernel
theorem d_push_119 : decode prog_1_method_2_code 119 = .ok (.iload_n 2, 1) := by decide +kernel
theorem d_push_120 : decode prog_1_method_2_code 120 = .ok (.goto 4, 3) := by decide +kernel
theorem d_push_124 : decode prog_1_method_2_code 124 = .ok (.iastore, 1) := by decide +kernel
theorem d_push_125 : decode prog_1_method_2_code 125 = .ok (.aload_n 0, 1) := by decide +kernel
theorem d_push_126 : decode prog_1_method_2_code 126 = .ok (.iload 4, 2) := by decide +kernel
theorem d_push_128 : decode prog_1_method_2_code 128 = .ok (.iload_n 3, 1) := by decide +kernel
theorem d_push_129 : decode prog_1_method_2_code 129 = .ok (.invokevirtual 182, 3) := by decide +kernel
theorem ml_c182 : methodLk "OptimisticLazy" 182 tables_1 = some (⟨"OptimisticLazy", "attachChildren", "(II)V"⟩ : MethodName) := by decide +kernel
theorem cl_attachChildren : codeLk (⟨"OptimisticLazy", "attachChildren", "(II)V"⟩ : MethodName) tables_1 = some (prog_1_method_22_code, 3, none) := codeLk_at (i := 190) rfl (by decide +kernel)
theorem pd_attachChildren : parseMethodDescriptor "(II)V" = some ⟨[.int, .int], none⟩ := by decide +kernel
theorem cc_attachChildren_1 : hasInit (⟨"OptimisticLazy", "attachChildren", "(II)V"⟩ : MethodName).cls tables_1 = true ∧ plainName (⟨"OptimisticLazy", "attachChildren", "(II)V"⟩ : MethodName).cls = true ∧ (⟨"OptimisticLazy", "attachChildren", "(II)V"⟩ : MethodName).cls ≠ "java/lang/invoke/MethodHandle" ∧ (⟨"OptimisticLazy", "attachChildren", "(II)V"⟩ : MethodName).cls ≠ "java/lang/invoke/VarHandle" ∧ (((1 : Nat) = 0 ∧ hasDecl (⟨"OptimisticLazy", "attachChildren", "(II)V"⟩ : MethodName) tables_1 = true ∧ hasSel (⟨"OptimisticLazy", "attachChildren", "(II)V"⟩ : MethodName) tables_1 = true ∧ hasInst (⟨"OptimisticLazy", "attachChildren", "(II)V"⟩ : MethodName) tables_1 = true) ∨ ((1 : Nat) = 1 ∧ hasPriv (⟨"OptimisticLazy", "attachChildren", "(II)V"⟩ : MethodName) tables_1 = true ∧ hasInst (⟨"OptimisticLazy", "attachChildren", "(II)V"⟩ : MethodName) tables_1 = true ∧ (instLk (⟨"OptimisticLazy", "attachChildren", "(II)V"⟩ : MethodName).cls tables_1).isSome = true) ∨ ((1 : Nat) = 2 ∧ (⟨"OptimisticLazy", "attachChildren", "(II)V"⟩ : MethodName).name = "<init>" ∧ hasInst (⟨"OptimisticLazy", "attachChildren", "(II)V"⟩ : MethodName) tables_1 = true ∧ (none : Option FieldType) = none) ∨ ((1 : Nat) = 3 ∧ hasStat (⟨"OptimisticLazy", "attachChildren", "(II)V"⟩ : MethodName) tables_1 = true)) := by decide +kernel
theorem ca_c182_1 : callAt tables_1 "OptimisticLazy" 182 1 = some ((⟨"OptimisticLazy", "attachChildren", "(II)V"⟩ : MethodName), 2, prog_1_method_22_code, 3, none) := callAt_of ml_c182 cl_attachChildren pd_attachChildren cc_attachChildren_1 rfl
theorem d_push_132 : decode prog_1_method_2_code 132 = .ok (.aload_n 0, 1) := by decide +kernel
theorem d_push_133 : decode prog_1_method_2_code 133 = .ok (.getfield 175, 3) := by decide +kernel
theorem d_push_136 : decode prog_1_method_2_code 136 = .ok (.ifCond .lt 12, 3) := by decide +kernel
theorem d_push_148 : decode prog_1_method_2_code 148 = .ok (.iload 4, 2) := by decide +kernel
theorem d_push_150 : decode prog_1_method_2_code 150 = .ok (.ireturn, 1) := by decide +kernel
theorem d_push_139 : decode prog_1_method_2_code 139 = .ok (.aload_n 0, 1) := by decide +kernel
theorem d_push_140 : decode prog_1_method_2_code 140 = .ok (.getfield 175, 3) := by decide +kernel
theorem d_push_143 : decode prog_1_method_2_code 143 = .ok (.bipush 64, 2) := by decide +kernel
theorem d_push_151 : decode prog_1_method_2_code 151 = .ok (.aload_n 0, 1) := by decide +kernel
theorem d_push_152 : decode prog_1_method_2_code 152 = .ok (.getfield 74, 3) := by decide +kernel
theorem d_push_155 : decode prog_1_method_2_code 155 = .ok (.aload_n 0, 1) := by decide +kernel
theorem d_push_156 : decode prog_1_method_2_code 156 = .ok (.getfield 175, 3) := by decide +kernel
theorem d_push_159 : decode prog_1_method_2_code 159 = .ok (.iload 4, 2) := by decide +kernel
theorem d_push_145 : decode prog_1_method_2_code 145 = .ok (.if_icmp .lt 6, 3) := by decide +kernel
theorem d_push_161 : decode prog_1_method_2_code 161 = .ok (.iastore, 1) := by decide +kernel
theorem d_push_162 : decode prog_1_method_2_code 162 = .ok (.aload_n 0, 1) := by decide +kernel
theorem d_push_163 : decode prog_1_method_2_code 163 = .ok (.dup, 1) := by decide +kernel
theorem d_push_164 : decode prog_1_method_2_code 164 = .ok (.getfield 175, 3) := by decide +kernel
theorem d_push_167 : decode prog_1_method_2_code 167 = .ok (.iconst 1, 1) := by decide +kernel
theorem d_push_168 : decode prog_1_method_2_code 168 = .ok (.iadd, 1) := by decide +kernel
theorem d_push_169 : decode prog_1_method_2_code 169 = .ok (.putfield 175, 3) := by decide +kernel
theorem d_push_172 : decode prog_1_method_2_code 172 = .ok (.aload_n 0, 1) := by decide +kernel
theorem d_push_173 : decode prog_1_method_2_code 173 = .ok (.dup, 1) := by decide +kernel
theorem d_push_174 : decode prog_1_method_2_code 174 = .ok (.getfield 168, 3) := by decide +kernel
theorem d_push_177 : decode prog_1_method_2_code 177 = .ok (.iconst 1, 1) := by decide +kernel
theorem d_push_178 : decode prog_1_method_2_code 178 = .ok (.iadd, 1) := by decide +kernel
theorem d_push_179 : decode prog_1_method_2_code 179 = .ok (.putfield 168, 3) := by decide +kernel
theorem d_push_182 : decode prog_1_method_2_code 182 = .ok (.aload_n 0, 1) := by decide +kernel
theorem d_push_183 : decode prog_1_method_2_code 183 = .ok (.getfield 80, 3) := by decide +kernel
theorem d_push_186 : decode prog_1_method_2_code 186 = .ok (.iload 4, 2) := by decide +kernel
theorem d_push_188 : decode prog_1_method_2_code 188 = .ok (.aload_n 0, 1) := by decide +kernel
theorem d_push_189 : decode prog_1_method_2_code 189 = .ok (.getfield 162, 3) := by decide +kernel
theorem d_push_192 : decode prog_1_method_2_code 192 = .ok (.iastore, 1) := by decide +kernel
theorem d_push_193 : decode prog_1_method_2_code 193 = .ok (.aload_n 0, 1) := by decide +kernel
theorem d_push_194 : decode prog_1_method_2_code 194 = .ok (.getfield 83, 3) := by decide +kernel
theorem d_push_197 : decode prog_1_method_2_code 197 = .ok (.iload 4, 2) := by decide +kernel
theorem d_push_199 : decode prog_1_method_2_code 199 = .ok (.iconst (-1), 1) := by decide +kernel
theorem d_push_200 : decode prog_1_method_2_code 200 = .ok (.iastore, 1) := by decide +kernel
theorem d_push_201 : decode prog_1_method_2_code 201 = .ok (.aload_n 0, 1) := by decide +kernel
theorem d_push_202 : decode prog_1_method_2_code 202 = .ok (.getfield 77, 3) := by decide +kernel
theorem d_push_205 : decode prog_1_method_2_code 205 = .ok (.iload 4, 2) := by decide +kernel
theorem d_push_207 : decode prog_1_method_2_code 207 = .ok (.iconst (-1), 1) := by decide +kernel
theorem d_push_208 : decode prog_1_method_2_code 208 = .ok (.iastore, 1) := by decide +kernel
theorem d_push_209 : decode prog_1_method_2_code 209 = .ok (.iload 4, 2) := by decide +kernel
theorem d_push_211 : decode prog_1_method_2_code 211 = .ok (.ireturn, 1) := by decide +kernel
theorem d_nodeKind_0 : decode prog_1_method_8_code 0 = .ok (.aload_n 0, 1) := by decide +kernel
theorem d_nodeKind_1 : decode prog_1_method_8_code 1 = .ok (.iload_n 1, 1) := by decide +kernel
theorem d_nodeKind_2 : decode prog_1_method_8_code 2 = .ok (.invokevirtual 186, 3) := by decide +kernel
theorem ml_c186 : methodLk "OptimisticLazy" 186 tables_1 = some (⟨"OptimisticLazy", "isNode", "(I)Z"⟩ : MethodName) := by decide +kernel
theorem cl_isNode : codeLk (⟨"OptimisticLazy", "isNode", "(I)Z"⟩ : MethodName) tables_1 = some (prog_1_method_19_code, 2, (some .boolean)) := codeLk_at (i := 213) rfl (by decide +kernel)
theorem pd_isNode : parseMethodDescriptor "(I)Z" = some ⟨[.int], some .boolean⟩ := by decide +kernel
theorem cc_isNode_1 : hasInit (⟨"OptimisticLazy", "isNode", "(I)Z"⟩ : MethodName).cls tables_1 = true ∧ plainName (⟨"OptimisticLazy", "isNode", "(I)Z"⟩ : MethodName).cls = true ∧ (⟨"OptimisticLazy", "isNode", "(I)Z"⟩ : MethodName).cls ≠ "java/lang/invoke/MethodHandle" ∧ (⟨"OptimisticLazy", "isNode", "(I)Z"⟩ : MethodName).cls ≠ "java/lang/invoke/VarHandle" ∧ (((1 : Nat) = 0 ∧ hasDecl (⟨"OptimisticLazy", "isNode", "(I)Z"⟩ : MethodName) tables_1 = true ∧ hasSel (⟨"OptimisticLazy", "isNode", "(I)Z"⟩ : MethodName) tables_1 = true ∧ hasInst (⟨"OptimisticLazy", "isNode", "(I)Z"⟩ : MethodName) tables_1 = true) ∨ ((1 : Nat) = 1 ∧ hasPriv (⟨"OptimisticLazy", "isNode", "(I)Z"⟩ : MethodName) tables_1 = true ∧ hasInst (⟨"OptimisticLazy", "isNode", "(I)Z"⟩ : MethodName) tables_1 = true ∧ (instLk (⟨"OptimisticLazy", "isNode", "(I)Z"⟩ : MethodName).cls tables_1).isSome = true) ∨ ((1 : Nat) = 2 ∧ (⟨"OptimisticLazy", "isNode", "(I)Z"⟩ : MethodName).name = "<init>" ∧ hasInst (⟨"OptimisticLazy", "isNode", "(I)Z"⟩ : MethodName) tables_1 = true ∧ ((some .boolean) : Option FieldType) = none) ∨ ((1 : Nat) = 3 ∧ hasStat (⟨"OptimisticLazy", "isNode", "(I)Z"⟩ : MethodName) tables_1 = true)) := by decide +kernel
theorem ca_c186_1 : callAt tables_1 "OptimisticLazy" 186 1 = some ((⟨"OptimisticLazy", "isNode", "(I)Z"⟩ : MethodName), 1, prog_1_method_19_code, 2, (some .boolean)) := callAt_of ml_c186 cl_isNode pd_isNode cc_isNode_1 rfl
abbrev W_nodeKind (pc : Nat) (ls : List Slot) (st : List Value) (M : EMem) (Q : Option Value → EMem → Prop) : Prop := Wp tables_1 0 1 13 (⟨"OptimisticLazy", "nodeKind", "(I)I"⟩ : MethodName) prog_1_method_8_code (some .int) pc ls st M Q
theorem d_nodeKind_5 : decode prog_1_method_8_code 5 = .ok (.ifCond .ne 5, 3) := by decide +kernel
theorem d_nodeKind_10 : decode prog_1_method_8_code 10 = .ok (.aload_n 0, 1) := by decide +kernel
theorem d_nodeKind_11 : decode prog_1_method_8_code 11 = .ok (.getfield 58, 3) := by decide +kernel
theorem d_nodeKind_14 : decode prog_1_method_8_code 14 = .ok (.iload_n 1, 1) := by decide +kernel
theorem d_nodeKind_15 : decode prog_1_method_8_code 15 = .ok (.iaload, 1) := by decide +kernel
theorem d_nodeKind_16 : decode prog_1_method_8_code 16 = .ok (.ireturn, 1) := by decide +kernel
theorem d_nodeKind_8 : decode prog_1_method_8_code 8 = .ok (.iconst (-1), 1) := by decide +kernel
theorem d_nodeKind_9 : decode prog_1_method_8_code 9 = .ok (.ireturn, 1) := by decide +kernel
theorem d_nodeArg_0 : decode prog_1_method_9_code 0 = .ok (.aload_n 0, 1) := by decide +kernel
theorem d_nodeArg_1 : decode prog_1_method_9_code 1 = .ok (.iload_n 1, 1) := by decide +kernel
theorem d_nodeArg_2 : decode prog_1_method_9_code 2 = .ok (.invokevirtual 186, 3) := by decide +kernel
abbrev W_nodeArg (pc : Nat) (ls : List Slot) (st : List Value) (M : EMem) (Q : Option Value → EMem → Prop) : Prop := Wp tables_1 0 1 13 (⟨"OptimisticLazy", "nodeArg", "(I)I"⟩ : MethodName) prog_1_method_9_code (some .int) pc ls st M Q
theorem d_nodeArg_5 : decode prog_1_method_9_code 5 = .ok (.ifCond .ne 5, 3) := by decide +kernel
theorem d_nodeArg_10 : decode prog_1_method_9_code 10 = .ok (.aload_n 0, 1) := by decide +kernel
theorem d_nodeArg_11 : decode prog_1_method_9_code 11 = .ok (.getfield 62, 3) := by decide +kernel
theorem d_nodeArg_14 : decode prog_1_method_9_code 14 = .ok (.iload_n 1, 1) := by decide +kernel
theorem d_nodeArg_15 : decode prog_1_method_9_code 15 = .ok (.iaload, 1) := by decide +kernel
theorem d_nodeArg_16 : decode prog_1_method_9_code 16 = .ok (.ireturn, 1) := by decide +kernel
theorem d_nodeArg_8 : decode prog_1_method_9_code 8 = .ok (.iconst 0, 1) := by decide +kernel
theorem d_nodeArg_9 : decode prog_1_method_9_code 9 = .ok (.ireturn, 1) := by decide +kernel
theorem d_child_0 : decode prog_1_method_10_code 0 = .ok (.aload_n 0, 1) := by decide +kernel
theorem d_child_1 : decode prog_1_method_10_code 1 = .ok (.iload_n 1, 1) := by decide +kernel
theorem d_child_2 : decode prog_1_method_10_code 2 = .ok (.invokevirtual 186, 3) := by decide +kernel
abbrev W_child (pc : Nat) (ls : List Slot) (st : List Value) (M : EMem) (Q : Option Value → EMem → Prop) : Prop := Wp tables_1 0 1 14 (⟨"OptimisticLazy", "child", "(II)I"⟩ : MethodName) prog_1_method_10_code (some .int) pc ls st M Q
theorem d_child_5 : decode prog_1_method_10_code 5 = .ok (.ifCond .eq 12, 3) := by decide +kernel
theorem d_child_17 : decode prog_1_method_10_code 17 = .ok (.iconst (-1), 1) := by decide +kernel
theorem d_child_18 : decode prog_1_method_10_code 18 = .ok (.ireturn, 1) := by decide +kernel
theorem d_child_8 : decode prog_1_method_10_code 8 = .ok (.iload_n 2, 1) := by decide +kernel
theorem d_child_12 : decode prog_1_method_10_code 12 = .ok (.iload_n 2, 1) := by decide +kernel
theorem d_child_13 : decode prog_1_method_10_code 13 = .ok (.iconst 2, 1) := by decide +kernel
theorem d_child_19 : decode prog_1_method_10_code 19 = .ok (.iload_n 2, 1) := by decide +kernel
theorem d_child_20 : decode prog_1_method_10_code 20 = .ok (.aload_n 0, 1) := by decide +kernel
theorem d_child_21 : decode prog_1_method_10_code 21 = .ok (.aload_n 0, 1) := by decide +kernel
theorem d_child_22 : decode prog_1_method_10_code 22 = .ok (.getfield 58, 3) := by decide +kernel
theorem d_child_25 : decode prog_1_method_10_code 25 = .ok (.iload_n 1, 1) := by decide +kernel
theorem d_child_26 : decode prog_1_method_10_code 26 = .ok (.iaload, 1) := by decide +kernel
theorem d_child_9 : decode prog_1_method_10_code 9 = .ok (.ifCond .lt 8, 3) := by decide +kernel
theorem d_child_14 : decode prog_1_method_10_code 14 = .ok (.if_icmp .le 5, 3) := by decide +kernel
theorem d_child_27 : decode prog_1_method_10_code 27 = .ok (.invokevirtual 171, 3) := by decide +kernel
theorem d_child_30 : decode prog_1_method_10_code 30 = .ok (.if_icmp .lt 5, 3) := by decide +kernel
theorem d_child_35 : decode prog_1_method_10_code 35 = .ok (.iload_n 2, 1) := by decide +kernel
theorem d_child_46 : decode prog_1_method_10_code 46 = .ok (.iload_n 2, 1) := by decide +kernel
theorem d_child_47 : decode prog_1_method_10_code 47 = .ok (.iconst 1, 1) := by decide +kernel
theorem d_child_58 : decode prog_1_method_10_code 58 = .ok (.aload_n 0, 1) := by decide +kernel
theorem d_child_59 : decode prog_1_method_10_code 59 = .ok (.getfield 71, 3) := by decide +kernel
theorem d_child_62 : decode prog_1_method_10_code 62 = .ok (.iload_n 1, 1) := by decide +kernel
theorem d_child_63 : decode prog_1_method_10_code 63 = .ok (.iaload, 1) := by decide +kernel
theorem d_child_64 : decode prog_1_method_10_code 64 = .ok (.ireturn, 1) := by decide +kernel
theorem d_child_51 : decode prog_1_method_10_code 51 = .ok (.aload_n 0, 1) := by decide +kernel
theorem d_child_52 : decode prog_1_method_10_code 52 = .ok (.getfield 68, 3) := by decide +kernel
theorem d_child_55 : decode prog_1_method_10_code 55 = .ok (.iload_n 1, 1) := by decide +kernel
theorem d_child_56 : decode prog_1_method_10_code 56 = .ok (.iaload, 1) := by decide +kernel
theorem d_child_57 : decode prog_1_method_10_code 57 = .ok (.ireturn, 1) := by decide +kernel
theorem d_child_48 : decode prog_1_method_10_code 48 = .ok (.if_icmp .ne 10, 3) := by decide +kernel
theorem d_child_39 : decode prog_1_method_10_code 39 = .ok (.aload_n 0, 1) := by decide +kernel
theorem d_child_40 : decode prog_1_method_10_code 40 = .ok (.getfield 65, 3) := by decide +kernel
theorem d_child_43 : decode prog_1_method_10_code 43 = .ok (.iload_n 1, 1) := by decide +kernel
theorem d_child_44 : decode prog_1_method_10_code 44 = .ok (.iaload, 1) := by decide +kernel
theorem d_child_45 : decode prog_1_method_10_code 45 = .ok (.ireturn, 1) := by decide +kernel
theorem d_child_36 : decode prog_1_method_10_code 36 = .ok (.ifCond .ne 10, 3) := by decide +kernel
theorem d_child_33 : decode prog_1_method_10_code 33 = .ok (.iconst (-1), 1) := by decide +kernel
theorem d_child_34 : decode prog_1_method_10_code 34 = .ok (.ireturn, 1) := by decide +kernel
theorem d_top_0 : decode prog_1_method_7_code 0 = .ok (.iload_n 1, 1) := by decide +kernel
theorem d_top_1 : decode prog_1_method_7_code 1 = .ok (.ifCond .lt 11, 3) := by decide +kernel
theorem d_top_12 : decode prog_1_method_7_code 12 = .ok (.iconst (-1), 1) := by decide +kernel
theorem d_top_13 : decode prog_1_method_7_code 13 = .ok (.ireturn, 1) := by decide +kernel
theorem d_top_4 : decode prog_1_method_7_code 4 = .ok (.iload_n 1, 1) := by decide +kernel
theorem d_top_5 : decode prog_1_method_7_code 5 = .ok (.aload_n 0, 1) := by decide +kernel
theorem d_top_6 : decode prog_1_method_7_code 6 = .ok (.getfield 175, 3) := by decide +kernel
theorem d_top_14 : decode prog_1_method_7_code 14 = .ok (.aload_n 0, 1) := by decide +kernel
theorem d_top_15 : decode prog_1_method_7_code 15 = .ok (.getfield 175, 3) := by decide +kernel
theorem d_top_18 : decode prog_1_method_7_code 18 = .ok (.iconst 1, 1) := by decide +kernel
theorem d_top_19 : decode prog_1_method_7_code 19 = .ok (.isub, 1) := by decide +kernel
theorem d_top_20 : decode prog_1_method_7_code 20 = .ok (.iload_n 1, 1) := by decide +kernel
theorem d_top_21 : decode prog_1_method_7_code 21 = .ok (.isub, 1) := by decide +kernel
theorem d_top_22 : decode prog_1_method_7_code 22 = .ok (.istore_n 2, 1) := by decide +kernel
theorem d_top_23 : decode prog_1_method_7_code 23 = .ok (.iload_n 2, 1) := by decide +kernel
theorem d_top_33 : decode prog_1_method_7_code 33 = .ok (.iconst (-1), 1) := by decide +kernel
theorem d_top_34 : decode prog_1_method_7_code 34 = .ok (.ireturn, 1) := by decide +kernel
theorem d_top_27 : decode prog_1_method_7_code 27 = .ok (.iload_n 2, 1) := by decide +kernel
theorem d_top_28 : decode prog_1_method_7_code 28 = .ok (.bipush 64, 2) := by decide +kernel
theorem d_top_35 : decode prog_1_method_7_code 35 = .ok (.aload_n 0, 1) := by decide +kernel
theorem d_top_36 : decode prog_1_method_7_code 36 = .ok (.getfield 74, 3) := by decide +kernel
theorem d_top_39 : decode prog_1_method_7_code 39 = .ok (.iload_n 2, 1) := by decide +kernel
theorem d_top_40 : decode prog_1_method_7_code 40 = .ok (.iaload, 1) := by decide +kernel
theorem d_top_41 : decode prog_1_method_7_code 41 = .ok (.ireturn, 1) := by decide +kernel
theorem d_top_30 : decode prog_1_method_7_code 30 = .ok (.if_icmp .lt 5, 3) := by decide +kernel
theorem d_top_24 : decode prog_1_method_7_code 24 = .ok (.ifCond .lt 9, 3) := by decide +kernel
theorem d_top_9 : decode prog_1_method_7_code 9 = .ok (.if_icmp .lt 5, 3) := by decide +kernel
abbrev W_top (pc : Nat) (ls : List Slot) (st : List Value) (M : EMem) (Q : Option Value → EMem → Prop) : Prop := Wp tables_1 0 0 0 (⟨"OptimisticLazy", "top", "(I)I"⟩ : MethodName) prog_1_method_7_code (some .int) pc ls st M Q
theorem d_law_0 : decode code 0 = .ok (.new 7, 3) := by decide +kernel
theorem na_w7 : newAt tables_1 "OptimisticLazyL2" 7 = some ("OptimisticLazy", 72) := by decide +kernel
theorem d_law_3 : decode code 3 = .ok (.dup, 1) := by decide +kernel
theorem d_law_4 : decode code 4 = .ok (.iload_n 0, 1) := by decide +kernel
theorem d_law_5 : decode code 5 = .ok (.iload_n 1, 1) := by decide +kernel
theorem d_law_6 : decode code 6 = .ok (.invokespecial 9, 3) := by decide +kernel
theorem ml_w9 : methodLk "OptimisticLazyL2" 9 tables_1 = some (⟨"OptimisticLazy", "<init>", "(II)V"⟩ : MethodName) := by decide +kernel
theorem cl_init : codeLk (⟨"OptimisticLazy", "<init>", "(II)V"⟩ : MethodName) tables_1 = some (prog_1_method_1_code, 3, none) := codeLk_at (i := 5) rfl (by decide +kernel)
theorem pd_init : parseMethodDescriptor "(II)V" = some ⟨[.int, .int], none⟩ := by decide +kernel
theorem cc_init_2 : hasInit (⟨"OptimisticLazy", "<init>", "(II)V"⟩ : MethodName).cls tables_1 = true ∧ plainName (⟨"OptimisticLazy", "<init>", "(II)V"⟩ : MethodName).cls = true ∧ (⟨"OptimisticLazy", "<init>", "(II)V"⟩ : MethodName).cls ≠ "java/lang/invoke/MethodHandle" ∧ (⟨"OptimisticLazy", "<init>", "(II)V"⟩ : MethodName).cls ≠ "java/lang/invoke/VarHandle" ∧ (((2 : Nat) = 0 ∧ hasDecl (⟨"OptimisticLazy", "<init>", "(II)V"⟩ : MethodName) tables_1 = true ∧ hasSel (⟨"OptimisticLazy", "<init>", "(II)V"⟩ : MethodName) tables_1 = true ∧ hasInst (⟨"OptimisticLazy", "<init>", "(II)V"⟩ : MethodName) tables_1 = true) ∨ ((2 : Nat) = 1 ∧ hasPriv (⟨"OptimisticLazy", "<init>", "(II)V"⟩ : MethodName) tables_1 = true ∧ hasInst (⟨"OptimisticLazy", "<init>", "(II)V"⟩ : MethodName) tables_1 = true ∧ (instLk (⟨"OptimisticLazy", "<init>", "(II)V"⟩ : MethodName).cls tables_1).isSome = true) ∨ ((2 : Nat) = 2 ∧ (⟨"OptimisticLazy", "<init>", "(II)V"⟩ : MethodName).name = "<init>" ∧ hasInst (⟨"OptimisticLazy", "<init>", "(II)V"⟩ : MethodName) tables_1 = true ∧ (none : Option FieldType) = none) ∨ ((2 : Nat) = 3 ∧ hasStat (⟨"OptimisticLazy", "<init>", "(II)V"⟩ : MethodName) tables_1 = true)) := by decide +kernel
theorem ca_w9_2 : callAt tables_1 "OptimisticLazyL2" 9 2 = some ((⟨"OptimisticLazy", "<init>", "(II)V"⟩ : MethodName), 2, prog_1_method_1_code, 3, none) := callAt_of ml_w9 cl_init pd_init cc_init_2 rfl
theorem on_w9 : objInitAt tables_1 "OptimisticLazyL2" 9 = false := by decide +kernel
abbrev W_law (pc : Nat) (ls : List Slot) (st : List Value) (M : EMem) (Q : Option Value → EMem → Prop) : Prop := Wp tables_1 0 6 144 x code (some .boolean) pc ls st M Q
theorem d_law_9 : decode code 9 = .ok (.astore 6, 2) := by decide +kernel
theorem d_law_11 : decode code 11 = .ok (.aload 6, 2) := by decide +kernel
theorem d_law_13 : decode code 13 = .ok (.iconst 0, 1) := by decide +kernel
theorem d_law_14 : decode code 14 = .ok (.iload_n 2, 1) := by decide +kernel
theorem d_law_15 : decode code 15 = .ok (.invokevirtual 12, 3) := by decide +kernel
theorem ml_w12 : methodLk "OptimisticLazyL2" 12 tables_1 = some (⟨"OptimisticLazy", "push", "(II)I"⟩ : MethodName) := by decide +kernel
theorem cl_push : codeLk (⟨"OptimisticLazy", "push", "(II)I"⟩ : MethodName) tables_1 = some (prog_1_method_2_code, 5, (some .int)) := codeLk_at (i := 178) rfl (by decide +kernel)
theorem pd_push : parseMethodDescriptor "(II)I" = some ⟨[.int, .int], some .int⟩ := by decide +kernel
theorem cc_push_0 : hasInit (⟨"OptimisticLazy", "push", "(II)I"⟩ : MethodName).cls tables_1 = true ∧ plainName (⟨"OptimisticLazy", "push", "(II)I"⟩ : MethodName).cls = true ∧ (⟨"OptimisticLazy", "push", "(II)I"⟩ : MethodName).cls ≠ "java/lang/invoke/MethodHandle" ∧ (⟨"OptimisticLazy", "push", "(II)I"⟩ : MethodName).cls ≠ "java/lang/invoke/VarHandle" ∧ (((0 : Nat) = 0 ∧ hasDecl (⟨"OptimisticLazy", "push", "(II)I"⟩ : MethodName) tables_1 = true ∧ hasSel (⟨"OptimisticLazy", "push", "(II)I"⟩ : MethodName) tables_1 = true ∧ hasInst (⟨"OptimisticLazy", "push", "(II)I"⟩ : MethodName) tables_1 = true) ∨ ((0 : Nat) = 1 ∧ hasPriv (⟨"OptimisticLazy", "push", "(II)I"⟩ : MethodName) tables_1 = true ∧ hasInst (⟨"OptimisticLazy", "push", "(II)I"⟩ : MethodName) tables_1 = true ∧ (instLk (⟨"OptimisticLazy", "push", "(II)I"⟩ : MethodName).cls tables_1).isSome = true) ∨ ((0 : Nat) = 2 ∧ (⟨"OptimisticLazy", "push", "(II)I"⟩ : MethodName).name = "<init>" ∧ hasInst (⟨"OptimisticLazy", "push", "(II)I"⟩ : MethodName) tables_1 = true ∧ ((some .int) : Option FieldType) = none) ∨ ((0 : Nat) = 3 ∧ hasStat (⟨"OptimisticLazy", "push", "(II)I"⟩ : MethodName) tables_1 = true)) := by decide +kernel
theorem ca_w12_0 : callAt tables_1 "OptimisticLazyL2" 12 0 = some ((⟨"OptimisticLazy", "push", "(II)I"⟩ : MethodName), 2, prog_1_method_2_code, 5, (some .int)) := callAt_of ml_w12 cl_push pd_push cc_push_0 rfl
theorem np_push : hasPriv (⟨"OptimisticLazy", "push", "(II)I"⟩ : MethodName) tables_1 = false := by decide +kernel
theorem ca_w12_0n : callAt tables_1 "OptimisticLazyL2" 12 1 = none := callAt_pub ml_w12 np_push
theorem d_law_18 : decode code 18 = .ok (.pop, 1) := by decide +kernel
theorem d_law_19 : decode code 19 = .ok (.aload 6, 2) := by decide +kernel
theorem d_law_21 : decode code 21 = .ok (.iconst 0, 1) := by decide +kernel
theorem d_law_22 : decode code 22 = .ok (.iload_n 3, 1) := by decide +kernel
theorem d_law_23 : decode code 23 = .ok (.invokevirtual 12, 3) := by decide +kernel
theorem d_law_26 : decode code 26 = .ok (.pop, 1) := by decide +kernel
theorem d_law_27 : decode code 27 = .ok (.aload 6, 2) := by decide +kernel
theorem d_law_29 : decode code 29 = .ok (.iload 4, 2) := by decide +kernel
theorem d_law_31 : decode code 31 = .ok (.iload 5, 2) := by decide +kernel
theorem d_law_33 : decode code 33 = .ok (.invokevirtual 12, 3) := by decide +kernel
theorem d_law_36 : decode code 36 = .ok (.istore 7, 2) := by decide +kernel
theorem d_law_38 : decode code 38 = .ok (.iload 4, 2) := by decide +kernel
theorem d_law_40 : decode code 40 = .ok (.ifCond .lt 10, 3) := by decide +kernel
theorem d_law_50 : decode code 50 = .ok (.iconst (-1), 1) := by decide +kernel
theorem d_law_51 : decode code 51 = .ok (.istore 8, 2) := by decide +kernel
theorem d_law_53 : decode code 53 = .ok (.goto 54, 3) := by decide +kernel
theorem d_law_43 : decode code 43 = .ok (.iload 4, 2) := by decide +kernel
theorem d_law_45 : decode code 45 = .ok (.bipush 13, 2) := by decide +kernel
theorem d_law_56 : decode code 56 = .ok (.iload 4, 2) := by decide +kernel
theorem d_law_47 : decode code 47 = .ok (.if_icmp .le 9, 3) := by decide +kernel
theorem d_law_58 : decode code 58 = .ok (.invokestatic 16, 3) := by decide +kernel
theorem ml_w16 : methodLk "OptimisticLazyL2" 16 tables_1 = some (⟨"OptimisticLazyL2", "arity", "(I)I"⟩ : MethodName) := by decide +kernel
theorem cl_law_arity : codeLk (⟨"OptimisticLazyL2", "arity", "(I)I"⟩ : MethodName) tables_1 = some (method_2_code, 1, (some .int)) := codeLk_at (i := 194) rfl (by decide +kernel)
theorem pd_law_arity : parseMethodDescriptor "(I)I" = some ⟨[.int], some .int⟩ := by decide +kernel
theorem cc_law_arity_3 : hasInit (⟨"OptimisticLazyL2", "arity", "(I)I"⟩ : MethodName).cls tables_1 = true ∧ plainName (⟨"OptimisticLazyL2", "arity", "(I)I"⟩ : MethodName).cls = true ∧ (⟨"OptimisticLazyL2", "arity", "(I)I"⟩ : MethodName).cls ≠ "java/lang/invoke/MethodHandle" ∧ (⟨"OptimisticLazyL2", "arity", "(I)I"⟩ : MethodName).cls ≠ "java/lang/invoke/VarHandle" ∧ (((3 : Nat) = 0 ∧ hasDecl (⟨"OptimisticLazyL2", "arity", "(I)I"⟩ : MethodName) tables_1 = true ∧ hasSel (⟨"OptimisticLazyL2", "arity", "(I)I"⟩ : MethodName) tables_1 = true ∧ hasInst (⟨"OptimisticLazyL2", "arity", "(I)I"⟩ : MethodName) tables_1 = true) ∨ ((3 : Nat) = 1 ∧ hasPriv (⟨"OptimisticLazyL2", "arity", "(I)I"⟩ : MethodName) tables_1 = true ∧ hasInst (⟨"OptimisticLazyL2", "arity", "(I)I"⟩ : MethodName) tables_1 = true ∧ (instLk (⟨"OptimisticLazyL2", "arity", "(I)I"⟩ : MethodName).cls tables_1).isSome = true) ∨ ((3 : Nat) = 2 ∧ (⟨"OptimisticLazyL2", "arity", "(I)I"⟩ : MethodName).name = "<init>" ∧ hasInst (⟨"OptimisticLazyL2", "arity", "(I)I"⟩ : MethodName) tables_1 = true ∧ ((some .int) : Option FieldType) = none) ∨ ((3 : Nat) = 3 ∧ hasStat (⟨"OptimisticLazyL2", "arity", "(I)I"⟩ : MethodName) tables_1 = true)) := by decide +kernel
theorem ca_w16_3 : callAt tables_1 "OptimisticLazyL2" 16 3 = some ((⟨"OptimisticLazyL2", "arity", "(I)I"⟩ : MethodName), 1, method_2_code, 1, (some .int)) := callAt_of ml_w16 cl_law_arity pd_law_arity cc_law_arity_3 rfl
theorem d_law_61 : decode code 61 = .ok (.iconst 3, 1) := by decide +kernel
theorem d_law_62 : decode code 62 = .ok (.if_icmp .ne 10, 3) := by decide +kernel
theorem d_law_72 : decode code 72 = .ok (.iload 4, 2) := by decide +kernel
theorem d_law_74 : decode code 74 = .ok (.iconst 1, 1) := by decide +kernel
theorem d_law_85 : decode code 85 = .ok (.iload 5, 2) := by decide +kernel
theorem d_law_97 : decode code 97 = .ok (.bipush (-4), 2) := by decide +kernel
theorem d_law_99 : decode code 99 = .ok (.istore 8, 2) := by decide +kernel
theorem d_law_101 : decode code 101 = .ok (.goto 6, 3) := by decide +kernel
theorem d_law_90 : decode code 90 = .ok (.iload 5, 2) := by decide +kernel
theorem d_law_92 : decode code 92 = .ok (.bipush 7, 2) := by decide +kernel
theorem d_law_104 : decode code 104 = .ok (.iconst 2, 1) := by decide +kernel
theorem d_law_105 : decode code 105 = .ok (.istore 8, 2) := by decide +kernel
theorem d_law_94 : decode code 94 = .ok (.if_icmp .le 10, 3) := by decide +kernel
theorem d_law_87 : decode code 87 = .ok (.ifCond .lt 10, 3) := by decide +kernel
theorem d_law_78 : decode code 78 = .ok (.iload 4, 2) := by decide +kernel
theorem d_law_80 : decode code 80 = .ok (.bipush 13, 2) := by decide +kernel
theorem d_law_82 : decode code 82 = .ok (.if_icmp .ne 22, 3) := by decide +kernel
theorem d_law_75 : decode code 75 = .ok (.if_icmp .eq 10, 3) := by decide +kernel
theorem d_law_65 : decode code 65 = .ok (.bipush (-3), 2) := by decide +kernel
theorem d_law_67 : decode code 67 = .ok (.istore 8, 2) := by decide +kernel
theorem d_law_69 : decode code 69 = .ok (.goto 38, 3) := by decide +kernel
theorem d_law_107 : decode code 107 = .ok (.iload 8, 2) := by decide +kernel
theorem d_law_109 : decode code 109 = .ok (.iconst 2, 1) := by decide +kernel
theorem d_law_110 : decode code 110 = .ok (.if_icmp .ne 7, 3) := by decide +kernel
theorem d_law_117 : decode code 117 = .ok (.iconst 0, 1) := by decide +kernel
theorem d_law_113 : decode code 113 = .ok (.iconst 1, 1) := by decide +kernel
theorem d_law_114 : decode code 114 = .ok (.goto 4, 3) := by decide +kernel
theorem d_law_118 : decode code 118 = .ok (.istore 9, 2) := by decide +kernel
theorem d_law_120 : decode code 120 = .ok (.iload 9, 2) := by decide +kernel
theorem d_law_122 : decode code 122 = .ok (.ifCond .eq 11, 3) := by decide +kernel
theorem d_law_133 : decode code 133 = .ok (.iconst 0, 1) := by decide +kernel
theorem d_law_125 : decode code 125 = .ok (.iload 4, 2) := by decide +kernel
theorem d_law_127 : decode code 127 = .ok (.invokestatic 16, 3) := by decide +kernel
theorem d_law_130 : decode code 130 = .ok (.goto 4, 3) := by decide +kernel
theorem d_law_134 : decode code 134 = .ok (.istore 10, 2) := by decide +kernel
theorem d_law_136 : decode code 136 = .ok (.iload 9, 2) := by decide +kernel
theorem d_law_138 : decode code 138 = .ok (.ifCond .eq 21, 3) := by decide +kernel
theorem d_law_159 : decode code 159 = .ok (.iconst 0, 1) := by decide +kernel
theorem d_law_141 : decode code 141 = .ok (.iload 4, 2) := by decide +kernel
theorem d_law_143 : decode code 143 = .ok (.iconst 2, 1) := by decide +kernel
theorem d_law_154 : decode code 154 = .ok (.iload 5, 2) := by decide +kernel
theorem d_law_156 : decode code 156 = .ok (.goto 4, 3) := by decide +kernel
theorem d_law_147 : decode code 147 = .ok (.iload 4, 2) := by decide +kernel
theorem d_law_149 : decode code 149 = .ok (.bipush 13, 2) := by decide +kernel
theorem d_law_151 : decode code 151 = .ok (.if_icmp .ne 8, 3) := by decide +kernel
theorem d_law_144 : decode code 144 = .ok (.if_icmp .le 10, 3) := by decide +kernel
theorem d_law_160 : decode code 160 = .ok (.istore 11, 2) := by decide +kernel
theorem d_law_162 : decode code 162 = .ok (.iload 7, 2) := by decide +kernel
theorem d_law_164 : decode code 164 = .ok (.iload 8, 2) := by decide +kernel
theorem d_law_166 : decode code 166 = .ok (.if_icmp .ne 148, 3) := by decide +kernel
theorem d_law_314 : decode code 314 = .ok (.iconst 0, 1) := by decide +kernel
theorem d_law_169 : decode code 169 = .ok (.aload 6, 2) := by decide +kernel
theorem d_law_315 : decode code 315 = .ok (.ireturn, 1) := by decide +kernel
theorem d_law_171 : decode code 171 = .ok (.invokevirtual 22, 3) := by decide +kernel
theorem ml_w22 : methodLk "OptimisticLazyL2" 22 tables_1 = some (⟨"OptimisticLazy", "depth", "()I"⟩ : MethodName) := by decide +kernel
theorem cl_depth : codeLk (⟨"OptimisticLazy", "depth", "()I"⟩ : MethodName) tables_1 = some (prog_1_method_5_code, 1, (some .int)) := codeLk_at (i := 199) rfl (by decide +kernel)
theorem pd_depth : parseMethodDescriptor "()I" = some ⟨[], some .int⟩ := by decide +kernel
theorem cc_depth_0 : hasInit (⟨"OptimisticLazy", "depth", "()I"⟩ : MethodName).cls tables_1 = true ∧ plainName (⟨"OptimisticLazy", "depth", "()I"⟩ : MethodName).cls = true ∧ (⟨"OptimisticLazy", "depth", "()I"⟩ : MethodName).cls ≠ "java/lang/invoke/MethodHandle" ∧ (⟨"OptimisticLazy", "depth", "()I"⟩ : MethodName).cls ≠ "java/lang/invoke/VarHandle" ∧ (((0 : Nat) = 0 ∧ hasDecl (⟨"OptimisticLazy", "depth", "()I"⟩ : MethodName) tables_1 = true ∧ hasSel (⟨"OptimisticLazy", "depth", "()I"⟩ : MethodName) tables_1 = true ∧ hasInst (⟨"OptimisticLazy", "depth", "()I"⟩ : MethodName) tables_1 = true) ∨ ((0 : Nat) = 1 ∧ hasPriv (⟨"OptimisticLazy", "depth", "()I"⟩ : MethodName) tables_1 = true ∧ hasInst (⟨"OptimisticLazy", "depth", "()I"⟩ : MethodName) tables_1 = true ∧ (instLk (⟨"OptimisticLazy", "depth", "()I"⟩ : MethodName).cls tables_1).isSome = true) ∨ ((0 : Nat) = 2 ∧ (⟨"OptimisticLazy", "depth", "()I"⟩ : MethodName).name = "<init>" ∧ hasInst (⟨"OptimisticLazy", "depth", "()I"⟩ : MethodName) tables_1 = true ∧ ((some .int) : Option FieldType) = none) ∨ ((0 : Nat) = 3 ∧ hasStat (⟨"OptimisticLazy", "depth", "()I"⟩ : MethodName) tables_1 = true)) := by decide +kernel
theorem ca_w22_0 : callAt tables_1 "OptimisticLazyL2" 22 0 = some ((⟨"OptimisticLazy", "depth", "()I"⟩ : MethodName), 0, prog_1_method_5_code, 1, (some .int)) := callAt_of ml_w22 cl_depth pd_depth cc_depth_0 rfl
theorem np_depth : hasPriv (⟨"OptimisticLazy", "depth", "()I"⟩ : MethodName) tables_1 = false := by decide +kernel
theorem ca_w22_0n : callAt tables_1 "OptimisticLazyL2" 22 1 = none := callAt_pub ml_w22 np_depth
theorem d_law_174 : decode code 174 = .ok (.iload 9, 2) := by decide +kernel
theorem d_law_176 : decode code 176 = .ok (.ifCond .eq 10, 3) := by decide +kernel
theorem d_law_186 : decode code 186 = .ok (.iconst 2, 1) := by decide +kernel
theorem d_law_179 : decode code 179 = .ok (.iconst 3, 1) := by decide +kernel
theorem d_law_180 : decode code 180 = .ok (.iload 10, 2) := by decide +kernel
theorem d_law_182 : decode code 182 = .ok (.isub, 1) := by decide +kernel
theorem d_law_183 : decode code 183 = .ok (.goto 4, 3) := by decide +kernel
theorem d_law_187 : decode code 187 = .ok (.if_icmp .ne 127, 3) := by decide +kernel
theorem d_law_190 : decode code 190 = .ok (.aload 6, 2) := by decide +kernel
theorem d_law_192 : decode code 192 = .ok (.invokevirtual 26, 3) := by decide +kernel
theorem ml_w26 : methodLk "OptimisticLazyL2" 26 tables_1 = some (⟨"OptimisticLazy", "nodeCount", "()I"⟩ : MethodName) := by decide +kernel
theorem cl_nodeCount : codeLk (⟨"OptimisticLazy", "nodeCount", "()I"⟩ : MethodName) tables_1 = some (prog_1_method_6_code, 1, (some .int)) := codeLk_at (i := 204) rfl (by decide +kernel)
theorem pd_nodeCount : parseMethodDescriptor "()I" = some ⟨[], some .int⟩ := by decide +kernel
theorem cc_nodeCount_0 : hasInit (⟨"OptimisticLazy", "nodeCount", "()I"⟩ : MethodName).cls tables_1 = true ∧ plainName (⟨"OptimisticLazy", "nodeCount", "()I"⟩ : MethodName).cls = true ∧ (⟨"OptimisticLazy", "nodeCount", "()I"⟩ : MethodName).cls ≠ "java/lang/invoke/MethodHandle" ∧ (⟨"OptimisticLazy", "nodeCount", "()I"⟩ : MethodName).cls ≠ "java/lang/invoke/VarHandle" ∧ (((0 : Nat) = 0 ∧ hasDecl (⟨"OptimisticLazy", "nodeCount", "()I"⟩ : MethodName) tables_1 = true ∧ hasSel (⟨"OptimisticLazy", "nodeCount", "()I"⟩ : MethodName) tables_1 = true ∧ hasInst (⟨"OptimisticLazy", "nodeCount", "()I"⟩ : MethodName) tables_1 = true) ∨ ((0 : Nat) = 1 ∧ hasPriv (⟨"OptimisticLazy", "nodeCount", "()I"⟩ : MethodName) tables_1 = true ∧ hasInst (⟨"OptimisticLazy", "nodeCount", "()I"⟩ : MethodName) tables_1 = true ∧ (instLk (⟨"OptimisticLazy", "nodeCount", "()I"⟩ : MethodName).cls tables_1).isSome = true) ∨ ((0 : Nat) = 2 ∧ (⟨"OptimisticLazy", "nodeCount", "()I"⟩ : MethodName).name = "<init>" ∧ hasInst (⟨"OptimisticLazy", "nodeCount", "()I"⟩ : MethodName) tables_1 = true ∧ ((some .int) : Option FieldType) = none) ∨ ((0 : Nat) = 3 ∧ hasStat (⟨"OptimisticLazy", "nodeCount", "()I"⟩ : MethodName) tables_1 = true)) := by decide +kernel
theorem ca_w26_0 : callAt tables_1 "OptimisticLazyL2" 26 0 = some ((⟨"OptimisticLazy", "nodeCount", "()I"⟩ : MethodName), 0, prog_1_method_6_code, 1, (some .int)) := callAt_of ml_w26 cl_nodeCount pd_nodeCount cc_nodeCount_0 rfl
theorem np_nodeCount : hasPriv (⟨"OptimisticLazy", "nodeCount", "()I"⟩ : MethodName) tables_1 = false := by decide +kernel
theorem ca_w26_0n : callAt tables_1 "OptimisticLazyL2" 26 1 = none := callAt_pub ml_w26 np_nodeCount
theorem d_law_195 : decode code 195 = .ok (.iload 9, 2) := by decide +kernel
theorem d_law_197 : decode code 197 = .ok (.ifCond .eq 7, 3) := by decide +kernel
theorem d_law_204 : decode code 204 = .ok (.iconst 2, 1) := by decide +kernel
theorem d_law_200 : decode code 200 = .ok (.iconst 3, 1) := by decide +kernel
theorem d_law_201 : decode code 201 = .ok (.goto 4, 3) := by decide +kernel
theorem d_law_205 : decode code 205 = .ok (.if_icmp .ne 109, 3) := by decide +kernel
theorem d_law_208 : decode code 208 = .ok (.aload 6, 2) := by decide +kernel
theorem d_law_210 : decode code 210 = .ok (.iconst 2, 1) := by decide +kernel
theorem d_law_211 : decode code 211 = .ok (.invokevirtual 29, 3) := by decide +kernel
theorem ml_w29 : methodLk "OptimisticLazyL2" 29 tables_1 = some (⟨"OptimisticLazy", "nodeKind", "(I)I"⟩ : MethodName) := by decide +kernel
theorem cl_nodeKind : codeLk (⟨"OptimisticLazy", "nodeKind", "(I)I"⟩ : MethodName) tables_1 = some (prog_1_method_8_code, 2, (some .int)) := codeLk_at (i := 209) rfl (by decide +kernel)
theorem pd_nodeKind : parseMethodDescriptor "(I)I" = some ⟨[.int], some .int⟩ := by decide +kernel
theorem cc_nodeKind_0 : hasInit (⟨"OptimisticLazy", "nodeKind", "(I)I"⟩ : MethodName).cls tables_1 = true ∧ plainName (⟨"OptimisticLazy", "nodeKind", "(I)I"⟩ : MethodName).cls = true ∧ (⟨"OptimisticLazy", "nodeKind", "(I)I"⟩ : MethodName).cls ≠ "java/lang/invoke/MethodHandle" ∧ (⟨"OptimisticLazy", "nodeKind", "(I)I"⟩ : MethodName).cls ≠ "java/lang/invoke/VarHandle" ∧ (((0 : Nat) = 0 ∧ hasDecl (⟨"OptimisticLazy", "nodeKind", "(I)I"⟩ : MethodName) tables_1 = true ∧ hasSel (⟨"OptimisticLazy", "nodeKind", "(I)I"⟩ : MethodName) tables_1 = true ∧ hasInst (⟨"OptimisticLazy", "nodeKind", "(I)I"⟩ : MethodName) tables_1 = true) ∨ ((0 : Nat) = 1 ∧ hasPriv (⟨"OptimisticLazy", "nodeKind", "(I)I"⟩ : MethodName) tables_1 = true ∧ hasInst (⟨"OptimisticLazy", "nodeKind", "(I)I"⟩ : MethodName) tables_1 = true ∧ (instLk (⟨"OptimisticLazy", "nodeKind", "(I)I"⟩ : MethodName).cls tables_1).isSome = true) ∨ ((0 : Nat) = 2 ∧ (⟨"OptimisticLazy", "nodeKind", "(I)I"⟩ : MethodName).name = "<init>" ∧ hasInst (⟨"OptimisticLazy", "nodeKind", "(I)I"⟩ : MethodName) tables_1 = true ∧ ((some .int) : Option FieldType) = none) ∨ ((0 : Nat) = 3 ∧ hasStat (⟨"OptimisticLazy", "nodeKind", "(I)I"⟩ : MethodName) tables_1 = true)) := by decide +kernel
theorem ca_w29_0 : callAt tables_1 "OptimisticLazyL2" 29 0 = some ((⟨"OptimisticLazy", "nodeKind", "(I)I"⟩ : MethodName), 1, prog_1_method_8_code, 2, (some .int)) := callAt_of ml_w29 cl_nodeKind pd_nodeKind cc_nodeKind_0 rfl
theorem np_nodeKind : hasPriv (⟨"OptimisticLazy", "nodeKind", "(I)I"⟩ : MethodName) tables_1 = false := by decide +kernel
theorem ca_w29_0n : callAt tables_1 "OptimisticLazyL2" 29 1 = none := callAt_pub ml_w29 np_nodeKind
theorem d_law_214 : decode code 214 = .ok (.iload 9, 2) := by decide +kernel
theorem d_law_216 : decode code 216 = .ok (.ifCond .eq 8, 3) := by decide +kernel
theorem d_law_224 : decode code 224 = .ok (.iconst (-1), 1) := by decide +kernel
theorem d_law_219 : decode code 219 = .ok (.iload 4, 2) := by decide +kernel
theorem d_law_221 : decode code 221 = .ok (.goto 4, 3) := by decide +kernel
theorem d_law_225 : decode code 225 = .ok (.if_icmp .ne 89, 3) := by decide +kernel
theorem d_law_228 : decode code 228 = .ok (.aload 6, 2) := by decide +kernel
theorem d_law_230 : decode code 230 = .ok (.iconst 2, 1) := by decide +kernel
theorem d_law_231 : decode code 231 = .ok (.invokevirtual 32, 3) := by decide +kernel
theorem ml_w32 : methodLk "OptimisticLazyL2" 32 tables_1 = some (⟨"OptimisticLazy", "nodeArg", "(I)I"⟩ : MethodName) := by decide +kernel
theorem cl_nodeArg : codeLk (⟨"OptimisticLazy", "nodeArg", "(I)I"⟩ : MethodName) tables_1 = some (prog_1_method_9_code, 2, (some .int)) := codeLk_at (i := 218) rfl (by decide +kernel)
theorem pd_nodeArg : parseMethodDescriptor "(I)I" = some ⟨[.int], some .int⟩ := by decide +kernel
theorem cc_nodeArg_0 : hasInit (⟨"OptimisticLazy", "nodeArg", "(I)I"⟩ : MethodName).cls tables_1 = true ∧ plainName (⟨"OptimisticLazy", "nodeArg", "(I)I"⟩ : MethodName).cls = true ∧ (⟨"OptimisticLazy", "nodeArg", "(I)I"⟩ : MethodName).cls ≠ "java/lang/invoke/MethodHandle" ∧ (⟨"OptimisticLazy", "nodeArg", "(I)I"⟩ : MethodName).cls ≠ "java/lang/invoke/VarHandle" ∧ (((0 : Nat) = 0 ∧ hasDecl (⟨"OptimisticLazy", "nodeArg", "(I)I"⟩ : MethodName) tables_1 = true ∧ hasSel (⟨"OptimisticLazy", "nodeArg", "(I)I"⟩ : MethodName) tables_1 = true ∧ hasInst (⟨"OptimisticLazy", "nodeArg", "(I)I"⟩ : MethodName) tables_1 = true) ∨ ((0 : Nat) = 1 ∧ hasPriv (⟨"OptimisticLazy", "nodeArg", "(I)I"⟩ : MethodName) tables_1 = true ∧ hasInst (⟨"OptimisticLazy", "nodeArg", "(I)I"⟩ : MethodName) tables_1 = true ∧ (instLk (⟨"OptimisticLazy", "nodeArg", "(I)I"⟩ : MethodName).cls tables_1).isSome = true) ∨ ((0 : Nat) = 2 ∧ (⟨"OptimisticLazy", "nodeArg", "(I)I"⟩ : MethodName).name = "<init>" ∧ hasInst (⟨"OptimisticLazy", "nodeArg", "(I)I"⟩ : MethodName) tables_1 = true ∧ ((some .int) : Option FieldType) = none) ∨ ((0 : Nat) = 3 ∧ hasStat (⟨"OptimisticLazy", "nodeArg", "(I)I"⟩ : MethodName) tables_1 = true)) := by decide +kernel
theorem ca_w32_0 : callAt tables_1 "OptimisticLazyL2" 32 0 = some ((⟨"OptimisticLazy", "nodeArg", "(I)I"⟩ : MethodName), 1, prog_1_method_9_code, 2, (some .int)) := callAt_of ml_w32 cl_nodeArg pd_nodeArg cc_nodeArg_0 rfl
theorem np_nodeArg : hasPriv (⟨"OptimisticLazy", "nodeArg", "(I)I"⟩ : MethodName) tables_1 = false := by decide +kernel
theorem ca_w32_0n : callAt tables_1 "OptimisticLazyL2" 32 1 = none := callAt_pub ml_w32 np_nodeArg
theorem d_law_234 : decode code 234 = .ok (.iload 11, 2) := by decide +kernel
theorem d_law_236 : decode code 236 = .ok (.if_icmp .ne 78, 3) := by decide +kernel
theorem d_law_239 : decode code 239 = .ok (.aload 6, 2) := by decide +kernel
theorem d_law_241 : decode code 241 = .ok (.iconst 2, 1) := by decide +kernel
theorem d_law_242 : decode code 242 = .ok (.iconst 0, 1) := by decide +kernel
theorem d_law_243 : decode code 243 = .ok (.invokevirtual 35, 3) := by decide +kernel
theorem ml_w35 : methodLk "OptimisticLazyL2" 35 tables_1 = some (⟨"OptimisticLazy", "child", "(II)I"⟩ : MethodName) := by decide +kernel
theorem cl_child : codeLk (⟨"OptimisticLazy", "child", "(II)I"⟩ : MethodName) tables_1 = some (prog_1_method_10_code, 3, (some .int)) := codeLk_at (i := 223) rfl (by decide +kernel)
theorem pd_child : parseMethodDescriptor "(II)I" = some ⟨[.int, .int], some .int⟩ := by decide +kernel
theorem cc_child_0 : hasInit (⟨"OptimisticLazy", "child", "(II)I"⟩ : MethodName).cls tables_1 = true ∧ plainName (⟨"OptimisticLazy", "child", "(II)I"⟩ : MethodName).cls = true ∧ (⟨"OptimisticLazy", "child", "(II)I"⟩ : MethodName).cls ≠ "java/lang/invoke/MethodHandle" ∧ (⟨"OptimisticLazy", "child", "(II)I"⟩ : MethodName).cls ≠ "java/lang/invoke/VarHandle" ∧ (((0 : Nat) = 0 ∧ hasDecl (⟨"OptimisticLazy", "child", "(II)I"⟩ : MethodName) tables_1 = true ∧ hasSel (⟨"OptimisticLazy", "child", "(II)I"⟩ : MethodName) tables_1 = true ∧ hasInst (⟨"OptimisticLazy", "child", "(II)I"⟩ : MethodName) tables_1 = true) ∨ ((0 : Nat) = 1 ∧ hasPriv (⟨"OptimisticLazy", "child", "(II)I"⟩ : MethodName) tables_1 = true ∧ hasInst (⟨"OptimisticLazy", "child", "(II)I"⟩ : MethodName) tables_1 = true ∧ (instLk (⟨"OptimisticLazy", "child", "(II)I"⟩ : MethodName).cls tables_1).isSome = true) ∨ ((0 : Nat) = 2 ∧ (⟨"OptimisticLazy", "child", "(II)I"⟩ : MethodName).name = "<init>" ∧ hasInst (⟨"OptimisticLazy", "child", "(II)I"⟩ : MethodName) tables_1 = true ∧ ((some .int) : Option FieldType) = none) ∨ ((0 : Nat) = 3 ∧ hasStat (⟨"OptimisticLazy", "child", "(II)I"⟩ : MethodName) tables_1 = true)) := by decide +kernel
theorem ca_w35_0 : callAt tables_1 "OptimisticLazyL2" 35 0 = some ((⟨"OptimisticLazy", "child", "(II)I"⟩ : MethodName), 2, prog_1_method_10_code, 3, (some .int)) := callAt_of ml_w35 cl_child pd_child cc_child_0 rfl
theorem np_child : hasPriv (⟨"OptimisticLazy", "child", "(II)I"⟩ : MethodName) tables_1 = false := by decide +kernel
theorem ca_w35_0n : callAt tables_1 "OptimisticLazyL2" 35 1 = none := callAt_pub ml_w35 np_child
theorem d_law_246 : decode code 246 = .ok (.iload 9, 2) := by decide +kernel
theorem d_law_248 : decode code 248 = .ok (.ifCond .eq 13, 3) := by decide +kernel
theorem d_law_261 : decode code 261 = .ok (.iconst (-1), 1) := by decide +kernel
theorem d_law_251 : decode code 251 = .ok (.iload 10, 2) := by decide +kernel
theorem d_law_253 : decode code 253 = .ok (.iconst 2, 1) := by decide +kernel
theorem d_law_257 : decode code 257 = .ok (.iconst 0, 1) := by decide +kernel
theorem d_law_258 : decode code 258 = .ok (.goto 4, 3) := by decide +kernel
theorem d_law_254 : decode code 254 = .ok (.if_icmp .ne 7, 3) := by decide +kernel
theorem d_law_262 : decode code 262 = .ok (.if_icmp .ne 52, 3) := by decide +kernel
theorem d_law_265 : decode code 265 = .ok (.aload 6, 2) := by decide +kernel
theorem d_law_267 : decode code 267 = .ok (.iconst 2, 1) := by decide +kernel
theorem d_law_268 : decode code 268 = .ok (.iconst 1, 1) := by decide +kernel
theorem d_law_269 : decode code 269 = .ok (.invokevirtual 35, 3) := by decide +kernel
theorem d_law_272 : decode code 272 = .ok (.iload 9, 2) := by decide +kernel
theorem d_law_274 : decode code 274 = .ok (.ifCond .eq 13, 3) := by decide +kernel
theorem d_law_287 : decode code 287 = .ok (.iconst (-1), 1) := by decide +kernel
theorem d_law_277 : decode code 277 = .ok (.iload 10, 2) := by decide +kernel
theorem d_law_279 : decode code 279 = .ok (.iconst 2, 1) := by decide +kernel
theorem d_law_283 : decode code 283 = .ok (.iconst 1, 1) := by decide +kernel
theorem d_law_284 : decode code 284 = .ok (.goto 4, 3) := by decide +kernel
theorem d_law_280 : decode code 280 = .ok (.if_icmp .ne 7, 3) := by decide +kernel
theorem d_law_288 : decode code 288 = .ok (.if_icmp .ne 26, 3) := by decide +kernel
theorem d_law_291 : decode code 291 = .ok (.aload 6, 2) := by decide +kernel
theorem d_law_293 : decode code 293 = .ok (.iconst 0, 1) := by decide +kernel
theorem d_law_294 : decode code 294 = .ok (.invokevirtual 38, 3) := by decide +kernel
theorem ml_w38 : methodLk "OptimisticLazyL2" 38 tables_1 = some (⟨"OptimisticLazy", "top", "(I)I"⟩ : MethodName) := by decide +kernel
theorem cl_top : codeLk (⟨"OptimisticLazy", "top", "(I)I"⟩ : MethodName) tables_1 = some (prog_1_method_7_code, 3, (some .int)) := codeLk_at (i := 228) rfl (by decide +kernel)
theorem pd_top : parseMethodDescriptor "(I)I" = some ⟨[.int], some .int⟩ := by decide +kernel
theorem cc_top_0 : hasInit (⟨"OptimisticLazy", "top", "(I)I"⟩ : MethodName).cls tables_1 = true ∧ plainName (⟨"OptimisticLazy", "top", "(I)I"⟩ : MethodName).cls = true ∧ (⟨"OptimisticLazy", "top", "(I)I"⟩ : MethodName).cls ≠ "java/lang/invoke/MethodHandle" ∧ (⟨"OptimisticLazy", "top", "(I)I"⟩ : MethodName).cls ≠ "java/lang/invoke/VarHandle" ∧ (((0 : Nat) = 0 ∧ hasDecl (⟨"OptimisticLazy", "top", "(I)I"⟩ : MethodName) tables_1 = true ∧ hasSel (⟨"OptimisticLazy", "top", "(I)I"⟩ : MethodName) tables_1 = true ∧ hasInst (⟨"OptimisticLazy", "top", "(I)I"⟩ : MethodName) tables_1 = true) ∨ ((0 : Nat) = 1 ∧ hasPriv (⟨"OptimisticLazy", "top", "(I)I"⟩ : MethodName) tables_1 = true ∧ hasInst (⟨"OptimisticLazy", "top", "(I)I"⟩ : MethodName) tables_1 = true ∧ (instLk (⟨"OptimisticLazy", "top", "(I)I"⟩ : MethodName).cls tables_1).isSome = true) ∨ ((0 : Nat) = 2 ∧ (⟨"OptimisticLazy", "top", "(I)I"⟩ : MethodName).name = "<init>" ∧ hasInst (⟨"OptimisticLazy", "top", "(I)I"⟩ : MethodName) tables_1 = true ∧ ((some .int) : Option FieldType) = none) ∨ ((0 : Nat) = 3 ∧ hasStat (⟨"OptimisticLazy", "top", "(I)I"⟩ : MethodName) tables_1 = true)) := by decide +kernel
theorem ca_w38_0 : callAt tables_1 "OptimisticLazyL2" 38 0 = some ((⟨"OptimisticLazy", "top", "(I)I"⟩ : MethodName), 1, prog_1_method_7_code, 3, (some .int)) := callAt_of ml_w38 cl_top pd_top cc_top_0 rfl
theorem np_top : hasPriv (⟨"OptimisticLazy", "top", "(I)I"⟩ : MethodName) tables_1 = false := by decide +kernel
theorem ca_w38_0n : callAt tables_1 "OptimisticLazyL2" 38 1 = none := callAt_pub ml_w38 np_top
theorem d_law_297 : decode code 297 = .ok (.iload 9, 2) := by decide +kernel
theorem d_law_299 : decode code 299 = .ok (.ifCond .eq 7, 3) := by decide +kernel
theorem d_law_306 : decode code 306 = .ok (.iconst 1, 1) := by decide +kernel
theorem d_law_302 : decode code 302 = .ok (.iconst 2, 1) := by decide +kernel
theorem d_law_303 : decode code 303 = .ok (.goto 4, 3) := by decide +kernel
theorem d_law_307 : decode code 307 = .ok (.if_icmp .ne 7, 3) := by decide +kernel
theorem d_law_310 : decode code 310 = .ok (.iconst 1, 1) := by decide +kernel
theorem d_law_311 : decode code 311 = .ok (.goto 4, 3) := by decide +kernel
set_option maxRecDepth 65536 in
set_option maxHeartbeats 4000000 in
theorem L_clamp_0 {x1 x2 x3 : Int32} {mi : Nat → Nat → Int32} {ml : Nat → Nat → Int64} {Q : Option Value → EMem → Prop}
    (h1 : ∀ v1 : Int32, v1 = (if x1 < x2 then x2 else (if x3 < x1 then x3 else x1)) → Q (some (.int v1)) (LL1, mi, ml, RR1)) :
    W_clamp 0 [.val (.ref 0), .val (.int x1), .val (.int x2), .val (.int x3)] [] (LL1, mi, ml, RR1) Q := by
  refine Wp.p (pc' := 1) d_clamp_0 rfl rfl ?_
  refine Wp.p (pc' := 2) d_clamp_1 rfl rfl ?_
  obtain ⟨v1, e1⟩ : ∃ z : Int32, z = (if x1 < x2 then x2 else (if x3 < x1 then x3 else x1)) := ⟨_, rfl⟩
  suffices K : Q (some (.int v1)) (LL1, mi, ml, RR1) by
    refine Wp.icmp_ge d_clamp_2 rfl (fun q0 => ?_) (fun q0 => ?_)
    ·
      refine Wp.p (pc' := 8) d_clamp_7 rfl rfl ?_
      refine Wp.p (pc' := 9) d_clamp_8 rfl rfl ?_
      refine Wp.icmp_le d_clamp_9 rfl (fun q1 => ?_) (fun q1 => ?_)
      ·
        refine Wp.p (pc' := 15) d_clamp_14 rfl rfl ?_
        refine Wp.retI d_clamp_15 ?_
        rw [if_neg q0, if_neg q1] at e1; subst e1
        exact K
      ·
        refine Wp.p (pc' := 13) d_clamp_12 rfl rfl ?_
        refine Wp.retI d_clamp_13 ?_
        rw [if_neg q0, if_pos q1] at e1; subst e1
        exact K
    ·
      refine Wp.p (pc' := 6) d_clamp_5 rfl rfl ?_
      refine Wp.retI d_clamp_6 ?_
      rw [if_pos q0] at e1; subst e1
      exact K
  exact (h1 v1 e1)
set_option maxRecDepth 65536 in
set_option maxHeartbeats 4000000 in
theorem L_law_arity_0 {x0 : Int32} {mi : Nat → Nat → Int32} {ml : Nat → Nat → Int64} {Q : Option Value → EMem → Prop}
    (h1 : ∀ v1 : Int32, v1 = (if (3 : Int32) < x0 then (if x0 = (12 : Int32) then (3 : Int32) else (2 : Int32)) else (0 : Int32)) → Q (some (.int v1)) (LL1, mi, ml, RR1)) :
    W_law_arity 0 [.val (.int x0)] [] (LL1, mi, ml, RR1) Q := by
  refine Wp.p (pc' := 1) d_law_arity_0 rfl rfl ?_
  refine Wp.iconst (3 : Int32) d_law_arity_1 (by decide) ?_
  obtain ⟨v1, e1⟩ : ∃ z : Int32, z = (if (3 : Int32) < x0 then (if x0 = (12 : Int32) then (3 : Int32) else (2 : Int32)) else (0 : Int32)) := ⟨_, rfl⟩
  suffices K : Q (some (.int v1)) (LL1, mi, ml, RR1) by
    refine Wp.icmp_gt d_law_arity_2 rfl (fun q0 => ?_) (fun q0 => ?_)
    ·
      refine Wp.p (pc' := 8) d_law_arity_7 rfl rfl ?_
      refine Wp.bipush (12 : Int32) d_law_arity_8 (by decide) ?_
      refine Wp.icmp_ne d_law_arity_10 rfl (fun q1 => ?_) (fun q1 => ?_)
      ·
        refine Wp.iconst (2 : Int32) d_law_arity_15 (by decide) ?_
        refine Wp.retI d_law_arity_16 ?_
        rw [if_pos q0, if_neg q1] at e1; subst e1
        exact K
      ·
        refine Wp.iconst (3 : Int32) d_law_arity_13 (by decide) ?_
        refine Wp.retI d_law_arity_14 ?_
        rw [if_pos q0, if_pos q1] at e1; subst e1
        exact K
    ·
      refine Wp.iconst (0 : Int32) d_law_arity_5 (by decide) ?_
      refine Wp.retI d_law_arity_6 ?_
      rw [if_neg q0] at e1; subst e1
      exact K
  exact (h1 v1 e1)
set_option maxRecDepth 65536 in
set_option maxHeartbeats 4000000 in
theorem L_arity_0 {x1 : Int32} {mi : Nat → Nat → Int32} {ml : Nat → Nat → Int64} {Q : Option Value → EMem → Prop}
    (h1 : ∀ v1 : Int32, v1 = (if x1 = (12 : Int32) then (3 : Int32) else (if x1 < (4 : Int32) then (0 : Int32) else (if (13 : Int32) < x1 then (0 : Int32) else (2 : Int32)))) → Q (some (.int v1)) (LL1, mi, ml, RR1)) :
    W_arity 0 [.val (.ref 0), .val (.int x1)] [] (LL1, mi, ml, RR1) Q := by
  refine Wp.p (pc' := 1) d_arity_0 rfl rfl ?_
  refine Wp.bipush (12 : Int32) d_arity_1 (by decide) ?_
  obtain ⟨v1, e1⟩ : ∃ z : Int32, z = (if x1 = (12 : Int32) then (3 : Int32) else (if x1 < (4 : Int32) then (0 : Int32) else (if (13 : Int32) < x1 then (0 : Int32) else (2 : Int32)))) := ⟨_, rfl⟩
  suffices K : Q (some (.int v1)) (LL1, mi, ml, RR1) by
    refine Wp.icmp_ne d_arity_3 rfl (fun q0 => ?_) (fun q0 => ?_)
    ·
      refine Wp.p (pc' := 9) d_arity_8 rfl rfl ?_
      refine Wp.iconst (4 : Int32) d_arity_9 (by decide) ?_
      refine Wp.icmp_lt d_arity_10 rfl (fun q1 => ?_) (fun q1 => ?_)
      ·
        refine Wp.iconst (0 : Int32) d_arity_21 (by decide) ?_
        refine Wp.retI d_arity_22 ?_
        rw [if_neg q0, if_pos q1] at e1; subst e1
        exact K
      ·
        refine Wp.p (pc' := 14) d_arity_13 rfl rfl ?_
        refine Wp.bipush (13 : Int32) d_arity_14 (by decide) ?_
        refine Wp.icmp_gt d_arity_16 rfl (fun q2 => ?_) (fun q2 => ?_)
        ·
          refine Wp.iconst (0 : Int32) d_arity_21 (by decide) ?_
          refine Wp.retI d_arity_22 ?_
          rw [if_neg q0, if_neg q1, if_pos q2] at e1; subst e1
          exact K
        ·
          refine Wp.iconst (2 : Int32) d_arity_19 (by decide) ?_
          refine Wp.retI d_arity_20 ?_
          rw [if_neg q0, if_neg q1, if_neg q2] at e1; subst e1
          exact K
    ·
      refine Wp.iconst (3 : Int32) d_arity_6 (by decide) ?_
      refine Wp.retI d_arity_7 ?_
      rw [if_pos q0] at e1; subst e1
      exact K
  exact (h1 v1 e1)
set_option maxRecDepth 65536 in
set_option maxHeartbeats 4000000 in
theorem L_storesArg_0 {x1 : Int32} {mi : Nat → Nat → Int32} {ml : Nat → Nat → Int64} {Q : Option Value → EMem → Prop}
    (h1 : ∀ v1 : Int32, v1 = (if x1 = (0 : Int32) then (1 : Int32) else (if x1 = (1 : Int32) then (1 : Int32) else (if x1 = (2 : Int32) then (1 : Int32) else (if x1 = (13 : Int32) then (1 : Int32) else (0 : Int32))))) → Q (some (.int (v1 &&& 1))) (LL1, mi, ml, RR1)) :
    W_storesArg 0 [.val (.ref 0), .val (.int x1)] [] (LL1, mi, ml, RR1) Q := by
  refine Wp.p (pc' := 1) d_storesArg_0 rfl rfl ?_
  obtain ⟨v1, e1⟩ : ∃ z : Int32, z = (if x1 = (0 : Int32) then (1 : Int32) else (if x1 = (1 : Int32) then (1 : Int32) else (if x1 = (2 : Int32) then (1 : Int32) else (if x1 = (13 : Int32) then (1 : Int32) else (0 : Int32))))) := ⟨_, rfl⟩
  suffices K : W_storesArg 25 [.val (.ref 0), .val (.int x1)] [.int v1] (LL1, mi, ml, RR1) Q by
    refine Wp.if_eq d_storesArg_1 rfl (fun q0 => ?_) (fun q0 => ?_)
    ·
      refine Wp.iconst (1 : Int32) d_storesArg_20 (by decide) ?_
      refine Wp.p (pc' := 25) d_storesArg_21 rfl rfl ?_
      rw [if_pos q0] at e1; subst e1
      exact K
    ·
      refine Wp.p (pc' := 5) d_storesArg_4 rfl rfl ?_
      refine Wp.iconst (1 : Int32) d_storesArg_5 (by decide) ?_
      refine Wp.icmp_eq d_storesArg_6 rfl (fun q1 => ?_) (fun q1 => ?_)
      ·
        refine Wp.iconst (1 : Int32) d_storesArg_20 (by decide) ?_
        refine Wp.p (pc' := 25) d_storesArg_21 rfl rfl ?_
        rw [if_neg q0, if_pos q1] at e1; subst e1
        exact K
      ·
        refine Wp.p (pc' := 10) d_storesArg_9 rfl rfl ?_
        refine Wp.iconst (2 : Int32) d_storesArg_10 (by decide) ?_
        refine Wp.icmp_eq d_storesArg_11 rfl (fun q2 => ?_) (fun q2 => ?_)
        ·
          refine Wp.iconst (1 : Int32) d_storesArg_20 (by decide) ?_
          refine Wp.p (pc' := 25) d_storesArg_21 rfl rfl ?_
          rw [if_neg q0, if_neg q1, if_pos q2] at e1; subst e1
          exact K
        ·
          refine Wp.p (pc' := 15) d_storesArg_14 rfl rfl ?_
          refine Wp.bipush (13 : Int32) d_storesArg_15 (by decide) ?_
          refine Wp.icmp_ne d_storesArg_17 rfl (fun q3 => ?_) (fun q3 => ?_)
          ·
            refine Wp.iconst (0 : Int32) d_storesArg_24 (by decide) ?_
            rw [if_neg q0, if_neg q1, if_neg q2, if_neg q3] at e1; subst e1
            exact K
          ·
            refine Wp.iconst (1 : Int32) d_storesArg_20 (by decide) ?_
            refine Wp.p (pc' := 25) d_storesArg_21 rfl rfl ?_
            rw [if_neg q0, if_neg q1, if_neg q2, if_pos q3] at e1; subst e1
            exact K
  refine Wp.retZ (v1 &&& 1) d_storesArg_25 (by rfl) ?_
  exact (h1 v1 e1)
set_option maxRecDepth 65536 in
set_option maxHeartbeats 4000000 in
theorem L_isNode_0 {x1 : Int32} {mi : Nat → Nat → Int32} {ml : Nat → Nat → Int64} {Q : Option Value → EMem → Prop}
    (h1 : ∀ v1 : Int32, v1 = (if x1 < (0 : Int32) then (0 : Int32) else (if x1 < (mi 0 119) then (if x1 < (64 : Int32) then (1 : Int32) else (0 : Int32)) else (0 : Int32))) → Q (some (.int (v1 &&& 1))) (LL1, mi, ml, RR1)) :
    W_isNode 0 [.val (.ref 0), .val (.int x1)] [] (LL1, mi, ml, RR1) Q := by
  refine Wp.p (pc' := 1) d_isNode_0 rfl rfl ?_
  obtain ⟨v1, e1⟩ : ∃ z : Int32, z = (if x1 < (0 : Int32) then (0 : Int32) else (if x1 < (mi 0 119) then (if x1 < (64 : Int32) then (1 : Int32) else (0 : Int32)) else (0 : Int32))) := ⟨_, rfl⟩
  suffices K : W_isNode 23 [.val (.ref 0), .val (.int x1)] [.int v1] (LL1, mi, ml, RR1) Q by
    refine Wp.if_lt d_isNode_1 rfl (fun q0 => ?_) (fun q0 => ?_)
    ·
      refine Wp.iconst (0 : Int32) d_isNode_22 (by decide) ?_
      rw [if_pos q0] at e1; subst e1
      exact K
    ·
      refine Wp.p (pc' := 5) d_isNode_4 rfl rfl ?_
      refine Wp.p (pc' := 6) d_isNode_5 rfl rfl ?_
      refine Wp.getI (mi 0 119) d_isNode_6 fa_c168 rfl rfl ?_
      refine Wp.icmp_ge d_isNode_9 rfl (fun q1 => ?_) (fun q1 => ?_)
      ·
        refine Wp.iconst (0 : Int32) d_isNode_22 (by decide) ?_
        rw [if_neg q0, if_neg q1] at e1; subst e1
        exact K
      ·
        refine Wp.p (pc' := 13) d_isNode_12 rfl rfl ?_
        refine Wp.bipush (64 : Int32) d_isNode_13 (by decide) ?_
        refine Wp.icmp_ge d_isNode_15 rfl (fun q2 => ?_) (fun q2 => ?_)
        ·
          refine Wp.iconst (0 : Int32) d_isNode_22 (by decide) ?_
          rw [if_neg q0, if_pos q1, if_neg q2] at e1; subst e1
          exact K
        ·
          refine Wp.iconst (1 : Int32) d_isNode_18 (by decide) ?_
          refine Wp.p (pc' := 23) d_isNode_19 rfl rfl ?_
          rw [if_neg q0, if_pos q1, if_pos q2] at e1; subst e1
          exact K
  refine Wp.retZ (v1 &&& 1) d_isNode_23 (by rfl) ?_
  exact (h1 v1 e1)
set_option maxRecDepth 65536 in
set_option maxHeartbeats 4000000 in
theorem L_depth_0 {mi : Nat → Nat → Int32} {ml : Nat → Nat → Int64} {Q : Option Value → EMem → Prop}
    (h1 : Q (some (.int (mi 0 121))) (LL1, mi, ml, RR1)) :
    W_depth 0 [.val (.ref 0)] [] (LL1, mi, ml, RR1) Q := by
  refine Wp.p (pc' := 1) d_depth_0 rfl rfl ?_
  refine Wp.getI (mi 0 121) d_depth_1 fa_c175 rfl rfl ?_
  refine Wp.retI d_depth_4 ?_
  exact h1
set_option maxRecDepth 65536 in
set_option maxHeartbeats 4000000 in
theorem L_nodeCount_0 {mi : Nat → Nat → Int32} {ml : Nat → Nat → Int64} {Q : Option Value → EMem → Prop}
    (h1 : Q (some (.int (mi 0 119))) (LL1, mi, ml, RR1)) :
    W_nodeCount 0 [.val (.ref 0)] [] (LL1, mi, ml, RR1) Q := by
  refine Wp.p (pc' := 1) d_nodeCount_0 rfl rfl ?_
  refine Wp.getI (mi 0 119) d_nodeCount_1 fa_c168 rfl rfl ?_
  refine Wp.retI d_nodeCount_4 ?_
  exact h1
set_option maxRecDepth 65536 in
set_option maxHeartbeats 4000000 in
theorem L_clearMachine_0 {mi : Nat → Nat → Int32} {ml : Nat → Nat → Int64} {Q : Option Value → EMem → Prop}
    (h1 : Q none (LL1, (up (up (up (up (up (up (up (up (up (up (up (up (up (up (up (up (up mi 0 137 (0 : Int32)) 0 139 (0 : Int32)) 0 141 (0 : Int32)) 0 143 (0 : Int32)) 0 145 (-1 : Int32)) 0 147 (-1 : Int32)) 0 149 (0 : Int32)) 0 151 (0 : Int32)) 0 153 (0 : Int32)) 0 155 (0 : Int32)) 0 157 (0 : Int32)) 0 159 (-1 : Int32)) 0 161 (0 : Int32)) 0 163 (0 : Int32)) 0 165 (0 : Int32)) 0 167 (-1 : Int32)) 0 169 (-1 : Int32)), ml, RR1)) :
    W_clearMachine 0 [.val (.ref 0)] [] (LL1, mi, ml, RR1) Q := by
  refine Wp.p (pc' := 1) d_clearMachine_0 rfl rfl ?_
  refine Wp.iconst (0 : Int32) d_clearMachine_1 (by decide) ?_
  refine Wp.putI d_clearMachine_2 fa_c226 rfl (by decide) in_OptimisticLazy (Or.inl rfl) ?_
  refine Wp.p (pc' := 6) d_clearMachine_5 rfl rfl ?_
  refine Wp.iconst (0 : Int32) d_clearMachine_6 (by decide) ?_
  refine Wp.putI d_clearMachine_7 fa_c213 rfl (by decide) in_OptimisticLazy (Or.inl rfl) ?_
  refine Wp.p (pc' := 11) d_clearMachine_10 rfl rfl ?_
  refine Wp.iconst (0 : Int32) d_clearMachine_11 (by decide) ?_
  refine Wp.putI d_clearMachine_12 fa_c229 rfl (by decide) in_OptimisticLazy (Or.inl rfl) ?_
  refine Wp.p (pc' := 16) d_clearMachine_15 rfl rfl ?_
  refine Wp.iconst (0 : Int32) d_clearMachine_16 (by decide) ?_
  refine Wp.putI d_clearMachine_17 fa_c232 rfl (by decide) in_OptimisticLazy (Or.inl rfl) ?_
  refine Wp.p (pc' := 21) d_clearMachine_20 rfl rfl ?_
  refine Wp.iconst (-1 : Int32) d_clearMachine_21 (by decide) ?_
  refine Wp.putI d_clearMachine_22 fa_c235 rfl (by decide) in_OptimisticLazy (Or.inl rfl) ?_
  refine Wp.p (pc' := 26) d_clearMachine_25 rfl rfl ?_
  refine Wp.iconst (-1 : Int32) d_clearMachine_26 (by decide) ?_
  refine Wp.putI d_clearMachine_27 fa_c238 rfl (by decide) in_OptimisticLazy (Or.inl rfl) ?_
  refine Wp.p (pc' := 31) d_clearMachine_30 rfl rfl ?_
  refine Wp.iconst (0 : Int32) d_clearMachine_31 (by decide) ?_
  refine Wp.putI d_clearMachine_32 fa_c241 rfl (by decide) in_OptimisticLazy (Or.inl rfl) ?_
  refine Wp.p (pc' := 36) d_clearMachine_35 rfl rfl ?_
  refine Wp.iconst (0 : Int32) d_clearMachine_36 (by decide) ?_
  refine Wp.putZ (0 : Int32) d_clearMachine_37 fa_c244 rfl (by decide) in_OptimisticLazy (Or.inl rfl) (by decide) ?_
  refine Wp.p (pc' := 41) d_clearMachine_40 rfl rfl ?_
  refine Wp.iconst (0 : Int32) d_clearMachine_41 (by decide) ?_
  refine Wp.putI d_clearMachine_42 fa_c198 rfl (by decide) in_OptimisticLazy (Or.inl rfl) ?_
  refine Wp.p (pc' := 46) d_clearMachine_45 rfl rfl ?_
  refine Wp.iconst (0 : Int32) d_clearMachine_46 (by decide) ?_
  refine Wp.putI d_clearMachine_47 fa_c204 rfl (by decide) in_OptimisticLazy (Or.inl rfl) ?_
  refine Wp.p (pc' := 51) d_clearMachine_50 rfl rfl ?_
  refine Wp.iconst (0 : Int32) d_clearMachine_51 (by decide) ?_
  refine Wp.putZ (0 : Int32) d_clearMachine_52 fa_c248 rfl (by decide) in_OptimisticLazy (Or.inl rfl) (by decide) ?_
  refine Wp.p (pc' := 56) d_clearMachine_55 rfl rfl ?_
  refine Wp.iconst (-1 : Int32) d_clearMachine_56 (by decide) ?_
  refine Wp.putI d_clearMachine_57 fa_c251 rfl (by decide) in_OptimisticLazy (Or.inl rfl) ?_
  refine Wp.p (pc' := 61) d_clearMachine_60 rfl rfl ?_
  refine Wp.iconst (0 : Int32) d_clearMachine_61 (by decide) ?_
  refine Wp.putI d_clearMachine_62 fa_c254 rfl (by decide) in_OptimisticLazy (Or.inl rfl) ?_
  refine Wp.p (pc' := 66) d_clearMachine_65 rfl rfl ?_
  refine Wp.iconst (0 : Int32) d_clearMachine_66 (by decide) ?_
  refine Wp.putI d_clearMachine_67 fa_c257 rfl (by decide) in_OptimisticLazy (Or.inl rfl) ?_
  refine Wp.p (pc' := 71) d_clearMachine_70 rfl rfl ?_
  refine Wp.iconst (0 : Int32) d_clearMachine_71 (by decide) ?_
  refine Wp.putI d_clearMachine_72 fa_c260 rfl (by decide) in_OptimisticLazy (Or.inl rfl) ?_
  refine Wp.p (pc' := 76) d_clearMachine_75 rfl rfl ?_
  refine Wp.iconst (-1 : Int32) d_clearMachine_76 (by decide) ?_
  refine Wp.putI d_clearMachine_77 fa_c263 rfl (by decide) in_OptimisticLazy (Or.inl rfl) ?_
  refine Wp.p (pc' := 81) d_clearMachine_80 rfl rfl ?_
  refine Wp.iconst (-1 : Int32) d_clearMachine_81 (by decide) ?_
  refine Wp.putI d_clearMachine_82 fa_c266 rfl (by decide) in_OptimisticLazy (Or.inl rfl) ?_
  refine Wp.retV d_clearMachine_85 ?_
  exact h1
set_option maxRecDepth 65536 in
set_option maxHeartbeats 4000000 in
theorem L_clearNodeSlot_0 {x1 : Int32} {mi : Nat → Nat → Int32} {ml : Nat → Nat → Int64} {Q : Option Value → EMem → Prop}
    (h1 : x1 < (0 : Int32) → Q none (LL1, mi, ml, RR1))
    (b1 : ¬ x1 < (0 : Int32) → x1 < (64 : Int32) → inb x1 64 = true)
    (h2 : ¬ x1 < (0 : Int32) → x1 < (64 : Int32) → Q none (LL1, (up (up (up (up (up (up (up (up (up mi 1 (Int32.toNatClampNeg x1) (0 : Int32)) 2 (Int32.toNatClampNeg x1) (0 : Int32)) 3 (Int32.toNatClampNeg x1) (-1 : Int32)) 4 (Int32.toNatClampNeg x1) (-1 : Int32)) 5 (Int32.toNatClampNeg x1) (-1 : Int32)) 6 (Int32.toNatClampNeg x1) (-1 : Int32)) 7 (Int32.toNatClampNeg x1) (-1 : Int32)) 8 (Int32.toNatClampNeg x1) (mi 0 113)) 9 (Int32.toNatClampNeg x1) (-1 : Int32)), ml, RR1))
    (h3 : ¬ x1 < (0 : Int32) → ¬ x1 < (64 : Int32) → Q none (LL1, mi, ml, RR1)) :
    W_clearNodeSlot 0 [.val (.ref 0), .val (.int x1)] [] (LL1, mi, ml, RR1) Q := by
  refine Wp.p (pc' := 1) d_clearNodeSlot_0 rfl rfl ?_
  refine Wp.if_lt d_clearNodeSlot_1 rfl (fun c1 => ?_) (fun c1 => ?_)
  ·
    refine Wp.retV d_clearNodeSlot_10 ?_
    exact (h1 c1)
  ·
    refine Wp.p (pc' := 5) d_clearNodeSlot_4 rfl rfl ?_
    refine Wp.bipush (64 : Int32) d_clearNodeSlot_5 (by decide) ?_
    refine Wp.icmp_lt d_clearNodeSlot_7 rfl (fun c2 => ?_) (fun c2 => ?_)
    ·
      refine Wp.p (pc' := 12) d_clearNodeSlot_11 rfl rfl ?_
      refine Wp.getR (b := 1) d_clearNodeSlot_12 fa_c58 rfl rfl ?_
      refine Wp.p (pc' := 16) d_clearNodeSlot_15 rfl rfl ?_
      refine Wp.iconst (0 : Int32) d_clearNodeSlot_16 (by decide) ?_
      refine Wp.iastore d_clearNodeSlot_17 rfl (k := (Int32.toNatClampNeg x1)) rfl (b1 c1 c2) (by decide) ?_
      refine Wp.p (pc' := 19) d_clearNodeSlot_18 rfl rfl ?_
      refine Wp.getR (b := 2) d_clearNodeSlot_19 fa_c62 rfl rfl ?_
      refine Wp.p (pc' := 23) d_clearNodeSlot_22 rfl rfl ?_
      refine Wp.iconst (0 : Int32) d_clearNodeSlot_23 (by decide) ?_
      refine Wp.iastore d_clearNodeSlot_24 rfl (k := (Int32.toNatClampNeg x1)) rfl (b1 c1 c2) (by decide) ?_
      refine Wp.p (pc' := 26) d_clearNodeSlot_25 rfl rfl ?_
      refine Wp.getR (b := 3) d_clearNodeSlot_26 fa_c65 rfl rfl ?_
      refine Wp.p (pc' := 30) d_clearNodeSlot_29 rfl rfl ?_
      refine Wp.iconst (-1 : Int32) d_clearNodeSlot_30 (by decide) ?_
      refine Wp.iastore d_clearNodeSlot_31 rfl (k := (Int32.toNatClampNeg x1)) rfl (b1 c1 c2) (by decide) ?_
      refine Wp.p (pc' := 33) d_clearNodeSlot_32 rfl rfl ?_
      refine Wp.getR (b := 4) d_clearNodeSlot_33 fa_c68 rfl rfl ?_
      refine Wp.p (pc' := 37) d_clearNodeSlot_36 rfl rfl ?_
      refine Wp.iconst (-1 : Int32) d_clearNodeSlot_37 (by decide) ?_
      refine Wp.iastore d_clearNodeSlot_38 rfl (k := (Int32.toNatClampNeg x1)) rfl (b1 c1 c2) (by decide) ?_
      refine Wp.p (pc' := 40) d_clearNodeSlot_39 rfl rfl ?_
      refine Wp.getR (b := 5) d_clearNodeSlot_40 fa_c71 rfl rfl ?_
      refine Wp.p (pc' := 44) d_clearNodeSlot_43 rfl rfl ?_
      refine Wp.iconst (-1 : Int32) d_clearNodeSlot_44 (by decide) ?_
      refine Wp.iastore d_clearNodeSlot_45 rfl (k := (Int32.toNatClampNeg x1)) rfl (b1 c1 c2) (by decide) ?_
      refine Wp.p (pc' := 47) d_clearNodeSlot_46 rfl rfl ?_
      refine Wp.getR (b := 6) d_clearNodeSlot_47 fa_c74 rfl rfl ?_
      refine Wp.p (pc' := 51) d_clearNodeSlot_50 rfl rfl ?_
      refine Wp.iconst (-1 : Int32) d_clearNodeSlot_51 (by decide) ?_
      refine Wp.iastore d_clearNodeSlot_52 rfl (k := (Int32.toNatClampNeg x1)) rfl (b1 c1 c2) (by decide) ?_
      refine Wp.p (pc' := 54) d_clearNodeSlot_53 rfl rfl ?_
      refine Wp.getR (b := 7) d_clearNodeSlot_54 fa_c77 rfl rfl ?_
      refine Wp.p (pc' := 58) d_clearNodeSlot_57 rfl rfl ?_
      refine Wp.iconst (-1 : Int32) d_clearNodeSlot_58 (by decide) ?_
      refine Wp.iastore d_clearNodeSlot_59 rfl (k := (Int32.toNatClampNeg x1)) rfl (b1 c1 c2) (by decide) ?_
      refine Wp.p (pc' := 61) d_clearNodeSlot_60 rfl rfl ?_
      refine Wp.getR (b := 8) d_clearNodeSlot_61 fa_c80 rfl rfl ?_
      refine Wp.p (pc' := 65) d_clearNodeSlot_64 rfl rfl ?_
      refine Wp.p (pc' := 66) d_clearNodeSlot_65 rfl rfl ?_
      refine Wp.getI (mi 0 113) d_clearNodeSlot_66 fa_c162 rfl rfl ?_
      refine Wp.iastore d_clearNodeSlot_69 rfl (k := (Int32.toNatClampNeg x1)) rfl (b1 c1 c2) (by decide) ?_
      refine Wp.p (pc' := 71) d_clearNodeSlot_70 rfl rfl ?_
      refine Wp.getR (b := 9) d_clearNodeSlot_71 fa_c83 rfl rfl ?_
      refine Wp.p (pc' := 75) d_clearNodeSlot_74 rfl rfl ?_
      refine Wp.iconst (-1 : Int32) d_clearNodeSlot_75 (by decide) ?_
      refine Wp.iastore d_clearNodeSlot_76 rfl (k := (Int32.toNatClampNeg x1)) rfl (b1 c1 c2) (by decide) ?_
      refine Wp.retV d_clearNodeSlot_77 ?_
      exact (h2 c1 c2)
    ·
      refine Wp.retV d_clearNodeSlot_10 ?_
      exact (h3 c1 c2)
set_option maxRecDepth 65536 in
set_option maxHeartbeats 4000000 in
theorem L_clearCell_0 {x1 : Int32} {mi : Nat → Nat → Int32} {ml : Nat → Nat → Int64} {Q : Option Value → EMem → Prop}
    (h1 : x1 < (0 : Int32) → Q none (LL1, mi, ml, RR1))
    (b1 : ¬ x1 < (0 : Int32) → x1 < (128 : Int32) → inb x1 128 = true)
    (h2 : ¬ x1 < (0 : Int32) → x1 < (128 : Int32) → Q none (LL1, (up (up (up (up (up (up (up (up (up (up (up (up (up (up (up mi 10 (Int32.toNatClampNeg x1) (-1 : Int32)) 11 (Int32.toNatClampNeg x1) (-1 : Int32)) 12 (Int32.toNatClampNeg x1) (-1 : Int32)) 13 (Int32.toNatClampNeg x1) (0 : Int32)) 14 (Int32.toNatClampNeg x1) (0 : Int32)) 15 (Int32.toNatClampNeg x1) (-1 : Int32)) 16 (Int32.toNatClampNeg x1) (0 : Int32)) 17 (Int32.toNatClampNeg x1) (0 : Int32)) 18 (Int32.toNatClampNeg x1) (-1 : Int32)) 19 (Int32.toNatClampNeg x1) (0 : Int32)) 20 (Int32.toNatClampNeg x1) (0 : Int32)) 21 (Int32.toNatClampNeg x1) (-1 : Int32)) 22 (Int32.toNatClampNeg x1) (-1 : Int32)) 23 (Int32.toNatClampNeg x1) (0 : Int32)) 24 (Int32.toNatClampNeg x1) (0 : Int32)), ml, RR1))
    (h3 : ¬ x1 < (0 : Int32) → ¬ x1 < (128 : Int32) → Q none (LL1, mi, ml, RR1)) :
    W_clearCell 0 [.val (.ref 0), .val (.int x1)] [] (LL1, mi, ml, RR1) Q := by
  refine Wp.p (pc' := 1) d_clearCell_0 rfl rfl ?_
  refine Wp.if_lt d_clearCell_1 rfl (fun c1 => ?_) (fun c1 => ?_)
  ·
    refine Wp.retV d_clearCell_11 ?_
    exact (h1 c1)
  ·
    refine Wp.p (pc' := 5) d_clearCell_4 rfl rfl ?_
    refine Wp.sipush (128 : Int32) d_clearCell_5 (by decide) ?_
    refine Wp.icmp_lt d_clearCell_8 rfl (fun c2 => ?_) (fun c2 => ?_)
    ·
      refine Wp.p (pc' := 13) d_clearCell_12 rfl rfl ?_
      refine Wp.getR (b := 10) d_clearCell_13 fa_c86 rfl rfl ?_
      refine Wp.p (pc' := 17) d_clearCell_16 rfl rfl ?_
      refine Wp.iconst (-1 : Int32) d_clearCell_17 (by decide) ?_
      refine Wp.iastore d_clearCell_18 rfl (k := (Int32.toNatClampNeg x1)) rfl (b1 c1 c2) (by decide) ?_
      refine Wp.p (pc' := 20) d_clearCell_19 rfl rfl ?_
      refine Wp.getR (b := 11) d_clearCell_20 fa_c89 rfl rfl ?_
      refine Wp.p (pc' := 24) d_clearCell_23 rfl rfl ?_
      refine Wp.iconst (-1 : Int32) d_clearCell_24 (by decide) ?_
      refine Wp.iastore d_clearCell_25 rfl (k := (Int32.toNatClampNeg x1)) rfl (b1 c1 c2) (by decide) ?_
      refine Wp.p (pc' := 27) d_clearCell_26 rfl rfl ?_
      refine Wp.getR (b := 12) d_clearCell_27 fa_c92 rfl rfl ?_
      refine Wp.p (pc' := 31) d_clearCell_30 rfl rfl ?_
      refine Wp.iconst (-1 : Int32) d_clearCell_31 (by decide) ?_
      refine Wp.iastore d_clearCell_32 rfl (k := (Int32.toNatClampNeg x1)) rfl (b1 c1 c2) (by decide) ?_
      refine Wp.p (pc' := 34) d_clearCell_33 rfl rfl ?_
      refine Wp.getR (b := 13) d_clearCell_34 fa_c95 rfl rfl ?_
      refine Wp.p (pc' := 38) d_clearCell_37 rfl rfl ?_
      refine Wp.iconst (0 : Int32) d_clearCell_38 (by decide) ?_
      refine Wp.iastore d_clearCell_39 rfl (k := (Int32.toNatClampNeg x1)) rfl (b1 c1 c2) (by decide) ?_
      refine Wp.p (pc' := 41) d_clearCell_40 rfl rfl ?_
      refine Wp.getR (b := 14) d_clearCell_41 fa_c98 rfl rfl ?_
      refine Wp.p (pc' := 45) d_clearCell_44 rfl rfl ?_
      refine Wp.iconst (0 : Int32) d_clearCell_45 (by decide) ?_
      refine Wp.iastore d_clearCell_46 rfl (k := (Int32.toNatClampNeg x1)) rfl (b1 c1 c2) (by decide) ?_
      refine Wp.p (pc' := 48) d_clearCell_47 rfl rfl ?_
      refine Wp.getR (b := 15) d_clearCell_48 fa_c101 rfl rfl ?_
      refine Wp.p (pc' := 52) d_clearCell_51 rfl rfl ?_
      refine Wp.iconst (-1 : Int32) d_clearCell_52 (by decide) ?_
      refine Wp.iastore d_clearCell_53 rfl (k := (Int32.toNatClampNeg x1)) rfl (b1 c1 c2) (by decide) ?_
      refine Wp.p (pc' := 55) d_clearCell_54 rfl rfl ?_
      refine Wp.getR (b := 16) d_clearCell_55 fa_c104 rfl rfl ?_
      refine Wp.p (pc' := 59) d_clearCell_58 rfl rfl ?_
      refine Wp.iconst (0 : Int32) d_clearCell_59 (by decide) ?_
      refine Wp.iastore d_clearCell_60 rfl (k := (Int32.toNatClampNeg x1)) rfl (b1 c1 c2) (by decide) ?_
      refine Wp.p (pc' := 62) d_clearCell_61 rfl rfl ?_
      refine Wp.getR (b := 17) d_clearCell_62 fa_c107 rfl rfl ?_
      refine Wp.p (pc' := 66) d_clearCell_65 rfl rfl ?_
      refine Wp.iconst (0 : Int32) d_clearCell_66 (by decide) ?_
      refine Wp.iastore d_clearCell_67 rfl (k := (Int32.toNatClampNeg x1)) rfl (b1 c1 c2) (by decide) ?_
      refine Wp.p (pc' := 69) d_clearCell_68 rfl rfl ?_
      refine Wp.getR (b := 18) d_clearCell_69 fa_c110 rfl rfl ?_
      refine Wp.p (pc' := 73) d_clearCell_72 rfl rfl ?_
      refine Wp.iconst (-1 : Int32) d_clearCell_73 (by decide) ?_
      refine Wp.iastore d_clearCell_74 rfl (k := (Int32.toNatClampNeg x1)) rfl (b1 c1 c2) (by decide) ?_
      refine Wp.p (pc' := 76) d_clearCell_75 rfl rfl ?_
      refine Wp.getR (b := 19) d_clearCell_76 fa_c113 rfl rfl ?_
      refine Wp.p (pc' := 80) d_clearCell_79 rfl rfl ?_
      refine Wp.iconst (0 : Int32) d_clearCell_80 (by decide) ?_
      refine Wp.iastore d_clearCell_81 rfl (k := (Int32.toNatClampNeg x1)) rfl (b1 c1 c2) (by decide) ?_
      refine Wp.p (pc' := 83) d_clearCell_82 rfl rfl ?_
      refine Wp.getR (b := 20) d_clearCell_83 fa_c116 rfl rfl ?_
      refine Wp.p (pc' := 87) d_clearCell_86 rfl rfl ?_
      refine Wp.iconst (0 : Int32) d_clearCell_87 (by decide) ?_
      refine Wp.iastore d_clearCell_88 rfl (k := (Int32.toNatClampNeg x1)) rfl (b1 c1 c2) (by decide) ?_
      refine Wp.p (pc' := 90) d_clearCell_89 rfl rfl ?_
      refine Wp.getR (b := 21) d_clearCell_90 fa_c119 rfl rfl ?_
      refine Wp.p (pc' := 94) d_clearCell_93 rfl rfl ?_
      refine Wp.iconst (-1 : Int32) d_clearCell_94 (by decide) ?_
      refine Wp.iastore d_clearCell_95 rfl (k := (Int32.toNatClampNeg x1)) rfl (b1 c1 c2) (by decide) ?_
      refine Wp.p (pc' := 97) d_clearCell_96 rfl rfl ?_
      refine Wp.getR (b := 22) d_clearCell_97 fa_c122 rfl rfl ?_
      refine Wp.p (pc' := 101) d_clearCell_100 rfl rfl ?_
      refine Wp.iconst (-1 : Int32) d_clearCell_101 (by decide) ?_
      refine Wp.iastore d_clearCell_102 rfl (k := (Int32.toNatClampNeg x1)) rfl (b1 c1 c2) (by decide) ?_
      refine Wp.p (pc' := 104) d_clearCell_103 rfl rfl ?_
      refine Wp.getR (b := 23) d_clearCell_104 fa_c125 rfl rfl ?_
      refine Wp.p (pc' := 108) d_clearCell_107 rfl rfl ?_
      refine Wp.iconst (0 : Int32) d_clearCell_108 (by decide) ?_
      refine Wp.iastore d_clearCell_109 rfl (k := (Int32.toNatClampNeg x1)) rfl (b1 c1 c2) (by decide) ?_
      refine Wp.p (pc' := 111) d_clearCell_110 rfl rfl ?_
      refine Wp.getR (b := 24) d_clearCell_111 fa_c128 rfl rfl ?_
      refine Wp.p (pc' := 115) d_clearCell_114 rfl rfl ?_
      refine Wp.iconst (0 : Int32) d_clearCell_115 (by decide) ?_
      refine Wp.iastore d_clearCell_116 rfl (k := (Int32.toNatClampNeg x1)) rfl (b1 c1 c2) (by decide) ?_
      refine Wp.retV d_clearCell_117 ?_
      exact (h2 c1 c2)
    ·
      refine Wp.retV d_clearCell_11 ?_
      exact (h3 c1 c2)
set_option maxRecDepth 65536 in
set_option maxHeartbeats 4000000 in
theorem L_clearAll_0 {mi : Nat → Nat → Int32} {ml : Nat → Nat → Int64} {Q : Option Value → EMem → Prop}
    (h1 : W_clearAll 27 [.val (.ref 0), .val (.int (0 : Int32))] [] (LL1, (up (up (up (up (up mi 0 119 (0 : Int32)) 0 121 (0 : Int32)) 0 123 (0 : Int32)) 0 125 (0 : Int32)) 0 127 (0 : Int32)), ml, RR1) Q) :
    W_clearAll 0 [.val (.ref 0), .unset] [] (LL1, mi, ml, RR1) Q := by
  refine Wp.p (pc' := 1) d_clearAll_0 rfl rfl ?_
  refine Wp.iconst (0 : Int32) d_clearAll_1 (by decide) ?_
  refine Wp.putI d_clearAll_2 fa_c168 rfl (by decide) in_OptimisticLazy (Or.inl rfl) ?_
  refine Wp.p (pc' := 6) d_clearAll_5 rfl rfl ?_
  refine Wp.iconst (0 : Int32) d_clearAll_6 (by decide) ?_
  refine Wp.putI d_clearAll_7 fa_c175 rfl (by decide) in_OptimisticLazy (Or.inl rfl) ?_
  refine Wp.p (pc' := 11) d_clearAll_10 rfl rfl ?_
  refine Wp.iconst (0 : Int32) d_clearAll_11 (by decide) ?_
  refine Wp.putI d_clearAll_12 fa_c201 rfl (by decide) in_OptimisticLazy (Or.inl rfl) ?_
  refine Wp.p (pc' := 16) d_clearAll_15 rfl rfl ?_
  refine Wp.iconst (0 : Int32) d_clearAll_16 (by decide) ?_
  refine Wp.putI d_clearAll_17 fa_c207 rfl (by decide) in_OptimisticLazy (Or.inl rfl) ?_
  refine Wp.p (pc' := 21) d_clearAll_20 rfl rfl ?_
  refine Wp.iconst (0 : Int32) d_clearAll_21 (by decide) ?_
  refine Wp.putI d_clearAll_22 fa_c210 rfl (by decide) in_OptimisticLazy (Or.inl rfl) ?_
  refine Wp.iconst (0 : Int32) d_clearAll_25 (by decide) ?_
  refine Wp.p (pc' := 27) d_clearAll_26 rfl rfl ?_
  exact h1
set_option maxRecDepth 65536 in
set_option maxHeartbeats 4000000 in
theorem L_clearAll_27 {x1 : Int32} {mi : Nat → Nat → Int32} {ml : Nat → Nat → Int64} {Q : Option Value → EMem → Prop}
    (h1 : ¬ x1 < (64 : Int32) → W_clearAll 50 [.val (.ref 0), .val (.int (0 : Int32))] [] (LL1, (up (up (up (up (up (up (up (up (up (up (up (up (up (up (up (up (up mi 0 137 (0 : Int32)) 0 139 (0 : Int32)) 0 141 (0 : Int32)) 0 143 (0 : Int32)) 0 145 (-1 : Int32)) 0 147 (-1 : Int32)) 0 149 (0 : Int32)) 0 151 (0 : Int32)) 0 153 (0 : Int32)) 0 155 (0 : Int32)) 0 157 (0 : Int32)) 0 159 (-1 : Int32)) 0 161 (0 : Int32)) 0 163 (0 : Int32)) 0 165 (0 : Int32)) 0 167 (-1 : Int32)) 0 169 (-1 : Int32)), ml, RR1) Q)
    (h2 : x1 < (64 : Int32) → W_clearNodeSlot 0 [.val (.ref 0), .val (.int x1)] [] (LL1, mi, ml, RR1) (fun v M' => W_clearAll 38 [.val (.ref 0), .val (.int x1)] (v.toList ++ []) M' Q)) :
    W_clearAll 27 [.val (.ref 0), .val (.int x1)] [] (LL1, mi, ml, RR1) Q := by
  refine Wp.p (pc' := 28) d_clearAll_27 rfl rfl ?_
  refine Wp.bipush (64 : Int32) d_clearAll_28 (by decide) ?_
  refine Wp.icmp_ge d_clearAll_30 rfl (fun c1 => ?_) (fun c1 => ?_)
  ·
    refine Wp.p (pc' := 45) d_clearAll_44 rfl rfl ?_
    refine Wp.callP (a := 0) (as := []) (rest := []) (w := 0) (F' := 0) (Lb' := 0) d_clearAll_45 ca_c220_1 rfl rfl rfl rfl (by decide) (by decide) (Nat.le_of_ble_eq_true rfl) ?_
    refine L_clearMachine_0 ?_
    show W_clearAll 48 [.val (.ref 0), .val (.int x1)] [] (LL1, (up (up (up (up (up (up (up (up (up (up (up (up (up (up (up (up (up mi 0 137 (0 : Int32)) 0 139 (0 : Int32)) 0 141 (0 : Int32)) 0 143 (0 : Int32)) 0 145 (-1 : Int32)) 0 147 (-1 : Int32)) 0 149 (0 : Int32)) 0 151 (0 : Int32)) 0 153 (0 : Int32)) 0 155 (0 : Int32)) 0 157 (0 : Int32)) 0 159 (-1 : Int32)) 0 161 (0 : Int32)) 0 163 (0 : Int32)) 0 165 (0 : Int32)) 0 167 (-1 : Int32)) 0 169 (-1 : Int32)), ml, RR1) Q
    refine Wp.iconst (0 : Int32) d_clearAll_48 (by decide) ?_
    refine Wp.p (pc' := 50) d_clearAll_49 rfl rfl ?_
    exact (h1 c1)
  ·
    refine Wp.p (pc' := 34) d_clearAll_33 rfl rfl ?_
    refine Wp.p (pc' := 35) d_clearAll_34 rfl rfl ?_
    refine Wp.callP (a := 0) (as := [.int x1]) (rest := []) (w := 0) (F' := 0) (Lb' := 0) d_clearAll_35 ca_c216_1 rfl rfl rfl rfl (by decide) (by decide) (Nat.le_of_ble_eq_true rfl) ?_
    exact (h2 c1)
set_option maxRecDepth 65536 in
set_option maxHeartbeats 4000000 in
theorem L_clearAll_38 {x1 : Int32} {mi : Nat → Nat → Int32} {ml : Nat → Nat → Int64} {Q : Option Value → EMem → Prop}
    (h1 : W_clearAll 27 [.val (.ref 0), .val (.int (x1 + (1 : Int32)))] [] (LL1, mi, ml, RR1) Q) :
    W_clearAll 38 [.val (.ref 0), .val (.int x1)] [] (LL1, mi, ml, RR1) Q := by
  refine Wp.iinc (1 : Int32) d_clearAll_38 (by decide) rfl rfl ?_
  refine Wp.p (pc' := 27) d_clearAll_41 rfl rfl ?_
  exact h1
set_option maxRecDepth 65536 in
set_option maxHeartbeats 4000000 in
theorem L_clearAll_50 {x1 : Int32} {mi : Nat → Nat → Int32} {ml : Nat → Nat → Int64} {Q : Option Value → EMem → Prop}
    (h1 : ¬ x1 < (128 : Int32) → Q none (LL1, mi, ml, RR1))
    (h2 : x1 < (128 : Int32) → W_clearCell 0 [.val (.ref 0), .val (.int x1)] [] (LL1, mi, ml, RR1) (fun v M' => W_clearAll 62 [.val (.ref 0), .val (.int x1)] (v.toList ++ []) M' Q)) :
    W_clearAll 50 [.val (.ref 0), .val (.int x1)] [] (LL1, mi, ml, RR1) Q := by
  refine Wp.p (pc' := 51) d_clearAll_50 rfl rfl ?_
  refine Wp.sipush (128 : Int32) d_clearAll_51 (by decide) ?_
  refine Wp.icmp_ge d_clearAll_54 rfl (fun c1 => ?_) (fun c1 => ?_)
  ·
    refine Wp.retV d_clearAll_68 ?_
    exact (h1 c1)
  ·
    refine Wp.p (pc' := 58) d_clearAll_57 rfl rfl ?_
    refine Wp.p (pc' := 59) d_clearAll_58 rfl rfl ?_
    refine Wp.callP (a := 0) (as := [.int x1]) (rest := []) (w := 0) (F' := 0) (Lb' := 0) d_clearAll_59 ca_c223_1 rfl rfl rfl rfl (by decide) (by decide) (Nat.le_of_ble_eq_true rfl) ?_
    exact (h2 c1)
set_option maxRecDepth 65536 in
set_option maxHeartbeats 4000000 in
theorem L_clearAll_62 {x1 : Int32} {mi : Nat → Nat → Int32} {ml : Nat → Nat → Int64} {Q : Option Value → EMem → Prop}
    (h1 : W_clearAll 50 [.val (.ref 0), .val (.int (x1 + (1 : Int32)))] [] (LL1, mi, ml, RR1) Q) :
    W_clearAll 62 [.val (.ref 0), .val (.int x1)] [] (LL1, mi, ml, RR1) Q := by
  refine Wp.iinc (1 : Int32) d_clearAll_62 (by decide) rfl rfl ?_
  refine Wp.p (pc' := 50) d_clearAll_65 rfl rfl ?_
  exact h1
set_option maxRecDepth 65536 in
set_option maxHeartbeats 4000000 in
theorem L_init_0 {x1 x2 : Int32} {mi : Nat → Nat → Int32} {ml : Nat → Nat → Int64} {Q : Option Value → EMem → Prop}
    (h1 : ∀ v1 : Int32, v1 = (if x1 < (8 : Int32) then (8 : Int32) else (if (64 : Int32) < x1 then (64 : Int32) else x1)) → ∀ v2 : Int32, v2 = (if x2 < (0 : Int32) then (0 : Int32) else (if (32 : Int32) < x2 then (32 : Int32) else x2)) → W_clearAll 0 [.val (.ref 0), .unset] [] (LL1, (up (up (up (up (up (up (up (up (up (up (up (up (up (up (up (up (up (up mi 0 10 (0 : Int32)) 0 12 (1 : Int32)) 0 14 (2 : Int32)) 0 16 (3 : Int32)) 0 18 (0 : Int32)) 0 20 (1 : Int32)) 0 22 (2 : Int32)) 0 24 (3 : Int32)) 0 26 (0 : Int32)) 0 28 (1 : Int32)) 0 30 (2 : Int32)) 0 32 (0 : Int32)) 0 34 (1 : Int32)) 0 36 (2 : Int32)) 0 38 (3 : Int32)) 0 40 (32 : Int32)) 0 111 v1) 0 113 v2), ml, RR1) (fun v M' => W_init 393 [.val (.ref 0), .val (.int x1), .val (.int x2)] (v.toList ++ []) M' Q)) :
    W_init 0 [.val (.ref 0), .val (.int x1), .val (.int x2)] [] ([(0, "OptimisticLazy", 72)], mi, ml, (fun _ _ => Value.null)) Q := by
  refine Wp.p (pc' := 1) d_init_0 rfl rfl ?_
  refine Wp.objInit (w := 0) d_init_1 oi_c1 rfl (by decide) (by decide) ?_
  refine Wp.p (pc' := 5) d_init_4 rfl rfl ?_
  refine Wp.iconst (0 : Int32) d_init_5 (by decide) ?_
  refine Wp.putI d_init_6 fa_c7 rfl (by decide) in_OptimisticLazy (Or.inr ⟨rfl, rfl⟩) ?_
  refine Wp.p (pc' := 10) d_init_9 rfl rfl ?_
  refine Wp.iconst (1 : Int32) d_init_10 (by decide) ?_
  refine Wp.putI d_init_11 fa_c13 rfl (by decide) in_OptimisticLazy (Or.inr ⟨rfl, rfl⟩) ?_
  refine Wp.p (pc' := 15) d_init_14 rfl rfl ?_
  refine Wp.iconst (2 : Int32) d_init_15 (by decide) ?_
  refine Wp.putI d_init_16 fa_c16 rfl (by decide) in_OptimisticLazy (Or.inr ⟨rfl, rfl⟩) ?_
  refine Wp.p (pc' := 20) d_init_19 rfl rfl ?_
  refine Wp.iconst (3 : Int32) d_init_20 (by decide) ?_
  refine Wp.putI d_init_21 fa_c19 rfl (by decide) in_OptimisticLazy (Or.inr ⟨rfl, rfl⟩) ?_
  refine Wp.p (pc' := 25) d_init_24 rfl rfl ?_
  refine Wp.iconst (0 : Int32) d_init_25 (by decide) ?_
  refine Wp.putI d_init_26 fa_c22 rfl (by decide) in_OptimisticLazy (Or.inr ⟨rfl, rfl⟩) ?_
  refine Wp.p (pc' := 30) d_init_29 rfl rfl ?_
  refine Wp.iconst (1 : Int32) d_init_30 (by decide) ?_
  refine Wp.putI d_init_31 fa_c25 rfl (by decide) in_OptimisticLazy (Or.inr ⟨rfl, rfl⟩) ?_
  refine Wp.p (pc' := 35) d_init_34 rfl rfl ?_
  refine Wp.iconst (2 : Int32) d_init_35 (by decide) ?_
  refine Wp.putI d_init_36 fa_c28 rfl (by decide) in_OptimisticLazy (Or.inr ⟨rfl, rfl⟩) ?_
  refine Wp.p (pc' := 40) d_init_39 rfl rfl ?_
  refine Wp.iconst (3 : Int32) d_init_40 (by decide) ?_
  refine Wp.putI d_init_41 fa_c31 rfl (by decide) in_OptimisticLazy (Or.inr ⟨rfl, rfl⟩) ?_
  refine Wp.p (pc' := 45) d_init_44 rfl rfl ?_
  refine Wp.iconst (0 : Int32) d_init_45 (by decide) ?_
  refine Wp.putI d_init_46 fa_c34 rfl (by decide) in_OptimisticLazy (Or.inr ⟨rfl, rfl⟩) ?_
  refine Wp.p (pc' := 50) d_init_49 rfl rfl ?_
  refine Wp.iconst (1 : Int32) d_init_50 (by decide) ?_
  refine Wp.putI d_init_51 fa_c37 rfl (by decide) in_OptimisticLazy (Or.inr ⟨rfl, rfl⟩) ?_
  refine Wp.p (pc' := 55) d_init_54 rfl rfl ?_
  refine Wp.iconst (2 : Int32) d_init_55 (by decide) ?_
  refine Wp.putI d_init_56 fa_c40 rfl (by decide) in_OptimisticLazy (Or.inr ⟨rfl, rfl⟩) ?_
  refine Wp.p (pc' := 60) d_init_59 rfl rfl ?_
  refine Wp.iconst (0 : Int32) d_init_60 (by decide) ?_
  refine Wp.putI d_init_61 fa_c43 rfl (by decide) in_OptimisticLazy (Or.inr ⟨rfl, rfl⟩) ?_
  refine Wp.p (pc' := 65) d_init_64 rfl rfl ?_
  refine Wp.iconst (1 : Int32) d_init_65 (by decide) ?_
  refine Wp.putI d_init_66 fa_c46 rfl (by decide) in_OptimisticLazy (Or.inr ⟨rfl, rfl⟩) ?_
  refine Wp.p (pc' := 70) d_init_69 rfl rfl ?_
  refine Wp.iconst (2 : Int32) d_init_70 (by decide) ?_
  refine Wp.putI d_init_71 fa_c49 rfl (by decide) in_OptimisticLazy (Or.inr ⟨rfl, rfl⟩) ?_
  refine Wp.p (pc' := 75) d_init_74 rfl rfl ?_
  refine Wp.iconst (3 : Int32) d_init_75 (by decide) ?_
  refine Wp.putI d_init_76 fa_c52 rfl (by decide) in_OptimisticLazy (Or.inr ⟨rfl, rfl⟩) ?_
  refine Wp.p (pc' := 80) d_init_79 rfl rfl ?_
  refine Wp.bipush (32 : Int32) d_init_80 (by decide) ?_
  refine Wp.putI d_init_82 fa_c55 rfl (by decide) in_OptimisticLazy (Or.inr ⟨rfl, rfl⟩) ?_
  refine Wp.p (pc' := 86) d_init_85 rfl rfl ?_
  refine Wp.bipush (64 : Int32) d_init_86 (by decide) ?_
  refine Wp.new_int (a := 1) (z := 64) (L' := [(0, "OptimisticLazy", 72), (1, "", 64)]) d_init_88 ar_int (by decide) (by decide) rfl rfl ?_
  refine Wp.putR d_init_90 fa_c58 rfl (by decide) in_OptimisticLazy (Or.inr ⟨rfl, rfl⟩) ?_
  refine Wp.p (pc' := 94) d_init_93 rfl rfl ?_
  refine Wp.bipush (64 : Int32) d_init_94 (by decide) ?_
  refine Wp.new_int (a := 2) (z := 64) (L' := [(0, "OptimisticLazy", 72), (1, "", 64), (1, "", 64)]) d_init_96 ar_int (by decide) (by decide) rfl rfl ?_
  refine Wp.putR d_init_98 fa_c62 rfl (by decide) in_OptimisticLazy (Or.inr ⟨rfl, rfl⟩) ?_
  refine Wp.p (pc' := 102) d_init_101 rfl rfl ?_
  refine Wp.bipush (64 : Int32) d_init_102 (by decide) ?_
  refine Wp.new_int (a := 3) (z := 64) (L' := [(0, "OptimisticLazy", 72), (1, "", 64), (1, "", 64), (1, "", 64)]) d_init_104 ar_int (by decide) (by decide) rfl rfl ?_
  refine Wp.putR d_init_106 fa_c65 rfl (by decide) in_OptimisticLazy (Or.inr ⟨rfl, rfl⟩) ?_
  refine Wp.p (pc' := 110) d_init_109 rfl rfl ?_
  refine Wp.bipush (64 : Int32) d_init_110 (by decide) ?_
  refine Wp.new_int (a := 4) (z := 64) (L' := [(0, "OptimisticLazy", 72), (1, "", 64), (1, "", 64), (1, "", 64), (1, "", 64)]) d_init_112 ar_int (by decide) (by decide) rfl rfl ?_
  refine Wp.putR d_init_114 fa_c68 rfl (by decide) in_OptimisticLazy (Or.inr ⟨rfl, rfl⟩) ?_
  refine Wp.p (pc' := 118) d_init_117 rfl rfl ?_
  refine Wp.bipush (64 : Int32) d_init_118 (by decide) ?_
  refine Wp.new_int (a := 5) (z := 64) (L' := [(0, "OptimisticLazy", 72), (1, "", 64), (1, "", 64), (1, "", 64), (1, "", 64), (1, "", 64)]) d_init_120 ar_int (by decide) (by decide) rfl rfl ?_
  refine Wp.putR d_init_122 fa_c71 rfl (by decide) in_OptimisticLazy (Or.inr ⟨rfl, rfl⟩) ?_
  refine Wp.p (pc' := 126) d_init_125 rfl rfl ?_
  refine Wp.bipush (64 : Int32) d_init_126 (by decide) ?_
  refine Wp.new_int (a := 6) (z := 64) (L' := [(0, "OptimisticLazy", 72), (1, "", 64), (1, "", 64), (1, "", 64), (1, "", 64), (1, "", 64), (1, "", 64)]) d_init_128 ar_int (by decide) (by decide) rfl rfl ?_
  refine Wp.putR d_init_130 fa_c74 rfl (by decide) in_OptimisticLazy (Or.inr ⟨rfl, rfl⟩) ?_
  refine Wp.p (pc' := 134) d_init_133 rfl rfl ?_
  refine Wp.bipush (64 : Int32) d_init_134 (by decide) ?_
  refine Wp.new_int (a := 7) (z := 64) (L' := [(0, "OptimisticLazy", 72), (1, "", 64), (1, "", 64), (1, "", 64), (1, "", 64), (1, "", 64), (1, "", 64), (1, "", 64)]) d_init_136 ar_int (by decide) (by decide) rfl rfl ?_
  refine Wp.putR d_init_138 fa_c77 rfl (by decide) in_OptimisticLazy (Or.inr ⟨rfl, rfl⟩) ?_
  refine Wp.p (pc' := 142) d_init_141 rfl rfl ?_
  refine Wp.bipush (64 : Int32) d_init_142 (by decide) ?_
  refine Wp.new_int (a := 8) (z := 64) (L' := [(0, "OptimisticLazy", 72), (1, "", 64), (1, "", 64), (1, "", 64), (1, "", 64), (1, "", 64), (1, "", 64), (1, "", 64), (1, "", 64)]) d_init_144 ar_int (by decide) (by decide) rfl rfl ?_
  refine Wp.putR d_init_146 fa_c80 rfl (by decide) in_OptimisticLazy (Or.inr ⟨rfl, rfl⟩) ?_
  refine Wp.p (pc' := 150) d_init_149 rfl rfl ?_
  refine Wp.bipush (64 : Int32) d_init_150 (by decide) ?_
  refine Wp.new_int (a := 9) (z := 64) (L' := [(0, "OptimisticLazy", 72), (1, "", 64), (1, "", 64), (1, "", 64), (1, "", 64), (1, "", 64), (1, "", 64), (1, "", 64), (1, "", 64), (1, "", 64)]) d_init_152 ar_int (by decide) (by decide) rfl rfl ?_
  refine Wp.putR d_init_154 fa_c83 rfl (by decide) in_OptimisticLazy (Or.inr ⟨rfl, rfl⟩) ?_
  refine Wp.p (pc' := 158) d_init_157 rfl rfl ?_
  refine Wp.sipush (128 : Int32) d_init_158 (by decide) ?_
  refine Wp.new_int (a := 10) (z := 128) (L' := [(0, "OptimisticLazy", 72), (1, "", 64), (1, "", 64), (1, "", 64), (1, "", 64), (1, "", 64), (1, "", 64), (1, "", 64), (1, "", 64), (1, "", 64), (1, "", 128)]) d_init_161 ar_int (by decide) (by decide) rfl rfl ?_
  refine Wp.putR d_init_163 fa_c86 rfl (by decide) in_OptimisticLazy (Or.inr ⟨rfl, rfl⟩) ?_
  refine Wp.p (pc' := 167) d_init_166 rfl rfl ?_
  refine Wp.sipush (128 : Int32) d_init_167 (by decide) ?_
  refine Wp.new_int (a := 11) (z := 128) (L' := [(0, "OptimisticLazy", 72), (1, "", 64), (1, "", 64), (1, "", 64), (1, "", 64), (1, "", 64), (1, "", 64), (1, "", 64), (1, "", 64), (1, "", 64), (1, "", 128), (1, "", 128)]) d_init_170 ar_int (by decide) (by decide) rfl rfl ?_
  refine Wp.putR d_init_172 fa_c89 rfl (by decide) in_OptimisticLazy (Or.inr ⟨rfl, rfl⟩) ?_
  refine Wp.p (pc' := 176) d_init_175 rfl rfl ?_
  refine Wp.sipush (128 : Int32) d_init_176 (by decide) ?_
  refine Wp.new_int (a := 12) (z := 128) (L' := [(0, "OptimisticLazy", 72), (1, "", 64), (1, "", 64), (1, "", 64), (1, "", 64), (1, "", 64), (1, "", 64), (1, "", 64), (1, "", 64), (1, "", 64), (1, "", 128), (1, "", 128), (1, "", 128)]) d_init_179 ar_int (by decide) (by decide) rfl rfl ?_
  refine Wp.putR d_init_181 fa_c92 rfl (by decide) in_OptimisticLazy (Or.inr ⟨rfl, rfl⟩) ?_
  refine Wp.p (pc' := 185) d_init_184 rfl rfl ?_
  refine Wp.sipush (128 : Int32) d_init_185 (by decide) ?_
  refine Wp.new_int (a := 13) (z := 128) (L' := [(0, "OptimisticLazy", 72), (1, "", 64), (1, "", 64), (1, "", 64), (1, "", 64), (1, "", 64), (1, "", 64), (1, "", 64), (1, "", 64), (1, "", 64), (1, "", 128), (1, "", 128), (1, "", 128), (1, "", 128)]) d_init_188 ar_int (by decide) (by decide) rfl rfl ?_
  refine Wp.putR d_init_190 fa_c95 rfl (by decide) in_OptimisticLazy (Or.inr ⟨rfl, rfl⟩) ?_
  refine Wp.p (pc' := 194) d_init_193 rfl rfl ?_
  refine Wp.sipush (128 : Int32) d_init_194 (by decide) ?_
  refine Wp.new_int (a := 14) (z := 128) (L' := [(0, "OptimisticLazy", 72), (1, "", 64), (1, "", 64), (1, "", 64), (1, "", 64), (1, "", 64), (1, "", 64), (1, "", 64), (1, "", 64), (1, "", 64), (1, "", 128), (1, "", 128), (1, "", 128), (1, "", 128), (1, "", 128)]) d_init_197 ar_int (by decide) (by decide) rfl rfl ?_
  refine Wp.putR d_init_199 fa_c98 rfl (by decide) in_OptimisticLazy (Or.inr ⟨rfl, rfl⟩) ?_
  refine Wp.p (pc' := 203) d_init_202 rfl rfl ?_
  refine Wp.sipush (128 : Int32) d_init_203 (by decide) ?_
  refine Wp.new_int (a := 15) (z := 128) (L' := [(0, "OptimisticLazy", 72), (1, "", 64), (1, "", 64), (1, "", 64), (1, "", 64), (1, "", 64), (1, "", 64), (1, "", 64), (1, "", 64), (1, "", 64), (1, "", 128), (1, "", 128), (1, "", 128), (1, "", 128), (1, "", 128), (1, "", 128)]) d_init_206 ar_int (by decide) (by decide) rfl rfl ?_
  refine Wp.putR d_init_208 fa_c101 rfl (by decide) in_OptimisticLazy (Or.inr ⟨rfl, rfl⟩) ?_
  refine Wp.p (pc' := 212) d_init_211 rfl rfl ?_
  refine Wp.sipush (128 : Int32) d_init_212 (by decide) ?_
  refine Wp.new_int (a := 16) (z := 128) (L' := [(0, "OptimisticLazy", 72), (1, "", 64), (1, "", 64), (1, "", 64), (1, "", 64), (1, "", 64), (1, "", 64), (1, "", 64), (1, "", 64), (1, "", 64), (1, "", 128), (1, "", 128), (1, "", 128), (1, "", 128), (1, "", 128), (1, "", 128), (1, "", 128)]) d_init_215 ar_int (by decide) (by decide) rfl rfl ?_
  refine Wp.putR d_init_217 fa_c104 rfl (by decide) in_OptimisticLazy (Or.inr ⟨rfl, rfl⟩) ?_
  refine Wp.p (pc' := 221) d_init_220 rfl rfl ?_
  refine Wp.sipush (128 : Int32) d_init_221 (by decide) ?_
  refine Wp.new_int (a := 17) (z := 128) (L' := [(0, "OptimisticLazy", 72), (1, "", 64), (1, "", 64), (1, "", 64), (1, "", 64), (1, "", 64), (1, "", 64), (1, "", 64), (1, "", 64), (1, "", 64), (1, "", 128), (1, "", 128), (1, "", 128), (1, "", 128), (1, "", 128), (1, "", 128), (1, "", 128), (1, "", 128)]) d_init_224 ar_int (by decide) (by decide) rfl rfl ?_
  refine Wp.putR d_init_226 fa_c107 rfl (by decide) in_OptimisticLazy (Or.inr ⟨rfl, rfl⟩) ?_
  refine Wp.p (pc' := 230) d_init_229 rfl rfl ?_
  refine Wp.sipush (128 : Int32) d_init_230 (by decide) ?_
  refine Wp.new_int (a := 18) (z := 128) (L' := [(0, "OptimisticLazy", 72), (1, "", 64), (1, "", 64), (1, "", 64), (1, "", 64), (1, "", 64), (1, "", 64), (1, "", 64), (1, "", 64), (1, "", 64), (1, "", 128), (1, "", 128), (1, "", 128), (1, "", 128), (1, "", 128), (1, "", 128), (1, "", 128), (1, "", 128), (1, "", 128)]) d_init_233 ar_int (by decide) (by decide) rfl rfl ?_
  refine Wp.putR d_init_235 fa_c110 rfl (by decide) in_OptimisticLazy (Or.inr ⟨rfl, rfl⟩) ?_
  refine Wp.p (pc' := 239) d_init_238 rfl rfl ?_
  refine Wp.sipush (128 : Int32) d_init_239 (by decide) ?_
  refine Wp.new_int (a := 19) (z := 128) (L' := [(0, "OptimisticLazy", 72), (1, "", 64), (1, "", 64), (1, "", 64), (1, "", 64), (1, "", 64), (1, "", 64), (1, "", 64), (1, "", 64), (1, "", 64), (1, "", 128), (1, "", 128), (1, "", 128), (1, "", 128), (1, "", 128), (1, "", 128), (1, "", 128), (1, "", 128), (1, "", 128), (1, "", 128)]) d_init_242 ar_int (by decide) (by decide) rfl rfl ?_
  refine Wp.putR d_init_244 fa_c113 rfl (by decide) in_OptimisticLazy (Or.inr ⟨rfl, rfl⟩) ?_
  refine Wp.p (pc' := 248) d_init_247 rfl rfl ?_
  refine Wp.sipush (128 : Int32) d_init_248 (by decide) ?_
  refine Wp.new_int (a := 20) (z := 128) (L' := [(0, "OptimisticLazy", 72), (1, "", 64), (1, "", 64), (1, "", 64), (1, "", 64), (1, "", 64), (1, "", 64), (1, "", 64), (1, "", 64), (1, "", 64), (1, "", 128), (1, "", 128), (1, "", 128), (1, "", 128), (1, "", 128), (1, "", 128), (1, "", 128), (1, "", 128), (1, "", 128), (1, "", 128), (1, "", 128)]) d_init_251 ar_int (by decide) (by decide) rfl rfl ?_
  refine Wp.putR d_init_253 fa_c116 rfl (by decide) in_OptimisticLazy (Or.inr ⟨rfl, rfl⟩) ?_
  refine Wp.p (pc' := 257) d_init_256 rfl rfl ?_
  refine Wp.sipush (128 : Int32) d_init_257 (by decide) ?_
  refine Wp.new_int (a := 21) (z := 128) (L' := [(0, "OptimisticLazy", 72), (1, "", 64), (1, "", 64), (1, "", 64), (1, "", 64), (1, "", 64), (1, "", 64), (1, "", 64), (1, "", 64), (1, "", 64), (1, "", 128), (1, "", 128), (1, "", 128), (1, "", 128), (1, "", 128), (1, "", 128), (1, "", 128), (1, "", 128), (1, "", 128), (1, "", 128), (1, "", 128), (1, "", 128)]) d_init_260 ar_int (by decide) (by decide) rfl rfl ?_
  refine Wp.putR d_init_262 fa_c119 rfl (by decide) in_OptimisticLazy (Or.inr ⟨rfl, rfl⟩) ?_
  refine Wp.p (pc' := 266) d_init_265 rfl rfl ?_
  refine Wp.sipush (128 : Int32) d_init_266 (by decide) ?_
  refine Wp.new_int (a := 22) (z := 128) (L' := [(0, "OptimisticLazy", 72), (1, "", 64), (1, "", 64), (1, "", 64), (1, "", 64), (1, "", 64), (1, "", 64), (1, "", 64), (1, "", 64), (1, "", 64), (1, "", 128), (1, "", 128), (1, "", 128), (1, "", 128), (1, "", 128), (1, "", 128), (1, "", 128), (1, "", 128), (1, "", 128), (1, "", 128), (1, "", 128), (1, "", 128), (1, "", 128)]) d_init_269 ar_int (by decide) (by decide) rfl rfl ?_
  refine Wp.putR d_init_271 fa_c122 rfl (by decide) in_OptimisticLazy (Or.inr ⟨rfl, rfl⟩) ?_
  refine Wp.p (pc' := 275) d_init_274 rfl rfl ?_
  refine Wp.sipush (128 : Int32) d_init_275 (by decide) ?_
  refine Wp.new_int (a := 23) (z := 128) (L' := [(0, "OptimisticLazy", 72), (1, "", 64), (1, "", 64), (1, "", 64), (1, "", 64), (1, "", 64), (1, "", 64), (1, "", 64), (1, "", 64), (1, "", 64), (1, "", 128), (1, "", 128), (1, "", 128), (1, "", 128), (1, "", 128), (1, "", 128), (1, "", 128), (1, "", 128), (1, "", 128), (1, "", 128), (1, "", 128), (1, "", 128), (1, "", 128), (1, "", 128)]) d_init_278 ar_int (by decide) (by decide) rfl rfl ?_
  refine Wp.putR d_init_280 fa_c125 rfl (by decide) in_OptimisticLazy (Or.inr ⟨rfl, rfl⟩) ?_
  refine Wp.p (pc' := 284) d_init_283 rfl rfl ?_
  refine Wp.sipush (128 : Int32) d_init_284 (by decide) ?_
  refine Wp.new_int (a := 24) (z := 128) (L' := [(0, "OptimisticLazy", 72), (1, "", 64), (1, "", 64), (1, "", 64), (1, "", 64), (1, "", 64), (1, "", 64), (1, "", 64), (1, "", 64), (1, "", 64), (1, "", 128), (1, "", 128), (1, "", 128), (1, "", 128), (1, "", 128), (1, "", 128), (1, "", 128), (1, "", 128), (1, "", 128), (1, "", 128), (1, "", 128), (1, "", 128), (1, "", 128), (1, "", 128), (1, "", 128)]) d_init_287 ar_int (by decide) (by decide) rfl rfl ?_
  refine Wp.putR d_init_289 fa_c128 rfl (by decide) in_OptimisticLazy (Or.inr ⟨rfl, rfl⟩) ?_
  refine Wp.p (pc' := 293) d_init_292 rfl rfl ?_
  refine Wp.sipush (256 : Int32) d_init_293 (by decide) ?_
  refine Wp.new_int (a := 25) (z := 256) (L' := [(0, "OptimisticLazy", 72), (1, "", 64), (1, "", 64), (1, "", 64), (1, "", 64), (1, "", 64), (1, "", 64), (1, "", 64), (1, "", 64), (1, "", 64), (1, "", 128), (1, "", 128), (1, "", 128), (1, "", 128), (1, "", 128), (1, "", 128), (1, "", 128), (1, "", 128), (1, "", 128), (1, "", 128), (1, "", 128), (1, "", 128), (1, "", 128), (1, "", 128), (1, "", 128), (1, "", 256)]) d_init_296 ar_int (by decide) (by decide) rfl rfl ?_
  refine Wp.putR d_init_298 fa_c131 rfl (by decide) in_OptimisticLazy (Or.inr ⟨rfl, rfl⟩) ?_
  refine Wp.p (pc' := 302) d_init_301 rfl rfl ?_
  refine Wp.sipush (256 : Int32) d_init_302 (by decide) ?_
  refine Wp.new_int (a := 26) (z := 256) (L' := [(0, "OptimisticLazy", 72), (1, "", 64), (1, "", 64), (1, "", 64), (1, "", 64), (1, "", 64), (1, "", 64), (1, "", 64), (1, "", 64), (1, "", 64), (1, "", 128), (1, "", 128), (1, "", 128), (1, "", 128), (1, "", 128), (1, "", 128), (1, "", 128), (1, "", 128), (1, "", 128), (1, "", 128), (1, "", 128), (1, "", 128), (1, "", 128), (1, "", 128), (1, "", 128), (1, "", 256), (1, "", 256)]) d_init_305 ar_int (by decide) (by decide) rfl rfl ?_
  refine Wp.putR d_init_307 fa_c134 rfl (by decide) in_OptimisticLazy (Or.inr ⟨rfl, rfl⟩) ?_
  refine Wp.p (pc' := 311) d_init_310 rfl rfl ?_
  refine Wp.sipush (256 : Int32) d_init_311 (by decide) ?_
  refine Wp.new_int (a := 27) (z := 256) (L' := [(0, "OptimisticLazy", 72), (1, "", 64), (1, "", 64), (1, "", 64), (1, "", 64), (1, "", 64), (1, "", 64), (1, "", 64), (1, "", 64), (1, "", 64), (1, "", 128), (1, "", 128), (1, "", 128), (1, "", 128), (1, "", 128), (1, "", 128), (1, "", 128), (1, "", 128), (1, "", 128), (1, "", 128), (1, "", 128), (1, "", 128), (1, "", 128), (1, "", 128), (1, "", 128), (1, "", 256), (1, "", 256), (1, "", 256)]) d_init_314 ar_int (by decide) (by decide) rfl rfl ?_
  refine Wp.putR d_init_316 fa_c137 rfl (by decide) in_OptimisticLazy (Or.inr ⟨rfl, rfl⟩) ?_
  refine Wp.p (pc' := 320) d_init_319 rfl rfl ?_
  refine Wp.sipush (256 : Int32) d_init_320 (by decide) ?_
  refine Wp.new_int (a := 28) (z := 256) (L' := [(0, "OptimisticLazy", 72), (1, "", 64), (1, "", 64), (1, "", 64), (1, "", 64), (1, "", 64), (1, "", 64), (1, "", 64), (1, "", 64), (1, "", 64), (1, "", 128), (1, "", 128), (1, "", 128), (1, "", 128), (1, "", 128), (1, "", 128), (1, "", 128), (1, "", 128), (1, "", 128), (1, "", 128), (1, "", 128), (1, "", 128), (1, "", 128), (1, "", 128), (1, "", 128), (1, "", 256), (1, "", 256), (1, "", 256), (1, "", 256)]) d_init_323 ar_int (by decide) (by decide) rfl rfl ?_
  refine Wp.putR d_init_325 fa_c140 rfl (by decide) in_OptimisticLazy (Or.inr ⟨rfl, rfl⟩) ?_
  refine Wp.p (pc' := 329) d_init_328 rfl rfl ?_
  refine Wp.sipush (256 : Int32) d_init_329 (by decide) ?_
  refine Wp.new_int (a := 29) (z := 256) (L' := [(0, "OptimisticLazy", 72), (1, "", 64), (1, "", 64), (1, "", 64), (1, "", 64), (1, "", 64), (1, "", 64), (1, "", 64), (1, "", 64), (1, "", 64), (1, "", 128), (1, "", 128), (1, "", 128), (1, "", 128), (1, "", 128), (1, "", 128), (1, "", 128), (1, "", 128), (1, "", 128), (1, "", 128), (1, "", 128), (1, "", 128), (1, "", 128), (1, "", 128), (1, "", 128), (1, "", 256), (1, "", 256), (1, "", 256), (1, "", 256), (1, "", 256)]) d_init_332 ar_int (by decide) (by decide) rfl rfl ?_
  refine Wp.putR d_init_334 fa_c143 rfl (by decide) in_OptimisticLazy (Or.inr ⟨rfl, rfl⟩) ?_
  refine Wp.p (pc' := 338) d_init_337 rfl rfl ?_
  refine Wp.sipush (256 : Int32) d_init_338 (by decide) ?_
  refine Wp.new_int (a := 30) (z := 256) (L' := [(0, "OptimisticLazy", 72), (1, "", 64), (1, "", 64), (1, "", 64), (1, "", 64), (1, "", 64), (1, "", 64), (1, "", 64), (1, "", 64), (1, "", 64), (1, "", 128), (1, "", 128), (1, "", 128), (1, "", 128), (1, "", 128), (1, "", 128), (1, "", 128), (1, "", 128), (1, "", 128), (1, "", 128), (1, "", 128), (1, "", 128), (1, "", 128), (1, "", 128), (1, "", 128), (1, "", 256), (1, "", 256), (1, "", 256), (1, "", 256), (1, "", 256), (1, "", 256)]) d_init_341 ar_int (by decide) (by decide) rfl rfl ?_
  refine Wp.putR d_init_343 fa_c146 rfl (by decide) in_OptimisticLazy (Or.inr ⟨rfl, rfl⟩) ?_
  refine Wp.p (pc' := 347) d_init_346 rfl rfl ?_
  refine Wp.sipush (256 : Int32) d_init_347 (by decide) ?_
  refine Wp.new_int (a := 31) (z := 256) (L' := [(0, "OptimisticLazy", 72), (1, "", 64), (1, "", 64), (1, "", 64), (1, "", 64), (1, "", 64), (1, "", 64), (1, "", 64), (1, "", 64), (1, "", 64), (1, "", 128), (1, "", 128), (1, "", 128), (1, "", 128), (1, "", 128), (1, "", 128), (1, "", 128), (1, "", 128), (1, "", 128), (1, "", 128), (1, "", 128), (1, "", 128), (1, "", 128), (1, "", 128), (1, "", 128), (1, "", 256), (1, "", 256), (1, "", 256), (1, "", 256), (1, "", 256), (1, "", 256), (1, "", 256)]) d_init_350 ar_int (by decide) (by decide) rfl rfl ?_
  refine Wp.putR d_init_352 fa_c149 rfl (by decide) in_OptimisticLazy (Or.inr ⟨rfl, rfl⟩) ?_
  refine Wp.p (pc' := 356) d_init_355 rfl rfl ?_
  refine Wp.sipush (256 : Int32) d_init_356 (by decide) ?_
  refine Wp.new_int (a := 32) (z := 256) (L' := [(0, "OptimisticLazy", 72), (1, "", 64), (1, "", 64), (1, "", 64), (1, "", 64), (1, "", 64), (1, "", 64), (1, "", 64), (1, "", 64), (1, "", 64), (1, "", 128), (1, "", 128), (1, "", 128), (1, "", 128), (1, "", 128), (1, "", 128), (1, "", 128), (1, "", 128), (1, "", 128), (1, "", 128), (1, "", 128), (1, "", 128), (1, "", 128), (1, "", 128), (1, "", 128), (1, "", 256), (1, "", 256), (1, "", 256), (1, "", 256), (1, "", 256), (1, "", 256), (1, "", 256), (1, "", 256)]) d_init_359 ar_int (by decide) (by decide) rfl rfl ?_
  refine Wp.putR d_init_361 fa_c152 rfl (by decide) in_OptimisticLazy (Or.inr ⟨rfl, rfl⟩) ?_
  refine Wp.p (pc' := 365) d_init_364 rfl rfl ?_
  refine Wp.p (pc' := 366) d_init_365 rfl rfl ?_
  refine Wp.p (pc' := 367) d_init_366 rfl rfl ?_
  refine Wp.bipush (8 : Int32) d_init_367 (by decide) ?_
  refine Wp.bipush (64 : Int32) d_init_369 (by decide) ?_
  refine Wp.callP (a := 0) (as := [.int x1, .int (8 : Int32), .int (64 : Int32)]) (rest := [.ref 0]) (w := 1) (F' := 0) (Lb' := 0) d_init_371 ca_c155_1 rfl rfl rfl rfl (by decide) (by decide) (Nat.le_of_ble_eq_true rfl) ?_
  refine L_clamp_0 ?_
  intro v1 e1
  show W_init 374 [.val (.ref 0), .val (.int x1), .val (.int x2)] [.int v1, .ref 0] (LL1, (up (up (up (up (up (up (up (up (up (up (up (up (up (up (up (up mi 0 10 (0 : Int32)) 0 12 (1 : Int32)) 0 14 (2 : Int32)) 0 16 (3 : Int32)) 0 18 (0 : Int32)) 0 20 (1 : Int32)) 0 22 (2 : Int32)) 0 24 (3 : Int32)) 0 26 (0 : Int32)) 0 28 (1 : Int32)) 0 30 (2 : Int32)) 0 32 (0 : Int32)) 0 34 (1 : Int32)) 0 36 (2 : Int32)) 0 38 (3 : Int32)) 0 40 (32 : Int32)), ml, RR1) Q
  refine Wp.putI d_init_374 fa_c159 rfl (by decide) in_OptimisticLazy (Or.inl rfl) ?_
  refine Wp.p (pc' := 378) d_init_377 rfl rfl ?_
  refine Wp.p (pc' := 379) d_init_378 rfl rfl ?_
  refine Wp.p (pc' := 380) d_init_379 rfl rfl ?_
  refine Wp.iconst (0 : Int32) d_init_380 (by decide) ?_
  refine Wp.bipush (32 : Int32) d_init_381 (by decide) ?_
  refine Wp.callP (a := 0) (as := [.int x2, .int (0 : Int32), .int (32 : Int32)]) (rest := [.ref 0]) (w := 1) (F' := 0) (Lb' := 0) d_init_383 ca_c155_1 rfl rfl rfl rfl (by decide) (by decide) (Nat.le_of_ble_eq_true rfl) ?_
  refine L_clamp_0 ?_
  intro v2 e2
  show W_init 386 [.val (.ref 0), .val (.int x1), .val (.int x2)] [.int v2, .ref 0] (LL1, (up (up (up (up (up (up (up (up (up (up (up (up (up (up (up (up (up mi 0 10 (0 : Int32)) 0 12 (1 : Int32)) 0 14 (2 : Int32)) 0 16 (3 : Int32)) 0 18 (0 : Int32)) 0 20 (1 : Int32)) 0 22 (2 : Int32)) 0 24 (3 : Int32)) 0 26 (0 : Int32)) 0 28 (1 : Int32)) 0 30 (2 : Int32)) 0 32 (0 : Int32)) 0 34 (1 : Int32)) 0 36 (2 : Int32)) 0 38 (3 : Int32)) 0 40 (32 : Int32)) 0 111 v1), ml, RR1) Q
  refine Wp.putI d_init_386 fa_c162 rfl (by decide) in_OptimisticLazy (Or.inl rfl) ?_
  refine Wp.p (pc' := 390) d_init_389 rfl rfl ?_
  refine Wp.callP (a := 0) (as := []) (rest := []) (w := 0) (F' := 1) (Lb' := 13) d_init_390 ca_c165_1 rfl rfl rfl rfl (by decide) (by decide) (Nat.le_of_ble_eq_true rfl) ?_
  exact (h1 v1 e1 v2 e2)
set_option maxRecDepth 65536 in
set_option maxHeartbeats 4000000 in
theorem L_init_393 {x1 x2 : Int32} {mi : Nat → Nat → Int32} {ml : Nat → Nat → Int64} {Q : Option Value → EMem → Prop}
    (h1 : Q none (LL1, mi, ml, RR1)) :
    W_init 393 [.val (.ref 0), .val (.int x1), .val (.int x2)] [] (LL1, mi, ml, RR1) Q := by
  refine Wp.retV d_init_393 ?_
  exact h1
set_option maxRecDepth 65536 in
set_option maxHeartbeats 4000000 in
theorem L_attachChildren_0 {x1 x2 : Int32} {mi : Nat → Nat → Int32} {ml : Nat → Nat → Int64} {Q : Option Value → EMem → Prop}
    (b1 : inb x1 64 = true)
    (h1 : x2 < (2 : Int32) → Q none (LL1, (up (up (up mi 3 (Int32.toNatClampNeg x1) (-1 : Int32)) 4 (Int32.toNatClampNeg x1) (-1 : Int32)) 5 (Int32.toNatClampNeg x1) (-1 : Int32)), ml, RR1))
    (h2 : ¬ x2 < (2 : Int32) → (mi 0 121) < x2 → Q none (LL1, (up (up (up mi 3 (Int32.toNatClampNeg x1) (-1 : Int32)) 4 (Int32.toNatClampNeg x1) (-1 : Int32)) 5 (Int32.toNatClampNeg x1) (-1 : Int32)), ml, RR1))
    (b2 : ¬ x2 < (2 : Int32) → ¬ (mi 0 121) < x2 → ¬ (64 : Int32) < (mi 0 121) → ¬ x2 = (3 : Int32) → inb ((mi 0 121) - (2 : Int32)) 64 = true)
    (b3 : ¬ x2 < (2 : Int32) → ¬ (mi 0 121) < x2 → ¬ (64 : Int32) < (mi 0 121) → ¬ x2 = (3 : Int32) → inb x1 64 = true)
    (b4 : ¬ x2 < (2 : Int32) → ¬ (mi 0 121) < x2 → ¬ (64 : Int32) < (mi 0 121) → ¬ x2 = (3 : Int32) → inb ((mi 0 121) - (1 : Int32)) 64 = true)
    (h3 : ¬ x2 < (2 : Int32) → ¬ (mi 0 121) < x2 → ¬ (64 : Int32) < (mi 0 121) → ¬ x2 = (3 : Int32) → W_attachChildren 137 [.val (.ref 0), .val (.int x1), .val (.int x2)] [] (LL1, (up (up (up (up (up mi 3 (Int32.toNatClampNeg x1) (-1 : Int32)) 4 (Int32.toNatClampNeg x1) (-1 : Int32)) 5 (Int32.toNatClampNeg x1) (-1 : Int32)) 3 (Int32.toNatClampNeg x1) (mi 6 (Int32.toNatClampNeg ((mi 0 121) - (2 : Int32))))) 4 (Int32.toNatClampNeg x1) (mi 6 (Int32.toNatClampNeg ((mi 0 121) - (1 : Int32))))), ml, RR1) Q)
    (b5 : ¬ x2 < (2 : Int32) → ¬ (mi 0 121) < x2 → ¬ (64 : Int32) < (mi 0 121) → x2 = (3 : Int32) → inb ((mi 0 121) - (3 : Int32)) 64 = true)
    (b6 : ¬ x2 < (2 : Int32) → ¬ (mi 0 121) < x2 → ¬ (64 : Int32) < (mi 0 121) → x2 = (3 : Int32) → inb x1 64 = true)
    (b7 : ¬ x2 < (2 : Int32) → ¬ (mi 0 121) < x2 → ¬ (64 : Int32) < (mi 0 121) → x2 = (3 : Int32) → inb ((mi 0 121) - (2 : Int32)) 64 = true)
    (b8 : ¬ x2 < (2 : Int32) → ¬ (mi 0 121) < x2 → ¬ (64 : Int32) < (mi 0 121) → x2 = (3 : Int32) → inb ((mi 0 121) - (1 : Int32)) 64 = true)
    (h4 : ¬ x2 < (2 : Int32) → ¬ (mi 0 121) < x2 → ¬ (64 : Int32) < (mi 0 121) → x2 = (3 : Int32) → W_attachChildren 137 [.val (.ref 0), .val (.int x1), .val (.int x2)] [] (LL1, (up (up (up (up (up (up mi 3 (Int32.toNatClampNeg x1) (-1 : Int32)) 4 (Int32.toNatClampNeg x1) (-1 : Int32)) 5 (Int32.toNatClampNeg x1) (-1 : Int32)) 3 (Int32.toNatClampNeg x1) (mi 6 (Int32.toNatClampNeg ((mi 0 121) - (3 : Int32))))) 4 (Int32.toNatClampNeg x1) (mi 6 (Int32.toNatClampNeg ((mi 0 121) - (2 : Int32))))) 5 (Int32.toNatClampNeg x1) (mi 6 (Int32.toNatClampNeg ((mi 0 121) - (1 : Int32))))), ml, RR1) Q)
    (h5 : ¬ x2 < (2 : Int32) → ¬ (mi 0 121) < x2 → (64 : Int32) < (mi 0 121) → Q none (LL1, (up (up (up mi 3 (Int32.toNatClampNeg x1) (-1 : Int32)) 4 (Int32.toNatClampNeg x1) (-1 : Int32)) 5 (Int32.toNatClampNeg x1) (-1 : Int32)), ml, RR1)) :
    W_attachChildren 0 [.val (.ref 0), .val (.int x1), .val (.int x2)] [] (LL1, mi, ml, RR1) Q := by
  refine Wp.p (pc' := 1) d_attachChildren_0 rfl rfl ?_
  refine Wp.getR (b := 3) d_attachChildren_1 fa_c65 rfl rfl ?_
  refine Wp.p (pc' := 5) d_attachChildren_4 rfl rfl ?_
  refine Wp.iconst (-1 : Int32) d_attachChildren_5 (by decide) ?_
  refine Wp.iastore d_attachChildren_6 rfl (k := (Int32.toNatClampNeg x1)) rfl b1 (by decide) ?_
  refine Wp.p (pc' := 8) d_attachChildren_7 rfl rfl ?_
  refine Wp.getR (b := 4) d_attachChildren_8 fa_c68 rfl rfl ?_
  refine Wp.p (pc' := 12) d_attachChildren_11 rfl rfl ?_
  refine Wp.iconst (-1 : Int32) d_attachChildren_12 (by decide) ?_
  refine Wp.iastore d_attachChildren_13 rfl (k := (Int32.toNatClampNeg x1)) rfl b1 (by decide) ?_
  refine Wp.p (pc' := 15) d_attachChildren_14 rfl rfl ?_
  refine Wp.getR (b := 5) d_attachChildren_15 fa_c71 rfl rfl ?_
  refine Wp.p (pc' := 19) d_attachChildren_18 rfl rfl ?_
  refine Wp.iconst (-1 : Int32) d_attachChildren_19 (by decide) ?_
  refine Wp.iastore d_attachChildren_20 rfl (k := (Int32.toNatClampNeg x1)) rfl b1 (by decide) ?_
  refine Wp.p (pc' := 22) d_attachChildren_21 rfl rfl ?_
  refine Wp.iconst (2 : Int32) d_attachChildren_22 (by decide) ?_
  refine Wp.icmp_lt d_attachChildren_23 rfl (fun c1 => ?_) (fun c1 => ?_)
  ·
    refine Wp.retV d_attachChildren_43 ?_
    exact (h1 c1)
  ·
    refine Wp.p (pc' := 27) d_attachChildren_26 rfl rfl ?_
    refine Wp.getI (mi 0 121) d_attachChildren_27 fa_c175 rfl rfl ?_
    refine Wp.p (pc' := 31) d_attachChildren_30 rfl rfl ?_
    refine Wp.icmp_lt d_attachChildren_31 rfl (fun c2 => ?_) (fun c2 => ?_)
    ·
      refine Wp.retV d_attachChildren_43 ?_
      exact (h2 c1 c2)
    ·
      refine Wp.p (pc' := 35) d_attachChildren_34 rfl rfl ?_
      refine Wp.getI (mi 0 121) d_attachChildren_35 fa_c175 rfl rfl ?_
      refine Wp.bipush (64 : Int32) d_attachChildren_38 (by decide) ?_
      refine Wp.icmp_le d_attachChildren_40 rfl (fun c3 => ?_) (fun c3 => ?_)
      ·
        refine Wp.p (pc' := 45) d_attachChildren_44 rfl rfl ?_
        refine Wp.iconst (3 : Int32) d_attachChildren_45 (by decide) ?_
        refine Wp.icmp_ne d_attachChildren_46 rfl (fun c4 => ?_) (fun c4 => ?_)
        ·
          refine Wp.p (pc' := 104) d_attachChildren_103 rfl rfl ?_
          refine Wp.getR (b := 3) d_attachChildren_104 fa_c65 rfl rfl ?_
          refine Wp.p (pc' := 108) d_attachChildren_107 rfl rfl ?_
          refine Wp.p (pc' := 109) d_attachChildren_108 rfl rfl ?_
          refine Wp.getR (b := 6) d_attachChildren_109 fa_c74 rfl rfl ?_
          refine Wp.p (pc' := 113) d_attachChildren_112 rfl rfl ?_
          refine Wp.getI (mi 0 121) d_attachChildren_113 fa_c175 rfl rfl ?_
          refine Wp.iconst (2 : Int32) d_attachChildren_116 (by decide) ?_
          refine Wp.p (pc' := 118) d_attachChildren_117 rfl rfl ?_
          refine Wp.iaload (mi 6 (Int32.toNatClampNeg ((mi 0 121) - (2 : Int32)))) d_attachChildren_118 rfl (k := (Int32.toNatClampNeg ((mi 0 121) - (2 : Int32)))) rfl (b2 c1 c2 c3 c4) rfl ?_
          refine Wp.iastore d_attachChildren_119 rfl (k := (Int32.toNatClampNeg x1)) rfl (b3 c1 c2 c3 c4) (by decide) ?_
          refine Wp.p (pc' := 121) d_attachChildren_120 rfl rfl ?_
          refine Wp.getR (b := 4) d_attachChildren_121 fa_c68 rfl rfl ?_
          refine Wp.p (pc' := 125) d_attachChildren_124 rfl rfl ?_
          refine Wp.p (pc' := 126) d_attachChildren_125 rfl rfl ?_
          refine Wp.getR (b := 6) d_attachChildren_126 fa_c74 rfl rfl ?_
          refine Wp.p (pc' := 130) d_attachChildren_129 rfl rfl ?_
          refine Wp.getI (mi 0 121) d_attachChildren_130 fa_c175 rfl rfl ?_
          refine Wp.iconst (1 : Int32) d_attachChildren_133 (by decide) ?_
          refine Wp.p (pc' := 135) d_attachChildren_134 rfl rfl ?_
          refine Wp.iaload (mi 6 (Int32.toNatClampNeg ((mi 0 121) - (1 : Int32)))) d_attachChildren_135 rfl (k := (Int32.toNatClampNeg ((mi 0 121) - (1 : Int32)))) rfl (b4 c1 c2 c3 c4) rfl ?_
          refine Wp.iastore d_attachChildren_136 rfl (k := (Int32.toNatClampNeg x1)) rfl (b3 c1 c2 c3 c4) (by decide) ?_
          exact (h3 c1 c2 c3 c4)
        ·
          refine Wp.p (pc' := 50) d_attachChildren_49 rfl rfl ?_
          refine Wp.getR (b := 3) d_attachChildren_50 fa_c65 rfl rfl ?_
          refine Wp.p (pc' := 54) d_attachChildren_53 rfl rfl ?_
          refine Wp.p (pc' := 55) d_attachChildren_54 rfl rfl ?_
          refine Wp.getR (b := 6) d_attachChildren_55 fa_c74 rfl rfl ?_
          refine Wp.p (pc' := 59) d_attachChildren_58 rfl rfl ?_
          refine Wp.getI (mi 0 121) d_attachChildren_59 fa_c175 rfl rfl ?_
          refine Wp.iconst (3 : Int32) d_attachChildren_62 (by decide) ?_
          refine Wp.p (pc' := 64) d_attachChildren_63 rfl rfl ?_
          refine Wp.iaload (mi 6 (Int32.toNatClampNeg ((mi 0 121) - (3 : Int32)))) d_attachChildren_64 rfl (k := (Int32.toNatClampNeg ((mi 0 121) - (3 : Int32)))) rfl (b5 c1 c2 c3 c4) rfl ?_
          refine Wp.iastore d_attachChildren_65 rfl (k := (Int32.toNatClampNeg x1)) rfl (b6 c1 c2 c3 c4) (by decide) ?_
          refine Wp.p (pc' := 67) d_attachChildren_66 rfl rfl ?_
          refine Wp.getR (b := 4) d_attachChildren_67 fa_c68 rfl rfl ?_
          refine Wp.p (pc' := 71) d_attachChildren_70 rfl rfl ?_
          refine Wp.p (pc' := 72) d_attachChildren_71 rfl rfl ?_
          refine Wp.getR (b := 6) d_attachChildren_72 fa_c74 rfl rfl ?_
          refine Wp.p (pc' := 76) d_attachChildren_75 rfl rfl ?_
          refine Wp.getI (mi 0 121) d_attachChildren_76 fa_c175 rfl rfl ?_
          refine Wp.iconst (2 : Int32) d_attachChildren_79 (by decide) ?_
          refine Wp.p (pc' := 81) d_attachChildren_80 rfl rfl ?_
          refine Wp.iaload (mi 6 (Int32.toNatClampNeg ((mi 0 121) - (2 : Int32)))) d_attachChildren_81 rfl (k := (Int32.toNatClampNeg ((mi 0 121) - (2 : Int32)))) rfl (b7 c1 c2 c3 c4) rfl ?_
          refine Wp.iastore d_attachChildren_82 rfl (k := (Int32.toNatClampNeg x1)) rfl (b6 c1 c2 c3 c4) (by decide) ?_
          refine Wp.p (pc' := 84) d_attachChildren_83 rfl rfl ?_
          refine Wp.getR (b := 5) d_attachChildren_84 fa_c71 rfl rfl ?_
          refine Wp.p (pc' := 88) d_attachChildren_87 rfl rfl ?_
          refine Wp.p (pc' := 89) d_attachChildren_88 rfl rfl ?_
          refine Wp.getR (b := 6) d_attachChildren_89 fa_c74 rfl rfl ?_
          refine Wp.p (pc' := 93) d_attachChildren_92 rfl rfl ?_
          refine Wp.getI (mi 0 121) d_attachChildren_93 fa_c175 rfl rfl ?_
          refine Wp.iconst (1 : Int32) d_attachChildren_96 (by decide) ?_
          refine Wp.p (pc' := 98) d_attachChildren_97 rfl rfl ?_
          refine Wp.iaload (mi 6 (Int32.toNatClampNeg ((mi 0 121) - (1 : Int32)))) d_attachChildren_98 rfl (k := (Int32.toNatClampNeg ((mi 0 121) - (1 : Int32)))) rfl (b8 c1 c2 c3 c4) rfl ?_
          refine Wp.iastore d_attachChildren_99 rfl (k := (Int32.toNatClampNeg x1)) rfl (b6 c1 c2 c3 c4) (by decide) ?_
          refine Wp.p (pc' := 137) d_attachChildren_100 rfl rfl ?_
          exact (h4 c1 c2 c3 c4)
      ·
        refine Wp.retV d_attachChildren_43 ?_
        exact (h5 c1 c2 c3)
set_option maxRecDepth 65536 in
set_option maxHeartbeats 4000000 in
theorem L_attachChildren_137 {x1 x2 : Int32} {mi : Nat → Nat → Int32} {ml : Nat → Nat → Int64} {Q : Option Value → EMem → Prop}
    (h1 : Q none (LL1, (up mi 0 121 ((mi 0 121) - x2)), ml, RR1)) :
    W_attachChildren 137 [.val (.ref 0), .val (.int x1), .val (.int x2)] [] (LL1, mi, ml, RR1) Q := by
  refine Wp.p (pc' := 138) d_attachChildren_137 rfl rfl ?_
  refine Wp.p (pc' := 139) d_attachChildren_138 rfl rfl ?_
  refine Wp.getI (mi 0 121) d_attachChildren_139 fa_c175 rfl rfl ?_
  refine Wp.p (pc' := 143) d_attachChildren_142 rfl rfl ?_
  refine Wp.p (pc' := 144) d_attachChildren_143 rfl rfl ?_
  refine Wp.putI d_attachChildren_144 fa_c175 rfl (by decide) in_OptimisticLazy (Or.inl rfl) ?_
  refine Wp.retV d_attachChildren_147 ?_
  exact h1
set_option maxRecDepth 65536 in
set_option maxHeartbeats 4000000 in
theorem L_push_0 {x1 x2 : Int32} {mi : Nat → Nat → Int32} {ml : Nat → Nat → Int64} {Q : Option Value → EMem → Prop}
    (h1 : x1 < (0 : Int32) → Q (some (.int (-1 : Int32))) (LL1, mi, ml, RR1))
    (h2 : ¬ x1 < (0 : Int32) → ¬ (13 : Int32) < x1 → ¬ (mi 0 119) = (mi 0 111) → ∀ v4 : Int32, v4 = (if x1 = (12 : Int32) then (3 : Int32) else (if x1 < (4 : Int32) then (0 : Int32) else (if (13 : Int32) < x1 then (0 : Int32) else (2 : Int32)))) → ¬ (mi 0 121) < v4 → x1 = (1 : Int32) → W_push 54 [.val (.ref 0), .val (.int x1), .val (.int x2), .val (.int v4), .unset] [] (LL1, mi, ml, RR1) Q)
    (h3 : ¬ x1 < (0 : Int32) → ¬ (13 : Int32) < x1 → ¬ (mi 0 119) = (mi 0 111) → ∀ v4 : Int32, v4 = (if x1 = (12 : Int32) then (3 : Int32) else (if x1 < (4 : Int32) then (0 : Int32) else (if (13 : Int32) < x1 then (0 : Int32) else (2 : Int32)))) → ¬ (mi 0 121) < v4 → ¬ x1 = (1 : Int32) → ¬ x1 = (13 : Int32) → W_push 67 [.val (.ref 0), .val (.int x1), .val (.int x2), .val (.int v4), .unset] [] (LL1, mi, ml, RR1) Q)
    (h4 : ¬ x1 < (0 : Int32) → ¬ (13 : Int32) < x1 → ¬ (mi 0 119) = (mi 0 111) → ∀ v4 : Int32, v4 = (if x1 = (12 : Int32) then (3 : Int32) else (if x1 < (4 : Int32) then (0 : Int32) else (if (13 : Int32) < x1 then (0 : Int32) else (2 : Int32)))) → ¬ (mi 0 121) < v4 → ¬ x1 = (1 : Int32) → x1 = (13 : Int32) → W_push 54 [.val (.ref 0), .val (.int x1), .val (.int x2), .val (.int v4), .unset] [] (LL1, mi, ml, RR1) Q)
    (h5 : ¬ x1 < (0 : Int32) → ¬ (13 : Int32) < x1 → ¬ (mi 0 119) = (mi 0 111) → ∀ v4 : Int32, v4 = (if x1 = (12 : Int32) then (3 : Int32) else (if x1 < (4 : Int32) then (0 : Int32) else (if (13 : Int32) < x1 then (0 : Int32) else (2 : Int32)))) → (mi 0 121) < v4 → Q (some (.int (-3 : Int32))) (LL1, mi, ml, RR1))
    (h6 : ¬ x1 < (0 : Int32) → ¬ (13 : Int32) < x1 → (mi 0 119) = (mi 0 111) → Q (some (.int (-2 : Int32))) (LL1, mi, ml, RR1))
    (h7 : ¬ x1 < (0 : Int32) → (13 : Int32) < x1 → Q (some (.int (-1 : Int32))) (LL1, mi, ml, RR1)) :
    W_push 0 [.val (.ref 0), .val (.int x1), .val (.int x2), .unset, .unset] [] (LL1, mi, ml, RR1) Q := by
  refine Wp.p (pc' := 1) d_push_0 rfl rfl ?_
  refine Wp.if_lt d_push_1 rfl (fun c1 => ?_) (fun c1 => ?_)
  ·
    refine Wp.iconst (-1 : Int32) d_push_10 (by decide) ?_
    refine Wp.retI d_push_11 ?_
    exact (h1 c1)
  ·
    refine Wp.p (pc' := 5) d_push_4 rfl rfl ?_
    refine Wp.bipush (13 : Int32) d_push_5 (by decide) ?_
    refine Wp.icmp_le d_push_7 rfl (fun c2 => ?_) (fun c2 => ?_)
    ·
      refine Wp.p (pc' := 13) d_push_12 rfl rfl ?_
      refine Wp.getI (mi 0 119) d_push_13 fa_c168 rfl rfl ?_
      refine Wp.p (pc' := 17) d_push_16 rfl rfl ?_
      refine Wp.getI (mi 0 111) d_push_17 fa_c159 rfl rfl ?_
      refine Wp.icmp_ne d_push_20 rfl (fun c3 => ?_) (fun c3 => ?_)
      ·
        refine Wp.p (pc' := 27) d_push_26 rfl rfl ?_
        refine Wp.p (pc' := 28) d_push_27 rfl rfl ?_
        refine Wp.callP (a := 0) (as := [.int x1]) (rest := []) (w := 0) (F' := 0) (Lb' := 0) d_push_28 ca_c171_1 rfl rfl rfl rfl (by decide) (by decide) (Nat.le_of_ble_eq_true rfl) ?_
        refine L_arity_0 ?_
        intro v4 e4
        show W_push 31 [.val (.ref 0), .val (.int x1), .val (.int x2), .unset, .unset] [.int v4] (LL1, mi, ml, RR1) Q
        refine Wp.p (pc' := 32) d_push_31 rfl rfl ?_
        refine Wp.p (pc' := 33) d_push_32 rfl rfl ?_
        refine Wp.getI (mi 0 121) d_push_33 fa_c175 rfl rfl ?_
        refine Wp.p (pc' := 37) d_push_36 rfl rfl ?_
        refine Wp.icmp_ge d_push_37 rfl (fun c5 => ?_) (fun c5 => ?_)
        ·
          refine Wp.p (pc' := 44) d_push_43 rfl rfl ?_
          refine Wp.iconst (1 : Int32) d_push_44 (by decide) ?_
          refine Wp.icmp_eq d_push_45 rfl (fun c6 => ?_) (fun c6 => ?_)
          ·
            exact (h2 c1 c2 c3 v4 e4 c5 c6)
          ·
            refine Wp.p (pc' := 49) d_push_48 rfl rfl ?_
            refine Wp.bipush (13 : Int32) d_push_49 (by decide) ?_
            refine Wp.icmp_ne d_push_51 rfl (fun c7 => ?_) (fun c7 => ?_)
            ·
              exact (h3 c1 c2 c3 v4 e4 c5 c6 c7)
            ·
              exact (h4 c1 c2 c3 v4 e4 c5 c6 c7)
        ·
          refine Wp.bipush (-3 : Int32) d_push_40 (by decide) ?_
          refine Wp.retI d_push_42 ?_
          exact (h5 c1 c2 c3 v4 e4 c5)
      ·
        refine Wp.bipush (-2 : Int32) d_push_23 (by decide) ?_
        refine Wp.retI d_push_25 ?_
        exact (h6 c1 c2 c3)
    ·
      refine Wp.iconst (-1 : Int32) d_push_10 (by decide) ?_
      refine Wp.retI d_push_11 ?_
      exact (h7 c1 c2)
set_option maxRecDepth 65536 in
set_option maxHeartbeats 4000000 in
theorem L_push_54 {x1 x2 x3 : Int32} {mi : Nat → Nat → Int32} {ml : Nat → Nat → Int64} {Q : Option Value → EMem → Prop}
    (h1 : x2 < (0 : Int32) → Q (some (.int (-4 : Int32))) (LL1, mi, ml, RR1))
    (h2 : ¬ x2 < (0 : Int32) → ¬ (7 : Int32) < x2 → W_push 67 [.val (.ref 0), .val (.int x1), .val (.int x2), .val (.int x3), .unset] [] (LL1, mi, ml, RR1) Q)
    (h3 : ¬ x2 < (0 : Int32) → (7 : Int32) < x2 → Q (some (.int (-4 : Int32))) (LL1, mi, ml, RR1)) :
    W_push 54 [.val (.ref 0), .val (.int x1), .val (.int x2), .val (.int x3), .unset] [] (LL1, mi, ml, RR1) Q := by
  refine Wp.p (pc' := 55) d_push_54 rfl rfl ?_
  refine Wp.if_lt d_push_55 rfl (fun c1 => ?_) (fun c1 => ?_)
  ·
    refine Wp.bipush (-4 : Int32) d_push_64 (by decide) ?_
    refine Wp.retI d_push_66 ?_
    exact (h1 c1)
  ·
    refine Wp.p (pc' := 59) d_push_58 rfl rfl ?_
    refine Wp.bipush (7 : Int32) d_push_59 (by decide) ?_
    refine Wp.icmp_le d_push_61 rfl (fun c2 => ?_) (fun c2 => ?_)
    ·
      exact (h2 c1 c2)
    ·
      refine Wp.bipush (-4 : Int32) d_push_64 (by decide) ?_
      refine Wp.retI d_push_66 ?_
      exact (h3 c1 c2)
set_option maxRecDepth 65536 in
set_option maxHeartbeats 4000000 in
theorem L_push_67 {x1 x2 x3 : Int32} {mi : Nat → Nat → Int32} {ml : Nat → Nat → Int64} {Q : Option Value → EMem → Prop}
    (h1 : (mi 0 119) < (0 : Int32) → Q (some (.int (-2 : Int32))) (LL1, mi, ml, RR1))
    (h2 : ¬ (mi 0 119) < (0 : Int32) → ¬ (mi 0 119) < (64 : Int32) → Q (some (.int (-2 : Int32))) (LL1, mi, ml, RR1))
    (b1 : ¬ (mi 0 119) < (0 : Int32) → (mi 0 119) < (64 : Int32) → ¬ (64 : Int32) < (mi 0 121) → inb (mi 0 119) 64 = true)
    (b2 : ¬ (mi 0 119) < (0 : Int32) → (mi 0 119) < (64 : Int32) → ¬ (64 : Int32) < (mi 0 121) → ∀ v4 : Int32, v4 = (if x1 = (0 : Int32) then (1 : Int32) else (if x1 = (1 : Int32) then (1 : Int32) else (if x1 = (2 : Int32) then (1 : Int32) else (if x1 = (13 : Int32) then (1 : Int32) else (0 : Int32))))) → ∀ v5 : Int32, v5 = (if (v4 &&& 1) = (0 : Int32) then (0 : Int32) else x2) → inb (mi 0 119) 64 = true)
    (h3 : ¬ (mi 0 119) < (0 : Int32) → (mi 0 119) < (64 : Int32) → ¬ (64 : Int32) < (mi 0 121) → ∀ v4 : Int32, v4 = (if x1 = (0 : Int32) then (1 : Int32) else (if x1 = (1 : Int32) then (1 : Int32) else (if x1 = (2 : Int32) then (1 : Int32) else (if x1 = (13 : Int32) then (1 : Int32) else (0 : Int32))))) → ∀ v5 : Int32, v5 = (if (v4 &&& 1) = (0 : Int32) then (0 : Int32) else x2) → W_attachChildren 0 [.val (.ref 0), .val (.int (mi 0 119)), .val (.int x3)] [] (LL1, (up (up mi 1 (Int32.toNatClampNeg (mi 0 119)) x1) 2 (Int32.toNatClampNeg (mi 0 119)) v5), ml, RR1) (fun v M' => W_push 132 [.val (.ref 0), .val (.int x1), .val (.int x2), .val (.int x3), .val (.int (mi 0 119))] (v.toList ++ []) M' Q))
    (h4 : ¬ (mi 0 119) < (0 : Int32) → (mi 0 119) < (64 : Int32) → (64 : Int32) < (mi 0 121) → Q (some (.int (-2 : Int32))) (LL1, mi, ml, RR1)) :
    W_push 67 [.val (.ref 0), .val (.int x1), .val (.int x2), .val (.int x3), .unset] [] (LL1, mi, ml, RR1) Q := by
  refine Wp.p (pc' := 68) d_push_67 rfl rfl ?_
  refine Wp.getI (mi 0 119) d_push_68 fa_c168 rfl rfl ?_
  refine Wp.p (pc' := 73) d_push_71 rfl rfl ?_
  refine Wp.p (pc' := 75) d_push_73 rfl rfl ?_
  refine Wp.if_lt d_push_75 rfl (fun c1 => ?_) (fun c1 => ?_)
  ·
    refine Wp.bipush (-2 : Int32) d_push_94 (by decide) ?_
    refine Wp.retI d_push_96 ?_
    exact (h1 c1)
  ·
    refine Wp.p (pc' := 80) d_push_78 rfl rfl ?_
    refine Wp.bipush (64 : Int32) d_push_80 (by decide) ?_
    refine Wp.icmp_ge d_push_82 rfl (fun c2 => ?_) (fun c2 => ?_)
    ·
      refine Wp.bipush (-2 : Int32) d_push_94 (by decide) ?_
      refine Wp.retI d_push_96 ?_
      exact (h2 c1 c2)
    ·
      refine Wp.p (pc' := 86) d_push_85 rfl rfl ?_
      refine Wp.getI (mi 0 121) d_push_86 fa_c175 rfl rfl ?_
      refine Wp.bipush (64 : Int32) d_push_89 (by decide) ?_
      refine Wp.icmp_le d_push_91 rfl (fun c3 => ?_) (fun c3 => ?_)
      ·
        refine Wp.p (pc' := 98) d_push_97 rfl rfl ?_
        refine Wp.getR (b := 1) d_push_98 fa_c58 rfl rfl ?_
        refine Wp.p (pc' := 103) d_push_101 rfl rfl ?_
        refine Wp.p (pc' := 104) d_push_103 rfl rfl ?_
        refine Wp.iastore d_push_104 rfl (k := (Int32.toNatClampNeg (mi 0 119))) rfl (b1 c1 c2 c3) (by decide) ?_
        refine Wp.p (pc' := 106) d_push_105 rfl rfl ?_
        refine Wp.getR (b := 2) d_push_106 fa_c62 rfl rfl ?_
        refine Wp.p (pc' := 111) d_push_109 rfl rfl ?_
        refine Wp.p (pc' := 112) d_push_111 rfl rfl ?_
        refine Wp.p (pc' := 113) d_push_112 rfl rfl ?_
        refine Wp.callP (a := 0) (as := [.int x1]) (rest := [.int (mi 0 119), .ref 2]) (w := 2) (F' := 0) (Lb' := 0) d_push_113 ca_c178_1 rfl rfl rfl rfl (by decide) (by decide) (Nat.le_of_ble_eq_true rfl) ?_
        refine L_storesArg_0 ?_
        intro v4 e4
        show W_push 116 [.val (.ref 0), .val (.int x1), .val (.int x2), .val (.int x3), .val (.int (mi 0 119))] [.int (v4 &&& 1), .int (mi 0 119), .ref 2] (LL1, (up mi 1 (Int32.toNatClampNeg (mi 0 119)) x1), ml, RR1) Q
        obtain ⟨v5, e5⟩ : ∃ z : Int32, z = (if (v4 &&& 1) = (0 : Int32) then (0 : Int32) else x2) := ⟨_, rfl⟩
        suffices K : W_push 124 [.val (.ref 0), .val (.int x1), .val (.int x2), .val (.int x3), .val (.int (mi 0 119))] [.int v5, .int (mi 0 119), .ref 2] (LL1, (up mi 1 (Int32.toNatClampNeg (mi 0 119)) x1), ml, RR1) Q by
          refine Wp.if_eq d_push_116 rfl (fun q0 => ?_) (fun q0 => ?_)
          ·
            refine Wp.iconst (0 : Int32) d_push_123 (by decide) ?_
            rw [if_pos q0] at e5; subst e5
            exact K
          ·
            refine Wp.p (pc' := 120) d_push_119 rfl rfl ?_
            refine Wp.p (pc' := 124) d_push_120 rfl rfl ?_
            rw [if_neg q0] at e5; subst e5
            exact K
        refine Wp.iastore d_push_124 rfl (k := (Int32.toNatClampNeg (mi 0 119))) rfl (b2 c1 c2 c3 v4 e4 v5 e5) (by decide) ?_
        refine Wp.p (pc' := 126) d_push_125 rfl rfl ?_
        refine Wp.p (pc' := 128) d_push_126 rfl rfl ?_
        refine Wp.p (pc' := 129) d_push_128 rfl rfl ?_
        refine Wp.callP (a := 0) (as := [.int (mi 0 119), .int x3]) (rest := []) (w := 0) (F' := 0) (Lb' := 0) d_push_129 ca_c182_1 rfl rfl rfl rfl (by decide) (by decide) (Nat.le_of_ble_eq_true rfl) ?_
        exact (h3 c1 c2 c3 v4 e4 v5 e5)
      ·
        refine Wp.bipush (-2 : Int32) d_push_94 (by decide) ?_
        refine Wp.retI d_push_96 ?_
        exact (h4 c1 c2 c3)
set_option maxRecDepth 65536 in
set_option maxHeartbeats 4000000 in
theorem L_push_132 {x1 x2 x3 x4 : Int32} {mi : Nat → Nat → Int32} {ml : Nat → Nat → Int64} {Q : Option Value → EMem → Prop}
    (h1 : (mi 0 121) < (0 : Int32) → Q (some (.int x4)) (LL1, mi, ml, RR1))
    (b1 : ¬ (mi 0 121) < (0 : Int32) → (mi 0 121) < (64 : Int32) → inb (mi 0 121) 64 = true)
    (b2 : ¬ (mi 0 121) < (0 : Int32) → (mi 0 121) < (64 : Int32) → inb x4 64 = true)
    (h2 : ¬ (mi 0 121) < (0 : Int32) → (mi 0 121) < (64 : Int32) → Q (some (.int x4)) (LL1, (up (up (up (up (up (up mi 6 (Int32.toNatClampNeg (mi 0 121)) x4) 0 121 ((mi 0 121) + (1 : Int32))) 0 119 ((mi 0 119) + (1 : Int32))) 8 (Int32.toNatClampNeg x4) (mi 0 113)) 9 (Int32.toNatClampNeg x4) (-1 : Int32)) 7 (Int32.toNatClampNeg x4) (-1 : Int32)), ml, RR1))
    (h3 : ¬ (mi 0 121) < (0 : Int32) → ¬ (mi 0 121) < (64 : Int32) → Q (some (.int x4)) (LL1, mi, ml, RR1)) :
    W_push 132 [.val (.ref 0), .val (.int x1), .val (.int x2), .val (.int x3), .val (.int x4)] [] (LL1, mi, ml, RR1) Q := by
  refine Wp.p (pc' := 133) d_push_132 rfl rfl ?_
  refine Wp.getI (mi 0 121) d_push_133 fa_c175 rfl rfl ?_
  refine Wp.if_lt d_push_136 rfl (fun c1 => ?_) (fun c1 => ?_)
  ·
    refine Wp.p (pc' := 150) d_push_148 rfl rfl ?_
    refine Wp.retI d_push_150 ?_
    exact (h1 c1)
  ·
    refine Wp.p (pc' := 140) d_push_139 rfl rfl ?_
    refine Wp.getI (mi 0 121) d_push_140 fa_c175 rfl rfl ?_
    refine Wp.bipush (64 : Int32) d_push_143 (by decide) ?_
    refine Wp.icmp_lt d_push_145 rfl (fun c2 => ?_) (fun c2 => ?_)
    ·
      refine Wp.p (pc' := 152) d_push_151 rfl rfl ?_
      refine Wp.getR (b := 6) d_push_152 fa_c74 rfl rfl ?_
      refine Wp.p (pc' := 156) d_push_155 rfl rfl ?_
      refine Wp.getI (mi 0 121) d_push_156 fa_c175 rfl rfl ?_
      refine Wp.p (pc' := 161) d_push_159 rfl rfl ?_
      refine Wp.iastore d_push_161 rfl (k := (Int32.toNatClampNeg (mi 0 121))) rfl (b1 c1 c2) (by decide) ?_
      refine Wp.p (pc' := 163) d_push_162 rfl rfl ?_
      refine Wp.p (pc' := 164) d_push_163 rfl rfl ?_
      refine Wp.getI (mi 0 121) d_push_164 fa_c175 rfl rfl ?_
      refine Wp.iconst (1 : Int32) d_push_167 (by decide) ?_
      refine Wp.p (pc' := 169) d_push_168 rfl rfl ?_
      refine Wp.putI d_push_169 fa_c175 rfl (by decide) in_OptimisticLazy (Or.inl rfl) ?_
      refine Wp.p (pc' := 173) d_push_172 rfl rfl ?_
      refine Wp.p (pc' := 174) d_push_173 rfl rfl ?_
      refine Wp.getI (mi 0 119) d_push_174 fa_c168 rfl rfl ?_
      refine Wp.iconst (1 : Int32) d_push_177 (by decide) ?_
      refine Wp.p (pc' := 179) d_push_178 rfl rfl ?_
      refine Wp.putI d_push_179 fa_c168 rfl (by decide) in_OptimisticLazy (Or.inl rfl) ?_
      refine Wp.p (pc' := 183) d_push_182 rfl rfl ?_
      refine Wp.getR (b := 8) d_push_183 fa_c80 rfl rfl ?_
      refine Wp.p (pc' := 188) d_push_186 rfl rfl ?_
      refine Wp.p (pc' := 189) d_push_188 rfl rfl ?_
      refine Wp.getI (mi 0 113) d_push_189 fa_c162 rfl rfl ?_
      refine Wp.iastore d_push_192 rfl (k := (Int32.toNatClampNeg x4)) rfl (b2 c1 c2) (by decide) ?_
      refine Wp.p (pc' := 194) d_push_193 rfl rfl ?_
      refine Wp.getR (b := 9) d_push_194 fa_c83 rfl rfl ?_
      refine Wp.p (pc' := 199) d_push_197 rfl rfl ?_
      refine Wp.iconst (-1 : Int32) d_push_199 (by decide) ?_
      refine Wp.iastore d_push_200 rfl (k := (Int32.toNatClampNeg x4)) rfl (b2 c1 c2) (by decide) ?_
      refine Wp.p (pc' := 202) d_push_201 rfl rfl ?_
      refine Wp.getR (b := 7) d_push_202 fa_c77 rfl rfl ?_
      refine Wp.p (pc' := 207) d_push_205 rfl rfl ?_
      refine Wp.iconst (-1 : Int32) d_push_207 (by decide) ?_
      refine Wp.iastore d_push_208 rfl (k := (Int32.toNatClampNeg x4)) rfl (b2 c1 c2) (by decide) ?_
      refine Wp.p (pc' := 211) d_push_209 rfl rfl ?_
      refine Wp.retI d_push_211 ?_
      exact (h2 c1 c2)
    ·
      refine Wp.p (pc' := 150) d_push_148 rfl rfl ?_
      refine Wp.retI d_push_150 ?_
      exact (h3 c1 c2)
set_option maxRecDepth 65536 in
set_option maxHeartbeats 4000000 in
theorem L_nodeKind_0 {x1 : Int32} {mi : Nat → Nat → Int32} {ml : Nat → Nat → Int64} {Q : Option Value → EMem → Prop}
    (b1 : ∀ v1 : Int32, v1 = (if x1 < (0 : Int32) then (0 : Int32) else (if x1 < (mi 0 119) then (if x1 < (64 : Int32) then (1 : Int32) else (0 : Int32)) else (0 : Int32))) → ¬ (v1 &&& 1) = (0 : Int32) → inb x1 64 = true)
    (h1 : ∀ v1 : Int32, v1 = (if x1 < (0 : Int32) then (0 : Int32) else (if x1 < (mi 0 119) then (if x1 < (64 : Int32) then (1 : Int32) else (0 : Int32)) else (0 : Int32))) → ∀ v2 : Int32, v2 = (if (v1 &&& 1) = (0 : Int32) then (-1 : Int32) else (mi 1 (Int32.toNatClampNeg x1))) → Q (some (.int v2)) (LL1, mi, ml, RR1)) :
    W_nodeKind 0 [.val (.ref 0), .val (.int x1)] [] (LL1, mi, ml, RR1) Q := by
  refine Wp.p (pc' := 1) d_nodeKind_0 rfl rfl ?_
  refine Wp.p (pc' := 2) d_nodeKind_1 rfl rfl ?_
  refine Wp.callP (a := 0) (as := [.int x1]) (rest := []) (w := 0) (F' := 0) (Lb' := 0) d_nodeKind_2 ca_c186_1 rfl rfl rfl rfl (by decide) (by decide) (Nat.le_of_ble_eq_true rfl) ?_
  refine L_isNode_0 ?_
  intro v1 e1
  show W_nodeKind 5 [.val (.ref 0), .val (.int x1)] [.int (v1 &&& 1)] (LL1, mi, ml, RR1) Q
  obtain ⟨v2, e2⟩ : ∃ z : Int32, z = (if (v1 &&& 1) = (0 : Int32) then (-1 : Int32) else (mi 1 (Int32.toNatClampNeg x1))) := ⟨_, rfl⟩
  suffices K : Q (some (.int v2)) (LL1, mi, ml, RR1) by
    refine Wp.if_ne d_nodeKind_5 rfl (fun q0 => ?_) (fun q0 => ?_)
    ·
      refine Wp.p (pc' := 11) d_nodeKind_10 rfl rfl ?_
      refine Wp.getR (b := 1) d_nodeKind_11 fa_c58 rfl rfl ?_
      refine Wp.p (pc' := 15) d_nodeKind_14 rfl rfl ?_
      refine Wp.iaload (mi 1 (Int32.toNatClampNeg x1)) d_nodeKind_15 rfl (k := (Int32.toNatClampNeg x1)) rfl (b1 v1 e1 q0) rfl ?_
      refine Wp.retI d_nodeKind_16 ?_
      rw [if_neg q0] at e2; subst e2
      exact K
    ·
      refine Wp.iconst (-1 : Int32) d_nodeKind_8 (by decide) ?_
      refine Wp.retI d_nodeKind_9 ?_
      rw [if_pos q0] at e2; subst e2
      exact K
  exact (h1 v1 e1 v2 e2)
set_option maxRecDepth 65536 in
set_option maxHeartbeats 4000000 in
theorem L_nodeArg_0 {x1 : Int32} {mi : Nat → Nat → Int32} {ml : Nat → Nat → Int64} {Q : Option Value → EMem → Prop}
    (b1 : ∀ v1 : Int32, v1 = (if x1 < (0 : Int32) then (0 : Int32) else (if x1 < (mi 0 119) then (if x1 < (64 : Int32) then (1 : Int32) else (0 : Int32)) else (0 : Int32))) → ¬ (v1 &&& 1) = (0 : Int32) → inb x1 64 = true)
    (h1 : ∀ v1 : Int32, v1 = (if x1 < (0 : Int32) then (0 : Int32) else (if x1 < (mi 0 119) then (if x1 < (64 : Int32) then (1 : Int32) else (0 : Int32)) else (0 : Int32))) → ∀ v2 : Int32, v2 = (if (v1 &&& 1) = (0 : Int32) then (0 : Int32) else (mi 2 (Int32.toNatClampNeg x1))) → Q (some (.int v2)) (LL1, mi, ml, RR1)) :
    W_nodeArg 0 [.val (.ref 0), .val (.int x1)] [] (LL1, mi, ml, RR1) Q := by
  refine Wp.p (pc' := 1) d_nodeArg_0 rfl rfl ?_
  refine Wp.p (pc' := 2) d_nodeArg_1 rfl rfl ?_
  refine Wp.callP (a := 0) (as := [.int x1]) (rest := []) (w := 0) (F' := 0) (Lb' := 0) d_nodeArg_2 ca_c186_1 rfl rfl rfl rfl (by decide) (by decide) (Nat.le_of_ble_eq_true rfl) ?_
  refine L_isNode_0 ?_
  intro v1 e1
  show W_nodeArg 5 [.val (.ref 0), .val (.int x1)] [.int (v1 &&& 1)] (LL1, mi, ml, RR1) Q
  obtain ⟨v2, e2⟩ : ∃ z : Int32, z = (if (v1 &&& 1) = (0 : Int32) then (0 : Int32) else (mi 2 (Int32.toNatClampNeg x1))) := ⟨_, rfl⟩
  suffices K : Q (some (.int v2)) (LL1, mi, ml, RR1) by
    refine Wp.if_ne d_nodeArg_5 rfl (fun q0 => ?_) (fun q0 => ?_)
    ·
      refine Wp.p (pc' := 11) d_nodeArg_10 rfl rfl ?_
      refine Wp.getR (b := 2) d_nodeArg_11 fa_c62 rfl rfl ?_
      refine Wp.p (pc' := 15) d_nodeArg_14 rfl rfl ?_
      refine Wp.iaload (mi 2 (Int32.toNatClampNeg x1)) d_nodeArg_15 rfl (k := (Int32.toNatClampNeg x1)) rfl (b1 v1 e1 q0) rfl ?_
      refine Wp.retI d_nodeArg_16 ?_
      rw [if_neg q0] at e2; subst e2
      exact K
    ·
      refine Wp.iconst (0 : Int32) d_nodeArg_8 (by decide) ?_
      refine Wp.retI d_nodeArg_9 ?_
      rw [if_pos q0] at e2; subst e2
      exact K
  exact (h1 v1 e1 v2 e2)
set_option maxRecDepth 65536 in
set_option maxHeartbeats 4000000 in
theorem L_child_0 {x1 x2 : Int32} {mi : Nat → Nat → Int32} {ml : Nat → Nat → Int64} {Q : Option Value → EMem → Prop}
    (h1 : ∀ v1 : Int32, v1 = (if x1 < (0 : Int32) then (0 : Int32) else (if x1 < (mi 0 119) then (if x1 < (64 : Int32) then (1 : Int32) else (0 : Int32)) else (0 : Int32))) → (v1 &&& 1) = (0 : Int32) → Q (some (.int (-1 : Int32))) (LL1, mi, ml, RR1))
    (h2 : ∀ v1 : Int32, v1 = (if x1 < (0 : Int32) then (0 : Int32) else (if x1 < (mi 0 119) then (if x1 < (64 : Int32) then (1 : Int32) else (0 : Int32)) else (0 : Int32))) → ¬ (v1 &&& 1) = (0 : Int32) → x2 < (0 : Int32) → Q (some (.int (-1 : Int32))) (LL1, mi, ml, RR1))
    (b1 : ∀ v1 : Int32, v1 = (if x1 < (0 : Int32) then (0 : Int32) else (if x1 < (mi 0 119) then (if x1 < (64 : Int32) then (1 : Int32) else (0 : Int32)) else (0 : Int32))) → ¬ (v1 &&& 1) = (0 : Int32) → ¬ x2 < (0 : Int32) → ¬ (2 : Int32) < x2 → inb x1 64 = true)
    (b2 : ∀ v1 : Int32, v1 = (if x1 < (0 : Int32) then (0 : Int32) else (if x1 < (mi 0 119) then (if x1 < (64 : Int32) then (1 : Int32) else (0 : Int32)) else (0 : Int32))) → ¬ (v1 &&& 1) = (0 : Int32) → ¬ x2 < (0 : Int32) → ¬ (2 : Int32) < x2 → ∀ v5 : Int32, v5 = (if (mi 1 (Int32.toNatClampNeg x1)) = (12 : Int32) then (3 : Int32) else (if (mi 1 (Int32.toNatClampNeg x1)) < (4 : Int32) then (0 : Int32) else (if (13 : Int32) < (mi 1 (Int32.toNatClampNeg x1)) then (0 : Int32) else (2 : Int32)))) → x2 < v5 → ¬ x2 = (0 : Int32) → ¬ x2 = (1 : Int32) → inb x1 64 = true)
    (b3 : ∀ v1 : Int32, v1 = (if x1 < (0 : Int32) then (0 : Int32) else (if x1 < (mi 0 119) then (if x1 < (64 : Int32) then (1 : Int32) else (0 : Int32)) else (0 : Int32))) → ¬ (v1 &&& 1) = (0 : Int32) → ¬ x2 < (0 : Int32) → ¬ (2 : Int32) < x2 → ∀ v5 : Int32, v5 = (if (mi 1 (Int32.toNatClampNeg x1)) = (12 : Int32) then (3 : Int32) else (if (mi 1 (Int32.toNatClampNeg x1)) < (4 : Int32) then (0 : Int32) else (if (13 : Int32) < (mi 1 (Int32.toNatClampNeg x1)) then (0 : Int32) else (2 : Int32)))) → x2 < v5 → ¬ x2 = (0 : Int32) → x2 = (1 : Int32) → inb x1 64 = true)
    (b4 : ∀ v1 : Int32, v1 = (if x1 < (0 : Int32) then (0 : Int32) else (if x1 < (mi 0 119) then (if x1 < (64 : Int32) then (1 : Int32) else (0 : Int32)) else (0 : Int32))) → ¬ (v1 &&& 1) = (0 : Int32) → ¬ x2 < (0 : Int32) → ¬ (2 : Int32) < x2 → ∀ v5 : Int32, v5 = (if (mi 1 (Int32.toNatClampNeg x1)) = (12 : Int32) then (3 : Int32) else (if (mi 1 (Int32.toNatClampNeg x1)) < (4 : Int32) then (0 : Int32) else (if (13 : Int32) < (mi 1 (Int32.toNatClampNeg x1)) then (0 : Int32) else (2 : Int32)))) → x2 < v5 → x2 = (0 : Int32) → inb x1 64 = true)
    (h3 : ∀ v1 : Int32, v1 = (if x1 < (0 : Int32) then (0 : Int32) else (if x1 < (mi 0 119) then (if x1 < (64 : Int32) then (1 : Int32) else (0 : Int32)) else (0 : Int32))) → ¬ (v1 &&& 1) = (0 : Int32) → ¬ x2 < (0 : Int32) → ¬ (2 : Int32) < x2 → ∀ v5 : Int32, v5 = (if (mi 1 (Int32.toNatClampNeg x1)) = (12 : Int32) then (3 : Int32) else (if (mi 1 (Int32.toNatClampNeg x1)) < (4 : Int32) then (0 : Int32) else (if (13 : Int32) < (mi 1 (Int32.toNatClampNeg x1)) then (0 : Int32) else (2 : Int32)))) → ∀ v6 : Int32, v6 = (if x2 < v5 then (if x2 = (0 : Int32) then (mi 3 (Int32.toNatClampNeg x1)) else (if x2 = (1 : Int32) then (mi 4 (Int32.toNatClampNeg x1)) else (mi 5 (Int32.toNatClampNeg x1)))) else (-1 : Int32)) → Q (some (.int v6)) (LL1, mi, ml, RR1))
    (h4 : ∀ v1 : Int32, v1 = (if x1 < (0 : Int32) then (0 : Int32) else (if x1 < (mi 0 119) then (if x1 < (64 : Int32) then (1 : Int32) else (0 : Int32)) else (0 : Int32))) → ¬ (v1 &&& 1) = (0 : Int32) → ¬ x2 < (0 : Int32) → (2 : Int32) < x2 → Q (some (.int (-1 : Int32))) (LL1, mi, ml, RR1)) :
    W_child 0 [.val (.ref 0), .val (.int x1), .val (.int x2)] [] (LL1, mi, ml, RR1) Q := by
  refine Wp.p (pc' := 1) d_child_0 rfl rfl ?_
  refine Wp.p (pc' := 2) d_child_1 rfl rfl ?_
  refine Wp.callP (a := 0) (as := [.int x1]) (rest := []) (w := 0) (F' := 0) (Lb' := 0) d_child_2 ca_c186_1 rfl rfl rfl rfl (by decide) (by decide) (Nat.le_of_ble_eq_true rfl) ?_
  refine L_isNode_0 ?_
  intro v1 e1
  show W_child 5 [.val (.ref 0), .val (.int x1), .val (.int x2)] [.int (v1 &&& 1)] (LL1, mi, ml, RR1) Q
  refine Wp.if_eq d_child_5 rfl (fun c2 => ?_) (fun c2 => ?_)
  ·
    refine Wp.iconst (-1 : Int32) d_child_17 (by decide) ?_
    refine Wp.retI d_child_18 ?_
    exact (h1 v1 e1 c2)
  ·
    refine Wp.p (pc' := 9) d_child_8 rfl rfl ?_
    refine Wp.if_lt d_child_9 rfl (fun c3 => ?_) (fun c3 => ?_)
    ·
      refine Wp.iconst (-1 : Int32) d_child_17 (by decide) ?_
      refine Wp.retI d_child_18 ?_
      exact (h2 v1 e1 c2 c3)
    ·
      refine Wp.p (pc' := 13) d_child_12 rfl rfl ?_
      refine Wp.iconst (2 : Int32) d_child_13 (by decide) ?_
      refine Wp.icmp_le d_child_14 rfl (fun c4 => ?_) (fun c4 => ?_)
      ·
        refine Wp.p (pc' := 20) d_child_19 rfl rfl ?_
        refine Wp.p (pc' := 21) d_child_20 rfl rfl ?_
        refine Wp.p (pc' := 22) d_child_21 rfl rfl ?_
        refine Wp.getR (b := 1) d_child_22 fa_c58 rfl rfl ?_
        refine Wp.p (pc' := 26) d_child_25 rfl rfl ?_
        refine Wp.iaload (mi 1 (Int32.toNatClampNeg x1)) d_child_26 rfl (k := (Int32.toNatClampNeg x1)) rfl (b1 v1 e1 c2 c3 c4) rfl ?_
        refine Wp.callP (a := 0) (as := [.int (mi 1 (Int32.toNatClampNeg x1))]) (rest := [.int x2]) (w := 1) (F' := 0) (Lb' := 0) d_child_27 ca_c171_1 rfl rfl rfl rfl (by decide) (by decide) (Nat.le_of_ble_eq_true rfl) ?_
        refine L_arity_0 ?_
        intro v5 e5
        show W_child 30 [.val (.ref 0), .val (.int x1), .val (.int x2)] [.int v5, .int x2] (LL1, mi, ml, RR1) Q
        obtain ⟨v6, e6⟩ : ∃ z : Int32, z = (if x2 < v5 then (if x2 = (0 : Int32) then (mi 3 (Int32.toNatClampNeg x1)) else (if x2 = (1 : Int32) then (mi 4 (Int32.toNatClampNeg x1)) else (mi 5 (Int32.toNatClampNeg x1)))) else (-1 : Int32)) := ⟨_, rfl⟩
        suffices K : Q (some (.int v6)) (LL1, mi, ml, RR1) by
          refine Wp.icmp_lt d_child_30 rfl (fun q0 => ?_) (fun q0 => ?_)
          ·
            refine Wp.p (pc' := 36) d_child_35 rfl rfl ?_
            refine Wp.if_ne d_child_36 rfl (fun q1 => ?_) (fun q1 => ?_)
            ·
              refine Wp.p (pc' := 47) d_child_46 rfl rfl ?_
              refine Wp.iconst (1 : Int32) d_child_47 (by decide) ?_
              refine Wp.icmp_ne d_child_48 rfl (fun q2 => ?_) (fun q2 => ?_)
              ·
                refine Wp.p (pc' := 59) d_child_58 rfl rfl ?_
                refine Wp.getR (b := 5) d_child_59 fa_c71 rfl rfl ?_
                refine Wp.p (pc' := 63) d_child_62 rfl rfl ?_
                refine Wp.iaload (mi 5 (Int32.toNatClampNeg x1)) d_child_63 rfl (k := (Int32.toNatClampNeg x1)) rfl (b2 v1 e1 c2 c3 c4 v5 e5 q0 q1 q2) rfl ?_
                refine Wp.retI d_child_64 ?_
                rw [if_pos q0, if_neg q1, if_neg q2] at e6; subst e6
                exact K
              ·
                refine Wp.p (pc' := 52) d_child_51 rfl rfl ?_
                refine Wp.getR (b := 4) d_child_52 fa_c68 rfl rfl ?_
                refine Wp.p (pc' := 56) d_child_55 rfl rfl ?_
                refine Wp.iaload (mi 4 (Int32.toNatClampNeg x1)) d_child_56 rfl (k := (Int32.toNatClampNeg x1)) rfl (b3 v1 e1 c2 c3 c4 v5 e5 q0 q1 q2) rfl ?_
                refine Wp.retI d_child_57 ?_
                rw [if_pos q0, if_neg q1, if_pos q2] at e6; subst e6
                exact K
            ·
              refine Wp.p (pc' := 40) d_child_39 rfl rfl ?_
              refine Wp.getR (b := 3) d_child_40 fa_c65 rfl rfl ?_
              refine Wp.p (pc' := 44) d_child_43 rfl rfl ?_
              refine Wp.iaload (mi 3 (Int32.toNatClampNeg x1)) d_child_44 rfl (k := (Int32.toNatClampNeg x1)) rfl (b4 v1 e1 c2 c3 c4 v5 e5 q0 q1) rfl ?_
              refine Wp.retI d_child_45 ?_
              rw [if_pos q0, if_pos q1] at e6; subst e6
              exact K
          ·
            refine Wp.iconst (-1 : Int32) d_child_33 (by decide) ?_
            refine Wp.retI d_child_34 ?_
            rw [if_neg q0] at e6; subst e6
            exact K
        exact (h3 v1 e1 c2 c3 c4 v5 e5 v6 e6)
      ·
        refine Wp.iconst (-1 : Int32) d_child_17 (by decide) ?_
        refine Wp.retI d_child_18 ?_
        exact (h4 v1 e1 c2 c3 c4)
set_option maxRecDepth 65536 in
set_option maxHeartbeats 4000000 in
theorem L_top_0 {x1 : Int32} {mi : Nat → Nat → Int32} {ml : Nat → Nat → Int64} {Q : Option Value → EMem → Prop}
    (b1 : ¬ x1 < (0 : Int32) → x1 < (mi 0 121) → ¬ (((mi 0 121) - (1 : Int32)) - x1) < (0 : Int32) → (((mi 0 121) - (1 : Int32)) - x1) < (64 : Int32) → inb (((mi 0 121) - (1 : Int32)) - x1) 64 = true)
    (h1 : ∀ v1 : Int32, v1 = (if x1 < (0 : Int32) then (-1 : Int32) else (if x1 < (mi 0 121) then (if (((mi 0 121) - (1 : Int32)) - x1) < (0 : Int32) then (-1 : Int32) else (if (((mi 0 121) - (1 : Int32)) - x1) < (64 : Int32) then (mi 6 (Int32.toNatClampNeg (((mi 0 121) - (1 : Int32)) - x1))) else (-1 : Int32))) else (-1 : Int32))) → Q (some (.int v1)) (LL1, mi, ml, RR1)) :
    W_top 0 [.val (.ref 0), .val (.int x1), .unset] [] (LL1, mi, ml, RR1) Q := by
  refine Wp.p (pc' := 1) d_top_0 rfl rfl ?_
  obtain ⟨v1, e1⟩ : ∃ z : Int32, z = (if x1 < (0 : Int32) then (-1 : Int32) else (if x1 < (mi 0 121) then (if (((mi 0 121) - (1 : Int32)) - x1) < (0 : Int32) then (-1 : Int32) else (if (((mi 0 121) - (1 : Int32)) - x1) < (64 : Int32) then (mi 6 (Int32.toNatClampNeg (((mi 0 121) - (1 : Int32)) - x1))) else (-1 : Int32))) else (-1 : Int32))) := ⟨_, rfl⟩
  suffices K : Q (some (.int v1)) (LL1, mi, ml, RR1) by
    refine Wp.if_lt d_top_1 rfl (fun q0 => ?_) (fun q0 => ?_)
    ·
      refine Wp.iconst (-1 : Int32) d_top_12 (by decide) ?_
      refine Wp.retI d_top_13 ?_
      rw [if_pos q0] at e1; subst e1
      exact K
    ·
      refine Wp.p (pc' := 5) d_top_4 rfl rfl ?_
      refine Wp.p (pc' := 6) d_top_5 rfl rfl ?_
      refine Wp.getI (mi 0 121) d_top_6 fa_c175 rfl rfl ?_
      refine Wp.icmp_lt d_top_9 rfl (fun q1 => ?_) (fun q1 => ?_)
      ·
        refine Wp.p (pc' := 15) d_top_14 rfl rfl ?_
        refine Wp.getI (mi 0 121) d_top_15 fa_c175 rfl rfl ?_
        refine Wp.iconst (1 : Int32) d_top_18 (by decide) ?_
        refine Wp.p (pc' := 20) d_top_19 rfl rfl ?_
        refine Wp.p (pc' := 21) d_top_20 rfl rfl ?_
        refine Wp.p (pc' := 22) d_top_21 rfl rfl ?_
        refine Wp.p (pc' := 23) d_top_22 rfl rfl ?_
        refine Wp.p (pc' := 24) d_top_23 rfl rfl ?_
        refine Wp.if_lt d_top_24 rfl (fun q2 => ?_) (fun q2 => ?_)
        ·
          refine Wp.iconst (-1 : Int32) d_top_33 (by decide) ?_
          refine Wp.retI d_top_34 ?_
          rw [if_neg q0, if_pos q1, if_pos q2] at e1; subst e1
          exact K
        ·
          refine Wp.p (pc' := 28) d_top_27 rfl rfl ?_
          refine Wp.bipush (64 : Int32) d_top_28 (by decide) ?_
          refine Wp.icmp_lt d_top_30 rfl (fun q3 => ?_) (fun q3 => ?_)
          ·
            refine Wp.p (pc' := 36) d_top_35 rfl rfl ?_
            refine Wp.getR (b := 6) d_top_36 fa_c74 rfl rfl ?_
            refine Wp.p (pc' := 40) d_top_39 rfl rfl ?_
            refine Wp.iaload (mi 6 (Int32.toNatClampNeg (((mi 0 121) - (1 : Int32)) - x1))) d_top_40 rfl (k := (Int32.toNatClampNeg (((mi 0 121) - (1 : Int32)) - x1))) rfl (b1 q0 q1 q2 q3) rfl ?_
            refine Wp.retI d_top_41 ?_
            rw [if_neg q0, if_pos q1, if_neg q2, if_pos q3] at e1; subst e1
            exact K
          ·
            refine Wp.iconst (-1 : Int32) d_top_33 (by decide) ?_
            refine Wp.retI d_top_34 ?_
            rw [if_neg q0, if_pos q1, if_neg q2, if_neg q3] at e1; subst e1
            exact K
      ·
        refine Wp.iconst (-1 : Int32) d_top_12 (by decide) ?_
        refine Wp.retI d_top_13 ?_
        rw [if_neg q0, if_neg q1] at e1; subst e1
        exact K
  exact (h1 v1 e1)
set_option maxRecDepth 65536 in
set_option maxHeartbeats 4000000 in
theorem L_law_0 {x0 x1 x2 x3 x4 x5 : Int32} {mi : Nat → Nat → Int32} {ml : Nat → Nat → Int64} {Q : Option Value → EMem → Prop}
    (h1 : W_init 0 [.val (.ref 0), .val (.int x0), .val (.int x1)] [] ([(0, "OptimisticLazy", 72)], mi, ml, (fun _ _ => Value.null)) (fun v M' => W_law 9 [.val (.int x0), .val (.int x1), .val (.int x2), .val (.int x3), .val (.int x4), .val (.int x5), .unset, .unset, .unset, .unset, .unset, .unset] (v.toList ++ [.ref 0]) M' Q)) :
    W_law 0 [.val (.int x0), .val (.int x1), .val (.int x2), .val (.int x3), .val (.int x4), .val (.int x5), .unset, .unset, .unset, .unset, .unset, .unset] [] ([], mi, ml, (fun _ _ => Value.null)) Q := by
  refine Wp.new (a := 0) (L' := [(0, "OptimisticLazy", 72)]) d_law_0 na_w7 rfl rfl ?_
  refine Wp.p (pc' := 4) d_law_3 rfl rfl ?_
  refine Wp.p (pc' := 5) d_law_4 rfl rfl ?_
  refine Wp.p (pc' := 6) d_law_5 rfl rfl ?_
  refine Wp.callI (a := 0) (as := [.int x0, .int x1]) (rest := [.ref 0]) (w := 1) (F' := 2) (Lb' := 26) d_law_6 on_w9 ca_w9_2 rfl rfl rfl (by decide) (by decide) (Nat.le_of_ble_eq_true rfl) ?_
  exact h1
set_option maxRecDepth 65536 in
set_option maxHeartbeats 4000000 in
theorem L_law_9 {x0 x1 x2 x3 x4 x5 : Int32} {mi : Nat → Nat → Int32} {ml : Nat → Nat → Int64} {Q : Option Value → EMem → Prop}
    (h1 : W_push 0 [.val (.ref 0), .val (.int (0 : Int32)), .val (.int x2), .unset, .unset] [] (LL1, mi, ml, RR1) (fun v M' => W_law 18 [.val (.int x0), .val (.int x1), .val (.int x2), .val (.int x3), .val (.int x4), .val (.int x5), .val (.ref 0), .unset, .unset, .unset, .unset, .unset] (v.toList ++ []) M' Q)) :
    W_law 9 [.val (.int x0), .val (.int x1), .val (.int x2), .val (.int x3), .val (.int x4), .val (.int x5), .unset, .unset, .unset, .unset, .unset, .unset] [.ref 0] (LL1, mi, ml, RR1) Q := by
  refine Wp.p (pc' := 11) d_law_9 rfl rfl ?_
  refine Wp.p (pc' := 13) d_law_11 rfl rfl ?_
  refine Wp.iconst (0 : Int32) d_law_13 (by decide) ?_
  refine Wp.p (pc' := 15) d_law_14 rfl rfl ?_
  refine Wp.callV (a := 0) (as := [.int (0 : Int32), .int x2]) (rest := []) (w := 0) (F' := 1) (Lb' := 15) d_law_15 ca_w12_0n ca_w12_0 rfl rfl rfl rfl (by decide) (by decide) (Nat.le_of_ble_eq_true rfl) ?_
  exact h1
set_option maxRecDepth 65536 in
set_option maxHeartbeats 4000000 in
theorem L_law_18 {x0 x1 x2 x3 x4 x5 y0 : Int32} {mi : Nat → Nat → Int32} {ml : Nat → Nat → Int64} {Q : Option Value → EMem → Prop}
    (h1 : W_push 0 [.val (.ref 0), .val (.int (0 : Int32)), .val (.int x3), .unset, .unset] [] (LL1, mi, ml, RR1) (fun v M' => W_law 26 [.val (.int x0), .val (.int x1), .val (.int x2), .val (.int x3), .val (.int x4), .val (.int x5), .val (.ref 0), .unset, .unset, .unset, .unset, .unset] (v.toList ++ []) M' Q)) :
    W_law 18 [.val (.int x0), .val (.int x1), .val (.int x2), .val (.int x3), .val (.int x4), .val (.int x5), .val (.ref 0), .unset, .unset, .unset, .unset, .unset] [.int y0] (LL1, mi, ml, RR1) Q := by
  refine Wp.p (pc' := 19) d_law_18 rfl rfl ?_
  refine Wp.p (pc' := 21) d_law_19 rfl rfl ?_
  refine Wp.iconst (0 : Int32) d_law_21 (by decide) ?_
  refine Wp.p (pc' := 23) d_law_22 rfl rfl ?_
  refine Wp.callV (a := 0) (as := [.int (0 : Int32), .int x3]) (rest := []) (w := 0) (F' := 1) (Lb' := 15) d_law_23 ca_w12_0n ca_w12_0 rfl rfl rfl rfl (by decide) (by decide) (Nat.le_of_ble_eq_true rfl) ?_
  exact h1
set_option maxRecDepth 65536 in
set_option maxHeartbeats 4000000 in
theorem L_law_26 {x0 x1 x2 x3 x4 x5 y0 : Int32} {mi : Nat → Nat → Int32} {ml : Nat → Nat → Int64} {Q : Option Value → EMem → Prop}
    (h1 : W_push 0 [.val (.ref 0), .val (.int x4), .val (.int x5), .unset, .unset] [] (LL1, mi, ml, RR1) (fun v M' => W_law 36 [.val (.int x0), .val (.int x1), .val (.int x2), .val (.int x3), .val (.int x4), .val (.int x5), .val (.ref 0), .unset, .unset, .unset, .unset, .unset] (v.toList ++ []) M' Q)) :
    W_law 26 [.val (.int x0), .val (.int x1), .val (.int x2), .val (.int x3), .val (.int x4), .val (.int x5), .val (.ref 0), .unset, .unset, .unset, .unset, .unset] [.int y0] (LL1, mi, ml, RR1) Q := by
  refine Wp.p (pc' := 27) d_law_26 rfl rfl ?_
  refine Wp.p (pc' := 29) d_law_27 rfl rfl ?_
  refine Wp.p (pc' := 31) d_law_29 rfl rfl ?_
  refine Wp.p (pc' := 33) d_law_31 rfl rfl ?_
  refine Wp.callV (a := 0) (as := [.int x4, .int x5]) (rest := []) (w := 0) (F' := 1) (Lb' := 15) d_law_33 ca_w12_0n ca_w12_0 rfl rfl rfl rfl (by decide) (by decide) (Nat.le_of_ble_eq_true rfl) ?_
  exact h1
set_option maxRecDepth 65536 in
set_option maxHeartbeats 4000000 in
theorem L_law_36 {x0 x1 x2 x3 x4 x5 y0 : Int32} {mi : Nat → Nat → Int32} {ml : Nat → Nat → Int64} {Q : Option Value → EMem → Prop}
    (h1 : x4 < (0 : Int32) → W_law 50 [.val (.int x0), .val (.int x1), .val (.int x2), .val (.int x3), .val (.int x4), .val (.int x5), .val (.ref 0), .val (.int y0), .unset, .unset, .unset, .unset] [] (LL1, mi, ml, RR1) Q)
    (h2 : ¬ x4 < (0 : Int32) → ¬ (13 : Int32) < x4 → ∀ v3 : Int32, v3 = (if (3 : Int32) < x4 then (if x4 = (12 : Int32) then (3 : Int32) else (2 : Int32)) else (0 : Int32)) → ∀ v4 : Int32, v4 = (if v3 = (3 : Int32) then (-3 : Int32) else (if x4 = (1 : Int32) then (if x5 < (0 : Int32) then (-4 : Int32) else (if (7 : Int32) < x5 then (-4 : Int32) else (2 : Int32))) else (if x4 = (13 : Int32) then (if x5 < (0 : Int32) then (-4 : Int32) else (if (7 : Int32) < x5 then (-4 : Int32) else (2 : Int32))) else (2 : Int32)))) → ∀ v5 : Int32, v5 = (if v4 = (2 : Int32) then (1 : Int32) else (0 : Int32)) → v5 = (0 : Int32) → W_law 134 [.val (.int x0), .val (.int x1), .val (.int x2), .val (.int x3), .val (.int x4), .val (.int x5), .val (.ref 0), .val (.int y0), .val (.int v4), .val (.int v5), .unset, .unset] [.int (0 : Int32)] (LL1, mi, ml, RR1) Q)
    (h3 : ¬ x4 < (0 : Int32) → ¬ (13 : Int32) < x4 → ∀ v3 : Int32, v3 = (if (3 : Int32) < x4 then (if x4 = (12 : Int32) then (3 : Int32) else (2 : Int32)) else (0 : Int32)) → ∀ v4 : Int32, v4 = (if v3 = (3 : Int32) then (-3 : Int32) else (if x4 = (1 : Int32) then (if x5 < (0 : Int32) then (-4 : Int32) else (if (7 : Int32) < x5 then (-4 : Int32) else (2 : Int32))) else (if x4 = (13 : Int32) then (if x5 < (0 : Int32) then (-4 : Int32) else (if (7 : Int32) < x5 then (-4 : Int32) else (2 : Int32))) else (2 : Int32)))) → ∀ v5 : Int32, v5 = (if v4 = (2 : Int32) then (1 : Int32) else (0 : Int32)) → ¬ v5 = (0 : Int32) → ∀ v7 : Int32, v7 = (if (3 : Int32) < x4 then (if x4 = (12 : Int32) then (3 : Int32) else (2 : Int32)) else (0 : Int32)) → W_law 134 [.val (.int x0), .val (.int x1), .val (.int x2), .val (.int x3), .val (.int x4), .val (.int x5), .val (.ref 0), .val (.int y0), .val (.int v4), .val (.int v5), .unset, .unset] [.int v7] (LL1, mi, ml, RR1) Q)
    (h4 : ¬ x4 < (0 : Int32) → (13 : Int32) < x4 → W_law 50 [.val (.int x0), .val (.int x1), .val (.int x2), .val (.int x3), .val (.int x4), .val (.int x5), .val (.ref 0), .val (.int y0), .unset, .unset, .unset, .unset] [] (LL1, mi, ml, RR1) Q) :
    W_law 36 [.val (.int x0), .val (.int x1), .val (.int x2), .val (.int x3), .val (.int x4), .val (.int x5), .val (.ref 0), .unset, .unset, .unset, .unset, .unset] [.int y0] (LL1, mi, ml, RR1) Q := by
  refine Wp.p (pc' := 38) d_law_36 rfl rfl ?_
  refine Wp.p (pc' := 40) d_law_38 rfl rfl ?_
  refine Wp.if_lt d_law_40 rfl (fun c1 => ?_) (fun c1 => ?_)
  ·
    exact (h1 c1)
  ·
    refine Wp.p (pc' := 45) d_law_43 rfl rfl ?_
    refine Wp.bipush (13 : Int32) d_law_45 (by decide) ?_
    refine Wp.icmp_le d_law_47 rfl (fun c2 => ?_) (fun c2 => ?_)
    ·
      refine Wp.p (pc' := 58) d_law_56 rfl rfl ?_
      refine Wp.callS (as := [.int x4]) (rest := []) (w := 0) (F' := 0) (Lb' := 0) d_law_58 ca_w16_3 rfl rfl rfl (by decide) (by decide) (Nat.le_of_ble_eq_true rfl) ?_
      refine L_law_arity_0 ?_
      intro v3 e3
      show W_law 61 [.val (.int x0), .val (.int x1), .val (.int x2), .val (.int x3), .val (.int x4), .val (.int x5), .val (.ref 0), .val (.int y0), .unset, .unset, .unset, .unset] [.int v3] (LL1, mi, ml, RR1) Q
      refine Wp.iconst (3 : Int32) d_law_61 (by decide) ?_
      obtain ⟨v4, e4⟩ : ∃ z : Int32, z = (if v3 = (3 : Int32) then (-3 : Int32) else (if x4 = (1 : Int32) then (if x5 < (0 : Int32) then (-4 : Int32) else (if (7 : Int32) < x5 then (-4 : Int32) else (2 : Int32))) else (if x4 = (13 : Int32) then (if x5 < (0 : Int32) then (-4 : Int32) else (if (7 : Int32) < x5 then (-4 : Int32) else (2 : Int32))) else (2 : Int32)))) := ⟨_, rfl⟩
      suffices K : W_law 107 [.val (.int x0), .val (.int x1), .val (.int x2), .val (.int x3), .val (.int x4), .val (.int x5), .val (.ref 0), .val (.int y0), .val (.int v4), .unset, .unset, .unset] [] (LL1, mi, ml, RR1) Q by
        refine Wp.icmp_ne d_law_62 rfl (fun q0 => ?_) (fun q0 => ?_)
        ·
          refine Wp.p (pc' := 74) d_law_72 rfl rfl ?_
          refine Wp.iconst (1 : Int32) d_law_74 (by decide) ?_
          refine Wp.icmp_eq d_law_75 rfl (fun q1 => ?_) (fun q1 => ?_)
          ·
            refine Wp.p (pc' := 87) d_law_85 rfl rfl ?_
            refine Wp.if_lt d_law_87 rfl (fun q2 => ?_) (fun q2 => ?_)
            ·
              refine Wp.bipush (-4 : Int32) d_law_97 (by decide) ?_
              refine Wp.p (pc' := 101) d_law_99 rfl rfl ?_
              refine Wp.p (pc' := 107) d_law_101 rfl rfl ?_
              rw [if_neg q0, if_pos q1, if_pos q2] at e4; subst e4
              exact K
            ·
              refine Wp.p (pc' := 92) d_law_90 rfl rfl ?_
              refine Wp.bipush (7 : Int32) d_law_92 (by decide) ?_
              refine Wp.icmp_le d_law_94 rfl (fun q3 => ?_) (fun q3 => ?_)
              ·
                refine Wp.iconst (2 : Int32) d_law_104 (by decide) ?_
                refine Wp.p (pc' := 107) d_law_105 rfl rfl ?_
                rw [if_neg q0, if_pos q1, if_neg q2, if_neg q3] at e4; subst e4
                exact K
              ·
                refine Wp.bipush (-4 : Int32) d_law_97 (by decide) ?_
                refine Wp.p (pc' := 101) d_law_99 rfl rfl ?_
                refine Wp.p (pc' := 107) d_law_101 rfl rfl ?_
                rw [if_neg q0, if_pos q1, if_neg q2, if_pos q3] at e4; subst e4
                exact K
          ·
            refine Wp.p (pc' := 80) d_law_78 rfl rfl ?_
            refine Wp.bipush (13 : Int32) d_law_80 (by decide) ?_
            refine Wp.icmp_ne d_law_82 rfl (fun q2 => ?_) (fun q2 => ?_)
            ·
              refine Wp.iconst (2 : Int32) d_law_104 (by decide) ?_
              refine Wp.p (pc' := 107) d_law_105 rfl rfl ?_
              rw [if_neg q0, if_neg q1, if_neg q2] at e4; subst e4
              exact K
            ·
              refine Wp.p (pc' := 87) d_law_85 rfl rfl ?_
              refine Wp.if_lt d_law_87 rfl (fun q3 => ?_) (fun q3 => ?_)
              ·
                refine Wp.bipush (-4 : Int32) d_law_97 (by decide) ?_
                refine Wp.p (pc' := 101) d_law_99 rfl rfl ?_
                refine Wp.p (pc' := 107) d_law_101 rfl rfl ?_
                rw [if_neg q0, if_neg q1, if_pos q2, if_pos q3] at e4; subst e4
                exact K
              ·
                refine Wp.p (pc' := 92) d_law_90 rfl rfl ?_
                refine Wp.bipush (7 : Int32) d_law_92 (by decide) ?_
                refine Wp.icmp_le d_law_94 rfl (fun q4 => ?_) (fun q4 => ?_)
                ·
                  refine Wp.iconst (2 : Int32) d_law_104 (by decide) ?_
                  refine Wp.p (pc' := 107) d_law_105 rfl rfl ?_
                  rw [if_neg q0, if_neg q1, if_pos q2, if_neg q3, if_neg q4] at e4; subst e4
                  exact K
                ·
                  refine Wp.bipush (-4 : Int32) d_law_97 (by decide) ?_
                  refine Wp.p (pc' := 101) d_law_99 rfl rfl ?_
                  refine Wp.p (pc' := 107) d_law_101 rfl rfl ?_
                  rw [if_neg q0, if_neg q1, if_pos q2, if_neg q3, if_pos q4] at e4; subst e4
                  exact K
        ·
          refine Wp.bipush (-3 : Int32) d_law_65 (by decide) ?_
          refine Wp.p (pc' := 69) d_law_67 rfl rfl ?_
          refine Wp.p (pc' := 107) d_law_69 rfl rfl ?_
          rw [if_pos q0] at e4; subst e4
          exact K
      refine Wp.p (pc' := 109) d_law_107 rfl rfl ?_
      refine Wp.iconst (2 : Int32) d_law_109 (by decide) ?_
      obtain ⟨v5, e5⟩ : ∃ z : Int32, z = (if v4 = (2 : Int32) then (1 : Int32) else (0 : Int32)) := ⟨_, rfl⟩
      suffices K : W_law 118 [.val (.int x0), .val (.int x1), .val (.int x2), .val (.int x3), .val (.int x4), .val (.int x5), .val (.ref 0), .val (.int y0), .val (.int v4), .unset, .unset, .unset] [.int v5] (LL1, mi, ml, RR1) Q by
        refine Wp.icmp_ne d_law_110 rfl (fun q0 => ?_) (fun q0 => ?_)
        ·
          refine Wp.iconst (0 : Int32) d_law_117 (by decide) ?_
          rw [if_neg q0] at e5; subst e5
          exact K
        ·
          refine Wp.iconst (1 : Int32) d_law_113 (by decide) ?_
          refine Wp.p (pc' := 118) d_law_114 rfl rfl ?_
          rw [if_pos q0] at e5; subst e5
          exact K
      refine Wp.p (pc' := 120) d_law_118 rfl rfl ?_
      refine Wp.p (pc' := 122) d_law_120 rfl rfl ?_
      refine Wp.if_eq d_law_122 rfl (fun c6 => ?_) (fun c6 => ?_)
      ·
        refine Wp.iconst (0 : Int32) d_law_133 (by decide) ?_
        exact (h2 c1 c2 v3 e3 v4 e4 v5 e5 c6)
      ·
        refine Wp.p (pc' := 127) d_law_125 rfl rfl ?_
        refine Wp.callS (as := [.int x4]) (rest := []) (w := 0) (F' := 0) (Lb' := 0) d_law_127 ca_w16_3 rfl rfl rfl (by decide) (by decide) (Nat.le_of_ble_eq_true rfl) ?_
        refine L_law_arity_0 ?_
        intro v7 e7
        show W_law 130 [.val (.int x0), .val (.int x1), .val (.int x2), .val (.int x3), .val (.int x4), .val (.int x5), .val (.ref 0), .val (.int y0), .val (.int v4), .val (.int v5), .unset, .unset] [.int v7] (LL1, mi, ml, RR1) Q
        refine Wp.p (pc' := 134) d_law_130 rfl rfl ?_
        exact (h3 c1 c2 v3 e3 v4 e4 v5 e5 c6 v7 e7)
    ·
      exact (h4 c1 c2)
set_option maxRecDepth 65536 in
set_option maxHeartbeats 4000000 in
theorem L_law_50 {x0 x1 x2 x3 x4 x5 x7 : Int32} {mi : Nat → Nat → Int32} {ml : Nat → Nat → Int64} {Q : Option Value → EMem → Prop}
    (h1 : W_law 107 [.val (.int x0), .val (.int x1), .val (.int x2), .val (.int x3), .val (.int x4), .val (.int x5), .val (.ref 0), .val (.int x7), .val (.int (-1 : Int32)), .unset, .unset, .unset] [] (LL1, mi, ml, RR1) Q) :
    W_law 50 [.val (.int x0), .val (.int x1), .val (.int x2), .val (.int x3), .val (.int x4), .val (.int x5), .val (.ref 0), .val (.int x7), .unset, .unset, .unset, .unset] [] (LL1, mi, ml, RR1) Q := by
  refine Wp.iconst (-1 : Int32) d_law_50 (by decide) ?_
  refine Wp.p (pc' := 53) d_law_51 rfl rfl ?_
  refine Wp.p (pc' := 107) d_law_53 rfl rfl ?_
  exact h1
set_option maxRecDepth 65536 in
set_option maxHeartbeats 4000000 in
theorem L_law_107 {x0 x1 x2 x3 x4 x5 x7 x8 : Int32} {mi : Nat → Nat → Int32} {ml : Nat → Nat → Int64} {Q : Option Value → EMem → Prop}
    (h1 : ∀ v1 : Int32, v1 = (if x8 = (2 : Int32) then (1 : Int32) else (0 : Int32)) → v1 = (0 : Int32) → W_law 134 [.val (.int x0), .val (.int x1), .val (.int x2), .val (.int x3), .val (.int x4), .val (.int x5), .val (.ref 0), .val (.int x7), .val (.int x8), .val (.int v1), .unset, .unset] [.int (0 : Int32)] (LL1, mi, ml, RR1) Q)
    (h2 : ∀ v1 : Int32, v1 = (if x8 = (2 : Int32) then (1 : Int32) else (0 : Int32)) → ¬ v1 = (0 : Int32) → ∀ v3 : Int32, v3 = (if (3 : Int32) < x4 then (if x4 = (12 : Int32) then (3 : Int32) else (2 : Int32)) else (0 : Int32)) → W_law 134 [.val (.int x0), .val (.int x1), .val (.int x2), .val (.int x3), .val (.int x4), .val (.int x5), .val (.ref 0), .val (.int x7), .val (.int x8), .val (.int v1), .unset, .unset] [.int v3] (LL1, mi, ml, RR1) Q) :
    W_law 107 [.val (.int x0), .val (.int x1), .val (.int x2), .val (.int x3), .val (.int x4), .val (.int x5), .val (.ref 0), .val (.int x7), .val (.int x8), .unset, .unset, .unset] [] (LL1, mi, ml, RR1) Q := by
  refine Wp.p (pc' := 109) d_law_107 rfl rfl ?_
  refine Wp.iconst (2 : Int32) d_law_109 (by decide) ?_
  obtain ⟨v1, e1⟩ : ∃ z : Int32, z = (if x8 = (2 : Int32) then (1 : Int32) else (0 : Int32)) := ⟨_, rfl⟩
  suffices K : W_law 118 [.val (.int x0), .val (.int x1), .val (.int x2), .val (.int x3), .val (.int x4), .val (.int x5), .val (.ref 0), .val (.int x7), .val (.int x8), .unset, .unset, .unset] [.int v1] (LL1, mi, ml, RR1) Q by
    refine Wp.icmp_ne d_law_110 rfl (fun q0 => ?_) (fun q0 => ?_)
    ·
      refine Wp.iconst (0 : Int32) d_law_117 (by decide) ?_
      rw [if_neg q0] at e1; subst e1
      exact K
    ·
      refine Wp.iconst (1 : Int32) d_law_113 (by decide) ?_
      refine Wp.p (pc' := 118) d_law_114 rfl rfl ?_
      rw [if_pos q0] at e1; subst e1
      exact K
  refine Wp.p (pc' := 120) d_law_118 rfl rfl ?_
  refine Wp.p (pc' := 122) d_law_120 rfl rfl ?_
  refine Wp.if_eq d_law_122 rfl (fun c2 => ?_) (fun c2 => ?_)
  ·
    refine Wp.iconst (0 : Int32) d_law_133 (by decide) ?_
    exact (h1 v1 e1 c2)
  ·
    refine Wp.p (pc' := 127) d_law_125 rfl rfl ?_
    refine Wp.callS (as := [.int x4]) (rest := []) (w := 0) (F' := 0) (Lb' := 0) d_law_127 ca_w16_3 rfl rfl rfl (by decide) (by decide) (Nat.le_of_ble_eq_true rfl) ?_
    refine L_law_arity_0 ?_
    intro v3 e3
    show W_law 130 [.val (.int x0), .val (.int x1), .val (.int x2), .val (.int x3), .val (.int x4), .val (.int x5), .val (.ref 0), .val (.int x7), .val (.int x8), .val (.int v1), .unset, .unset] [.int v3] (LL1, mi, ml, RR1) Q
    refine Wp.p (pc' := 134) d_law_130 rfl rfl ?_
    exact (h2 v1 e1 c2 v3 e3)
set_option maxRecDepth 65536 in
set_option maxHeartbeats 4000000 in
theorem L_law_134 {x0 x1 x2 x3 x4 x5 x7 x8 x9 y0 : Int32} {mi : Nat → Nat → Int32} {ml : Nat → Nat → Int64} {Q : Option Value → EMem → Prop}
    (h1 : ∀ v1 : Int32, v1 = (if x9 = (0 : Int32) then (0 : Int32) else (if (2 : Int32) < x4 then (if x4 = (13 : Int32) then x5 else (0 : Int32)) else x5)) → ¬ x7 = x8 → Q (some (.int (0 : Int32))) (LL1, mi, ml, RR1))
    (h2 : ∀ v1 : Int32, v1 = (if x9 = (0 : Int32) then (0 : Int32) else (if (2 : Int32) < x4 then (if x4 = (13 : Int32) then x5 else (0 : Int32)) else x5)) → x7 = x8 → ∀ v3 : Int32, v3 = (if x9 = (0 : Int32) then (2 : Int32) else ((3 : Int32) - y0)) → ¬ (mi 0 121) = v3 → Q (some (.int (0 : Int32))) (LL1, mi, ml, RR1))
    (h3 : ∀ v1 : Int32, v1 = (if x9 = (0 : Int32) then (0 : Int32) else (if (2 : Int32) < x4 then (if x4 = (13 : Int32) then x5 else (0 : Int32)) else x5)) → x7 = x8 → ∀ v3 : Int32, v3 = (if x9 = (0 : Int32) then (2 : Int32) else ((3 : Int32) - y0)) → (mi 0 121) = v3 → ∀ v5 : Int32, v5 = (if x9 = (0 : Int32) then (2 : Int32) else (3 : Int32)) → ¬ (mi 0 119) = v5 → Q (some (.int (0 : Int32))) (LL1, mi, ml, RR1))
    (h4 : ∀ v1 : Int32, v1 = (if x9 = (0 : Int32) then (0 : Int32) else (if (2 : Int32) < x4 then (if x4 = (13 : Int32) then x5 else (0 : Int32)) else x5)) → x7 = x8 → ∀ v3 : Int32, v3 = (if x9 = (0 : Int32) then (2 : Int32) else ((3 : Int32) - y0)) → (mi 0 121) = v3 → ∀ v5 : Int32, v5 = (if x9 = (0 : Int32) then (2 : Int32) else (3 : Int32)) → (mi 0 119) = v5 → W_nodeKind 0 [.val (.ref 0), .val (.int (2 : Int32))] [] (LL1, mi, ml, RR1) (fun v M' => W_law 214 [.val (.int x0), .val (.int x1), .val (.int x2), .val (.int x3), .val (.int x4), .val (.int x5), .val (.ref 0), .val (.int x7), .val (.int x8), .val (.int x9), .val (.int y0), .val (.int v1)] (v.toList ++ []) M' Q)) :
    W_law 134 [.val (.int x0), .val (.int x1), .val (.int x2), .val (.int x3), .val (.int x4), .val (.int x5), .val (.ref 0), .val (.int x7), .val (.int x8), .val (.int x9), .unset, .unset] [.int y0] (LL1, mi, ml, RR1) Q := by
  refine Wp.p (pc' := 136) d_law_134 rfl rfl ?_
  refine Wp.p (pc' := 138) d_law_136 rfl rfl ?_
  obtain ⟨v1, e1⟩ : ∃ z : Int32, z = (if x9 = (0 : Int32) then (0 : Int32) else (if (2 : Int32) < x4 then (if x4 = (13 : Int32) then x5 else (0 : Int32)) else x5)) := ⟨_, rfl⟩
  suffices K : W_law 160 [.val (.int x0), .val (.int x1), .val (.int x2), .val (.int x3), .val (.int x4), .val (.int x5), .val (.ref 0), .val (.int x7), .val (.int x8), .val (.int x9), .val (.int y0), .unset] [.int v1] (LL1, mi, ml, RR1) Q by
    refine Wp.if_eq d_law_138 rfl (fun q0 => ?_) (fun q0 => ?_)
    ·
      refine Wp.iconst (0 : Int32) d_law_159 (by decide) ?_
      rw [if_pos q0] at e1; subst e1
      exact K
    ·
      refine Wp.p (pc' := 143) d_law_141 rfl rfl ?_
      refine Wp.iconst (2 : Int32) d_law_143 (by decide) ?_
      refine Wp.icmp_le d_law_144 rfl (fun q1 => ?_) (fun q1 => ?_)
      ·
        refine Wp.p (pc' := 156) d_law_154 rfl rfl ?_
        refine Wp.p (pc' := 160) d_law_156 rfl rfl ?_
        rw [if_neg q0, if_neg q1] at e1; subst e1
        exact K
      ·
        refine Wp.p (pc' := 149) d_law_147 rfl rfl ?_
        refine Wp.bipush (13 : Int32) d_law_149 (by decide) ?_
        refine Wp.icmp_ne d_law_151 rfl (fun q2 => ?_) (fun q2 => ?_)
        ·
          refine Wp.iconst (0 : Int32) d_law_159 (by decide) ?_
          rw [if_neg q0, if_pos q1, if_neg q2] at e1; subst e1
          exact K
        ·
          refine Wp.p (pc' := 156) d_law_154 rfl rfl ?_
          refine Wp.p (pc' := 160) d_law_156 rfl rfl ?_
          rw [if_neg q0, if_pos q1, if_pos q2] at e1; subst e1
          exact K
  refine Wp.p (pc' := 162) d_law_160 rfl rfl ?_
  refine Wp.p (pc' := 164) d_law_162 rfl rfl ?_
  refine Wp.p (pc' := 166) d_law_164 rfl rfl ?_
  refine Wp.icmp_ne d_law_166 rfl (fun c2 => ?_) (fun c2 => ?_)
  ·
    refine Wp.iconst (0 : Int32) d_law_314 (by decide) ?_
    refine Wp.retZ (0 : Int32) d_law_315 (by decide) ?_
    exact (h1 v1 e1 c2)
  ·
    refine Wp.p (pc' := 171) d_law_169 rfl rfl ?_
    refine Wp.callV (a := 0) (as := []) (rest := []) (w := 0) (F' := 0) (Lb' := 0) d_law_171 ca_w22_0n ca_w22_0 rfl rfl rfl rfl (by decide) (by decide) (Nat.le_of_ble_eq_true rfl) ?_
    refine L_depth_0 ?_
    show W_law 174 [.val (.int x0), .val (.int x1), .val (.int x2), .val (.int x3), .val (.int x4), .val (.int x5), .val (.ref 0), .val (.int x7), .val (.int x8), .val (.int x9), .val (.int y0), .val (.int v1)] [.int (mi 0 121)] (LL1, mi, ml, RR1) Q
    refine Wp.p (pc' := 176) d_law_174 rfl rfl ?_
    obtain ⟨v3, e3⟩ : ∃ z : Int32, z = (if x9 = (0 : Int32) then (2 : Int32) else ((3 : Int32) - y0)) := ⟨_, rfl⟩
    suffices K : W_law 187 [.val (.int x0), .val (.int x1), .val (.int x2), .val (.int x3), .val (.int x4), .val (.int x5), .val (.ref 0), .val (.int x7), .val (.int x8), .val (.int x9), .val (.int y0), .val (.int v1)] [.int v3, .int (mi 0 121)] (LL1, mi, ml, RR1) Q by
      refine Wp.if_eq d_law_176 rfl (fun q0 => ?_) (fun q0 => ?_)
      ·
        refine Wp.iconst (2 : Int32) d_law_186 (by decide) ?_
        rw [if_pos q0] at e3; subst e3
        exact K
      ·
        refine Wp.iconst (3 : Int32) d_law_179 (by decide) ?_
        refine Wp.p (pc' := 182) d_law_180 rfl rfl ?_
        refine Wp.p (pc' := 183) d_law_182 rfl rfl ?_
        refine Wp.p (pc' := 187) d_law_183 rfl rfl ?_
        rw [if_neg q0] at e3; subst e3
        exact K
    refine Wp.icmp_ne d_law_187 rfl (fun c4 => ?_) (fun c4 => ?_)
    ·
      refine Wp.iconst (0 : Int32) d_law_314 (by decide) ?_
      refine Wp.retZ (0 : Int32) d_law_315 (by decide) ?_
      exact (h2 v1 e1 c2 v3 e3 c4)
    ·
      refine Wp.p (pc' := 192) d_law_190 rfl rfl ?_
      refine Wp.callV (a := 0) (as := []) (rest := []) (w := 0) (F' := 0) (Lb' := 0) d_law_192 ca_w26_0n ca_w26_0 rfl rfl rfl rfl (by decide) (by decide) (Nat.le_of_ble_eq_true rfl) ?_
      refine L_nodeCount_0 ?_
      show W_law 195 [.val (.int x0), .val (.int x1), .val (.int x2), .val (.int x3), .val (.int x4), .val (.int x5), .val (.ref 0), .val (.int x7), .val (.int x8), .val (.int x9), .val (.int y0), .val (.int v1)] [.int (mi 0 119)] (LL1, mi, ml, RR1) Q
      refine Wp.p (pc' := 197) d_law_195 rfl rfl ?_
      obtain ⟨v5, e5⟩ : ∃ z : Int32, z = (if x9 = (0 : Int32) then (2 : Int32) else (3 : Int32)) := ⟨_, rfl⟩
      suffices K : W_law 205 [.val (.int x0), .val (.int x1), .val (.int x2), .val (.int x3), .val (.int x4), .val (.int x5), .val (.ref 0), .val (.int x7), .val (.int x8), .val (.int x9), .val (.int y0), .val (.int v1)] [.int v5, .int (mi 0 119)] (LL1, mi, ml, RR1) Q by
        refine Wp.if_eq d_law_197 rfl (fun q0 => ?_) (fun q0 => ?_)
        ·
          refine Wp.iconst (2 : Int32) d_law_204 (by decide) ?_
          rw [if_pos q0] at e5; subst e5
          exact K
        ·
          refine Wp.iconst (3 : Int32) d_law_200 (by decide) ?_
          refine Wp.p (pc' := 205) d_law_201 rfl rfl ?_
          rw [if_neg q0] at e5; subst e5
          exact K
      refine Wp.icmp_ne d_law_205 rfl (fun c6 => ?_) (fun c6 => ?_)
      ·
        refine Wp.iconst (0 : Int32) d_law_314 (by decide) ?_
        refine Wp.retZ (0 : Int32) d_law_315 (by decide) ?_
        exact (h3 v1 e1 c2 v3 e3 c4 v5 e5 c6)
      ·
        refine Wp.p (pc' := 210) d_law_208 rfl rfl ?_
        refine Wp.iconst (2 : Int32) d_law_210 (by decide) ?_
        refine Wp.callV (a := 0) (as := [.int (2 : Int32)]) (rest := []) (w := 0) (F' := 1) (Lb' := 13) d_law_211 ca_w29_0n ca_w29_0 rfl rfl rfl rfl (by decide) (by decide) (Nat.le_of_ble_eq_true rfl) ?_
        exact (h4 v1 e1 c2 v3 e3 c4 v5 e5 c6)
set_option maxRecDepth 65536 in
set_option maxHeartbeats 4000000 in
theorem L_law_214 {x0 x1 x2 x3 x4 x5 x7 x8 x9 x10 x11 y0 : Int32} {mi : Nat → Nat → Int32} {ml : Nat → Nat → Int64} {Q : Option Value → EMem → Prop}
    (h1 : ∀ v1 : Int32, v1 = (if x9 = (0 : Int32) then (-1 : Int32) else x4) → ¬ y0 = v1 → Q (some (.int (0 : Int32))) (LL1, mi, ml, RR1))
    (h2 : ∀ v1 : Int32, v1 = (if x9 = (0 : Int32) then (-1 : Int32) else x4) → y0 = v1 → W_nodeArg 0 [.val (.ref 0), .val (.int (2 : Int32))] [] (LL1, mi, ml, RR1) (fun v M' => W_law 234 [.val (.int x0), .val (.int x1), .val (.int x2), .val (.int x3), .val (.int x4), .val (.int x5), .val (.ref 0), .val (.int x7), .val (.int x8), .val (.int x9), .val (.int x10), .val (.int x11)] (v.toList ++ []) M' Q)) :
    W_law 214 [.val (.int x0), .val (.int x1), .val (.int x2), .val (.int x3), .val (.int x4), .val (.int x5), .val (.ref 0), .val (.int x7), .val (.int x8), .val (.int x9), .val (.int x10), .val (.int x11)] [.int y0] (LL1, mi, ml, RR1) Q := by
  refine Wp.p (pc' := 216) d_law_214 rfl rfl ?_
  obtain ⟨v1, e1⟩ : ∃ z : Int32, z = (if x9 = (0 : Int32) then (-1 : Int32) else x4) := ⟨_, rfl⟩
  suffices K : W_law 225 [.val (.int x0), .val (.int x1), .val (.int x2), .val (.int x3), .val (.int x4), .val (.int x5), .val (.ref 0), .val (.int x7), .val (.int x8), .val (.int x9), .val (.int x10), .val (.int x11)] [.int v1, .int y0] (LL1, mi, ml, RR1) Q by
    refine Wp.if_eq d_law_216 rfl (fun q0 => ?_) (fun q0 => ?_)
    ·
      refine Wp.iconst (-1 : Int32) d_law_224 (by decide) ?_
      rw [if_pos q0] at e1; subst e1
      exact K
    ·
      refine Wp.p (pc' := 221) d_law_219 rfl rfl ?_
      refine Wp.p (pc' := 225) d_law_221 rfl rfl ?_
      rw [if_neg q0] at e1; subst e1
      exact K
  refine Wp.icmp_ne d_law_225 rfl (fun c2 => ?_) (fun c2 => ?_)
  ·
    refine Wp.iconst (0 : Int32) d_law_314 (by decide) ?_
    refine Wp.retZ (0 : Int32) d_law_315 (by decide) ?_
    exact (h1 v1 e1 c2)
  ·
    refine Wp.p (pc' := 230) d_law_228 rfl rfl ?_
    refine Wp.iconst (2 : Int32) d_law_230 (by decide) ?_
    refine Wp.callV (a := 0) (as := [.int (2 : Int32)]) (rest := []) (w := 0) (F' := 1) (Lb' := 13) d_law_231 ca_w32_0n ca_w32_0 rfl rfl rfl rfl (by decide) (by decide) (Nat.le_of_ble_eq_true rfl) ?_
    exact (h2 v1 e1 c2)
set_option maxRecDepth 65536 in
set_option maxHeartbeats 4000000 in
theorem L_law_234 {x0 x1 x2 x3 x4 x5 x7 x8 x9 x10 x11 y0 : Int32} {mi : Nat → Nat → Int32} {ml : Nat → Nat → Int64} {Q : Option Value → EMem → Prop}
    (h1 : ¬ y0 = x11 → Q (some (.int (0 : Int32))) (LL1, mi, ml, RR1))
    (h2 : y0 = x11 → W_child 0 [.val (.ref 0), .val (.int (2 : Int32)), .val (.int (0 : Int32))] [] (LL1, mi, ml, RR1) (fun v M' => W_law 246 [.val (.int x0), .val (.int x1), .val (.int x2), .val (.int x3), .val (.int x4), .val (.int x5), .val (.ref 0), .val (.int x7), .val (.int x8), .val (.int x9), .val (.int x10), .val (.int x11)] (v.toList ++ []) M' Q)) :
    W_law 234 [.val (.int x0), .val (.int x1), .val (.int x2), .val (.int x3), .val (.int x4), .val (.int x5), .val (.ref 0), .val (.int x7), .val (.int x8), .val (.int x9), .val (.int x10), .val (.int x11)] [.int y0] (LL1, mi, ml, RR1) Q := by
  refine Wp.p (pc' := 236) d_law_234 rfl rfl ?_
  refine Wp.icmp_ne d_law_236 rfl (fun c1 => ?_) (fun c1 => ?_)
  ·
    refine Wp.iconst (0 : Int32) d_law_314 (by decide) ?_
    refine Wp.retZ (0 : Int32) d_law_315 (by decide) ?_
    exact (h1 c1)
  ·
    refine Wp.p (pc' := 241) d_law_239 rfl rfl ?_
    refine Wp.iconst (2 : Int32) d_law_241 (by decide) ?_
    refine Wp.iconst (0 : Int32) d_law_242 (by decide) ?_
    refine Wp.callV (a := 0) (as := [.int (2 : Int32), .int (0 : Int32)]) (rest := []) (w := 0) (F' := 1) (Lb' := 14) d_law_243 ca_w35_0n ca_w35_0 rfl rfl rfl rfl (by decide) (by decide) (Nat.le_of_ble_eq_true rfl) ?_
    exact (h2 c1)
set_option maxRecDepth 65536 in
set_option maxHeartbeats 4000000 in
theorem L_law_246 {x0 x1 x2 x3 x4 x5 x7 x8 x9 x10 x11 y0 : Int32} {mi : Nat → Nat → Int32} {ml : Nat → Nat → Int64} {Q : Option Value → EMem → Prop}
    (h1 : ∀ v1 : Int32, v1 = (if x9 = (0 : Int32) then (-1 : Int32) else (if x10 = (2 : Int32) then (0 : Int32) else (-1 : Int32))) → ¬ y0 = v1 → Q (some (.int (0 : Int32))) (LL1, mi, ml, RR1))
    (h2 : ∀ v1 : Int32, v1 = (if x9 = (0 : Int32) then (-1 : Int32) else (if x10 = (2 : Int32) then (0 : Int32) else (-1 : Int32))) → y0 = v1 → W_child 0 [.val (.ref 0), .val (.int (2 : Int32)), .val (.int (1 : Int32))] [] (LL1, mi, ml, RR1) (fun v M' => W_law 272 [.val (.int x0), .val (.int x1), .val (.int x2), .val (.int x3), .val (.int x4), .val (.int x5), .val (.ref 0), .val (.int x7), .val (.int x8), .val (.int x9), .val (.int x10), .val (.int x11)] (v.toList ++ []) M' Q)) :
    W_law 246 [.val (.int x0), .val (.int x1), .val (.int x2), .val (.int x3), .val (.int x4), .val (.int x5), .val (.ref 0), .val (.int x7), .val (.int x8), .val (.int x9), .val (.int x10), .val (.int x11)] [.int y0] (LL1, mi, ml, RR1) Q := by
  refine Wp.p (pc' := 248) d_law_246 rfl rfl ?_
  obtain ⟨v1, e1⟩ : ∃ z : Int32, z = (if x9 = (0 : Int32) then (-1 : Int32) else (if x10 = (2 : Int32) then (0 : Int32) else (-1 : Int32))) := ⟨_, rfl⟩
  suffices K : W_law 262 [.val (.int x0), .val (.int x1), .val (.int x2), .val (.int x3), .val (.int x4), .val (.int x5), .val (.ref 0), .val (.int x7), .val (.int x8), .val (.int x9), .val (.int x10), .val (.int x11)] [.int v1, .int y0] (LL1, mi, ml, RR1) Q by
    refine Wp.if_eq d_law_248 rfl (fun q0 => ?_) (fun q0 => ?_)
    ·
      refine Wp.iconst (-1 : Int32) d_law_261 (by decide) ?_
      rw [if_pos q0] at e1; subst e1
      exact K
    ·
      refine Wp.p (pc' := 253) d_law_251 rfl rfl ?_
      refine Wp.iconst (2 : Int32) d_law_253 (by decide) ?_
      refine Wp.icmp_ne d_law_254 rfl (fun q1 => ?_) (fun q1 => ?_)
      ·
        refine Wp.iconst (-1 : Int32) d_law_261 (by decide) ?_
        rw [if_neg q0, if_neg q1] at e1; subst e1
        exact K
      ·
        refine Wp.iconst (0 : Int32) d_law_257 (by decide) ?_
        refine Wp.p (pc' := 262) d_law_258 rfl rfl ?_
        rw [if_neg q0, if_pos q1] at e1; subst e1
        exact K
  refine Wp.icmp_ne d_law_262 rfl (fun c2 => ?_) (fun c2 => ?_)
  ·
    refine Wp.iconst (0 : Int32) d_law_314 (by decide) ?_
    refine Wp.retZ (0 : Int32) d_law_315 (by decide) ?_
    exact (h1 v1 e1 c2)
  ·
    refine Wp.p (pc' := 267) d_law_265 rfl rfl ?_
    refine Wp.iconst (2 : Int32) d_law_267 (by decide) ?_
    refine Wp.iconst (1 : Int32) d_law_268 (by decide) ?_
    refine Wp.callV (a := 0) (as := [.int (2 : Int32), .int (1 : Int32)]) (rest := []) (w := 0) (F' := 1) (Lb' := 14) d_law_269 ca_w35_0n ca_w35_0 rfl rfl rfl rfl (by decide) (by decide) (Nat.le_of_ble_eq_true rfl) ?_
    exact (h2 v1 e1 c2)
set_option maxRecDepth 65536 in
set_option maxHeartbeats 4000000 in
theorem L_law_272 {x0 x1 x2 x3 x4 x5 x7 x8 x9 x10 x11 y0 : Int32} {mi : Nat → Nat → Int32} {ml : Nat → Nat → Int64} {Q : Option Value → EMem → Prop}
    (h1 : ∀ v1 : Int32, v1 = (if x9 = (0 : Int32) then (-1 : Int32) else (if x10 = (2 : Int32) then (1 : Int32) else (-1 : Int32))) → ¬ y0 = v1 → Q (some (.int (0 : Int32))) (LL1, mi, ml, RR1))
    (h2 : ∀ v1 : Int32, v1 = (if x9 = (0 : Int32) then (-1 : Int32) else (if x10 = (2 : Int32) then (1 : Int32) else (-1 : Int32))) → y0 = v1 → W_top 0 [.val (.ref 0), .val (.int (0 : Int32)), .unset] [] (LL1, mi, ml, RR1) (fun v M' => W_law 297 [.val (.int x0), .val (.int x1), .val (.int x2), .val (.int x3), .val (.int x4), .val (.int x5), .val (.ref 0), .val (.int x7), .val (.int x8), .val (.int x9), .val (.int x10), .val (.int x11)] (v.toList ++ []) M' Q)) :
    W_law 272 [.val (.int x0), .val (.int x1), .val (.int x2), .val (.int x3), .val (.int x4), .val (.int x5), .val (.ref 0), .val (.int x7), .val (.int x8), .val (.int x9), .val (.int x10), .val (.int x11)] [.int y0] (LL1, mi, ml, RR1) Q := by
  refine Wp.p (pc' := 274) d_law_272 rfl rfl ?_
  obtain ⟨v1, e1⟩ : ∃ z : Int32, z = (if x9 = (0 : Int32) then (-1 : Int32) else (if x10 = (2 : Int32) then (1 : Int32) else (-1 : Int32))) := ⟨_, rfl⟩
  suffices K : W_law 288 [.val (.int x0), .val (.int x1), .val (.int x2), .val (.int x3), .val (.int x4), .val (.int x5), .val (.ref 0), .val (.int x7), .val (.int x8), .val (.int x9), .val (.int x10), .val (.int x11)] [.int v1, .int y0] (LL1, mi, ml, RR1) Q by
    refine Wp.if_eq d_law_274 rfl (fun q0 => ?_) (fun q0 => ?_)
    ·
      refine Wp.iconst (-1 : Int32) d_law_287 (by decide) ?_
      rw [if_pos q0] at e1; subst e1
      exact K
    ·
      refine Wp.p (pc' := 279) d_law_277 rfl rfl ?_
      refine Wp.iconst (2 : Int32) d_law_279 (by decide) ?_
      refine Wp.icmp_ne d_law_280 rfl (fun q1 => ?_) (fun q1 => ?_)
      ·
        refine Wp.iconst (-1 : Int32) d_law_287 (by decide) ?_
        rw [if_neg q0, if_neg q1] at e1; subst e1
        exact K
      ·
        refine Wp.iconst (1 : Int32) d_law_283 (by decide) ?_
        refine Wp.p (pc' := 288) d_law_284 rfl rfl ?_
        rw [if_neg q0, if_pos q1] at e1; subst e1
        exact K
  refine Wp.icmp_ne d_law_288 rfl (fun c2 => ?_) (fun c2 => ?_)
  ·
    refine Wp.iconst (0 : Int32) d_law_314 (by decide) ?_
    refine Wp.retZ (0 : Int32) d_law_315 (by decide) ?_
    exact (h1 v1 e1 c2)
  ·
    refine Wp.p (pc' := 293) d_law_291 rfl rfl ?_
    refine Wp.iconst (0 : Int32) d_law_293 (by decide) ?_
    refine Wp.callV (a := 0) (as := [.int (0 : Int32)]) (rest := []) (w := 0) (F' := 0) (Lb' := 0) d_law_294 ca_w38_0n ca_w38_0 rfl rfl rfl rfl (by decide) (by decide) (Nat.le_of_ble_eq_true rfl) ?_
    exact (h2 v1 e1 c2)
set_option maxRecDepth 65536 in
set_option maxHeartbeats 4000000 in
theorem L_law_297 {x0 x1 x2 x3 x4 x5 x7 x8 x9 x10 x11 y0 : Int32} {mi : Nat → Nat → Int32} {ml : Nat → Nat → Int64} {Q : Option Value → EMem → Prop}
    (h1 : ∀ v1 : Int32, v1 = (if x9 = (0 : Int32) then (1 : Int32) else (2 : Int32)) → ∀ v2 : Int32, v2 = (if y0 = v1 then (1 : Int32) else (0 : Int32)) → Q (some (.int (v2 &&& 1))) (LL1, mi, ml, RR1)) :
    W_law 297 [.val (.int x0), .val (.int x1), .val (.int x2), .val (.int x3), .val (.int x4), .val (.int x5), .val (.ref 0), .val (.int x7), .val (.int x8), .val (.int x9), .val (.int x10), .val (.int x11)] [.int y0] (LL1, mi, ml, RR1) Q := by
  refine Wp.p (pc' := 299) d_law_297 rfl rfl ?_
  obtain ⟨v1, e1⟩ : ∃ z : Int32, z = (if x9 = (0 : Int32) then (1 : Int32) else (2 : Int32)) := ⟨_, rfl⟩
  suffices K : W_law 307 [.val (.int x0), .val (.int x1), .val (.int x2), .val (.int x3), .val (.int x4), .val (.int x5), .val (.ref 0), .val (.int x7), .val (.int x8), .val (.int x9), .val (.int x10), .val (.int x11)] [.int v1, .int y0] (LL1, mi, ml, RR1) Q by
    refine Wp.if_eq d_law_299 rfl (fun q0 => ?_) (fun q0 => ?_)
    ·
      refine Wp.iconst (1 : Int32) d_law_306 (by decide) ?_
      rw [if_pos q0] at e1; subst e1
      exact K
    ·
      refine Wp.iconst (2 : Int32) d_law_302 (by decide) ?_
      refine Wp.p (pc' := 307) d_law_303 rfl rfl ?_
      rw [if_neg q0] at e1; subst e1
      exact K
  obtain ⟨v2, e2⟩ : ∃ z : Int32, z = (if y0 = v1 then (1 : Int32) else (0 : Int32)) := ⟨_, rfl⟩
  suffices K : W_law 315 [.val (.int x0), .val (.int x1), .val (.int x2), .val (.int x3), .val (.int x4), .val (.int x5), .val (.ref 0), .val (.int x7), .val (.int x8), .val (.int x9), .val (.int x10), .val (.int x11)] [.int v2] (LL1, mi, ml, RR1) Q by
    refine Wp.icmp_ne d_law_307 rfl (fun q0 => ?_) (fun q0 => ?_)
    ·
      refine Wp.iconst (0 : Int32) d_law_314 (by decide) ?_
      rw [if_neg q0] at e2; subst e2
      exact K
    ·
      refine Wp.iconst (1 : Int32) d_law_310 (by decide) ?_
      refine Wp.p (pc' := 315) d_law_311 rfl rfl ?_
      rw [if_pos q0] at e2; subst e2
      exact K
  refine Wp.retZ (v2 &&& 1) d_law_315 (by rfl) ?_
  exact (h1 v1 e1 v2 e2)

/-- clearAll leaves the object's own fields but for what it sets -/
theorem own_ca2 {Q : Option Value → EMem → Prop} (F : Nat → Int32) (K : ∀ mi ml, (∀ k, mi 0 k = F k) → Q none (LL1, mi, ml, RR1))
    (x : Int32) (mi : Nat → Nat → Int32) (ml : Nat → Nat → Int64) (hx : ¬ x < 0) (hF : ∀ k, mi 0 k = F k) :
    W_clearAll 50 [.val (.ref 0), .val (.int x)] [] (LL1, mi, ml, RR1) Q := by
  refine L_clearAll_50 (fun _ => K _ _ hF) (fun h => ?_)
  refine L_clearCell_0 (fun q => absurd q hx) (fun _ _ => inb_lt 128 hx h (by decide)) (fun _ _ => ?_) (fun _ q => absurd h q)
  refine L_clearAll_62 ?_
  exact own_ca2 F K (x + 1) _ _ (succ_nn hx h) (fun k => hF k)
termination_by ((128 : Int32).toInt - x.toInt).toNat
decreasing_by exact succ_dec h
theorem own_ca1 {Q : Option Value → EMem → Prop} (F : Nat → Int32) (K : ∀ mi ml, (∀ k, mi 0 k = F k) → W_clearAll 27 [.val (.ref 0), .val (.int 64)] [] (LL1, mi, ml, RR1) Q)
    (x : Int32) (mi : Nat → Nat → Int32) (ml : Nat → Nat → Int64) (hx : ¬ x < 0) (h64 : ¬ 64 < x) (hF : ∀ k, mi 0 k = F k) :
    W_clearAll 27 [.val (.ref 0), .val (.int x)] [] (LL1, mi, ml, RR1) Q := by
  by_cases h : x < 64
  · refine L_clearAll_27 (fun q => absurd h q) (fun _ => ?_)
    refine L_clearNodeSlot_0 (fun q => absurd q hx) (fun _ _ => inb_lt 64 hx h (by decide)) (fun _ _ => ?_) (fun _ q => absurd h q)
    refine L_clearAll_38 ?_
    exact own_ca1 F K (x + 1) _ _ (succ_nn hx h) (by grind) (fun k => hF k)
  · have : x = 64 := by grind
    subst this
    exact K _ _ hF
termination_by ((64 : Int32).toInt - x.toInt).toNat
decreasing_by exact succ_dec h
theorem own_clearAll {Q : Option Value → EMem → Prop} (mi : Nat → Nat → Int32) (ml : Nat → Nat → Int64)
    (K : ∀ mi' ml', mi' 0 119 = 0 → mi' 0 121 = 0 → mi' 0 123 = 0 → mi' 0 111 = mi 0 111 → mi' 0 113 = mi 0 113 → Q none (LL1, mi', ml', RR1)) :
    W_clearAll 0 [.val (.ref 0), .unset] [] (LL1, mi, ml, RR1) Q := by
  refine L_clearAll_0 ?_
  refine own_ca1 (up (up (up (up (up mi 0 119 0) 0 121 0) 0 123 0) 0 125 0) 0 127 0 0) ?_ 0 _ _ (by decide) (by decide) (fun _ => rfl)
  intro mi1 ml1 F1
  refine L_clearAll_27 (fun _ => ?_) (fun h => absurd h (by decide))
  refine own_ca2 _ ?_ 0 _ _ (by decide) (fun _ => rfl)
  intro mi2 ml2 F2
  exact K _ _ ((F2 _).trans (F1 _)) ((F2 _).trans (F1 _)) ((F2 _).trans (F1 _)) ((F2 _).trans (F1 _)) ((F2 _).trans (F1 _))

theorem own_pushC {Q : Option Value → EMem → Prop} (x n : Int32) (hn0 : ¬ n < 0) (hn : n < 8) (mi : Nat → Nat → Int32) (ml : Nat → Nat → Int64)
    (h1 : mi 0 119 = n) (h2 : mi 0 121 = n) (h3 : ¬ mi 0 111 < 8)
    (K : ∀ mi', mi' 0 119 = n + 1 → mi' 0 121 = n + 1 → mi' 0 111 = mi 0 111 → (∀ k, mi' 6 k = if k = n.toNatClampNeg then n else mi 6 k) → Q (some (.int n)) (LL1, mi', ml, RR1)) :
    W_push 0 [.val (.ref 0), .val (.int 0), .val (.int x), .unset, .unset] [] (LL1, mi, ml, RR1) Q := by
  have n64 : n < 64 := by grind
  have nb : inb n 64 = true := inb_lt 64 hn0 n64 (by decide)
  refine L_push_0 (fun h => absurd h (by decide)) (fun _ _ _ _ _ _ h => absurd h (by decide)) ?_ (fun _ _ _ _ _ _ _ h => absurd h (by decide)) (fun _ _ _ v4 e4 h => ?_) (fun _ _ h => ?_) (fun _ h => absurd h (by decide))
  · intro _ _ _ v4 e4 _ _ _
    have : v4 = 0 := e4
    subst this
    refine L_push_67 (fun h => absurd h (by rw [h1]; exact hn0)) (fun _ h => absurd (by rw [h1]; exact n64) h) (fun _ _ _ => by rw [h1]; exact nb) (fun _ _ _ _ _ _ _ => by rw [h1]; exact nb) ?_ (fun _ _ h => absurd h (by rw [h2]; grind))
    intro _ _ _ v4 e4 v5 e5
    rw [h1]
    refine L_attachChildren_0 nb (fun _ => ?_) (fun h => absurd (by decide) h) (fun h => absurd (by decide) h) (fun h => absurd (by decide) h) (fun h => absurd (by decide) h) (fun h => absurd (by decide) h) (fun h => absurd (by decide) h) (fun h => absurd (by decide) h) (fun h => absurd (by decide) h) (fun h => absurd (by decide) h) (fun h => absurd (by decide) h) (fun h => absurd (by decide) h)
    generalize hm : up (up (up (up (up mi 1 n.toNatClampNeg 0) 2 n.toNatClampNeg v5) 3 n.toNatClampNeg (-1)) 4 n.toNatClampNeg (-1)) 5 n.toNatClampNeg (-1) = m
    have f0 : ∀ k, m 0 k = mi 0 k := fun k => by rw [← hm]; rfl
    have f6 : ∀ k, m 6 k = mi 6 k := fun k => by rw [← hm]; rfl
    refine L_push_132 (fun h => absurd h (by rw [f0, h2]; exact hn0)) (fun _ _ => by rw [f0, h2]; exact nb) (fun _ _ => nb) (fun _ _ => ?_) (fun _ h => absurd (by rw [f0, h2]; exact n64) h)
    rw [f0, f0, h2, h1]
    refine K _ rfl rfl (f0 _) (fun k => ?_)
    show (if 6 = 6 ∧ k = n.toNatClampNeg then n else m 6 k) = _
    rw [f6]
    simp
  · exfalso; grind
  · exfalso; grind
def own_want (k a : Int32) : Int32 := if k < 0 then -1 else if 13 < k then -1 else if k = 12 then -3 else if k = 1 ∨ k = 13 then (if a < 0 then -4 else if 7 < a then -4 else 2) else 2

theorem own_child (k w : Int32) (mi : Nat → Nat → Int32) (ml : Nat → Nat → Int64) (hn : mi 0 119 = if w = 2 then 3 else 2) (wr : w = 2 → ¬ k < 0 ∧ ¬ 13 < k ∧ ¬ k = 12)
    (hk : w = 2 → mi 1 2 = k) (hc0 : w = 2 → mi 3 2 = if 3 < k then 0 else -1) (hc1 : w = 2 → mi 4 2 = if 3 < k then 1 else -1)
    (j : Int32) (t : Int32) {Q : Option Value → EMem → Prop} (hj : j = 0 ∨ j = 1) (ht : t = if w = 2 then (if 3 < k then j else -1) else -1) (hq : Q (some (.int t)) (LL1, mi, ml, RR1)) : W_child 0 [.val (.ref 0), .val (.int 2), .val (.int j)] [] (LL1, mi, ml, RR1) Q := by
  have z2 : Int32.toNatClampNeg 2 = 2 := by decide
  have hnode : ∀ v : Int32, (v = if (2 : Int32) < 0 then 0 else if 2 < mi 0 119 then (if (2 : Int32) < 64 then 1 else 0) else 0) → v = if w = 2 then 1 else 0 := by
    intro v e; rw [hn] at e; grind
  refine L_child_0 ?_ ?_ (fun _ _ _ _ _ => by decide) (fun _ _ _ _ _ _ _ _ _ _ => by decide) (fun _ _ _ _ _ _ _ _ _ _ => by decide) (fun _ _ _ _ _ _ _ _ _ => by decide) ?_ ?_
  · intro v1 e1 c
    have := hnode _ e1; clear e1; subst this
    by_cases q : w = 2
    · simp [q] at c
    · rw [if_neg q] at ht; rw [ht] at hq; exact hq
  · intro v1 e1 c c2; exfalso; rcases hj with rfl | rfl <;> revert c2 <;> decide
  · intro v1 e1 c _ _ v5 e5 v6 e6
    have := hnode _ e1; clear e1; subst this
    by_cases q : w = 2
    · have hk' := hk q
      have wr' := wr q
      rw [z2] at e5 e6
      rw [hk'] at e5
      rw [hc0 q, hc1 q] at e6
      have : v6 = t := by
        rw [if_pos q] at ht
        rcases hj with rfl | rfl <;> grind
      rw [this]; exact hq
    · simp [q] at c
  · intro v1 e1 c _ c3; exfalso; rcases hj with rfl | rfl <;> revert c3 <;> decide
theorem own_fin (i0 i1 i2 i3 k a : Int32) (mi : Nat → Nat → Int32) (ml : Nat → Nat → Int64) (w : Int32) (wr : w = 2 → ¬ k < 0 ∧ ¬ 13 < k ∧ ¬ k = 12)
    (hd : mi 0 121 = if w = 2 then (if 3 < k then 1 else 3) else 2) (hn : mi 0 119 = if w = 2 then 3 else 2)
    (hk : w = 2 → mi 1 2 = k) (ha : w = 2 → mi 2 2 = if k = 0 ∨ k = 1 ∨ k = 2 ∨ k = 13 then a else 0)
    (hc0 : w = 2 → mi 3 2 = if 3 < k then 0 else -1) (hc1 : w = 2 → mi 4 2 = if 3 < k then 1 else -1)
    (hr : mi 6 ((mi 0 121 - 1) - 0).toNatClampNeg = if w = 2 then 2 else 1)
    (ok ar : Int32) (eo : ok = if w = 2 then 1 else 0) (ea : ar = if w = 2 then (if 3 < k then 2 else 0) else 0) : W_law 134 [.val (.int i0), .val (.int i1), .val (.int i2), .val (.int i3), .val (.int k), .val (.int a), .val (.ref 0), .val (.int w), .val (.int w), .val (.int ok), .unset, .unset] [.int ar] (LL1, mi, ml, RR1) QL := by
  have z2 : Int32.toNatClampNeg 2 = 2 := by decide
  refine L_law_134 (fun v1 e1 c => absurd rfl c) (fun v1 e1 _ v3 e3 c => absurd ?_ c) (fun v1 e1 _ v3 e3 c v5 e5 c2 => absurd ?_ c2) ?_
  · clear hn hk ha hc0 hc1 hr; grind
  · clear hd hk ha hc0 hc1 hr; grind
  intro v1 e1 _ v3 e3 _ v5 e5 _
  have hnode : ∀ v : Int32, (v = if (2 : Int32) < 0 then 0 else if 2 < mi 0 119 then (if (2 : Int32) < 64 then 1 else 0) else 0) → v = if w = 2 then 1 else 0 := by
    intro v e; rw [hn] at e; grind
  refine L_nodeKind_0 (fun _ _ _ => by decide) ?_
  intro u1 g1 u2 g2
  have := hnode _ g1; clear g1; subst this
  rw [z2] at g2
  refine L_law_214 (fun v6 e6 c => absurd ?_ c) ?_
  · by_cases q : w = 2
    · rw [if_pos q, if_neg (by decide), hk q] at g2
      rw [eo, if_pos q, if_neg (by decide)] at e6
      rw [g2, e6]
    · rw [if_neg q, if_pos (by decide)] at g2
      rw [eo, if_neg q, if_pos rfl] at e6
      rw [g2, e6]
  intro v6 e6 _
  refine L_nodeArg_0 (fun _ _ _ => by decide) ?_
  intro u3 g3 u4 g4
  have := hnode _ g3; clear g3; subst this
  rw [z2] at g4
  refine L_law_234 (fun c => absurd ?_ c) ?_
  · by_cases q : w = 2
    · rw [if_pos q, if_neg (by decide), ha q] at g4
      have := wr q
      rw [eo, if_pos q, if_neg (by decide)] at e1
      rw [g4, e1]
      clear hk ha hc0 hc1 hr hd hn hnode g2 e6 e3 e5
      grind
    · rw [if_neg q, if_pos (by decide)] at g4
      rw [eo, if_neg q, if_pos rfl] at e1
      rw [g4, e1]
  intro _
  refine own_child k w _ _ hn wr hk hc0 hc1 0 _ (Or.inl rfl) rfl ?_
  refine L_law_246 (fun v6 e6 c => absurd ?_ c) ?_
  · clear hk ha hc0 hc1 hr hd hn hnode g2 e3 e5 g4 e1; grind
  intro v7 e7 _
  refine own_child k w _ _ hn wr hk hc0 hc1 1 _ (Or.inr rfl) rfl ?_
  refine L_law_272 (fun v6 e6 c => absurd ?_ c) ?_
  · clear hk ha hc0 hc1 hr hd hn hnode g2 e3 e5 g4 e1; grind
  intro v8 e8 _
  refine L_top_0 ?_ ?_
  · intro _ _ h3 h4
    exact inb_lt 64 h3 h4 (by decide)
  intro v9 e9
  refine L_law_297 ?_
  intro v10 e10 v11 e11
  refine ql1 ?_
  have h9 : v9 = if w = 2 then 2 else 1 := by
    rw [hr, hd] at e9
    clear hk ha hc0 hc1 hr hd hn hnode g2 e3 e5 g4 e1 e8 e7 e6
    grind
  have : v11 = 1 := by clear hk ha hc0 hc1 hr hd hn hnode g2 e3 e5 g4 e1 e8 e7 e6 e9; grind
  rw [this]; decide
theorem own_law3 (i0 i1 i2 i3 k a : Int32) (mi : Nat → Nat → Int32) (ml : Nat → Nat → Int64) (w : Int32) (hw : w = own_want k a)
    (d : Int32) (hdd : mi 0 121 = d) (hd : d = if w = 2 then (if 3 < k then 1 else 3) else 2) (hn : mi 0 119 = if w = 2 then 3 else 2)
    (hk : w = 2 → mi 1 2 = k) (ha : w = 2 → mi 2 2 = if k = 0 ∨ k = 1 ∨ k = 2 ∨ k = 13 then a else 0)
    (hc0 : w = 2 → mi 3 2 = if 3 < k then 0 else -1) (hc1 : w = 2 → mi 4 2 = if 3 < k then 1 else -1)
    (hr : mi 6 ((d - 1) - 0).toNatClampNeg = if w = 2 then 2 else 1) :
    W_law 36 [.val (.int i0), .val (.int i1), .val (.int i2), .val (.int i3), .val (.int k), .val (.int a), .val (.ref 0), .unset, .unset, .unset, .unset, .unset] [.int w] (LL1, mi, ml, RR1) QL := by
  have wr : w = 2 → ¬ k < 0 ∧ ¬ 13 < k ∧ ¬ k = 12 := by intro q; rw [hw] at q; simp only [own_want] at q; grind
  subst hdd
  have fin := own_fin i0 i1 i2 i3 k a mi ml w wr hd hn hk ha hc0 hc1 hr
  have want := hw
  unfold own_want at want
  clear wr hd hn hk ha hc0 hc1 hr hw
  refine L_law_36 (fun h => ?_) ?_ ?_ (fun h h2 => ?_)
  · have : w = -1 := by grind
    subst this
    refine L_law_50 ?_
    refine L_law_107 (fun v1 e1 _ => fin _ _ e1 (by rw [if_neg (by decide)])) (fun v1 e1 c => absurd e1 c)
  · intro h1 h2 v3 e3 v4 e4 v5 e5 c
    have : v4 = w := by grind
    subst this
    exact fin _ _ e5 (by grind)
  · intro h1 h2 v3 e3 v4 e4 v5 e5 c v7 e7
    have : v4 = w := by grind
    subst this
    exact fin _ _ e5 (by grind)
  · have : w = -1 := by grind
    subst this
    refine L_law_50 ?_
    refine L_law_107 (fun v1 e1 _ => fin _ _ e1 (by rw [if_neg (by decide)])) (fun v1 e1 c => absurd e1 c)

theorem own_m2 (k v5 : Int32) (m : Nat → Nat → Int32) (hn : m 0 119 = 2) (f1 : m 1 2 = k) (f2 : m 2 2 = v5) (z : Int32) (m2 : Nat → Nat → Int32)
    (hm2 : up (up (up (up (up (up m 3 2 (-1)) 4 2 (-1)) 5 2 (-1)) 3 2 0) 4 2 1) 0 121 z = m2) : m2 0 121 = z ∧ m2 0 119 = 2 ∧ m2 1 2 = k ∧ m2 2 2 = v5 ∧ m2 3 2 = 0 ∧ m2 4 2 = 1 := by
  subst hm2
  exact ⟨rfl, hn, f1, f2, rfl, rfl⟩
theorem own_att2 (i0 i1 i2 i3 k a v5 : Int32) (m : Nat → Nat → Int32) (ml : Nat → Nat → Int64) (hn : m 0 119 = 2) (hd : m 0 121 = 2) (h0 : m 6 0 = 0) (h1 : m 6 1 = 1) (f1 : m 1 2 = k) (f2 : m 2 2 = v5)
    (e5' : v5 = if k = 0 ∨ k = 1 ∨ k = 2 ∨ k = 13 then a else 0) (hw0 : (2 : Int32) = own_want k a) (q : 3 < k) :
    W_attachChildren 0 [.val (.ref 0), .val (.int 2), .val (.int 2)] [] (LL1, m, ml, RR1) (fun v M' => W_push 132 [.val (.ref 0), .val (.int k), .val (.int a), .val (.int 2), .val (.int 2)] (v.toList ++ []) M' (fun v M' => W_law 36 [.val (.int i0), .val (.int i1), .val (.int i2), .val (.int i3), .val (.int k), .val (.int a), .val (.ref 0), .unset, .unset, .unset, .unset, .unset] (v.toList ++ []) M' QL)) := by
  have z2 : Int32.toNatClampNeg 2 = 2 := by decide
  refine L_attachChildren_0 (by decide) (fun h => absurd h (by decide)) (fun _ h => absurd h (by rw [hd]; decide)) (fun _ _ _ _ => by rw [hd]; decide) (fun _ _ _ _ => by decide) (fun _ _ _ _ => by rw [hd]; decide) ?_ (fun _ _ _ h => absurd h (by decide)) (fun _ _ _ h => absurd h (by decide)) (fun _ _ _ h => absurd h (by decide)) (fun _ _ _ h => absurd h (by decide)) (fun _ _ _ h => absurd h (by decide)) (fun _ _ h => absurd h (by rw [hd]; decide))
  intro _ _ _ _
  refine L_attachChildren_137 ?_
  rw [hd, show (2 - 2 : Int32).toNatClampNeg = 0 from by decide, show (2 - 1 : Int32).toNatClampNeg = 1 from by decide, h0, h1, z2]
  rw [show up (up (up (up (up m 3 2 (-1)) 4 2 (-1)) 5 2 (-1)) 3 2 0) 4 2 1 0 121 = 2 from hd]
  generalize hm2 : up (up (up (up (up (up m 3 2 (-1)) 4 2 (-1)) 5 2 (-1)) 3 2 0) 4 2 1) 0 121 (2 - 2) = m2
  obtain ⟨g0, gn, g1, g2, g3, g4⟩ := own_m2 k v5 m hn f1 f2 _ m2 hm2
  rw [show (2 - 2 : Int32) = 0 from by decide] at g0
  clear hm2
  refine L_push_132 (fun h => absurd h (by rw [g0]; decide)) (fun _ _ => by rw [g0]; decide) (fun _ _ => by decide) (fun _ _ => ?_) (fun _ h => absurd (by rw [g0]; decide) h)
  rw [g0, gn]
  refine own_law3 _ _ _ _ _ _ _ _ 2 hw0 (0 + 1) rfl ?_ (Eq.trans (b := (2 + 1 : Int32)) rfl (by decide)) (fun _ => g1) (fun _ => g2.trans e5') (fun _ => ?_) (fun _ => ?_) ?_
  · rw [if_pos rfl, if_pos q]; decide
  · rw [if_pos q]; exact g3
  · rw [if_pos q]; exact g4
  · rw [up_ne (by decide), up_ne (by decide), up_ne (by decide), up_ne (by decide), up_ne (by decide), up_at, if_pos (by decide), if_pos rfl]
theorem own_att0 (i0 i1 i2 i3 k a v5 : Int32) (m : Nat → Nat → Int32) (ml : Nat → Nat → Int64) (hn : m 0 119 = 2) (hd : m 0 121 = 2) (h0 : m 6 0 = 0) (h1 : m 6 1 = 1) (f1 : m 1 2 = k) (f2 : m 2 2 = v5)
    (e5' : v5 = if k = 0 ∨ k = 1 ∨ k = 2 ∨ k = 13 then a else 0) (hw0 : (2 : Int32) = own_want k a) (q : ¬ 3 < k) :
    W_attachChildren 0 [.val (.ref 0), .val (.int 2), .val (.int 0)] [] (LL1, m, ml, RR1) (fun v M' => W_push 132 [.val (.ref 0), .val (.int k), .val (.int a), .val (.int 0), .val (.int 2)] (v.toList ++ []) M' (fun v M' => W_law 36 [.val (.int i0), .val (.int i1), .val (.int i2), .val (.int i3), .val (.int k), .val (.int a), .val (.ref 0), .unset, .unset, .unset, .unset, .unset] (v.toList ++ []) M' QL)) := by
  have z2 : Int32.toNatClampNeg 2 = 2 := by decide
  refine L_attachChildren_0 (by decide) (fun _ => ?_) (fun h => absurd (by decide) h) (fun h => absurd (by decide) h) (fun h => absurd (by decide) h) (fun h => absurd (by decide) h) (fun h => absurd (by decide) h) (fun h => absurd (by decide) h) (fun h => absurd (by decide) h) (fun h => absurd (by decide) h) (fun h => absurd (by decide) h) (fun h => absurd (by decide) h) (fun h => absurd (by decide) h)
  rw [z2]
  generalize hm2 : up (up (up m 3 2 (-1)) 4 2 (-1)) 5 2 (-1) = m2
  have g0 : m2 0 121 = 2 := by rw [← hm2]; exact hd
  have gn : m2 0 119 = 2 := by rw [← hm2]; exact hn
  have g1 : m2 1 2 = k := by rw [← hm2]; exact f1
  have g2 : m2 2 2 = v5 := by rw [← hm2]; exact f2
  have g3 : m2 3 2 = -1 := by rw [← hm2]; rfl
  have g4 : m2 4 2 = -1 := by rw [← hm2]; rfl
  clear hm2
  refine L_push_132 (fun h => absurd h (by rw [g0]; decide)) (fun _ _ => by rw [g0]; decide) (fun _ _ => by decide) (fun _ _ => ?_) (fun _ h => absurd (by rw [g0]; decide) h)
  rw [g0, gn]
  refine own_law3 _ _ _ _ _ _ _ _ 2 hw0 (2 + 1) rfl ?_ (Eq.trans (b := (2 + 1 : Int32)) rfl (by decide)) (fun _ => g1) (fun _ => g2.trans e5') (fun _ => ?_) (fun _ => ?_) ?_
  · rw [if_pos rfl, if_neg q]; decide
  · rw [if_neg q]; exact g3
  · rw [if_neg q]; exact g4
  · rw [up_ne (by decide), up_ne (by decide), up_ne (by decide), up_ne (by decide), up_ne (by decide), up_at, if_pos (by decide), if_pos rfl]
theorem own_law2 (i0 i1 i2 i3 k a y0 : Int32) (mi : Nat → Nat → Int32) (ml : Nat → Nat → Int64) (hn : mi 0 119 = 2) (hd : mi 0 121 = 2) (hc : ¬ mi 0 111 < 8) (h0 : mi 6 0 = 0) (h1 : mi 6 1 = 1) :
    W_law 26 [.val (.int i0), .val (.int i1), .val (.int i2), .val (.int i3), .val (.int k), .val (.int a), .val (.ref 0), .unset, .unset, .unset, .unset, .unset] [.int y0] (LL1, mi, ml, RR1) QL := by
  refine L_law_26 ?_
  have z2 : Int32.toNatClampNeg 2 = 2 := by decide
  have bad : ∀ y0, (y0 = own_want k a) → ¬ y0 = 2 → W_law 36 [.val (.int i0), .val (.int i1), .val (.int i2), .val (.int i3), .val (.int k), .val (.int a), .val (.ref 0), .unset, .unset, .unset, .unset, .unset] [.int y0] (LL1, mi, ml, RR1) QL := fun y0 e h =>
    own_law3 _ _ _ _ _ _ _ _ y0 e 2 hd (by rw [if_neg h]) (by rw [hn, if_neg h]) (fun q => absurd q h) (fun q => absurd q h) (fun q => absurd q h) (fun q => absurd q h) (by rw [if_neg h, show (2 - 1 - 0 : Int32).toNatClampNeg = 1 from by decide]; exact h1)
  have good : ∀ v3 : Int32, ¬ k < 0 → ¬ 13 < k → ¬ k = 12 → ¬ ((k = 1 ∨ k = 13) ∧ (a < 0 ∨ 7 < a)) → v3 = (if 3 < k then 2 else 0) → W_push 67 [.val (.ref 0), .val (.int k), .val (.int a), .val (.int v3), .unset] [] (LL1, mi, ml, RR1) fun v M' => W_law 36 [.val (.int i0), .val (.int i1), .val (.int i2), .val (.int i3), .val (.int k), .val (.int a), .val (.ref 0), .unset, .unset, .unset, .unset, .unset] (v.toList ++ []) M' QL := by
    intro v3 q1 q2 q3 q4 hv
    refine L_push_67 (fun h => absurd h (by rw [hn]; decide)) (fun _ h => absurd (by rw [hn]; decide) h) (fun _ _ _ => by rw [hn]; decide) (fun _ _ _ _ _ _ _ => by rw [hn]; decide) ?_ (fun _ _ h => absurd h (by rw [hd]; decide))
    intro _ _ _ v4 e4 v5 e5
    have hv4 : v4 = 0 ∨ v4 = 1 := by grind
    rw [and1 hv4] at e5
    have e5' : v5 = if k = 0 ∨ k = 1 ∨ k = 2 ∨ k = 13 then a else 0 := by grind
    rw [hn, z2]
    have hw0 : (2 : Int32) = own_want k a := by unfold own_want; grind
    generalize hm : up (up mi 1 2 k) 2 2 v5 = m
    have f0 : ∀ j, m 0 j = mi 0 j := fun j => by rw [← hm]; rfl
    have f6 : ∀ j, m 6 j = mi 6 j := fun j => by rw [← hm]; rfl
    have f1 : m 1 2 = k := by rw [← hm]; rfl
    have f2 : m 2 2 = v5 := by rw [← hm]; rfl
    by_cases q : 3 < k
    · have hv' : v3 = 2 := by grind
      subst hv'
      exact own_att2 _ _ _ _ _ _ v5 m _ ((f0 _).trans hn) ((f0 _).trans hd) ((f6 _).trans h0) ((f6 _).trans h1) f1 f2 e5' hw0 q
    · have hv' : v3 = 0 := by grind
      subst hv'
      exact own_att0 _ _ _ _ _ _ v5 m _ ((f0 _).trans hn) ((f0 _).trans hd) ((f6 _).trans h0) ((f6 _).trans h1) f1 f2 e5' hw0 q
  have hnc : ¬ mi 0 119 = mi 0 111 := by rw [hn]; intro h; rw [← h] at hc; exact absurd (by decide) hc
  refine L_push_0 ?_ ?_ ?_ ?_ ?_ ?_ ?_
  · intro h; exact bad _ (by unfold own_want; grind) (by decide)
  · intro h1 h2 h3 v4 e4 h5 h6
    rw [hd] at h5
    refine L_push_54 (fun h => bad _ (by unfold own_want; grind) (by decide)) (fun q1 q2 => good v4 (by grind) (by grind) (by grind) (by grind) (by grind)) (fun q1 q2 => bad _ (by unfold own_want; grind) (by decide))
  · intro h1 h2 h3 v4 e4 h5 h6 h7
    rw [hd] at h5
    have : ¬ k = 12 := by grind
    exact good v4 (by grind) h2 (by grind) (by grind) (by grind)
  · intro h1 h2 h3 v4 e4 h5 h6 h7
    rw [hd] at h5
    refine L_push_54 (fun h => bad _ (by unfold own_want; grind) (by decide)) (fun q1 q2 => good v4 (by grind) (by grind) (by grind) (by grind) (by grind)) (fun q1 q2 => bad _ (by unfold own_want; grind) (by decide))
  · intro h1 h2 h3 v4 e4 h5
    rw [hd] at h5
    exact bad _ (by unfold own_want; grind) (by decide)
  · intro h1 h2 h3
    exact absurd h3 hnc
  · intro h1 h2
    exact bad _ (by unfold own_want; grind) (by decide)
theorem law_ok (i0 i1 i2 i3 i4 i5 : Int32) : W_law 0 (entryL [.int i0, .int i1, .int i2, .int i3, .int i4, .int i5] maxLocals) [] mem0 QL := by
  refine L_law_0 ?_
  refine L_init_0 ?_
  intro v1 e1 v2 e2
  refine own_clearAll _ _ ?_
  intro mi ml h1 h2 h3 h4 h5
  refine L_init_393 ?_
  have hc : ¬ mi 0 111 < 8 := by
    rw [h4]
    show ¬ v1 < 8
    grind
  refine L_law_9 ?_
  refine own_pushC _ 0 (by decide) (by decide) _ _ h1 h2 hc ?_
  intro m1 a1 a2 a3 a4
  refine L_law_18 ?_
  refine own_pushC _ 1 (by decide) (by decide) _ _ a1 a2 (by rw [a3]; exact hc) ?_
  intro m2 b1 b2 b3 b4
  refine own_law2 _ _ _ _ _ _ _ _ _ b1 b2 (by rw [b3, a3]; exact hc) ?_ ?_
  · rw [b4, a4]; rfl
  · rw [b4]; rfl

set_option maxRecDepth 65536 in
set_option maxHeartbeats 40000000 in
theorem comes_1 {Post : Tables → Env → Array Value → State → Outcome → State → Prop} (hpost : ∀ tb e args s v u, (limb_1_1.after args s (.returned v) u = true ∧ limb_1_2.after args s (.returned v) u = true ∧ True) → FrameEnd s (.returned v) u (Jvm.fieldLocs frame_1_writes args s ++ Jvm.arrayLocs frame_1_arrays args s ++ Jvm.staticLocs frame_1_statics s) 80 9344 → Post tb e args s (.returned v) u) :
    ArmFor flags0 classFile x code maxLocals ret World_1 tables_1 room_1 Calls_1 rest_1 Pre_1 Post := by
  intro l hfl _ _ p e ha hc hk s m args below hf hA hF happ hP
  obtain ⟨hcalls, hrest, hpre⟩ := hP
  obtain ⟨-, -, -, hnamed, -, -, -, hat⟩ := (Spec.applies_iff hf).mp happ
  obtain ⟨hg, hn⟩ := and_e (Cond.before_iff.mp (show (Jvm.Cond.and given_1 narrow_1).before args s = true from hpre))
  obtain ⟨g0, t0⟩ := and_e hg
  obtain ⟨g1, t1⟩ := and_e t0
  obtain ⟨g2, t2⟩ := and_e t1
  obtain ⟨g3, t3⟩ := and_e t2
  obtain ⟨g4, t4⟩ := and_e t3
  obtain ⟨g5, t5⟩ := and_e t4
  obtain ⟨w0, w1, w2, w3, w4, w5, rfl⟩ : ∃ w0 w1 w2 w3 w4 w5 : Value, args = #[w0, w1, w2, w3, w4, w5] := by
    have hs : args.size = 6 := by simpa [Cond.value, given_1] using g0
    obtain ⟨L⟩ := args
    match L, hs with
    | [w0, w1, w2, w3, w4, w5], _ => exact ⟨w0, w1, w2, w3, w4, w5, rfl⟩
  have hw := fun d (hd : d ∈ tables_1) => atoms_spec (ws := Jvm.Cond.code x code maxLocals ret :: tables_1) hat d (List.mem_cons_of_mem _ hd)
  obtain ⟨i0, e0⟩ := is_v g1
  obtain rfl : w0 = (.int i0) := Option.some.inj e0
  obtain ⟨i1, e1⟩ := is_v g2
  obtain rfl : w1 = (.int i1) := Option.some.inj e1
  obtain ⟨i2, e2⟩ := is_v g3
  obtain rfl : w2 = (.int i2) := Option.some.inj e2
  obtain ⟨i3, e3⟩ := is_v g4
  obtain rfl : w3 = (.int i3) := Option.some.inj e3
  obtain ⟨i4, e4⟩ := is_v g5
  obtain rfl : w4 = (.int i4) := Option.some.inj e4
  obtain ⟨i5, e5⟩ := is_v t5
  obtain rfl : w5 = (.int i5) := Option.some.inj e5
  obtain ⟨n, o, h1, h2, h3, _, L, rfl, ⟨rfl, N⟩, hq⟩ := law_run (l := l) (R := room_1) (as := [.int i0, .int i1, .int i2, .int i3, .int i4, .int i5]) hw (ρ := fun a => s.heap.size + a) (fun a b q => Nat.add_left_cancel q) (fun a _ => rfl) (rel0 s _) (by first | (simp [plainName, overriddenIn, x]; done) | decide +kernel) (Nat.le_of_ble_eq_true rfl) (law_ok i0 i1 i2 i3 i4 i5) tables_1 p e ha hc hk s m _ below hf ((Spec.applies_iff_loose hf).mp happ).1 ⟨rfl, State.Warmed39.refl s, rfl⟩ trivial
  refine ⟨n, _, h1, h2, h3, hpost _ _ _ _ _ _ ⟨Cond.after_iff.mpr rfl, Cond.after_iff.mpr (eq_i res_at (Term.int_eval (1)) rfl), trivial⟩ ⟨hq.1, hq.2.1, (hq.2.2.sift fun y hy => Or.inr (N y hy)).mono (by decide) (by decide)⟩⟩
theorem main_1_1 : Claimed_1_1 := comes_1 fun _ _ _ _ _ _ h hF => ⟨h.1, hF⟩
theorem main_1_2 : Claimed_1_2 := comes_1 fun _ _ _ _ _ _ h hF => ⟨h.2.1, hF⟩
end Jvm.Pilot.@@N@@
namespace Jvm.Pilot.@@N@@
open Jvm Jvm.ClassFile Sem Op Lib Jvm.Free Jvm.Stand Jvm.Pilot.@@N@@.Jvm.D
/-! MADE BY PROGRAM (witnessworld.py) out of the Statement's table words and the real class files: 9 classes; the members and pool entries that the words name. The judged class is class 1, her method 2. -/
namespace start1
open Jvm.ClassFile
def u (s : String) : CpInfo := .utf8 (stringToUtf16 s)
/-- a pool by its gaps: so many unusable entries, then the entry; so many at the end -/
def gap : Nat → List CpInfo → List CpInfo
  | 0, r => r
  | n + 1, r => .unusable :: gap n r
def poolList (es : List (Nat × CpInfo)) (last : Nat) : List CpInfo := es.foldr (fun e r => gap e.1 (e.2 :: r)) (gap last [])
def pool (es : List (Nat × CpInfo)) (last : Nat) : Array CpInfo := ⟨poolList es last⟩
def fileOf (pool : Array CpInfo) (this : Nat) (attrs : Array Attribute := #[]) (ms : Array MethodInfo := #[]) (fl : Nat := 33) (sup : Nat := 0) (ifs : Array Nat := #[]) (fds : Array FieldInfo := #[]) : ClassFile where
  minorVersion := 0
  majorVersion := 65
  constantPool := pool
  accessFlags := fl
  thisClass := this
  superClass := sup
  interfaces := ifs
  fields := fds
  methods := ms
  attributes := attrs
def plain (name : String) (sup : Option ClassId) : Class where
  name := name
  kind := .ordinary
  loader := none
  accessFlags := 33
  super := sup
  interfaces := #[]
  cf := none
  fields := #[]
  methods := #[]
  instanceTypes := #[]
  staticTypes := #[]
  resolved := #[]
  callSites := []
  init := .initialized
  statics := none
  mirror := none

def pool0 : Array CpInfo := pool [(5, u "<init>"), (0, u "()V"), (1, .class_ 10), (1, u "java/lang/Object")] 113

def k0c0 : Code := { maxStack := 0, maxLocals := 1, code := object_method_1_code, exceptionTable := #[], attributes := #[] }
def k0m0 : Method := { name := "<init>", desc := "()V", sig := { parameters := [], returnType := none }, accessFlags := 1, code := some k0c0 }
/-- java/lang/Object -/
def k0 : Class := { plain "java/lang/Object" none with
  accessFlags := 33
  interfaces := #[]
  cf := some (fileOf pool0 8 #[] #[{ accessFlags := 1, nameIndex := 5, descriptorIndex := 6, attributes := #[] }] 33 0 #[] #[])
  fields := #[]
  methods := #[k0m0]
  instanceTypes := #[]
  staticTypes := #[]
  resolved := Array.replicate 124 none
  statics := none }

def pool1 : Array CpInfo := pool [(2, .class_ 4), (1, u "java/lang/Object"), (0, u "<init>"), (0, u "()V"), (0, .class_ 8), (0, u "OptimisticLazy"), (0, .methodref 7 10), (0, .nameAndType 5 11), (0, u "(II)V"), (0, .methodref 7 13), (0, .nameAndType 14 15), (0, u "push"), (0, u "(II)I"), (0, .methodref 17 18), (0, .class_ 19), (0, .nameAndType 20 21), (0, u "OptimisticLazyL2"), (0, u "arity"), (0, u "(I)I"), (0, .methodref 7 23), (0, .nameAndType 24 25), (0, u "depth"), (0, u "()I"), (0, .methodref 7 27), (0, .nameAndType 28 25), (0, u "nodeCount"), (0, .methodref 7 30), (0, .nameAndType 31 21), (0, u "nodeKind"), (0, .methodref 7 33), (0, .nameAndType 34 21), (0, u "nodeArg"), (0, .methodref 7 36), (0, .nameAndType 37 15), (0, u "child"), (0, .methodref 7 39), (0, .nameAndType 40 21), (0, u "top"), (3, u "law"), (0, u "(IIIIII)Z")] 2

def k1m0 : Method := { name := "<init>", desc := "()V", sig := { parameters := [], returnType := none }, accessFlags := 1, code := none }
def k1c1 : Code := { maxStack := 2, maxLocals := 1, code := method_2_code, exceptionTable := #[], attributes := #[] }
def k1m1 : Method := { name := "arity", desc := "(I)I", sig := { parameters := [.int], returnType := some .int }, accessFlags := 10, code := some k1c1 }
def k1c2 : Code := { maxStack := 4, maxLocals := 12, code := code, exceptionTable := #[], attributes := #[] }
def k1m2 : Method := { name := "law", desc := "(IIIIII)Z", sig := { parameters := [.int, .int, .int, .int, .int, .int], returnType := some .boolean }, accessFlags := 9, code := some k1c2 }
/-- OptimisticLazyL2 -/
def k1 : Class := { plain "OptimisticLazyL2" (some 0) with
  accessFlags := 33
  interfaces := #[]
  cf := some (fileOf pool1 17 #[] #[{ accessFlags := 1, nameIndex := 5, descriptorIndex := 6, attributes := #[] }, { accessFlags := 10, nameIndex := 20, descriptorIndex := 21, attributes := #[] }, { accessFlags := 9, nameIndex := 44, descriptorIndex := 45, attributes := #[] }] 33 2 #[] #[])
  fields := #[]
  methods := #[k1m0, k1m1, k1m2]
  instanceTypes := #[]
  staticTypes := #[]
  resolved := Array.replicate 48 none
  statics := none }

def pool2 : Array CpInfo := pool [(1, .methodref 2 3), (0, .class_ 4), (0, .nameAndType 5 6), (0, u "java/lang/Object"), (0, u "<init>"), (0, u "()V"), (0, .fieldref 8 9), (0, .class_ 10), (0, .nameAndType 11 12), (0, u "OptimisticLazy"), (0, u "phFirst"), (0, u "I"), (0, .fieldref 8 14), (0, .nameAndType 15 12), (0, u "phSecond"), (0, .fieldref 8 17), (0, .nameAndType 18 12), (0, u "phUpdate"), (0, .fieldref 8 20), (0, .nameAndType 21 12), (0, u "phSpec"), (0, .fieldref 8 23), (0, .nameAndType 24 12), (0, u "actNone"), (0, .fieldref 8 26), (0, .nameAndType 27 12), (0, u "actEnter"), (0, .fieldref 8 29), (0, .nameAndType 30 12), (0, u "actReturn"), (0, .fieldref 8 32), (0, .nameAndType 33 12), (0, u "actResolve"), (0, .fieldref 8 35), (0, .nameAndType 36 12), (0, u "susNone"), (0, .fieldref 8 38), (0, .nameAndType 39 12), (0, u "susEnter"), (0, .fieldref 8 41), (0, .nameAndType 42 12), (0, u "susVar"), (0, .fieldref 8 44), (0, .nameAndType 45 12), (0, u "whyDone"), (0, .fieldref 8 47), (0, .nameAndType 48 12), (0, u "whyBudget"), (0, .fieldref 8 50), (0, .nameAndType 51 12), (0, u "whyDepend"), (0, .fieldref 8 53), (0, .nameAndType 54 12), (0, u "whyRoom"), (0, .fieldref 8 56), (0, .nameAndType 57 12), (0, u "maxBudget"), (0, .fieldref 8 59), (0, .nameAndType 60 61), (0, u "nKind"), (0, u "[I"), (0, .fieldref 8 63), (0, .nameAndType 64 61), (0, u "nArg"), (0, .fieldref 8 66), (0, .nameAndType 67 61), (0, u "nKid0"), (0, .fieldref 8 69), (0, .nameAndType 70 61), (0, u "nKid1"), (0, .fieldref 8 72), (0, .nameAndType 73 61), (0, u "nKid2"), (0, .fieldref 8 75), (0, .nameAndType 76 61), (0, u "roots"), (0, .fieldref 8 78), (0, .nameAndType 79 61), (0, u "demand"), (0, .fieldref 8 81), (0, .nameAndType 82 61), (0, u "siteBudget"), (0, .fieldref 8 84), (0, .nameAndType 85 61), (0, u "traceNext"), (0, .fieldref 8 87), (0, .nameAndType 88 61), (0, u "cVar"), (0, .fieldref 8 90), (0, .nameAndType 91 61), (0, u "cNode"), (0, .fieldref 8 93), (0, .nameAndType 94 61), (0, u "cEnv"), (0, .fieldref 8 96), (0, .nameAndType 97 61), (0, u "cState"), (0, .fieldref 8 99), (0, .nameAndType 100 61), (0, u "cValue"), (0, .fieldref 8 102), (0, .nameAndType 103 61), (0, u "cSite"), (0, .fieldref 8 105), (0, .nameAndType 106 61), (0, u "cSpecKind"), (0, .fieldref 8 108), (0, .nameAndType 109 61), (0, u "cSpecVal"), (0, .fieldref 8 111), (0, .nameAndType 112 61), (0, u "cSpecHead"), (0, .fieldref 8 114), (0, .nameAndType 115 61), (0, u "cSpecLen"), (0, .fieldref 8 117), (0, .nameAndType 118 61), (0, u "cSusKind"), (0, .fieldref 8 120), (0, .nameAndType 121 61), (0, u "cSusNode"), (0, .fieldref 8 123), (0, .nameAndType 124 61), (0, u "cSusEnv"), (0, .fieldref 8 126), (0, .nameAndType 127 61), (0, u "cSusFrom"), (0, .fieldref 8 129), (0, .nameAndType 130 61), (0, u "cSusLen"), (0, .fieldref 8 132), (0, .nameAndType 133 61), (0, u "fNode"), (0, .fieldref 8 135), (0, .nameAndType 136 61), (0, u "fEnv"), (0, .fieldref 8 138), (0, .nameAndType 139 61), (0, u "fPhase"), (0, .fieldref 8 141), (0, .nameAndType 142 61), (0, u "fAux"), (0, .fieldref 8 144), (0, .nameAndType 145 61), (0, u "sNode"), (0, .fieldref 8 147), (0, .nameAndType 148 61), (0, u "sEnv"), (0, .fieldref 8 150), (0, .nameAndType 151 61), (0, u "sPhase"), (0, .fieldref 8 153), (0, .nameAndType 154 61), (0, u "sAux"), (0, .methodref 8 156), (0, .nameAndType 157 158), (0, u "clamp"), (0, u "(III)I"), (0, .fieldref 8 160), (0, .nameAndType 161 12), (0, u "capacityN"), (0, .fieldref 8 163), (0, .nameAndType 164 12), (0, u "initBudget"), (0, .methodref 8 166), (0, .nameAndType 167 6), (0, u "clearAll"), (0, .fieldref 8 169), (0, .nameAndType 170 12), (0, u "nodes"), (0, .methodref 8 172), (0, .nameAndType 173 174), (0, u "arity"), (0, u "(I)I"), (0, .fieldref 8 176), (0, .nameAndType 177 12), (0, u "depthN"), (0, .methodref 8 179), (0, .nameAndType 180 181), (0, u "storesArg"), (0, u "(I)Z"), (0, .methodref 8 183), (0, .nameAndType 184 185), (0, u "attachChildren"), (0, u "(II)V"), (0, .methodref 8 187), (0, .nameAndType 188 181), (0, u "isNode"), (9, .fieldref 8 199), (0, .nameAndType 200 12), (0, u "runKind"), (0, .fieldref 8 202), (0, .nameAndType 203 12), (0, u "resKind"), (0, .fieldref 8 205), (0, .nameAndType 206 12), (0, u "runVal"), (0, .fieldref 8 208), (0, .nameAndType 209 12), (0, u "resVal"), (0, .fieldref 8 211), (0, .nameAndType 212 12), (0, u "demandCount"), (0, .fieldref 8 214), (0, .nameAndType 215 12), (0, u "cellCount"), (0, .methodref 8 217), (0, .nameAndType 218 219), (0, u "clearNodeSlot"), (0, u "(I)V"), (0, .methodref 8 221), (0, .nameAndType 222 6), (0, u "clearMachine"), (0, .methodref 8 224), (0, .nameAndType 225 219), (0, u "clearCell"), (0, .fieldref 8 227), (0, .nameAndType 228 12), (0, u "sp"), (0, .fieldref 8 230), (0, .nameAndType 231 12), (0, u "savedTop"), (0, .fieldref 8 233), (0, .nameAndType 234 12), (0, u "action"), (0, .fieldref 8 236), (0, .nameAndType 237 12), (0, u "enNode"), (0, .fieldref 8 239), (0, .nameAndType 240 12), (0, u "enEnv"), (0, .fieldref 8 242), (0, .nameAndType 243 12), (0, u "retVal"), (0, .fieldref 8 245), (0, .nameAndType 246 247), (0, u "done"), (0, u "Z"), (0, .fieldref 8 249), (0, .nameAndType 250 247), (0, u "speculating"), (0, .fieldref 8 252), (0, .nameAndType 253 12), (0, u "specBase"), (0, .fieldref 8 255), (0, .nameAndType 256 12), (0, u "specMark"), (0, .fieldref 8 258), (0, .nameAndType 259 12), (0, u "specSteps"), (0, .fieldref 8 261), (0, .nameAndType 262 12), (0, u "specLimit"), (0, .fieldref 8 264), (0, .nameAndType 265 12), (0, u "traceHead"), (0, .fieldref 8 267), (0, .nameAndType 268 12), (0, u "traceTail"), (76, u "(II)I"), (39, u "CONST"), (2, u "VAR"), (1, u "ERROR"), (1, u "OMEGA"), (1, u "ADD"), (1, u "SUB"), (1, u "MUL"), (1, u "DIV"), (1, u "MOD"), (1, u "LT"), (1, u "EQ"), (1, u "SEQ"), (1, u "IF"), (1, u "LET"), (1, u "BAD_KIND"), (1, u "FULL"), (1, u "UNDERFLOW"), (1, u "BAD_VAR"), (1, u "NONE"), (0, u "VALUE"), (0, u "USER_ERR"), (0, u "DIV_ZERO"), (0, u "UNBOUND"), (0, u "DIVERGE"), (3, u "push"), (3, u "()I"), (1, u "depth"), (0, u "nodeCount"), (0, u "top"), (0, u "nodeKind"), (0, u "nodeArg"), (0, u "child")] 7

def k2c0 : Code := { maxStack := 5, maxLocals := 3, code := prog_1_method_1_code, exceptionTable := #[], attributes := #[] }
def k2m0 : Method := { name := "<init>", desc := "(II)V", sig := { parameters := [.int, .int], returnType := none }, accessFlags := 1, code := some k2c0 }
def k2c1 : Code := { maxStack := 4, maxLocals := 5, code := prog_1_method_2_code, exceptionTable := #[], attributes := #[] }
def k2m1 : Method := { name := "push", desc := "(II)I", sig := { parameters := [.int, .int], returnType := some .int }, accessFlags := 1, code := some k2c1 }
def k2c2 : Code := { maxStack := 1, maxLocals := 1, code := prog_1_method_5_code, exceptionTable := #[], attributes := #[] }
def k2m2 : Method := { name := "depth", desc := "()I", sig := { parameters := [], returnType := some .int }, accessFlags := 1, code := some k2c2 }
def k2c3 : Code := { maxStack := 1, maxLocals := 1, code := prog_1_method_6_code, exceptionTable := #[], attributes := #[] }
def k2m3 : Method := { name := "nodeCount", desc := "()I", sig := { parameters := [], returnType := some .int }, accessFlags := 1, code := some k2c3 }
def k2c4 : Code := { maxStack := 2, maxLocals := 3, code := prog_1_method_7_code, exceptionTable := #[], attributes := #[] }
def k2m4 : Method := { name := "top", desc := "(I)I", sig := { parameters := [.int], returnType := some .int }, accessFlags := 1, code := some k2c4 }
def k2c5 : Code := { maxStack := 2, maxLocals := 2, code := prog_1_method_8_code, exceptionTable := #[], attributes := #[] }
def k2m5 : Method := { name := "nodeKind", desc := "(I)I", sig := { parameters := [.int], returnType := some .int }, accessFlags := 1, code := some k2c5 }
def k2c6 : Code := { maxStack := 2, maxLocals := 2, code := prog_1_method_9_code, exceptionTable := #[], attributes := #[] }
def k2m6 : Method := { name := "nodeArg", desc := "(I)I", sig := { parameters := [.int], returnType := some .int }, accessFlags := 1, code := some k2c6 }
def k2c7 : Code := { maxStack := 4, maxLocals := 3, code := prog_1_method_10_code, exceptionTable := #[], attributes := #[] }
def k2m7 : Method := { name := "child", desc := "(II)I", sig := { parameters := [.int, .int], returnType := some .int }, accessFlags := 1, code := some k2c7 }
def k2c8 : Code := { maxStack := 2, maxLocals := 4, code := prog_1_method_16_code, exceptionTable := #[], attributes := #[] }
def k2m8 : Method := { name := "clamp", desc := "(III)I", sig := { parameters := [.int, .int, .int], returnType := some .int }, accessFlags := 2, code := some k2c8 }
def k2c9 : Code := { maxStack := 2, maxLocals := 2, code := prog_1_method_17_code, exceptionTable := #[], attributes := #[] }
def k2m9 : Method := { name := "arity", desc := "(I)I", sig := { parameters := [.int], returnType := some .int }, accessFlags := 2, code := some k2c9 }
def k2c10 : Code := { maxStack := 2, maxLocals := 2, code := prog_1_method_18_code, exceptionTable := #[], attributes := #[] }
def k2m10 : Method := { name := "storesArg", desc := "(I)Z", sig := { parameters := [.int], returnType := some .boolean }, accessFlags := 2, code := some k2c10 }
def k2c11 : Code := { maxStack := 2, maxLocals := 2, code := prog_1_method_19_code, exceptionTable := #[], attributes := #[] }
def k2m11 : Method := { name := "isNode", desc := "(I)Z", sig := { parameters := [.int], returnType := some .boolean }, accessFlags := 2, code := some k2c11 }
def k2c12 : Code := { maxStack := 5, maxLocals := 3, code := prog_1_method_22_code, exceptionTable := #[], attributes := #[] }
def k2m12 : Method := { name := "attachChildren", desc := "(II)V", sig := { parameters := [.int, .int], returnType := none }, accessFlags := 2, code := some k2c12 }
def k2c13 : Code := { maxStack := 2, maxLocals := 2, code := prog_1_method_23_code, exceptionTable := #[], attributes := #[] }
def k2m13 : Method := { name := "clearAll", desc := "()V", sig := { parameters := [], returnType := none }, accessFlags := 2, code := some k2c13 }
def k2c14 : Code := { maxStack := 3, maxLocals := 2, code := prog_1_method_24_code, exceptionTable := #[], attributes := #[] }
def k2m14 : Method := { name := "clearNodeSlot", desc := "(I)V", sig := { parameters := [.int], returnType := none }, accessFlags := 2, code := some k2c14 }
def k2c15 : Code := { maxStack := 3, maxLocals := 2, code := prog_1_method_25_code, exceptionTable := #[], attributes := #[] }
def k2m15 : Method := { name := "clearCell", desc := "(I)V", sig := { parameters := [.int], returnType := none }, accessFlags := 2, code := some k2c15 }
def k2c16 : Code := { maxStack := 2, maxLocals := 1, code := prog_1_method_26_code, exceptionTable := #[], attributes := #[] }
def k2m16 : Method := { name := "clearMachine", desc := "()V", sig := { parameters := [], returnType := none }, accessFlags := 2, code := some k2c16 }
/-- OptimisticLazy -/
def k2 : Class := { plain "OptimisticLazy" (some 0) with
  accessFlags := 49
  interfaces := #[]
  cf := some (fileOf pool2 8 #[] #[{ accessFlags := 1, nameIndex := 5, descriptorIndex := 185, attributes := #[] }, { accessFlags := 1, nameIndex := 431, descriptorIndex := 345, attributes := #[] }, { accessFlags := 1, nameIndex := 437, descriptorIndex := 435, attributes := #[] }, { accessFlags := 1, nameIndex := 438, descriptorIndex := 435, attributes := #[] }, { accessFlags := 1, nameIndex := 439, descriptorIndex := 174, attributes := #[] }, { accessFlags := 1, nameIndex := 440, descriptorIndex := 174, attributes := #[] }, { accessFlags := 1, nameIndex := 441, descriptorIndex := 174, attributes := #[] }, { accessFlags := 1, nameIndex := 442, descriptorIndex := 345, attributes := #[] }, { accessFlags := 2, nameIndex := 157, descriptorIndex := 158, attributes := #[] }, { accessFlags := 2, nameIndex := 173, descriptorIndex := 174, attributes := #[] }, { accessFlags := 2, nameIndex := 180, descriptorIndex := 181, attributes := #[] }, { accessFlags := 2, nameIndex := 188, descriptorIndex := 181, attributes := #[] }, { accessFlags := 2, nameIndex := 184, descriptorIndex := 185, attributes := #[] }, { accessFlags := 2, nameIndex := 167, descriptorIndex := 6, attributes := #[] }, { accessFlags := 2, nameIndex := 218, descriptorIndex := 219, attributes := #[] }, { accessFlags := 2, nameIndex := 225, descriptorIndex := 219, attributes := #[] }, { accessFlags := 2, nameIndex := 222, descriptorIndex := 6, attributes := #[] }] 49 2 #[] #[{ accessFlags := 25, nameIndex := 385, descriptorIndex := 12, attributes := #[] }, { accessFlags := 25, nameIndex := 388, descriptorIndex := 12, attributes := #[] }, { accessFlags := 25, nameIndex := 390, descriptorIndex := 12, attributes := #[] }, { accessFlags := 25, nameIndex := 392, descriptorIndex := 12, attributes := #[] }, { accessFlags := 25, nameIndex := 394, descriptorIndex := 12, attributes := #[] }, { accessFlags := 25, nameIndex := 396, descriptorIndex := 12, attributes := #[] }, { accessFlags := 25, nameIndex := 398, descriptorIndex := 12, attributes := #[] }, { accessFlags := 25, nameIndex := 400, descriptorIndex := 12, attributes := #[] }, { accessFlags := 25, nameIndex := 402, descriptorIndex := 12, attributes := #[] }, { accessFlags := 25, nameIndex := 404, descriptorIndex := 12, attributes := #[] }, { accessFlags := 25, nameIndex := 406, descriptorIndex := 12, attributes := #[] }, { accessFlags := 25, nameIndex := 408, descriptorIndex := 12, attributes := #[] }, { accessFlags := 25, nameIndex := 410, descriptorIndex := 12, attributes := #[] }, { accessFlags := 25, nameIndex := 412, descriptorIndex := 12, attributes := #[] }, { accessFlags := 25, nameIndex := 414, descriptorIndex := 12, attributes := #[] }, { accessFlags := 25, nameIndex := 416, descriptorIndex := 12, attributes := #[] }, { accessFlags := 25, nameIndex := 418, descriptorIndex := 12, attributes := #[] }, { accessFlags := 25, nameIndex := 420, descriptorIndex := 12, attributes := #[] }, { accessFlags := 25, nameIndex := 422, descriptorIndex := 12, attributes := #[] }, { accessFlags := 25, nameIndex := 423, descriptorIndex := 12, attributes := #[] }, { accessFlags := 25, nameIndex := 424, descriptorIndex := 12, attributes := #[] }, { accessFlags := 25, nameIndex := 425, descriptorIndex := 12, attributes := #[] }, { accessFlags := 25, nameIndex := 426, descriptorIndex := 12, attributes := #[] }, { accessFlags := 25, nameIndex := 427, descriptorIndex := 12, attributes := #[] }, { accessFlags := 18, nameIndex := 11, descriptorIndex := 12, attributes := #[] }, { accessFlags := 18, nameIndex := 15, descriptorIndex := 12, attributes := #[] }, { accessFlags := 18, nameIndex := 18, descriptorIndex := 12, attributes := #[] }, { accessFlags := 18, nameIndex := 21, descriptorIndex := 12, attributes := #[] }, { accessFlags := 18, nameIndex := 24, descriptorIndex := 12, attributes := #[] }, { accessFlags := 18, nameIndex := 27, descriptorIndex := 12, attributes := #[] }, { accessFlags := 18, nameIndex := 30, descriptorIndex := 12, attributes := #[] }, { accessFlags := 18, nameIndex := 33, descriptorIndex := 12, attributes := #[] }, { accessFlags := 18, nameIndex := 36, descriptorIndex := 12, attributes := #[] }, { accessFlags := 18, nameIndex := 39, descriptorIndex := 12, attributes := #[] }, { accessFlags := 18, nameIndex := 42, descriptorIndex := 12, attributes := #[] }, { accessFlags := 18, nameIndex := 45, descriptorIndex := 12, attributes := #[] }, { accessFlags := 18, nameIndex := 48, descriptorIndex := 12, attributes := #[] }, { accessFlags := 18, nameIndex := 51, descriptorIndex := 12, attributes := #[] }, { accessFlags := 18, nameIndex := 54, descriptorIndex := 12, attributes := #[] }, { accessFlags := 18, nameIndex := 57, descriptorIndex := 12, attributes := #[] }, { accessFlags := 2, nameIndex := 161, descriptorIndex := 12, attributes := #[] }, { accessFlags := 2, nameIndex := 164, descriptorIndex := 12, attributes := #[] }, { accessFlags := 2, nameIndex := 170, descriptorIndex := 12, attributes := #[] }, { accessFlags := 2, nameIndex := 177, descriptorIndex := 12, attributes := #[] }, { accessFlags := 18, nameIndex := 60, descriptorIndex := 61, attributes := #[] }, { accessFlags := 18, nameIndex := 64, descriptorIndex := 61, attributes := #[] }, { accessFlags := 18, nameIndex := 67, descriptorIndex := 61, attributes := #[] }, { accessFlags := 18, nameIndex := 70, descriptorIndex := 61, attributes := #[] }, { accessFlags := 18, nameIndex := 73, descriptorIndex := 61, attributes := #[] }, { accessFlags := 18, nameIndex := 76, descriptorIndex := 61, attributes := #[] }, { accessFlags := 2, nameIndex := 203, descriptorIndex := 12, attributes := #[] }, { accessFlags := 2, nameIndex := 209, descriptorIndex := 12, attributes := #[] }, { accessFlags := 2, nameIndex := 212, descriptorIndex := 12, attributes := #[] }, { accessFlags := 18, nameIndex := 79, descriptorIndex := 61, attributes := #[] }, { accessFlags := 18, nameIndex := 82, descriptorIndex := 61, attributes := #[] }, { accessFlags := 18, nameIndex := 85, descriptorIndex := 61, attributes := #[] }, { accessFlags := 2, nameIndex := 215, descriptorIndex := 12, attributes := #[] }, { accessFlags := 18, nameIndex := 88, descriptorIndex := 61, attributes := #[] }, { accessFlags := 18, nameIndex := 91, descriptorIndex := 61, attributes := #[] }, { accessFlags := 18, nameIndex := 94, descriptorIndex := 61, attributes := #[] }, { accessFlags := 18, nameIndex := 97, descriptorIndex := 61, attributes := #[] }, { accessFlags := 18, nameIndex := 100, descriptorIndex := 61, attributes := #[] }, { accessFlags := 18, nameIndex := 103, descriptorIndex := 61, attributes := #[] }, { accessFlags := 18, nameIndex := 106, descriptorIndex := 61, attributes := #[] }, { accessFlags := 18, nameIndex := 109, descriptorIndex := 61, attributes := #[] }, { accessFlags := 18, nameIndex := 112, descriptorIndex := 61, attributes := #[] }, { accessFlags := 18, nameIndex := 115, descriptorIndex := 61, attributes := #[] }, { accessFlags := 18, nameIndex := 118, descriptorIndex := 61, attributes := #[] }, { accessFlags := 18, nameIndex := 121, descriptorIndex := 61, attributes := #[] }, { accessFlags := 18, nameIndex := 124, descriptorIndex := 61, attributes := #[] }, { accessFlags := 18, nameIndex := 127, descriptorIndex := 61, attributes := #[] }, { accessFlags := 18, nameIndex := 130, descriptorIndex := 61, attributes := #[] }, { accessFlags := 2, nameIndex := 228, descriptorIndex := 12, attributes := #[] }, { accessFlags := 18, nameIndex := 133, descriptorIndex := 61, attributes := #[] }, { accessFlags := 18, nameIndex := 136, descriptorIndex := 61, attributes := #[] }, { accessFlags := 18, nameIndex := 139, descriptorIndex := 61, attributes := #[] }, { accessFlags := 18, nameIndex := 142, descriptorIndex := 61, attributes := #[] }, { accessFlags := 2, nameIndex := 231, descriptorIndex := 12, attributes := #[] }, { accessFlags := 18, nameIndex := 145, descriptorIndex := 61, attributes := #[] }, { accessFlags := 18, nameIndex := 148, descriptorIndex := 61, attributes := #[] }, { accessFlags := 18, nameIndex := 151, descriptorIndex := 61, attributes := #[] }, { accessFlags := 18, nameIndex := 154, descriptorIndex := 61, attributes := #[] }, { accessFlags := 2, nameIndex := 234, descriptorIndex := 12, attributes := #[] }, { accessFlags := 2, nameIndex := 237, descriptorIndex := 12, attributes := #[] }, { accessFlags := 2, nameIndex := 240, descriptorIndex := 12, attributes := #[] }, { accessFlags := 2, nameIndex := 243, descriptorIndex := 12, attributes := #[] }, { accessFlags := 2, nameIndex := 246, descriptorIndex := 247, attributes := #[] }, { accessFlags := 2, nameIndex := 200, descriptorIndex := 12, attributes := #[] }, { accessFlags := 2, nameIndex := 206, descriptorIndex := 12, attributes := #[] }, { accessFlags := 2, nameIndex := 250, descriptorIndex := 247, attributes := #[] }, { accessFlags := 2, nameIndex := 253, descriptorIndex := 12, attributes := #[] }, { accessFlags := 2, nameIndex := 256, descriptorIndex := 12, attributes := #[] }, { accessFlags := 2, nameIndex := 259, descriptorIndex := 12, attributes := #[] }, { accessFlags := 2, nameIndex := 262, descriptorIndex := 12, attributes := #[] }, { accessFlags := 2, nameIndex := 265, descriptorIndex := 12, attributes := #[] }, { accessFlags := 2, nameIndex := 268, descriptorIndex := 12, attributes := #[] }])
  fields := #[{ name := "CONST", type := .int, accessFlags := 25, slot := 0, constantValue := 0 }, { name := "VAR", type := .int, accessFlags := 25, slot := 1, constantValue := 0 }, { name := "ERROR", type := .int, accessFlags := 25, slot := 2, constantValue := 0 }, { name := "OMEGA", type := .int, accessFlags := 25, slot := 3, constantValue := 0 }, { name := "ADD", type := .int, accessFlags := 25, slot := 4, constantValue := 0 }, { name := "SUB", type := .int, accessFlags := 25, slot := 5, constantValue := 0 }, { name := "MUL", type := .int, accessFlags := 25, slot := 6, constantValue := 0 }, { name := "DIV", type := .int, accessFlags := 25, slot := 7, constantValue := 0 }, { name := "MOD", type := .int, accessFlags := 25, slot := 8, constantValue := 0 }, { name := "LT", type := .int, accessFlags := 25, slot := 9, constantValue := 0 }, { name := "EQ", type := .int, accessFlags := 25, slot := 10, constantValue := 0 }, { name := "SEQ", type := .int, accessFlags := 25, slot := 11, constantValue := 0 }, { name := "IF", type := .int, accessFlags := 25, slot := 12, constantValue := 0 }, { name := "LET", type := .int, accessFlags := 25, slot := 13, constantValue := 0 }, { name := "BAD_KIND", type := .int, accessFlags := 25, slot := 14, constantValue := 0 }, { name := "FULL", type := .int, accessFlags := 25, slot := 15, constantValue := 0 }, { name := "UNDERFLOW", type := .int, accessFlags := 25, slot := 16, constantValue := 0 }, { name := "BAD_VAR", type := .int, accessFlags := 25, slot := 17, constantValue := 0 }, { name := "NONE", type := .int, accessFlags := 25, slot := 18, constantValue := 0 }, { name := "VALUE", type := .int, accessFlags := 25, slot := 19, constantValue := 0 }, { name := "USER_ERR", type := .int, accessFlags := 25, slot := 20, constantValue := 0 }, { name := "DIV_ZERO", type := .int, accessFlags := 25, slot := 21, constantValue := 0 }, { name := "UNBOUND", type := .int, accessFlags := 25, slot := 22, constantValue := 0 }, { name := "DIVERGE", type := .int, accessFlags := 25, slot := 23, constantValue := 0 }, { name := "phFirst", type := .int, accessFlags := 18, slot := 0, constantValue := 0 }, { name := "phSecond", type := .int, accessFlags := 18, slot := 1, constantValue := 0 }, { name := "phUpdate", type := .int, accessFlags := 18, slot := 2, constantValue := 0 }, { name := "phSpec", type := .int, accessFlags := 18, slot := 3, constantValue := 0 }, { name := "actNone", type := .int, accessFlags := 18, slot := 4, constantValue := 0 }, { name := "actEnter", type := .int, accessFlags := 18, slot := 5, constantValue := 0 }, { name := "actReturn", type := .int, accessFlags := 18, slot := 6, constantValue := 0 }, { name := "actResolve", type := .int, accessFlags := 18, slot := 7, constantValue := 0 }, { name := "susNone", type := .int, accessFlags := 18, slot := 8, constantValue := 0 }, { name := "susEnter", type := .int, accessFlags := 18, slot := 9, constantValue := 0 }, { name := "susVar", type := .int, accessFlags := 18, slot := 10, constantValue := 0 }, { name := "whyDone", type := .int, accessFlags := 18, slot := 11, constantValue := 0 }, { name := "whyBudget", type := .int, accessFlags := 18, slot := 12, constantValue := 0 }, { name := "whyDepend", type := .int, accessFlags := 18, slot := 13, constantValue := 0 }, { name := "whyRoom", type := .int, accessFlags := 18, slot := 14, constantValue := 0 }, { name := "maxBudget", type := .int, accessFlags := 18, slot := 15, constantValue := 0 }, { name := "capacityN", type := .int, accessFlags := 2, slot := 16, constantValue := 0 }, { name := "initBudget", type := .int, accessFlags := 2, slot := 17, constantValue := 0 }, { name := "nodes", type := .int, accessFlags := 2, slot := 18, constantValue := 0 }, { name := "depthN", type := .int, accessFlags := 2, slot := 19, constantValue := 0 }, { name := "nKind", type := (.array .int), accessFlags := 18, slot := 20, constantValue := 0 }, { name := "nArg", type := (.array .int), accessFlags := 18, slot := 21, constantValue := 0 }, { name := "nKid0", type := (.array .int), accessFlags := 18, slot := 22, constantValue := 0 }, { name := "nKid1", type := (.array .int), accessFlags := 18, slot := 23, constantValue := 0 }, { name := "nKid2", type := (.array .int), accessFlags := 18, slot := 24, constantValue := 0 }, { name := "roots", type := (.array .int), accessFlags := 18, slot := 25, constantValue := 0 }, { name := "resKind", type := .int, accessFlags := 2, slot := 26, constantValue := 0 }, { name := "resVal", type := .int, accessFlags := 2, slot := 27, constantValue := 0 }, { name := "demandCount", type := .int, accessFlags := 2, slot := 28, constantValue := 0 }, { name := "demand", type := (.array .int), accessFlags := 18, slot := 29, constantValue := 0 }, { name := "siteBudget", type := (.array .int), accessFlags := 18, slot := 30, constantValue := 0 }, { name := "traceNext", type := (.array .int), accessFlags := 18, slot := 31, constantValue := 0 }, { name := "cellCount", type := .int, accessFlags := 2, slot := 32, constantValue := 0 }, { name := "cVar", type := (.array .int), accessFlags := 18, slot := 33, constantValue := 0 }, { name := "cNode", type := (.array .int), accessFlags := 18, slot := 34, constantValue := 0 }, { name := "cEnv", type := (.array .int), accessFlags := 18, slot := 35, constantValue := 0 }, { name := "cState", type := (.array .int), accessFlags := 18, slot := 36, constantValue := 0 }, { name := "cValue", type := (.array .int), accessFlags := 18, slot := 37, constantValue := 0 }, { name := "cSite", type := (.array .int), accessFlags := 18, slot := 38, constantValue := 0 }, { name := "cSpecKind", type := (.array .int), accessFlags := 18, slot := 39, constantValue := 0 }, { name := "cSpecVal", type := (.array .int), accessFlags := 18, slot := 40, constantValue := 0 }, { name := "cSpecHead", type := (.array .int), accessFlags := 18, slot := 41, constantValue := 0 }, { name := "cSpecLen", type := (.array .int), accessFlags := 18, slot := 42, constantValue := 0 }, { name := "cSusKind", type := (.array .int), accessFlags := 18, slot := 43, constantValue := 0 }, { name := "cSusNode", type := (.array .int), accessFlags := 18, slot := 44, constantValue := 0 }, { name := "cSusEnv", type := (.array .int), accessFlags := 18, slot := 45, constantValue := 0 }, { name := "cSusFrom", type := (.array .int), accessFlags := 18, slot := 46, constantValue := 0 }, { name := "cSusLen", type := (.array .int), accessFlags := 18, slot := 47, constantValue := 0 }, { name := "sp", type := .int, accessFlags := 2, slot := 48, constantValue := 0 }, { name := "fNode", type := (.array .int), accessFlags := 18, slot := 49, constantValue := 0 }, { name := "fEnv", type := (.array .int), accessFlags := 18, slot := 50, constantValue := 0 }, { name := "fPhase", type := (.array .int), accessFlags := 18, slot := 51, constantValue := 0 }, { name := "fAux", type := (.array .int), accessFlags := 18, slot := 52, constantValue := 0 }, { name := "savedTop", type := .int, accessFlags := 2, slot := 53, constantValue := 0 }, { name := "sNode", type := (.array .int), accessFlags := 18, slot := 54, constantValue := 0 }, { name := "sEnv", type := (.array .int), accessFlags := 18, slot := 55, constantValue := 0 }, { name := "sPhase", type := (.array .int), accessFlags := 18, slot := 56, constantValue := 0 }, { name := "sAux", type := (.array .int), accessFlags := 18, slot := 57, constantValue := 0 }, { name := "action", type := .int, accessFlags := 2, slot := 58, constantValue := 0 }, { name := "enNode", type := .int, accessFlags := 2, slot := 59, constantValue := 0 }, { name := "enEnv", type := .int, accessFlags := 2, slot := 60, constantValue := 0 }, { name := "retVal", type := .int, accessFlags := 2, slot := 61, constantValue := 0 }, { name := "done", type := .boolean, accessFlags := 2, slot := 62, constantValue := 0 }, { name := "runKind", type := .int, accessFlags := 2, slot := 63, constantValue := 0 }, { name := "runVal", type := .int, accessFlags := 2, slot := 64, constantValue := 0 }, { name := "speculating", type := .boolean, accessFlags := 2, slot := 65, constantValue := 0 }, { name := "specBase", type := .int, accessFlags := 2, slot := 66, constantValue := 0 }, { name := "specMark", type := .int, accessFlags := 2, slot := 67, constantValue := 0 }, { name := "specSteps", type := .int, accessFlags := 2, slot := 68, constantValue := 0 }, { name := "specLimit", type := .int, accessFlags := 2, slot := 69, constantValue := 0 }, { name := "traceHead", type := .int, accessFlags := 2, slot := 70, constantValue := 0 }, { name := "traceTail", type := .int, accessFlags := 2, slot := 71, constantValue := 0 }]
  methods := #[k2m0, k2m1, k2m2, k2m3, k2m4, k2m5, k2m6, k2m7, k2m8, k2m9, k2m10, k2m11, k2m12, k2m13, k2m14, k2m15, k2m16]
  instanceTypes := #[.int, .int, .int, .int, .int, .int, .int, .int, .int, .int, .int, .int, .int, .int, .int, .int, .int, .int, .int, .int, (.array .int), (.array .int), (.array .int), (.array .int), (.array .int), (.array .int), .int, .int, .int, (.array .int), (.array .int), (.array .int), .int, (.array .int), (.array .int), (.array .int), (.array .int), (.array .int), (.array .int), (.array .int), (.array .int), (.array .int), (.array .int), (.array .int), (.array .int), (.array .int), (.array .int), (.array .int), .int, (.array .int), (.array .int), (.array .int), (.array .int), .int, (.array .int), (.array .int), (.array .int), (.array .int), .int, .int, .int, .int, .boolean, .int, .int, .boolean, .int, .int, .int, .int, .int, .int]
  staticTypes := #[.int, .int, .int, .int, .int, .int, .int, .int, .int, .int, .int, .int, .int, .int, .int, .int, .int, .int, .int, .int, .int, .int, .int, .int]
  resolved := Array.replicate 450 none
  statics := none }

def pool3 : Array CpInfo := pool [(1, u "java/lang/Cloneable"), (0, .class_ 1), (0, u "java/lang/Object"), (0, .class_ 3)] 3

/-- java/lang/Cloneable -/
def k3 : Class := { plain "java/lang/Cloneable" (some 0) with
  accessFlags := 1537
  interfaces := #[]
  cf := some (fileOf pool3 2 #[] #[] 1537 4 #[] #[])
  fields := #[]
  methods := #[]
  instanceTypes := #[]
  staticTypes := #[]
  resolved := Array.replicate 8 none
  statics := none }

def pool4 : Array CpInfo := pool [(1, u "java/io/Serializable"), (0, .class_ 1), (0, u "java/lang/Object"), (0, .class_ 3)] 3

/-- java/io/Serializable -/
def k4 : Class := { plain "java/io/Serializable" (some 0) with
  accessFlags := 1537
  interfaces := #[]
  cf := some (fileOf pool4 2 #[] #[] 1537 4 #[] #[])
  fields := #[]
  methods := #[]
  instanceTypes := #[]
  staticTypes := #[]
  resolved := Array.replicate 8 none
  statics := none }

/-- the primitive byte -/
def k5 : Class := { plain "byte" none with kind := .primitive 'B', accessFlags := 0x411 }
/-- [B -/
def k6 : Class := { plain "[B" (some 0) with kind := .array 5 .byte, interfaces := #[3, 4], accessFlags := 1041 }

/-- the primitive int -/
def k7 : Class := { plain "int" none with kind := .primitive 'I', accessFlags := 0x411 }
/-- [I -/
def k8 : Class := { plain "[I" (some 0) with kind := .array 7 .int, interfaces := #[3, 4], accessFlags := 1041 }

def heap : Heap := #[]
def classes : Array Class := #[k0, k1, k2, k3, k4, k5, k6, k7, k8]
def interned : List (Array UInt16 × Addr) := []
def slotsUsed : Nat := 0
def theMethod : MethodId := ⟨1, 2⟩
def args0 : Array Value := #[.int 5, .int 5, .int 5, .int 5, .int 5, .int 5]
def aboutOver (below : List Frame) : State where
  vm := { classes := classes, interned := interned.toArray }
  heap := heap
  slotsUsed := slotsUsed
  threads := #[{ frames := .invoking theMethod args0 :: below }]
def below0 : List Frame := [.native { method := ⟨0, 0⟩, args := #[] }]
def about1 : State := aboutOver below0
def p0 : Program := .bare "" "" ""
def e0 : Env := launch0.env 0 0 0
theorem w_frames : about1.frames = Frame.invoking theMethod args0 :: below0 := rfl
set_option maxRecDepth 65536 in
theorem w_args : argsFit about1.vm theMethod args0 = true := by decide +kernel
set_option maxRecDepth 65536 in
theorem w_heap : heapFits about1 = true := by decide +kernel
set_option maxRecDepth 65536 in
theorem w_runnable : about1.curStatus? = some .runnable := by decide +kernel
set_option maxRecDepth 65536 in
theorem w_alone : about1.alone = true := by decide +kernel
set_option maxRecDepth 65536 in
theorem w_named : about1.methodNamed? x = some theMethod := by decide +kernel
set_option maxRecDepth 65536 in
theorem w_hears : about1.hears theMethod below0 = true := by decide +kernel
set_option maxRecDepth 65536 in
theorem w_ripe : about1.ripe theMethod args0 below0 = true := by decide +kernel
theorem w_running : about1.status = .running := rfl
set_option maxRecDepth 65536 in
theorem w_room : about1.hasRoom e0.platform room_1 = true :=
  launch0.hasRoom_least _ room_1 (by decide +kernel) (by decide +kernel) (by decide +kernel) (by decide +kernel) (by decide +kernel) (by decide +kernel)
theorem allAtoms_all (ts : List Jvm.Cond) (a : Array Jvm.Value) (st : Jvm.State) : (allAtoms ts).before a st = ts.all (fun c => c.before a st) := by
  induction ts with
  | nil => rfl
  | cons c t ih =>
    show (Jvm.Cond.and c (allAtoms t)).before a st = _
    rw [Jvm.Cond.before_and, ih, List.all_cons]
def words1 : List Jvm.Cond := Jvm.Cond.code x code maxLocals ret :: tables_1
/-- a 'code' word, met by the world's own term for the bytes: nothing is compared byte by byte -/
theorem code_word {y : MethodName} {bytes : ByteArray} {mx : Nat} {rt : Option FieldType} {a : Array Value} {s : State} {m : MethodId} {meth : Method} {c : Code} (h1 : s.methodNamed? y = some m) (h2 : s.vm.method? m = some meth) (h3 : meth.code = some c) (h4 : c.code = bytes)
    (h5 : (c.maxLocals == mx && c.exceptionTable.isEmpty && decide (c.maxStack ≤ mostOperands) && decide (meth.sig.returnType = rt) && !meth.locks && decide (parseMethodDescriptor y.desc = some meth.sig)) = true) : (Jvm.Cond.code y bytes mx rt).before a s = true := by
  simp only [Bool.and_eq_true, beq_iff_eq, Bool.not_eq_true', decide_eq_true_eq] at h5
  obtain ⟨⟨⟨⟨⟨g1, g2⟩, g3⟩, g4⟩, g5⟩, g6⟩ := h5
  simp [Cond.before, Cond.holds, Cond.value, h1, h2, h3, h4, g1, g2, g3, g4, g5, g6]
def isCode : Jvm.Cond → Bool
  | .code _ _ _ _ => true
  | _ => false
theorem all_split {L : List Jvm.Cond} {P : Jvm.Cond → Bool} (h1 : L.all (fun c => isCode c || P c) = true) (h2 : ∀ c ∈ L.filter isCode, P c = true) : L.all P = true := by
  refine List.all_eq_true.mpr fun c hc => ?_
  have h := List.all_eq_true.mp h1 c hc
  rcases Bool.eq_false_or_eq_true (isCode c) with hi | hi
  · exact h2 c (List.mem_filter.mpr ⟨hc, hi⟩)
  · simpa [hi] using h
set_option maxRecDepth 65536 in
theorem w_c0 : (Jvm.Cond.code x code maxLocals ret).before args0 about1 = true := code_word (m := ⟨1, 2⟩) (meth := k1m2) (c := k1c2) (by decide +kernel) rfl rfl rfl (by decide +kernel)
set_option maxRecDepth 65536 in
theorem w_c1 : (Jvm.Cond.code ({ cls := "OptimisticLazy", name := "<init>", desc := "(II)V" } : Jvm.MethodName) prog_1_method_1_code (3 : Nat) (Option.none : Option Jvm.ClassFile.FieldType)).before args0 about1 = true := code_word (m := ⟨2, 0⟩) (meth := k2m0) (c := k2c0) (by decide +kernel) rfl rfl rfl (by decide +kernel)
set_option maxRecDepth 65536 in
theorem w_c2 : (Jvm.Cond.code ({ cls := "java/lang/Object", name := "<init>", desc := "()V" } : Jvm.MethodName) object_method_1_code (1 : Nat) (Option.none : Option Jvm.ClassFile.FieldType)).before args0 about1 = true := code_word (m := ⟨0, 0⟩) (meth := k0m0) (c := k0c0) (by decide +kernel) rfl rfl rfl (by decide +kernel)
set_option maxRecDepth 65536 in
theorem w_c3 : (Jvm.Cond.code ({ cls := "OptimisticLazy", name := "clamp", desc := "(III)I" } : Jvm.MethodName) prog_1_method_16_code (4 : Nat) (Option.some Jvm.ClassFile.FieldType.int)).before args0 about1 = true := code_word (m := ⟨2, 8⟩) (meth := k2m8) (c := k2c8) (by decide +kernel) rfl rfl rfl (by decide +kernel)
set_option maxRecDepth 65536 in
theorem w_c4 : (Jvm.Cond.code ({ cls := "OptimisticLazy", name := "clearAll", desc := "()V" } : Jvm.MethodName) prog_1_method_23_code (2 : Nat) (Option.none : Option Jvm.ClassFile.FieldType)).before args0 about1 = true := code_word (m := ⟨2, 13⟩) (meth := k2m13) (c := k2c13) (by decide +kernel) rfl rfl rfl (by decide +kernel)
set_option maxRecDepth 65536 in
theorem w_c5 : (Jvm.Cond.code ({ cls := "OptimisticLazy", name := "clearNodeSlot", desc := "(I)V" } : Jvm.MethodName) prog_1_method_24_code (2 : Nat) (Option.none : Option Jvm.ClassFile.FieldType)).before args0 about1 = true := code_word (m := ⟨2, 14⟩) (meth := k2m14) (c := k2c14) (by decide +kernel) rfl rfl rfl (by decide +kernel)
set_option maxRecDepth 65536 in
theorem w_c6 : (Jvm.Cond.code ({ cls := "OptimisticLazy", name := "clearMachine", desc := "()V" } : Jvm.MethodName) prog_1_method_26_code (1 : Nat) (Option.none : Option Jvm.ClassFile.FieldType)).before args0 about1 = true := code_word (m := ⟨2, 16⟩) (meth := k2m16) (c := k2c16) (by decide +kernel) rfl rfl rfl (by decide +kernel)
set_option maxRecDepth 65536 in
theorem w_c7 : (Jvm.Cond.code ({ cls := "OptimisticLazy", name := "clearCell", desc := "(I)V" } : Jvm.MethodName) prog_1_method_25_code (2 : Nat) (Option.none : Option Jvm.ClassFile.FieldType)).before args0 about1 = true := code_word (m := ⟨2, 15⟩) (meth := k2m15) (c := k2c15) (by decide +kernel) rfl rfl rfl (by decide +kernel)
set_option maxRecDepth 65536 in
theorem w_c8 : (Jvm.Cond.code ({ cls := "OptimisticLazy", name := "push", desc := "(II)I" } : Jvm.MethodName) prog_1_method_2_code (5 : Nat) (Option.some Jvm.ClassFile.FieldType.int)).before args0 about1 = true := code_word (m := ⟨2, 1⟩) (meth := k2m1) (c := k2c1) (by decide +kernel) rfl rfl rfl (by decide +kernel)
set_option maxRecDepth 65536 in
theorem w_c9 : (Jvm.Cond.code ({ cls := "OptimisticLazy", name := "arity", desc := "(I)I" } : Jvm.MethodName) prog_1_method_17_code (2 : Nat) (Option.some Jvm.ClassFile.FieldType.int)).before args0 about1 = true := code_word (m := ⟨2, 9⟩) (meth := k2m9) (c := k2c9) (by decide +kernel) rfl rfl rfl (by decide +kernel)
set_option maxRecDepth 65536 in
theorem w_c10 : (Jvm.Cond.code ({ cls := "OptimisticLazy", name := "storesArg", desc := "(I)Z" } : Jvm.MethodName) prog_1_method_18_code (2 : Nat) (Option.some Jvm.ClassFile.FieldType.boolean)).before args0 about1 = true := code_word (m := ⟨2, 10⟩) (meth := k2m10) (c := k2c10) (by decide +kernel) rfl rfl rfl (by decide +kernel)
set_option maxRecDepth 65536 in
theorem w_c11 : (Jvm.Cond.code ({ cls := "OptimisticLazy", name := "attachChildren", desc := "(II)V" } : Jvm.MethodName) prog_1_method_22_code (3 : Nat) (Option.none : Option Jvm.ClassFile.FieldType)).before args0 about1 = true := code_word (m := ⟨2, 12⟩) (meth := k2m12) (c := k2c12) (by decide +kernel) rfl rfl rfl (by decide +kernel)
set_option maxRecDepth 65536 in
theorem w_c12 : (Jvm.Cond.code ({ cls := "OptimisticLazyL2", name := "arity", desc := "(I)I" } : Jvm.MethodName) method_2_code (1 : Nat) (Option.some Jvm.ClassFile.FieldType.int)).before args0 about1 = true := code_word (m := ⟨1, 1⟩) (meth := k1m1) (c := k1c1) (by decide +kernel) rfl rfl rfl (by decide +kernel)
set_option maxRecDepth 65536 in
theorem w_c13 : (Jvm.Cond.code ({ cls := "OptimisticLazy", name := "depth", desc := "()I" } : Jvm.MethodName) prog_1_method_5_code (1 : Nat) (Option.some Jvm.ClassFile.FieldType.int)).before args0 about1 = true := code_word (m := ⟨2, 2⟩) (meth := k2m2) (c := k2c2) (by decide +kernel) rfl rfl rfl (by decide +kernel)
set_option maxRecDepth 65536 in
theorem w_c14 : (Jvm.Cond.code ({ cls := "OptimisticLazy", name := "nodeCount", desc := "()I" } : Jvm.MethodName) prog_1_method_6_code (1 : Nat) (Option.some Jvm.ClassFile.FieldType.int)).before args0 about1 = true := code_word (m := ⟨2, 3⟩) (meth := k2m3) (c := k2c3) (by decide +kernel) rfl rfl rfl (by decide +kernel)
set_option maxRecDepth 65536 in
theorem w_c15 : (Jvm.Cond.code ({ cls := "OptimisticLazy", name := "nodeKind", desc := "(I)I" } : Jvm.MethodName) prog_1_method_8_code (2 : Nat) (Option.some Jvm.ClassFile.FieldType.int)).before args0 about1 = true := code_word (m := ⟨2, 5⟩) (meth := k2m5) (c := k2c5) (by decide +kernel) rfl rfl rfl (by decide +kernel)
set_option maxRecDepth 65536 in
theorem w_c16 : (Jvm.Cond.code ({ cls := "OptimisticLazy", name := "isNode", desc := "(I)Z" } : Jvm.MethodName) prog_1_method_19_code (2 : Nat) (Option.some Jvm.ClassFile.FieldType.boolean)).before args0 about1 = true := code_word (m := ⟨2, 11⟩) (meth := k2m11) (c := k2c11) (by decide +kernel) rfl rfl rfl (by decide +kernel)
set_option maxRecDepth 65536 in
theorem w_c17 : (Jvm.Cond.code ({ cls := "OptimisticLazy", name := "nodeArg", desc := "(I)I" } : Jvm.MethodName) prog_1_method_9_code (2 : Nat) (Option.some Jvm.ClassFile.FieldType.int)).before args0 about1 = true := code_word (m := ⟨2, 6⟩) (meth := k2m6) (c := k2c6) (by decide +kernel) rfl rfl rfl (by decide +kernel)
set_option maxRecDepth 65536 in
theorem w_c18 : (Jvm.Cond.code ({ cls := "OptimisticLazy", name := "child", desc := "(II)I" } : Jvm.MethodName) prog_1_method_10_code (3 : Nat) (Option.some Jvm.ClassFile.FieldType.int)).before args0 about1 = true := code_word (m := ⟨2, 7⟩) (meth := k2m7) (c := k2c7) (by decide +kernel) rfl rfl rfl (by decide +kernel)
set_option maxRecDepth 65536 in
theorem w_c19 : (Jvm.Cond.code ({ cls := "OptimisticLazy", name := "top", desc := "(I)I" } : Jvm.MethodName) prog_1_method_7_code (3 : Nat) (Option.some Jvm.ClassFile.FieldType.int)).before args0 about1 = true := code_word (m := ⟨2, 4⟩) (meth := k2m4) (c := k2c4) (by decide +kernel) rfl rfl rfl (by decide +kernel)
def codes1 : List Jvm.Cond := [Jvm.Cond.code x code maxLocals ret, Jvm.Cond.code ({ cls := "OptimisticLazy", name := "<init>", desc := "(II)V" } : Jvm.MethodName) prog_1_method_1_code (3 : Nat) (Option.none : Option Jvm.ClassFile.FieldType), Jvm.Cond.code ({ cls := "java/lang/Object", name := "<init>", desc := "()V" } : Jvm.MethodName) object_method_1_code (1 : Nat) (Option.none : Option Jvm.ClassFile.FieldType), Jvm.Cond.code ({ cls := "OptimisticLazy", name := "clamp", desc := "(III)I" } : Jvm.MethodName) prog_1_method_16_code (4 : Nat) (Option.some Jvm.ClassFile.FieldType.int), Jvm.Cond.code ({ cls := "OptimisticLazy", name := "clearAll", desc := "()V" } : Jvm.MethodName) prog_1_method_23_code (2 : Nat) (Option.none : Option Jvm.ClassFile.FieldType), Jvm.Cond.code ({ cls := "OptimisticLazy", name := "clearNodeSlot", desc := "(I)V" } : Jvm.MethodName) prog_1_method_24_code (2 : Nat) (Option.none : Option Jvm.ClassFile.FieldType), Jvm.Cond.code ({ cls := "OptimisticLazy", name := "clearMachine", desc := "()V" } : Jvm.MethodName) prog_1_method_26_code (1 : Nat) (Option.none : Option Jvm.ClassFile.FieldType), Jvm.Cond.code ({ cls := "OptimisticLazy", name := "clearCell", desc := "(I)V" } : Jvm.MethodName) prog_1_method_25_code (2 : Nat) (Option.none : Option Jvm.ClassFile.FieldType), Jvm.Cond.code ({ cls := "OptimisticLazy", name := "push", desc := "(II)I" } : Jvm.MethodName) prog_1_method_2_code (5 : Nat) (Option.some Jvm.ClassFile.FieldType.int), Jvm.Cond.code ({ cls := "OptimisticLazy", name := "arity", desc := "(I)I" } : Jvm.MethodName) prog_1_method_17_code (2 : Nat) (Option.some Jvm.ClassFile.FieldType.int), Jvm.Cond.code ({ cls := "OptimisticLazy", name := "storesArg", desc := "(I)Z" } : Jvm.MethodName) prog_1_method_18_code (2 : Nat) (Option.some Jvm.ClassFile.FieldType.boolean), Jvm.Cond.code ({ cls := "OptimisticLazy", name := "attachChildren", desc := "(II)V" } : Jvm.MethodName) prog_1_method_22_code (3 : Nat) (Option.none : Option Jvm.ClassFile.FieldType), Jvm.Cond.code ({ cls := "OptimisticLazyL2", name := "arity", desc := "(I)I" } : Jvm.MethodName) method_2_code (1 : Nat) (Option.some Jvm.ClassFile.FieldType.int), Jvm.Cond.code ({ cls := "OptimisticLazy", name := "depth", desc := "()I" } : Jvm.MethodName) prog_1_method_5_code (1 : Nat) (Option.some Jvm.ClassFile.FieldType.int), Jvm.Cond.code ({ cls := "OptimisticLazy", name := "nodeCount", desc := "()I" } : Jvm.MethodName) prog_1_method_6_code (1 : Nat) (Option.some Jvm.ClassFile.FieldType.int), Jvm.Cond.code ({ cls := "OptimisticLazy", name := "nodeKind", desc := "(I)I" } : Jvm.MethodName) prog_1_method_8_code (2 : Nat) (Option.some Jvm.ClassFile.FieldType.int), Jvm.Cond.code ({ cls := "OptimisticLazy", name := "isNode", desc := "(I)Z" } : Jvm.MethodName) prog_1_method_19_code (2 : Nat) (Option.some Jvm.ClassFile.FieldType.boolean), Jvm.Cond.code ({ cls := "OptimisticLazy", name := "nodeArg", desc := "(I)I" } : Jvm.MethodName) prog_1_method_9_code (2 : Nat) (Option.some Jvm.ClassFile.FieldType.int), Jvm.Cond.code ({ cls := "OptimisticLazy", name := "child", desc := "(II)I" } : Jvm.MethodName) prog_1_method_10_code (3 : Nat) (Option.some Jvm.ClassFile.FieldType.int), Jvm.Cond.code ({ cls := "OptimisticLazy", name := "top", desc := "(I)I" } : Jvm.MethodName) prog_1_method_7_code (3 : Nat) (Option.some Jvm.ClassFile.FieldType.int)]
set_option maxRecDepth 65536 in
theorem codes_eq : words1.filter isCode = codes1 := rfl
theorem w_codes : ∀ c ∈ words1.filter isCode, c.before args0 about1 = true := by
  rw [codes_eq]
  intro c hc
  simp only [codes1, List.mem_cons, List.not_mem_nil, or_false] at hc
  rcases hc with rfl | rfl | rfl | rfl | rfl | rfl | rfl | rfl | rfl | rfl | rfl | rfl | rfl | rfl | rfl | rfl | rfl | rfl | rfl | rfl
  · exact w_c0
  · exact w_c1
  · exact w_c2
  · exact w_c3
  · exact w_c4
  · exact w_c5
  · exact w_c6
  · exact w_c7
  · exact w_c8
  · exact w_c9
  · exact w_c10
  · exact w_c11
  · exact w_c12
  · exact w_c13
  · exact w_c14
  · exact w_c15
  · exact w_c16
  · exact w_c17
  · exact w_c18
  · exact w_c19
set_option maxRecDepth 65536 in
theorem w_t1 : (words1.take 24).all (fun c => isCode c || c.before args0 about1) = true := by decide +kernel
set_option maxRecDepth 65536 in
theorem w_t2 : ((words1.drop 24).take 24).all (fun c => isCode c || c.before args0 about1) = true := by decide +kernel
set_option maxRecDepth 65536 in
theorem w_t3 : (((words1.drop 24).drop 24).take 24).all (fun c => isCode c || c.before args0 about1) = true := by decide +kernel
set_option maxRecDepth 65536 in
theorem w_t4 : ((((words1.drop 24).drop 24).drop 24).take 24).all (fun c => isCode c || c.before args0 about1) = true := by decide +kernel
set_option maxRecDepth 65536 in
theorem w_t5 : (((((words1.drop 24).drop 24).drop 24).drop 24).take 24).all (fun c => isCode c || c.before args0 about1) = true := by decide +kernel
set_option maxRecDepth 65536 in
theorem w_t6 : ((((((words1.drop 24).drop 24).drop 24).drop 24).drop 24).take 24).all (fun c => isCode c || c.before args0 about1) = true := by decide +kernel
set_option maxRecDepth 65536 in
theorem w_t7 : (((((((words1.drop 24).drop 24).drop 24).drop 24).drop 24).drop 24).take 24).all (fun c => isCode c || c.before args0 about1) = true := by decide +kernel
set_option maxRecDepth 65536 in
theorem w_t8 : ((((((((words1.drop 24).drop 24).drop 24).drop 24).drop 24).drop 24).drop 24).take 24).all (fun c => isCode c || c.before args0 about1) = true := by decide +kernel
set_option maxRecDepth 65536 in
theorem w_t9 : (((((((((words1.drop 24).drop 24).drop 24).drop 24).drop 24).drop 24).drop 24).drop 24).take 24).all (fun c => isCode c || c.before args0 about1) = true := by decide +kernel
set_option maxRecDepth 65536 in
theorem w_t10 : (((((((((words1.drop 24).drop 24).drop 24).drop 24).drop 24).drop 24).drop 24).drop 24).drop 24).all (fun c => isCode c || c.before args0 about1) = true := by decide +kernel
theorem w_tables : (allAtoms (Jvm.Cond.code x code maxLocals ret :: tables_1)).before args0 about1 = true := by
  rw [allAtoms_all]
  show words1.all (fun c => c.before args0 about1) = true
  refine all_split ?_ w_codes
  rw [← List.take_append_drop 24 words1, List.all_append, w_t1, ← List.take_append_drop 24 (words1.drop 24), List.all_append, w_t2, ← List.take_append_drop 24 ((words1.drop 24).drop 24), List.all_append, w_t3, ← List.take_append_drop 24 (((words1.drop 24).drop 24).drop 24), List.all_append, w_t4, ← List.take_append_drop 24 ((((words1.drop 24).drop 24).drop 24).drop 24), List.all_append, w_t5, ← List.take_append_drop 24 (((((words1.drop 24).drop 24).drop 24).drop 24).drop 24), List.all_append, w_t6, ← List.take_append_drop 24 ((((((words1.drop 24).drop 24).drop 24).drop 24).drop 24).drop 24), List.all_append, w_t7, ← List.take_append_drop 24 (((((((words1.drop 24).drop 24).drop 24).drop 24).drop 24).drop 24).drop 24), List.all_append, w_t8, ← List.take_append_drop 24 ((((((((words1.drop 24).drop 24).drop 24).drop 24).drop 24).drop 24).drop 24).drop 24), List.all_append, w_t9, w_t10]
  rfl
set_option maxRecDepth 65536 in
theorem w_case : (Jvm.Cond.and given_1 narrow_1).before args0 about1 = true := by decide +kernel
theorem w_applies : (headSpec (Jvm.Cond.code x code maxLocals ret :: tables_1) room_1).applies x e0.platform about1 = true :=
  (Spec.applies_iff w_frames).mpr ⟨w_running, w_runnable, w_alone, w_named, w_hears, w_ripe, w_room, w_tables⟩
theorem atStart : AtStart classFile x code maxLocals ret World_1 tables_1 room_1 Calls_1 rest_1 Pre_1 launch0 p0 e0 about1 theMethod args0 below0 :=
  ⟨lists_1, trivial, launch0.admits_env _ _ _, launch0.least_env, fairChoices_fair.cas, fairChoices_fair.clock, w_frames, w_args, w_heap, w_applies, trivial, trivial, w_case⟩
end start1
theorem witness_1 : WitnessClaimed_1 := ⟨start1.p0, start1.e0, start1.about1, start1.theMethod, start1.args0, start1.below0, start1.atStart⟩
end Jvm.Pilot.@@N@@
