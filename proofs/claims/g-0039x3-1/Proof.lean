import JvmDerived
import JvmDerived.Pilot.@@N@@Statement
import JvmDerived.Pilot.@@N@@Code
set_option linter.unusedVariables false
set_option linter.unusedSimpArgs false
namespace Jvm.OwnEv
open Sem ClassFile Op Lib Jvm.Stand Jvm.Free Jvm.LawKit Jvm.RoadKit
/-! PART 1: a small evaluator of bytecode over a memory of its own (defs alone). A memory: the cells made (kind, class, size), and what they hold: ints, longs, references. -/
abbrev ELay : Type := List (Nat × String × Nat)
abbrev EMem : Type := ELay × (Nat → Nat → Int32) × (Nat → Nat → Int64) × (Nat → Nat → Value)
def up {α : Type} (f : Nat → Nat → α) (a k : Nat) (v : α) : Nat → Nat → α := fun x y => if x = a ∧ y = k then v else f x y
def szL (L : ELay) : Nat := (L.map fun c => c.2.2).sum
def wt (vs : List Value) : Nat := (vs.map fun v => v.category).sum
def setL : List Slot → Nat → Slot → Option (List Slot)
  | [], _, _ => none
  | _ :: t, 0, x => some (x :: t)
  | h :: t, n + 1, x => match setL t n x with
    | some t' => some (h :: t')
    | none => none
def storeSelfL (l : List Slot) (i : Nat) (v : Value) : Option (List Slot) :=
  match setL l i (.val v) with
  | none => none
  | some l1 => if v.category = 2 then
      match l1[i + 1]? with
      | none => none
      | some (.val old) => if old.category = 2 then
          match setL l1 (i + 2) .unset with
          | none => none
          | some l2 => setL l2 (i + 1) .second
        else setL l1 (i + 1) .second
      | some _ => setL l1 (i + 1) .second
    else some l1
def storeL (l : List Slot) (i : Nat) (v : Value) : Option (List Slot) :=
  match l[i]? with
  | none => none
  | some .second => match setL l (i - 1) .unset with
    | none => none
    | some l' => storeSelfL l' i v
  | some (.val old) => if old.category = 2 then
      match setL l (i + 1) .unset with
      | none => none
      | some l' => storeSelfL l' i v
    else storeSelfL l i v
  | some .unset => storeSelfL l i v
def fillL : List Value → List Slot
  | [] => []
  | v :: t => if v.category = 2 then .val v :: .second :: fillL t else .val v :: fillL t
def entryL (as : List Value) (maxL : Nat) : List Slot := fillL as ++ List.replicate (maxL - (fillL as).length) .unset
/-! what the sheet's words say -/
def kindD (d : String) : Nat := match parseFieldDescriptor d with
  | some .int => 1
  | some .boolean => 2
  | some .long => 3
  | some (.array _) => 4
  | some (.object _) => 4
  | _ => 0
def layGo (C n : String) : List Jvm.Cond → Nat → Option (Nat × String × Bool)
  | [], _ => none
  | .lays c o n' d :: t, k => if n' = n ∧ c = C ∧ o = C then some (k, d, false) else layGo C n t (k + 1)
  | .laysFinal c o n' d :: t, k => if n' = n ∧ c = C ∧ o = C then some (k, d, true) else layGo C n t (k + 1)
  | _ :: t, k => layGo C n t (k + 1)
def layAt (W : List Jvm.Cond) (C n : String) : Option (Nat × String × Bool) := layGo C n W 0
def fieldLk (own : String) (idx : Nat) : List Jvm.Cond → Option (String × String × String)
  | [] => none
  | .fieldLink o i r n d :: t => if i = idx ∧ o = own then some (r, n, d) else fieldLk own idx t
  | _ :: t => fieldLk own idx t
/-- the class, the field's place, its kind, final or not -/
def fieldAt (W : List Jvm.Cond) (own : String) (idx : Nat) : Option (String × Nat × Nat × Bool) :=
  match fieldLk own idx W with
  | none => none
  | some (r, n, d) => match layAt W r n with
    | none => none
    | some (k, d', fin) => if d' = d ∧ kindD d ≠ 0 then some (r, k, kindD d, fin) else none
def methodLk (own : String) (idx : Nat) : List Jvm.Cond → Option MethodName
  | [] => none
  | .methodLink o i y :: t => if i = idx ∧ o = own then some y else methodLk own idx t
  | _ :: t => methodLk own idx t
def classLk (own : String) (idx : Nat) : List Jvm.Cond → Option String
  | [] => none
  | .classLink o i C :: t => if i = idx ∧ o = own then some C else classLk own idx t
  | _ :: t => classLk own idx t
def instLk (C : String) : List Jvm.Cond → Option Nat
  | [] => none
  | .instantiable c n :: t => if c = C then some n else instLk C t
  | _ :: t => instLk C t
def meq (z y : MethodName) : Bool := decide (z.name = y.name) && (decide (z.desc = y.desc) && decide (z.cls = y.cls))
def codeLk (y : MethodName) : List Jvm.Cond → Option (ByteArray × Nat × Option FieldType)
  | [] => none
  | .code z b n r :: t => if meq z y = true then some (b, n, r) else codeLk y t
  | _ :: t => codeLk y t
def intLk (own : String) (idx : Nat) : List Jvm.Cond → Option Int32
  | [] => none
  | .constant o i v :: t => if i = idx ∧ o = own then some v else intLk own idx t
  | _ :: t => intLk own idx t
def longLk (own : String) (idx : Nat) : List Jvm.Cond → Option Int64
  | [] => none
  | .constantLong o i v :: t => if i = idx ∧ o = own then some v else longLk own idx t
  | _ :: t => longLk own idx t
def hasInit (C : String) : List Jvm.Cond → Bool
  | [] => false
  | .initialized c :: t => if c = C then true else hasInit C t
  | _ :: t => hasInit C t
def hasInst (y : MethodName) : List Jvm.Cond → Bool
  | [] => false
  | .instanceMethod z :: t => if meq z y = true then true else hasInst y t
  | _ :: t => hasInst y t
def hasPriv (y : MethodName) : List Jvm.Cond → Bool
  | [] => false
  | .privateMethod z :: t => if meq z y = true then true else hasPriv y t
  | _ :: t => hasPriv y t
def hasStat (y : MethodName) : List Jvm.Cond → Bool
  | [] => false
  | .static z :: t => if meq z y = true then true else hasStat y t
  | _ :: t => hasStat y t
def hasDecl (y : MethodName) : List Jvm.Cond → Bool
  | [] => false
  | .declares z :: t => if meq z y = true then true else hasDecl y t
  | _ :: t => hasDecl y t
def hasSel (y : MethodName) : List Jvm.Cond → Bool
  | [] => false
  | .selects C z z' :: t => if meq z y = true ∧ meq z' y = true ∧ C = y.cls then true else hasSel y t
  | _ :: t => hasSel y t
def hasArr (ty : FieldType) : List Jvm.Cond → Bool
  | [] => false
  | .arrayClass z :: t => if z = ty then true else hasArr ty t
  | _ :: t => hasArr ty t
def newAt (W : List Jvm.Cond) (own : String) (idx : Nat) : Option (String × Nat) :=
  match classLk own idx W with
  | none => none
  | some C => match instLk C W with
    | none => none
    | some n => if hasInit C W = true then some (C, n) else none
/-- kind: 0 invokevirtual of a public method, 1 of a private one, 2 a constructor, 3 static; the method, how many arguments, its body -/
def callAt (W : List Jvm.Cond) (own : String) (idx : Nat) (kd : Nat) : Option (MethodName × Nat × ByteArray × Nat × Option FieldType) :=
  match methodLk own idx W with
  | none => none
  | some z => match codeLk z W, parseMethodDescriptor z.desc with
    | some (b, n, r), some sig =>
      if hasInit z.cls W = true ∧ plainName z.cls = true ∧ z.cls ≠ "java/lang/invoke/MethodHandle" ∧ z.cls ≠ "java/lang/invoke/VarHandle" ∧
         ((kd = 0 ∧ hasDecl z W = true ∧ hasSel z W = true ∧ hasInst z W = true) ∨ (kd = 1 ∧ hasPriv z W = true ∧ hasInst z W = true ∧ (instLk z.cls W).isSome = true) ∨ (kd = 2 ∧ z.name = "<init>" ∧ hasInst z W = true ∧ r = none) ∨ (kd = 3 ∧ hasStat z W = true))
      then some (z, sig.parameters.length, b, n, r) else none
    | _, _ => none
def objInitAt (W : List Jvm.Cond) (own : String) (idx : Nat) : Bool :=
  match methodLk own idx W, codeLk Lib.objectInit W with
  | some z, some (b, n, r) => decide (z = Lib.objectInit) && hasInst Lib.objectInit W && decide (b = ⟨#[0xb1]⟩) && decide (n = 1) && decide (r = none)
  | _, _ => false
def jump (pc : Nat) (o : Int) : Option Nat := match (pc : Int) + o with
  | .ofNat n => some n
  | .negSucc _ => none
def getV (kd : Nat) (i : Int32) (j : Int64) (r : Value) : Value := match kd with
  | 1 => .int i
  | 2 => .int i
  | 3 => .long j
  | _ => r
def inb (j : Int32) (n : Nat) : Bool := decide (¬ j < 0) && decide (j.toNatClampNeg < n)
def lenOk (len : Nat) : Instr → Bool
  | .aload _ | .iload _ | .lload _ | .astore _ | .istore _ | .lstore _ | .bipush _ | .ldc _ | .newarray _ => len == 2
  | .sipush _ | .iinc _ _ | .ldc_w _ | .ldc2_w _ | .goto _ | .ifCond _ _ | .if_icmp _ _ | .ifnull _ | .ifnonnull _ | .getfield _ | .putfield _ | .new _ | .invokevirtual _ | .invokespecial _ | .invokestatic _ => len == 3
  | .tableswitch _ _ _ _ => true
  | _ => len == 1
/-- the steps that leave the memory as it is -/
def execP (W : List Jvm.Cond) (F Lb : Nat) (y : MethodName) (ins : Instr) (pc len : Nat) (ls : List Slot) (st : List Value) (M : EMem) : Option (Nat × List Slot × List Value) :=
  match ins with
  | .aload k => match ls[k]? with
    | some (.val (.ref a)) => some (pc + 2, ls, .ref a :: st)
    | some (.val .null) => some (pc + 2, ls, .null :: st)
    | _ => none
  | .aload_n k => match ls[k.val]? with
    | some (.val (.ref a)) => some (pc + 1, ls, .ref a :: st)
    | some (.val .null) => some (pc + 1, ls, .null :: st)
    | _ => none
  | .iload k => match ls[k]? with
    | some (.val (.int v)) => some (pc + 2, ls, .int v :: st)
    | _ => none
  | .iload_n k => match ls[k.val]? with
    | some (.val (.int v)) => some (pc + 1, ls, .int v :: st)
    | _ => none
  | .lload k => match ls[k]? with
    | some (.val (.long v)) => some (pc + 2, ls, .long v :: st)
    | _ => none
  | .lload_n k => match ls[k.val]? with
    | some (.val (.long v)) => some (pc + 1, ls, .long v :: st)
    | _ => none
  | .istore k => match st with
    | .int x :: r => match storeL ls k (.int x) with
      | some l' => some (pc + 2, l', r)
      | none => none
    | _ => none
  | .istore_n k => match st with
    | .int x :: r => match storeL ls k.val (.int x) with
      | some l' => some (pc + 1, l', r)
      | none => none
    | _ => none
  | .lstore k => match st with
    | .long x :: r => match storeL ls k (.long x) with
      | some l' => some (pc + 2, l', r)
      | none => none
    | _ => none
  | .lstore_n k => match st with
    | .long x :: r => match storeL ls k.val (.long x) with
      | some l' => some (pc + 1, l', r)
      | none => none
    | _ => none
  | .astore k => match st with
    | .ref x :: r => match storeL ls k (.ref x) with
      | some l' => some (pc + 2, l', r)
      | none => none
    | _ => none
  | .astore_n k => match st with
    | .ref x :: r => match storeL ls k.val (.ref x) with
      | some l' => some (pc + 1, l', r)
      | none => none
    | _ => none
  | .iinc k d => match ls[k]? with
    | some (.val (.int v)) => match storeL ls k (.int (v + Int32.ofInt d)) with
      | some l' => some (pc + 3, l', st)
      | none => none
    | _ => none
  | .iconst i => some (pc + 1, ls, .int (Int32.ofInt i) :: st)
  | .bipush i => some (pc + 2, ls, .int (Int8.ofInt i).toInt32 :: st)
  | .sipush i => some (pc + 3, ls, .int (Int16.ofInt i).toInt32 :: st)
  | .lconst k => some (pc + 1, ls, .long (Int64.ofNat k) :: st)
  | .ldc i => match intLk y.cls i W with
    | some v => some (pc + 2, ls, .int v :: st)
    | none => none
  | .ldc_w i => match intLk y.cls i W with
    | some v => some (pc + 3, ls, .int v :: st)
    | none => none
  | .ldc2_w i => match longLk y.cls i W with
    | some v => some (pc + 3, ls, .long v :: st)
    | none => none
  | .iadd => match st with
    | .int b :: .int a :: r => some (pc + 1, ls, .int (a + b) :: r)
    | _ => none
  | .isub => match st with
    | .int b :: .int a :: r => some (pc + 1, ls, .int (a - b) :: r)
    | _ => none
  | .imul => match st with
    | .int b :: .int a :: r => some (pc + 1, ls, .int (a * b) :: r)
    | _ => none
  | .iand => match st with
    | .int b :: .int a :: r => some (pc + 1, ls, .int (a &&& b) :: r)
    | _ => none
  | .ior => match st with
    | .int b :: .int a :: r => some (pc + 1, ls, .int (a ||| b) :: r)
    | _ => none
  | .ixor => match st with
    | .int b :: .int a :: r => some (pc + 1, ls, .int (a ^^^ b) :: r)
    | _ => none
  | .ishl => match st with
    | .int b :: .int a :: r => some (pc + 1, ls, .int (a <<< (b &&& 31)) :: r)
    | _ => none
  | .ishr => match st with
    | .int b :: .int a :: r => some (pc + 1, ls, .int (a >>> (b &&& 31)) :: r)
    | _ => none
  | .iushr => match st with
    | .int b :: .int a :: r => some (pc + 1, ls, .int (XT.ushr a b) :: r)
    | _ => none
  | .idiv => match st with
    | .int b :: .int a :: r => if b = 0 then none else some (pc + 1, ls, .int (a / b) :: r)
    | _ => none
  | .irem => match st with
    | .int b :: .int a :: r => if b = 0 then none else some (pc + 1, ls, .int (a - (a / b) * b) :: r)
    | _ => none
  | .ineg => match st with
    | .int a :: r => some (pc + 1, ls, .int (-a) :: r)
    | _ => none
  | .ladd => match st with
    | .long b :: .long a :: r => some (pc + 1, ls, .long (a + b) :: r)
    | _ => none
  | .lsub => match st with
    | .long b :: .long a :: r => some (pc + 1, ls, .long (a - b) :: r)
    | _ => none
  | .lmul => match st with
    | .long b :: .long a :: r => some (pc + 1, ls, .long (a * b) :: r)
    | _ => none
  | .land => match st with
    | .long b :: .long a :: r => some (pc + 1, ls, .long (a &&& b) :: r)
    | _ => none
  | .lor => match st with
    | .long b :: .long a :: r => some (pc + 1, ls, .long (a ||| b) :: r)
    | _ => none
  | .lxor => match st with
    | .long b :: .long a :: r => some (pc + 1, ls, .long (a ^^^ b) :: r)
    | _ => none
  | .lshl => match st with
    | .int b :: .long a :: r => some (pc + 1, ls, .long (a <<< (b.toInt64 &&& 63)) :: r)
    | _ => none
  | .lshr => match st with
    | .int b :: .long a :: r => some (pc + 1, ls, .long (a >>> (b.toInt64 &&& 63)) :: r)
    | _ => none
  | .lushr => match st with
    | .int b :: .long a :: r => some (pc + 1, ls, .long (XT.ushrL a b) :: r)
    | _ => none
  | .ldiv => match st with
    | .long b :: .long a :: r => if b = 0 then none else some (pc + 1, ls, .long (a / b) :: r)
    | _ => none
  | .lrem => match st with
    | .long b :: .long a :: r => if b = 0 then none else some (pc + 1, ls, .long (a - (a / b) * b) :: r)
    | _ => none
  | .lneg => match st with
    | .long a :: r => some (pc + 1, ls, .long (-a) :: r)
    | _ => none
  | .lcmp => match st with
    | .long b :: .long a :: r => some (pc + 1, ls, .int (XT.cmpL a b) :: r)
    | _ => none
  | .i2l => match st with
    | .int a :: r => some (pc + 1, ls, .long a.toInt64 :: r)
    | _ => none
  | .l2i => match st with
    | .long a :: r => some (pc + 1, ls, .int a.toInt32 :: r)
    | _ => none
  | .i2s => match st with
    | .int a :: r => some (pc + 1, ls, .int a.toInt16.toInt32 :: r)
    | _ => none
  | .dup => match st with
    | .int a :: r => some (pc + 1, ls, .int a :: .int a :: r)
    | .ref a :: r => some (pc + 1, ls, .ref a :: .ref a :: r)
    | _ => none
  | .dup2 => match st with
    | .int b :: .int a :: r => some (pc + 1, ls, .int b :: .int a :: .int b :: .int a :: r)
    | .int b :: .ref a :: r => some (pc + 1, ls, .int b :: .ref a :: .int b :: .ref a :: r)
    | .long b :: r => some (pc + 1, ls, .long b :: .long b :: r)
    | _ => none
  | .dup_x1 => match st with
    | .int b :: .ref a :: r => some (pc + 1, ls, .int b :: .ref a :: .int b :: r)
    | _ => none
  | .pop => match st with
    | .int _ :: r => some (pc + 1, ls, r)
    | .ref _ :: r => some (pc + 1, ls, r)
    | _ => none
  | .goto o => match jump pc o with
    | some t => some (t, ls, st)
    | none => none
  | .ifCond cd o => match st with
    | .int a :: r => match jump pc o with
      | some t => some (if ifCond.holds cd a = true then t else pc + 3, ls, r)
      | none => none
    | _ => none
  | .if_icmp cd o => match st with
    | .int b :: .int a :: r => match jump pc o with
      | some t => some (if if_icmp.holds cd a b = true then t else pc + 3, ls, r)
      | none => none
    | _ => none
  | .ifnull o => match st with
    | .null :: r => match jump pc o with
      | some t => some (t, ls, r)
      | none => none
    | .ref _ :: r => some (pc + 3, ls, r)
    | _ => none
  | .ifnonnull o => match st with
    | .ref _ :: r => match jump pc o with
      | some t => some (t, ls, r)
      | none => none
    | .null :: r => some (pc + 3, ls, r)
    | _ => none
  | .tableswitch dflt low high offs => match st with
    | .int i :: r => if i.toInt < low ∨ i.toInt > high then
        match jump pc dflt with
        | some t => some (t, ls, r)
        | none => none
      else match offs[(i.toInt - low).toNat]? with
        | none => none
        | some o => match jump pc o with
          | some t => some (t, ls, r)
          | none => none
    | _ => none
  | .getfield idx => match st with
    | .ref a :: r => match fieldAt W y.cls idx, M.1[a]? with
      | some (C, k, kd, _), some (0, C', _) => if C' = C then some (pc + 3, ls, getV kd (M.2.1 a k) (M.2.2.1 a k) (M.2.2.2 a k) :: r) else none
      | _, _ => none
    | _ => none
  | .arraylength => match st with
    | .ref a :: r => match M.1[a]? with
      | some (1, _, n) => some (pc + 1, ls, .int n.toInt32 :: r)
      | some (2, _, n) => some (pc + 1, ls, .int n.toInt32 :: r)
      | some (3, _, n) => some (pc + 1, ls, .int n.toInt32 :: r)
      | _ => none
    | _ => none
  | .iaload => match st with
    | .int j :: .ref a :: r => match M.1[a]? with
      | some (1, _, n) => if inb j n = true then some (pc + 1, ls, .int (M.2.1 a j.toNatClampNeg) :: r) else none
      | _ => none
    | _ => none
  | .baload => match st with
    | .int j :: .ref a :: r => match M.1[a]? with
      | some (3, _, n) => if inb j n = true then some (pc + 1, ls, .int (M.2.1 a j.toNatClampNeg) :: r) else none
      | _ => none
    | _ => none
  | .laload => match st with
    | .int j :: .ref a :: r => match M.1[a]? with
      | some (2, _, n) => if inb j n = true then some (pc + 1, ls, .long (M.2.2.1 a j.toNatClampNeg) :: r) else none
      | _ => none
    | _ => none
  | .invokespecial idx => match st with
    | .ref _ :: r => if objInitAt W y.cls idx = true ∧ 1 ≤ F ∧ wt r + 12 ≤ Lb then some (pc + 3, ls, r) else none
    | _ => none
  | _ => none
/-- the steps that write or make; ro: the cells below it are not written -/
def execM (W : List Jvm.Cond) (ro : Nat) (y : MethodName) (ins : Instr) (st : List Value) (M : EMem) : Option (List Value × EMem) :=
  match ins with
  | .putfield idx => match st with
    | v :: .ref a :: r => match fieldAt W y.cls idx, M.1[a]? with
      | some (C, k, kd, fin), some (0, C', _) =>
        if C' = C ∧ ro ≤ a ∧ (fin = false ∨ (y.cls = C ∧ y.name = "<init>")) ∧ (instLk C W).isSome = true then
          match kd, v with
          | 1, .int x => some (r, M.1, up M.2.1 a k x, M.2.2.1, M.2.2.2)
          | 2, .int x => some (r, M.1, up M.2.1 a k (x &&& 1), M.2.2.1, M.2.2.2)
          | 3, .long x => some (r, M.1, M.2.1, up M.2.2.1 a k x, M.2.2.2)
          | 4, .ref b => some (r, M.1, M.2.1, M.2.2.1, up M.2.2.2 a k (.ref b))
          | _, _ => none
        else none
      | _, _ => none
    | _ => none
  | .iastore => match st with
    | .int x :: .int j :: .ref a :: r => match M.1[a]? with
      | some (1, _, n) => if inb j n = true ∧ ro ≤ a then some (r, M.1, up M.2.1 a j.toNatClampNeg x, M.2.2.1, M.2.2.2) else none
      | _ => none
    | _ => none
  | .bastore => match st with
    | .int x :: .int j :: .ref a :: r => match M.1[a]? with
      | some (3, _, n) => if inb j n = true ∧ ro ≤ a then some (r, M.1, up M.2.1 a j.toNatClampNeg (x &&& 1), M.2.2.1, M.2.2.2) else none
      | _ => none
    | _ => none
  | .lastore => match st with
    | .long x :: .int j :: .ref a :: r => match M.1[a]? with
      | some (2, _, n) => if inb j n = true ∧ ro ≤ a then some (r, M.1, M.2.1, up M.2.2.1 a j.toNatClampNeg x, M.2.2.2) else none
      | _ => none
    | _ => none
  | .new idx => match newAt W y.cls idx with
    | some (C, n) => some (.ref M.1.length :: st, M.1 ++ [(0, C, n)], M.2.1, M.2.2.1, M.2.2.2)
    | none => none
  | .newarray .int => match st with
    | .int n :: r => if ¬ n < 0 ∧ n.toNatClampNeg * 8 ≤ 536870912 ∧ hasArr .int W = true then some (.ref M.1.length :: r, M.1 ++ [(1, "", n.toNatClampNeg)], M.2.1, M.2.2.1, M.2.2.2) else none
    | _ => none
  | .newarray .long => match st with
    | .int n :: r => if ¬ n < 0 ∧ n.toNatClampNeg * 8 ≤ 536870912 ∧ hasArr .long W = true then some (.ref M.1.length :: r, M.1 ++ [(2, "", n.toNatClampNeg)], M.2.1, M.2.2.1, M.2.2.2) else none
    | _ => none
  | .newarray .boolean => match st with
    | .int n :: r => if ¬ n < 0 ∧ n.toNatClampNeg * 8 ≤ 536870912 ∧ hasArr .boolean W = true then some (.ref M.1.length :: r, M.1 ++ [(3, "", n.toNatClampNeg)], M.2.1, M.2.2.1, M.2.2.2) else none
    | _ => none
  | _ => none
def retOf (ins : Instr) (len : Nat) (ret : Option FieldType) (st : List Value) : Option (Option Value) :=
  if len = 1 then
    match ins, ret, st with
    | .return_, none, [] => some none
    | .ireturn, some .int, [.int z] => some (some (.int z))
    | .ireturn, some .boolean, [.int z] => some (some (.int (z &&& 1)))
    | .lreturn, some .long, [.long z] => some (some (.long z))
    | _, _, _ => none
  else none
/-- the callee, her arguments (the receiver first), what lies under, her body -/
def callOf (W : List Jvm.Cond) (y : MethodName) (ins : Instr) (len : Nat) (st : List Value) (M : EMem) : Option (MethodName × List Value × List Value × ByteArray × Nat × Option FieldType) :=
  if len = 3 then
    match ins with
    | .invokevirtual idx => match callAt W y.cls idx 1 with
      | some (z, na, b, n, r) => match (st.drop na) with
        | .ref a :: rest => match M.1[a]? with
          | some (0, C, _) => if C = z.cls ∧ (st.take na).length = na then some (z, .ref a :: (st.take na).reverse, rest, b, n, r) else none
          | _ => none
        | _ => none
      | none => match callAt W y.cls idx 0 with
        | some (z, na, b, n, r) => match (st.drop na) with
          | .ref a :: rest => match M.1[a]? with
            | some (0, C, _) => if C = z.cls ∧ (st.take na).length = na then some (z, .ref a :: (st.take na).reverse, rest, b, n, r) else none
            | _ => none
          | _ => none
        | none => none
    | .invokespecial idx => match callAt W y.cls idx 2 with
      | some (z, na, b, n, r) => match (st.drop na) with
        | .ref a :: rest => if (st.take na).length = na then some (z, .ref a :: (st.take na).reverse, rest, b, n, r) else none
        | _ => none
      | none => none
    | .invokestatic idx => match callAt W y.cls idx 3 with
      | some (z, na, b, n, r) => if (st.take na).length = na then some (z, (st.take na).reverse, st.drop na, b, n, r) else none
      | none => none
    | _ => none
  else none
def run (W : List Jvm.Cond) (ro : Nat) : Nat → Nat → Nat → MethodName → ByteArray → Option FieldType → Nat → List Slot → List Value → EMem → Option (Option Value × EMem)
  | 0, _, _, _, _, _, _, _, _, _ => none
  | n + 1, F, Lb, y, code, ret, pc, ls, st, M =>
    match decode code pc with
    | .ok (ins, len) =>
      match (if lenOk len ins = true then execP W F Lb y ins pc len ls st M else none) with
      | some (pc', ls', st') => run W ro n F Lb y code ret pc' ls' st' M
      | none => match (if lenOk len ins = true then execM W ro y ins st M else none) with
        | some (st', M') => run W ro n F Lb y code ret (pc + len) ls st' M'
        | none => match retOf ins len ret st with
          | some v => some (v, M)
          | none => match callOf W y ins len st M with
            | some (z, as, rest, b, mx, r) =>
              if 1 ≤ F ∧ wt rest + (mx + 11) ≤ Lb ∧ (fillL as).length ≤ mx then
                match run W ro n (F - 1) (Lb - (wt rest + (mx + 11))) z b r 0 (entryL as mx) [] M with
                | some (v, M') => run W ro n F Lb y code ret (pc + 3) ls (v.toList ++ rest) M'
                | none => none
              else none
            | none => none
    | .error _ => none
end Jvm.OwnEv
namespace Jvm.OwnEv
open Sem ClassFile Op Lib Jvm.Stand Jvm.Free Jvm.LawKit Jvm.RoadKit
/-! PART 2: small facts: the variables, the words -/
def conc (ρ : Nat → Addr) : Value → Value
  | .ref a => .ref (ρ a)
  | v => v
def concS (ρ : Nat → Addr) : Slot → Slot
  | .val v => .val (conc ρ v)
  | s => s
theorem conc_cat (ρ : Nat → Addr) (v : Value) : (conc ρ v).category = v.category := by cases v <;> rfl
theorem wt_conc (ρ : Nat → Addr) (vs : List Value) : ((vs.map (conc ρ)).map fun v => v.category).sum = wt vs := by
  unfold wt
  rw [List.map_map]
  congr 1
  exact List.map_congr_left fun v _ => conc_cat ρ v
abbrev cl (ρ : Nat → Addr) (ls : List Slot) : Array Slot := (ls.map (concS ρ)).toArray
abbrev cs (ρ : Nat → Addr) (st : List Value) : List Value := st.map (conc ρ)
theorem get_cl {ρ : Nat → Addr} {ls : List Slot} {k : Nat} {x : Slot} (h : ls[k]? = some x) : (cl ρ ls)[k]? = some (concS ρ x) := by simp [cl, h]
theorem setL_some : ∀ {l : List Slot} {i : Nat} {x : Slot} {l' : List Slot}, setL l i x = some l' → i < l.length ∧ l' = l.set i x
  | [], _, _, _, h => by simp [setL] at h
  | _ :: t, 0, x, l', h => by simp only [setL, Option.some.injEq] at h; subst h; simp
  | y :: t, n + 1, x, l', h => by
    simp only [setL] at h
    split at h
    · rename_i t' ht
      cases h
      obtain ⟨h1, h2⟩ := setL_some ht
      subst h2
      exact ⟨by simp; omega, by simp⟩
    · cases h
theorem setAt_conc {ρ : Nat → Addr} {l : List Slot} {i : Nat} {x : Slot} {l' : List Slot} (h : setL l i x = some l') : setAt (cl ρ l) i (concS ρ x) = some (cl ρ l') := by
  obtain ⟨hi, rfl⟩ := setL_some h
  simp [setAt, hi, cl, List.map_set]
theorem setL_len {l : List Slot} {i : Nat} {x : Slot} {l' : List Slot} (h : setL l i x = some l') : l'.length = l.length := by
  obtain ⟨-, rfl⟩ := setL_some h; simp
theorem cl_get {ρ : Nat → Addr} {l : List Slot} {i : Nat} : (cl ρ l)[i]? = (l[i]?).map (concS ρ) := by simp [cl]
theorem storeSelf_conc {ρ : Nat → Addr} {l : List Slot} {i : Nat} {v : Value} {l' : List Slot} (h : storeSelfL l i v = some l') : storeSelf (cl ρ l) i (conc ρ v) = some (cl ρ l') := by
  unfold storeSelfL at h
  split at h
  · cases h
  rename_i l1 h1
  have e1 : setAt (cl ρ l) i (.val (conc ρ v)) = some (cl ρ l1) := setAt_conc (ρ := ρ) h1
  unfold storeSelf
  rw [e1]
  simp only [Option.bind_eq_bind, Option.bind_some, conc_cat]
  split at h
  · rename_i hc
    rw [if_pos hc, cl_get]
    split at h
    · cases h
    · rename_i old ho
      rw [ho]
      simp only [Option.map_some, Option.bind_some, concS, conc_cat]
      split at h
      · rename_i hc2
        rw [if_pos hc2]
        split at h
        · cases h
        · rename_i l2 h2
          have e2 : setAt (cl ρ l1) (i + 2) .unset = some (cl ρ l2) := setAt_conc (ρ := ρ) h2
          have e3 : setAt (cl ρ l2) (i + 1) .second = some (cl ρ l') := setAt_conc (ρ := ρ) h
          rw [e2]
          exact e3
      · rename_i hc2
        rw [if_neg hc2]
        exact setAt_conc (ρ := ρ) h
    · rename_i x hx ho
      have e3 : setAt (cl ρ l1) (i + 1) .second = some (cl ρ l') := setAt_conc (ρ := ρ) h
      rw [ho]
      cases x with
      | val w => exact absurd rfl (hx w)
      | unset => exact e3
      | second => exact e3
  · rename_i hc
    rw [if_neg hc]
    cases h
    rfl
theorem storeL_conc {ρ : Nat → Addr} {l : List Slot} {i : Nat} {v : Value} {l' : List Slot} (h : storeL l i v = some l') : storeLocals (cl ρ l) i (conc ρ v) = some (cl ρ l') := by
  unfold storeL at h
  unfold storeLocals
  rw [cl_get]
  split at h
  · cases h
  · rename_i ho
    rw [ho]
    split at h
    · cases h
    · rename_i l1 h1
      have e1 : setAt (cl ρ l) (i - 1) .unset = some (cl ρ l1) := setAt_conc (ρ := ρ) h1
      have e2 := storeSelf_conc (ρ := ρ) h
      simp only [Option.map_some, Option.bind_eq_bind, Option.bind_some, concS, e1]
      exact e2
  · rename_i old ho
    rw [ho]
    simp only [Option.map_some, Option.bind_eq_bind, Option.bind_some, concS, conc_cat]
    split at h
    · rename_i hc
      rw [if_pos hc]
      split at h
      · cases h
      · rename_i l1 h1
        have e1 : setAt (cl ρ l) (i + 1) .unset = some (cl ρ l1) := setAt_conc (ρ := ρ) h1
        rw [e1]
        exact storeSelf_conc (ρ := ρ) h
    · rename_i hc
      rw [if_neg hc]
      exact storeSelf_conc (ρ := ρ) h
  · rename_i ho
    rw [ho]
    exact storeSelf_conc (ρ := ρ) h
theorem storeSelfL_len {l : List Slot} {i : Nat} {v : Value} {l' : List Slot} (h : storeSelfL l i v = some l') : l'.length = l.length := by
  unfold storeSelfL at h
  split at h
  · cases h
  rename_i l1 h1
  have e1 := setL_len h1
  split at h
  · split at h
    · cases h
    · split at h
      · split at h
        · cases h
        · rename_i l2 h2
          rw [setL_len h, setL_len h2, e1]
      · rw [setL_len h, e1]
    · rw [setL_len h, e1]
  · cases h; exact e1
theorem storeL_len {l : List Slot} {i : Nat} {v : Value} {l' : List Slot} (h : storeL l i v = some l') : l'.length = l.length := by
  unfold storeL at h
  split at h
  · cases h
  · split at h
    · cases h
    · rename_i l1 h1
      rw [storeSelfL_len h, setL_len h1]
  · split at h
    · split at h
      · cases h
      · rename_i l1 h1
        rw [storeSelfL_len h, setL_len h1]
    · exact storeSelfL_len h
  · exact storeSelfL_len h
theorem fill_fold (ρ : Nat → Addr) : ∀ (as : List Value) (acc : Array Slot), (as.map (conc ρ)).foldl (fun acc v => if v.category = 2 then (acc.push (Slot.val v)).push .second else acc.push (.val v)) acc = acc ++ ((fillL as).map (concS ρ)).toArray
  | [], acc => by simp [fillL]
  | v :: t, acc => by
    simp only [List.map_cons, List.foldl_cons, conc_cat]
    rw [fill_fold ρ t]
    rw [show fillL (v :: t) = if v.category = 2 then .val v :: .second :: fillL t else .val v :: fillL t from rfl]
    apply Array.ext'
    split
    · simp [concS]
    · simp [concS]
theorem args_conc (ρ : Nat → Addr) (as : List Value) (mx : Nat) : argsToLocals (as.map (conc ρ)).toArray mx = cl ρ (entryL as mx) := by
  unfold argsToLocals
  simp only [List.foldl_toArray, fill_fold ρ as]
  simp [entryL, cl, concS]
theorem entryL_len {as : List Value} {mx : Nat} (h : (fillL as).length ≤ mx) : (entryL as mx).length = mx := by simp [entryL]; omega
theorem meq_eq {z y : MethodName} (h : meq z y = true) : z = y := by
  simp only [meq, Bool.and_eq_true, decide_eq_true_eq] at h
  obtain ⟨h1, h2, h3⟩ := h
  cases z; cases y
  simp only at h1 h2 h3
  subst h1 h2 h3
  rfl
/-! the words -/
theorem fieldLk_mem {own : String} {idx : Nat} {r n d : String} : ∀ {t : List Jvm.Cond}, fieldLk own idx t = some (r, n, d) → Jvm.Cond.fieldLink own idx r n d ∈ t
  | [], h => by simp [fieldLk] at h
  | w :: t, h => by
    unfold fieldLk at h
    split at h
    · rename_i heq; cases heq
    · rename_i heq
      cases heq
      split at h
      · rename_i hc; obtain ⟨rfl, rfl⟩ := hc; cases h; exact List.mem_cons_self
      · exact List.mem_cons_of_mem _ (fieldLk_mem h)
    · rename_i heq; cases heq; exact List.mem_cons_of_mem _ (fieldLk_mem h)
theorem methodLk_mem {own : String} {idx : Nat} {y : MethodName} : ∀ {t : List Jvm.Cond}, methodLk own idx t = some y → Jvm.Cond.methodLink own idx y ∈ t
  | [], h => by simp [methodLk] at h
  | w :: t, h => by
    unfold methodLk at h
    split at h
    · rename_i heq; cases heq
    · rename_i heq
      cases heq
      split at h
      · rename_i hc; obtain ⟨rfl, rfl⟩ := hc; cases h; exact List.mem_cons_self
      · exact List.mem_cons_of_mem _ (methodLk_mem h)
    · rename_i heq; cases heq; exact List.mem_cons_of_mem _ (methodLk_mem h)
theorem classLk_mem {own : String} {idx : Nat} {y : String} : ∀ {t : List Jvm.Cond}, classLk own idx t = some y → Jvm.Cond.classLink own idx y ∈ t
  | [], h => by simp [classLk] at h
  | w :: t, h => by
    unfold classLk at h
    split at h
    · rename_i heq; cases heq
    · rename_i heq
      cases heq
      split at h
      · rename_i hc; obtain ⟨rfl, rfl⟩ := hc; cases h; exact List.mem_cons_self
      · exact List.mem_cons_of_mem _ (classLk_mem h)
    · rename_i heq; cases heq; exact List.mem_cons_of_mem _ (classLk_mem h)
theorem intLk_mem {own : String} {idx : Nat} {y : Int32} : ∀ {t : List Jvm.Cond}, intLk own idx t = some y → Jvm.Cond.constant own idx y ∈ t
  | [], h => by simp [intLk] at h
  | w :: t, h => by
    unfold intLk at h
    split at h
    · rename_i heq; cases heq
    · rename_i heq
      cases heq
      split at h
      · rename_i hc; obtain ⟨rfl, rfl⟩ := hc; cases h; exact List.mem_cons_self
      · exact List.mem_cons_of_mem _ (intLk_mem h)
    · rename_i heq; cases heq; exact List.mem_cons_of_mem _ (intLk_mem h)
theorem longLk_mem {own : String} {idx : Nat} {y : Int64} : ∀ {t : List Jvm.Cond}, longLk own idx t = some y → Jvm.Cond.constantLong own idx y ∈ t
  | [], h => by simp [longLk] at h
  | w :: t, h => by
    unfold longLk at h
    split at h
    · rename_i heq; cases heq
    · rename_i heq
      cases heq
      split at h
      · rename_i hc; obtain ⟨rfl, rfl⟩ := hc; cases h; exact List.mem_cons_self
      · exact List.mem_cons_of_mem _ (longLk_mem h)
    · rename_i heq; cases heq; exact List.mem_cons_of_mem _ (longLk_mem h)
theorem instLk_mem {C : String} {n : Nat} : ∀ {t : List Jvm.Cond}, instLk C t = some n → Jvm.Cond.instantiable C n ∈ t
  | [], h => by simp [instLk] at h
  | w :: t, h => by
    unfold instLk at h
    split at h
    · rename_i heq; cases heq
    · rename_i heq
      cases heq
      split at h
      · rename_i hc; subst hc; cases h; exact List.mem_cons_self
      · exact List.mem_cons_of_mem _ (instLk_mem h)
    · rename_i heq; cases heq; exact List.mem_cons_of_mem _ (instLk_mem h)
theorem codeLk_mem {y : MethodName} {b : ByteArray} {n : Nat} {r : Option FieldType} : ∀ {t : List Jvm.Cond}, codeLk y t = some (b, n, r) → Jvm.Cond.code y b n r ∈ t
  | [], h => by simp [codeLk] at h
  | w :: t, h => by
    unfold codeLk at h
    split at h
    · rename_i heq; cases heq
    · rename_i heq
      cases heq
      split at h
      · rename_i hc; cases meq_eq hc; cases h; exact List.mem_cons_self
      · exact List.mem_cons_of_mem _ (codeLk_mem h)
    · rename_i heq; cases heq; exact List.mem_cons_of_mem _ (codeLk_mem h)
theorem hasInit_mem {y : String} : ∀ {t : List Jvm.Cond}, hasInit y t = true → Jvm.Cond.initialized y ∈ t
  | [], h => by simp [hasInit] at h
  | w :: t, h => by
    unfold hasInit at h
    split at h
    · rename_i heq; cases heq
    · rename_i heq
      cases heq
      split at h
      · rename_i hc; subst hc; exact List.mem_cons_self
      · exact List.mem_cons_of_mem _ (hasInit_mem h)
    · rename_i heq; cases heq; exact List.mem_cons_of_mem _ (hasInit_mem h)
theorem hasInst_mem {y : MethodName} : ∀ {t : List Jvm.Cond}, hasInst y t = true → Jvm.Cond.instanceMethod y ∈ t
  | [], h => by simp [hasInst] at h
  | w :: t, h => by
    unfold hasInst at h
    split at h
    · rename_i heq; cases heq
    · rename_i heq
      cases heq
      split at h
      · rename_i hc; cases meq_eq hc; exact List.mem_cons_self
      · exact List.mem_cons_of_mem _ (hasInst_mem h)
    · rename_i heq; cases heq; exact List.mem_cons_of_mem _ (hasInst_mem h)
theorem hasPriv_mem {y : MethodName} : ∀ {t : List Jvm.Cond}, hasPriv y t = true → Jvm.Cond.privateMethod y ∈ t
  | [], h => by simp [hasPriv] at h
  | w :: t, h => by
    unfold hasPriv at h
    split at h
    · rename_i heq; cases heq
    · rename_i heq
      cases heq
      split at h
      · rename_i hc; cases meq_eq hc; exact List.mem_cons_self
      · exact List.mem_cons_of_mem _ (hasPriv_mem h)
    · rename_i heq; cases heq; exact List.mem_cons_of_mem _ (hasPriv_mem h)
theorem hasStat_mem {y : MethodName} : ∀ {t : List Jvm.Cond}, hasStat y t = true → Jvm.Cond.static y ∈ t
  | [], h => by simp [hasStat] at h
  | w :: t, h => by
    unfold hasStat at h
    split at h
    · rename_i heq; cases heq
    · rename_i heq
      cases heq
      split at h
      · rename_i hc; cases meq_eq hc; exact List.mem_cons_self
      · exact List.mem_cons_of_mem _ (hasStat_mem h)
    · rename_i heq; cases heq; exact List.mem_cons_of_mem _ (hasStat_mem h)
theorem hasDecl_mem {y : MethodName} : ∀ {t : List Jvm.Cond}, hasDecl y t = true → Jvm.Cond.declares y ∈ t
  | [], h => by simp [hasDecl] at h
  | w :: t, h => by
    unfold hasDecl at h
    split at h
    · rename_i heq; cases heq
    · rename_i heq
      cases heq
      split at h
      · rename_i hc; cases meq_eq hc; exact List.mem_cons_self
      · exact List.mem_cons_of_mem _ (hasDecl_mem h)
    · rename_i heq; cases heq; exact List.mem_cons_of_mem _ (hasDecl_mem h)
theorem hasArr_mem {y : FieldType} : ∀ {t : List Jvm.Cond}, hasArr y t = true → Jvm.Cond.arrayClass y ∈ t
  | [], h => by simp [hasArr] at h
  | w :: t, h => by
    unfold hasArr at h
    split at h
    · rename_i heq; cases heq
    · rename_i heq
      cases heq
      split at h
      · rename_i hc; subst hc; exact List.mem_cons_self
      · exact List.mem_cons_of_mem _ (hasArr_mem h)
    · rename_i heq; cases heq; exact List.mem_cons_of_mem _ (hasArr_mem h)
theorem hasSel_mem {y : MethodName} : ∀ {t : List Jvm.Cond}, hasSel y t = true → Jvm.Cond.selects y.cls y y ∈ t
  | [], h => by simp [hasSel] at h
  | w :: t, h => by
    unfold hasSel at h
    split at h
    · rename_i heq; cases heq
    · rename_i heq
      cases heq
      split at h
      · rename_i hc; obtain ⟨c1, c2, rfl⟩ := hc; cases meq_eq c1; cases meq_eq c2; exact List.mem_cons_self
      · exact List.mem_cons_of_mem _ (hasSel_mem h)
    · rename_i heq; cases heq; exact List.mem_cons_of_mem _ (hasSel_mem h)
theorem layGo_spec {C n : String} {k : Nat} {d : String} {fin : Bool} : ∀ {t : List Jvm.Cond} {k0 : Nat}, layGo C n t k0 = some (k, d, fin) → k0 ≤ k ∧ t[k - k0]? = some (if fin = true then Jvm.Cond.laysFinal C C n d else Jvm.Cond.lays C C n d)
  | [], _, h => by simp [layGo] at h
  | w :: t, k0, h => by
    have next : layGo C n t (k0 + 1) = some (k, d, fin) → k0 ≤ k ∧ (w :: t)[k - k0]? = some (if fin = true then Jvm.Cond.laysFinal C C n d else Jvm.Cond.lays C C n d) := fun q => by
      obtain ⟨h1, h2⟩ := layGo_spec q
      refine ⟨by omega, ?_⟩
      have e : k - k0 = (k - (k0 + 1)) + 1 := by omega
      rw [e, List.getElem?_cons_succ]
      exact h2
    unfold layGo at h
    split at h
    · rename_i heq; cases heq
    · rename_i heq
      cases heq
      split at h
      · rename_i hc
        obtain ⟨rfl, rfl, rfl⟩ := hc
        cases h
        exact ⟨Nat.le_refl _, by simp⟩
      · exact next h
    · rename_i heq
      cases heq
      split at h
      · rename_i hc
        obtain ⟨rfl, rfl, rfl⟩ := hc
        cases h
        exact ⟨Nat.le_refl _, by simp⟩
      · exact next h
    · rename_i heq; cases heq; exact next h
theorem layAt_spec {W : List Jvm.Cond} {C n : String} {k : Nat} {d : String} {fin : Bool} (h : layAt W C n = some (k, d, fin)) : W[k]? = some (if fin = true then Jvm.Cond.laysFinal C C n d else Jvm.Cond.lays C C n d) := (layGo_spec h).2
theorem layAt_inj {W : List Jvm.Cond} {C n n' : String} {k : Nat} {d d' : String} {fin fin' : Bool} (h : layAt W C n = some (k, d, fin)) (h' : layAt W C n' = some (k, d', fin')) : n = n' := by
  have e := (layAt_spec h).symm.trans (layAt_spec h')
  cases fin <;> cases fin' <;> simp at e
  · exact e.1
  · exact e.1
theorem layAt_laid {W : List Jvm.Cond} {C n : String} {k : Nat} {d : String} {fin : Bool} {Z : State} {a0 : Array Value} (hw : ∀ d ∈ W, d.before a0 Z = true) (h : layAt W C n = some (k, d, fin)) : Laid Z a0 C C n d := by
  have e := hw _ (List.mem_of_getElem? (layAt_spec h))
  cases fin
  · exact Or.inl e
  · exact Or.inr e
theorem fieldAt_spec {W : List Jvm.Cond} {own : String} {idx : Nat} {C : String} {k kd : Nat} {fin : Bool} (h : fieldAt W own idx = some (C, k, kd, fin)) : ∃ n d, Jvm.Cond.fieldLink own idx C n d ∈ W ∧ layAt W C n = some (k, d, fin) ∧ kd = kindD d ∧ kindD d ≠ 0 := by
  unfold fieldAt at h
  split at h
  · cases h
  · rename_i r n d h1
    split at h
    · cases h
    · rename_i k' d' fin' h2
      split at h
      · rename_i hc
        cases h
        obtain ⟨rfl, hk⟩ := hc
        exact ⟨n, _, fieldLk_mem h1, h2, rfl, hk⟩
      · cases h
theorem kindD_1 {d : String} (h : kindD d = 1) : parseFieldDescriptor d = some .int := by
  unfold kindD at h
  split at h <;> first | assumption | (simp at h)
theorem kindD_2 {d : String} (h : kindD d = 2) : parseFieldDescriptor d = some .boolean := by
  unfold kindD at h
  split at h <;> first | assumption | (simp at h)
theorem kindD_3 {d : String} (h : kindD d = 3) : parseFieldDescriptor d = some .long := by
  unfold kindD at h
  split at h <;> first | assumption | (simp at h)
theorem kindD_4 {d : String} (h : kindD d = 4) : ∃ ty, parseFieldDescriptor d = some ty ∧ (∀ v : Value, narrow ty v = v) ∧ (∀ a, fits ty (.ref a) = true) ∧ defaultValue ty = .null := by
  unfold kindD at h
  split at h
  · simp at h
  · simp at h
  · simp at h
  · rename_i t ht; exact ⟨_, ht, fun _ => rfl, fun _ => rfl, rfl⟩
  · rename_i t ht; exact ⟨_, ht, fun _ => rfl, fun _ => rfl, rfl⟩
  · simp at h
theorem kindD_lt (d : String) : kindD d = 0 ∨ kindD d = 1 ∨ kindD d = 2 ∨ kindD d = 3 ∨ kindD d = 4 := by
  unfold kindD
  split <;> simp
theorem jump_spec {pc : Nat} {o : Int} {t : Nat} (h : jump pc o = some t) : 0 ≤ (pc : Int) + o ∧ ((pc : Int) + o).toNat = t := by
  unfold jump at h
  split at h
  · rename_i n hn
    cases h
    rw [hn]
    exact ⟨Int.natCast_nonneg _, rfl⟩
  · cases h
theorem inb_spec {j : Int32} {n : Nat} (h : inb j n = true) : ¬ (j < 0 ∨ n ≤ j.toNatClampNeg) := by
  simp only [inb, Bool.and_eq_true, decide_eq_true_eq] at h
  rintro (q | q)
  · exact h.1 q
  · omega
end Jvm.OwnEv
namespace Jvm.OwnEv
open Sem ClassFile Op Lib Jvm.Stand Jvm.Free Jvm.LawKit Jvm.RoadKit
/-! PART 3: the memory and the heap -/
def RelC (Z : State) (W : List Jvm.Cond) (ρ : Nat → Addr) (h : Heap) (mi : Nat → Nat → Int32) (ml : Nat → Nat → Int64) (mr : Nat → Nat → Value) (a : Nat) (c : Nat × String × Nat) : Prop :=
  (c.1 = 0 → Exa Z h (ρ a) c.2.1 ∧ ∀ n k d fin, layAt W c.2.1 n = some (k, d, fin) → kindD d ≠ 0 → Fld Z h (ρ a) c.2.1 n d (conc ρ (getV (kindD d) (mi a k) (ml a k) (mr a k)))) ∧
  (c.1 = 1 → ∃ cell : Cell, Arr Z h (ρ a) cell .int ∧ cell.slots.size = c.2.2 ∧ ∀ k, k < c.2.2 → cell.slots[k]? = some (.int (mi a k))) ∧
  (c.1 = 2 → ∃ cell : Cell, Arr Z h (ρ a) cell .long ∧ cell.slots.size = c.2.2 ∧ ∀ k, k < c.2.2 → cell.slots[k]? = some (.long (ml a k))) ∧
  (c.1 = 3 → ∃ cell : Cell, Arr Z h (ρ a) cell .boolean ∧ cell.slots.size = c.2.2 ∧ ∀ k, k < c.2.2 → cell.slots[k]? = some (.int (mi a k)))
def Rel (Z : State) (W : List Jvm.Cond) (ρ : Nat → Addr) (ro n0 : Nat) (h : Heap) (M : EMem) : Prop :=
  h.size = n0 + (M.1.length - ro) ∧ ro ≤ M.1.length ∧ (∀ a c, M.1[a]? = some c → RelC Z W ρ h M.2.1 M.2.2.1 M.2.2.2 a c) ∧
  (∀ a, M.1.length ≤ a → ∀ k, M.2.1 a k = 0 ∧ M.2.2.1 a k = 0 ∧ M.2.2.2 a k = .null)
section R
variable {Z : State} {W : List Jvm.Cond} {ρ : Nat → Addr} {h h' : Heap} {mi mi' : Nat → Nat → Int32} {ml ml' : Nat → Nat → Int64} {mr mr' : Nat → Nat → Value} {a b : Nat} {c : Nat × String × Nat} {a0 : Array Value}
theorem RelC.mono (hE : ∀ C, Exa Z h (ρ a) C → Exa Z h' (ρ a) C) (hF : ∀ C n d v, Fld Z h (ρ a) C n d v → Fld Z h' (ρ a) C n d v) (hA : ∀ cell ty, Arr Z h (ρ a) cell ty → Arr Z h' (ρ a) cell ty)
    (hi : ∀ k, mi' a k = mi a k) (hl : ∀ k, ml' a k = ml a k) (hr : ∀ k, mr' a k = mr a k) (X : RelC Z W ρ h mi ml mr a c) : RelC Z W ρ h' mi' ml' mr' a c := by
  obtain ⟨x0, x1, x2, x3⟩ := X
  refine ⟨fun q => ?_, fun q => ?_, fun q => ?_, fun q => ?_⟩
  · obtain ⟨e1, e2⟩ := x0 q
    exact ⟨hE _ e1, fun n k d fin e3 e4 => by rw [hi, hl, hr]; exact hF _ _ _ _ (e2 n k d fin e3 e4)⟩
  · obtain ⟨cell, e1, e2, e3⟩ := x1 q
    exact ⟨cell, hA _ _ e1, e2, fun k hk => by rw [hi]; exact e3 k hk⟩
  · obtain ⟨cell, e1, e2, e3⟩ := x2 q
    exact ⟨cell, hA _ _ e1, e2, fun k hk => by rw [hl]; exact e3 k hk⟩
  · obtain ⟨cell, e1, e2, e3⟩ := x3 q
    exact ⟨cell, hA _ _ e1, e2, fun k hk => by rw [hi]; exact e3 k hk⟩
theorem up_ne {α : Type} {f : Nat → Nat → α} {a k : Nat} {v : α} {x : Nat} (h : x ≠ a) (y : Nat) : up f a k v x y = f x y := by simp [up, h]
theorem up_eq {α : Type} {f : Nat → Nat → α} {a k : Nat} {v : α} : up f a k v a k = v := by simp [up]
theorem up_ne' {α : Type} {f : Nat → Nat → α} {a k : Nat} {v : α} {y : Nat} (h : y ≠ k) (x : Nat) : up f a k v x y = f x y := by simp [up, h]
theorem RelC.other {sl : Nat} {v : Value} (w : Wr h h' (ρ b) sl v) (ne : ρ a ≠ ρ b) (hi : ∀ k, mi' a k = mi a k) (hl : ∀ k, ml' a k = ml a k) (hr : ∀ k, mr' a k = mr a k) (X : RelC Z W ρ h mi ml mr a c) : RelC Z W ρ h' mi' ml' mr' a c :=
  X.mono (fun _ q => q.wr w) (fun _ _ _ _ q => q.other w (Or.inl ne)) (fun _ _ q => q.other w ne) hi hl hr
theorem RelC.ext (E : Ext h h') (X : RelC Z W ρ h mi ml mr a c) : RelC Z W ρ h' mi ml mr a c :=
  X.mono (fun _ q => q.ext E) (fun _ _ _ _ q => q.ext E) (fun _ _ q => q.ext E) (fun _ => rfl) (fun _ => rfl) (fun _ => rfl)
/-- a field is written -/
theorem RelC.put (hw : ∀ d ∈ W, d.before a0 Z = true) {C n d : String} {k : Nat} {fin : Bool} {u : Nat} {v : Value} (hla : layAt W C n = some (k, d, fin)) (hk0 : kindD d ≠ 0) (w : Wr h h' (ρ a) (Jvm.RoadKit.slotOf Z C n d) v)
    (hv : conc ρ (getV (kindD d) (mi' a k) (ml' a k) (mr' a k)) = v)
    (hi : ∀ j, j ≠ k → mi' a j = mi a j) (hl : ∀ j, j ≠ k → ml' a j = ml a j) (hr : ∀ j, j ≠ k → mr' a j = mr a j) (X : RelC Z W ρ h mi ml mr a (0, C, u)) : RelC Z W ρ h' mi' ml' mr' a (0, C, u) := by
  obtain ⟨x0, -⟩ := X
  refine ⟨fun q => ?_, fun q => (by cases q), fun q => (by cases q), fun q => (by cases q)⟩
  obtain ⟨e1, e2⟩ := x0 q
  refine ⟨e1.wr w, fun n' k' d' fin' e3 e4 => ?_⟩
  by_cases hn : n' = n
  · subst hn
    cases hla.symm.trans e3
    rw [hv]
    exact Fld.same w (e2 _ _ _ _ e3 e4)
  · have hk : k' ≠ k := fun q => by subst q; exact hn (layAt_inj e3 hla)
    rw [hi _ hk, hl _ hk, hr _ hk]
    have pd : ∀ {x : String}, kindD x ≠ 0 → ∃ t, parseFieldDescriptor x = some t := fun {x} q => by
      rcases kindD_lt x with z | z | z | z | z
      · exact absurd z q
      · exact ⟨_, kindD_1 z⟩
      · exact ⟨_, kindD_2 z⟩
      · exact ⟨_, kindD_3 z⟩
      · obtain ⟨t, ht, -⟩ := kindD_4 z; exact ⟨t, ht⟩
    obtain ⟨t1, ht1⟩ := pd e4
    obtain ⟨t2, ht2⟩ := pd hk0
    exact (e2 _ _ _ _ e3 e4).other w (Or.inr (slot_ne (layAt_laid hw e3) (layAt_laid hw hla) hn ht1 ht2))
theorem get_set {cell : Cell} {j k n : Nat} {v : Value} (hs : cell.slots.size = n) (hk : k < n) : (cell.setSlot j v).slots[k]? = if j = k then some v else cell.slots[k]? := by
  by_cases e : j = k
  · subst e
    simp [Cell.setSlot, hs, hk]
  · rw [if_neg e]
    exact Array.getElem?_setIfInBounds_ne e
theorem RelC.st1 {n : Nat} {u : String} {j : Nat} {x : Int32} (w : Wr h h' (ρ a) j (.int x)) (X : RelC Z W ρ h mi ml mr a (1, u, n)) : RelC Z W ρ h' (up mi a j x) ml mr a (1, u, n) := by
  obtain ⟨-, x1, -⟩ := X
  refine ⟨fun q => (by cases q), fun q => ?_, fun q => (by cases q), fun q => (by cases q)⟩
  obtain ⟨cell, e1, e2, e3⟩ := x1 q
  refine ⟨_, e1.same w, (sz_set _ _ _).trans e2, fun k hk => ?_⟩
  rw [get_set e2 hk]
  by_cases e : j = k
  · subst e; simp [up]
  · rw [if_neg e, e3 k hk]; simp [up, Ne.symm e]
theorem RelC.st3 {n : Nat} {u : String} {j : Nat} {x : Int32} (w : Wr h h' (ρ a) j (.int x)) (X : RelC Z W ρ h mi ml mr a (3, u, n)) : RelC Z W ρ h' (up mi a j x) ml mr a (3, u, n) := by
  obtain ⟨-, -, -, x1⟩ := X
  refine ⟨fun q => (by cases q), fun q => (by cases q), fun q => (by cases q), fun q => ?_⟩
  obtain ⟨cell, e1, e2, e3⟩ := x1 q
  refine ⟨_, e1.same w, (sz_set _ _ _).trans e2, fun k hk => ?_⟩
  rw [get_set e2 hk]
  by_cases e : j = k
  · subst e; simp [up]
  · rw [if_neg e, e3 k hk]; simp [up, Ne.symm e]
theorem RelC.st2 {n : Nat} {u : String} {j : Nat} {x : Int64} (w : Wr h h' (ρ a) j (.long x)) (X : RelC Z W ρ h mi ml mr a (2, u, n)) : RelC Z W ρ h' mi (up ml a j x) mr a (2, u, n) := by
  obtain ⟨-, -, x1, -⟩ := X
  refine ⟨fun q => (by cases q), fun q => (by cases q), fun q => ?_, fun q => (by cases q)⟩
  obtain ⟨cell, e1, e2, e3⟩ := x1 q
  refine ⟨_, e1.same w, (sz_set _ _ _).trans e2, fun k hk => ?_⟩
  rw [get_set e2 hk]
  by_cases e : j = k
  · subst e; simp [up]
  · rw [if_neg e, e3 k hk]; simp [up, Ne.symm e]
/-- one cell is written, the others stay -/
theorem Rel.write {ro n0 : Nat} {L : ELay} {sl : Nat} {v : Value} (hρ : ∀ a b, ρ a = ρ b → a = b) (w : Wr h h' (ρ a) sl v) (hc : L[a]? = some c)
    (hi : ∀ x, x ≠ a → ∀ k, mi' x k = mi x k) (hl : ∀ x, x ≠ a → ∀ k, ml' x k = ml x k) (hr : ∀ x, x ≠ a → ∀ k, mr' x k = mr x k)
    (self : RelC Z W ρ h mi ml mr a c → RelC Z W ρ h' mi' ml' mr' a c) (X : Rel Z W ρ ro n0 h (L, mi, ml, mr)) : Rel Z W ρ ro n0 h' (L, mi', ml', mr') := by
  obtain ⟨x1, x2, x3, x4⟩ := X
  have hlt : a < L.length := (List.getElem?_eq_some_iff.mp hc).1
  refine ⟨by rw [w.size]; exact x1, x2, fun b cb hb => ?_, fun b hb k => ?_⟩
  · by_cases e : b = a
    · subst e
      cases hc.symm.trans hb
      exact self (x3 _ _ hc)
    · exact (x3 b cb hb).other w (fun q => e (hρ _ _ q)) (hi b e) (hl b e) (hr b e)
  · have e : b ≠ a := fun q => by
      have hb' : L.length ≤ b := hb
      omega
    obtain ⟨y1, y2, y3⟩ := x4 b hb k
    exact ⟨(hi b e k).trans y1, (hl b e k).trans y2, (hr b e k).trans y3⟩
/-- one cell more -/
theorem Rel.push {ro n0 : Nat} {L : ELay} (E : Ext h h') (hsz : h'.size = h.size + 1) (new : RelC Z W ρ h' mi ml mr L.length c) (X : Rel Z W ρ ro n0 h (L, mi, ml, mr)) : Rel Z W ρ ro n0 h' (L ++ [c], mi, ml, mr) := by
  obtain ⟨x1, x2, x3, x4⟩ := X
  have x2' : ro ≤ L.length := x2
  have x1' : h.size = n0 + (L.length - ro) := x1
  refine ⟨?_, ?_, fun b cb hb => ?_, fun b hb k => ?_⟩
  · show h'.size = n0 + ((L ++ [c]).length - ro)
    rw [hsz, x1', List.length_append]
    simp; omega
  · show ro ≤ (L ++ [c]).length
    rw [List.length_append]; omega
  · have hb' : (L ++ [c])[b]? = some cb := hb
    by_cases e : b < L.length
    · rw [List.getElem?_append_left e] at hb'
      exact (x3 b cb hb').ext E
    · have hlt := (List.getElem?_eq_some_iff.mp hb').1
      rw [List.length_append] at hlt
      have : b = L.length := by simp at hlt; omega
      subst this
      simp at hb'
      subst hb'
      exact new
  · have hb' : (L ++ [c]).length ≤ b := hb
    rw [List.length_append] at hb'
    exact x4 b (by show L.length ≤ b; omega) k
end R
end Jvm.OwnEv
namespace Jvm.OwnEv
open Sem ClassFile Op Lib Jvm.Stand Jvm.Free Jvm.LawKit Jvm.RoadKit
/-! PART 4: the evaluator's plain steps are steps of the model -/
def Here (p : Program) (l : Launch) (e : Env) (R : Room) (s : State) (m : MethodId) (args : Array Value) (below : List Frame) (meth : Method) (c : Code) (Z : State) (W : List Jvm.Cond) (ρ : Nat → Addr) (ro n0 : Nat) (L0 : ELay) (T : State) (M : EMem) : Prop :=
  ∃ locs, Stand p l e R s m args below meth c T locs (M.1.length - L0.length) (szL M.1 - szL L0) ∧ Fr n0 locs ∧ Rel Z W ρ ro n0 T.heap M
theorem objInitAt_spec {W : List Jvm.Cond} {own : String} {idx : Nat} (h : objInitAt W own idx = true) : Jvm.Cond.methodLink own idx Lib.objectInit ∈ W ∧ Jvm.Cond.instanceMethod Lib.objectInit ∈ W ∧ Jvm.Cond.code Lib.objectInit ⟨#[0xb1]⟩ 1 none ∈ W := by
  unfold objInitAt at h
  split at h
  · rename_i z b n r h1 h2
    simp only [Bool.and_eq_true, decide_eq_true_eq] at h
    obtain ⟨⟨⟨⟨rfl, h3⟩, rfl⟩, rfl⟩, rfl⟩ := h
    exact ⟨methodLk_mem h1, hasInst_mem h3, codeLk_mem h2⟩
  · cases h
section S
variable {p : Program} {l : Launch} {e : Env} {R : Room} {s : State} {m : MethodId} {args : Array Value} {below : List Frame} {meth : Method} {c : Code} {Z : State} {a0 : Array Value} {W : List Jvm.Cond} {ρ : Nat → Addr} {ro n0 : Nat} {L0 : ELay} {y : MethodName} {T : State} {M : EMem}
set_option maxRecDepth 65536 in
set_option maxHeartbeats 40000000 in
theorem execP_sound (H : Here p l e R s m args below meth c Z W ρ ro n0 L0 T M) (hx : p.tables.exec = Jvm.exec) (hZ : Z.Warmed39 s.vm) (hw : ∀ d ∈ W, d.before a0 Z = true) (hown : s.vm.findClass y.cls = some m.cls) {F Lb : Nat} (hF : F ≤ R.frames) (hLb : Lb ≤ R.locals)
    {ls ls' : List Slot} {st st' : List Value} {ins : Instr} {pc pc' len : Nat} (hsz : ls.length = c.maxLocals) (hd : decode c.code pc = .ok (ins, len)) (hl : lenOk len ins = true) (h : execP W F Lb y ins pc len ls st M = some (pc', ls', st')) :
    ls'.length = ls.length ∧ ∃ T', Here p l e R s m args below meth c Z W ρ ro n0 L0 T' M ∧ ∀ target, Steps p.tables e below (T'.setTop (mkF m pc' (cl ρ ls') (cs ρ st'))) target → Steps p.tables e below (T.setTop (mkF m pc (cl ρ ls) (cs ρ st))) target := by
  obtain ⟨locs, X, N, Rl⟩ := H
  have A := X.here
  unfold execP at h
  split at h
  · rename_i k
    obtain rfl : len = 2 := by simpa [lenOk] using hl
    split at h
    · rename_i a ha; cases h; exact ⟨rfl, T, ⟨locs, X, N, Rl⟩, fun t k => XS.aload A hx rfl hd (get_cl ha) rfl k⟩
    · rename_i ha; cases h; exact ⟨rfl, T, ⟨locs, X, N, Rl⟩, fun t k => XS.aload A hx rfl hd (get_cl ha) rfl k⟩
    · cases h
  · rename_i k
    obtain rfl : len = 1 := by simpa [lenOk] using hl
    split at h
    · rename_i a ha; cases h; exact ⟨rfl, T, ⟨locs, X, N, Rl⟩, fun t k => XS.aloadN A hx rfl hd (get_cl ha) rfl k⟩
    · rename_i ha; cases h; exact ⟨rfl, T, ⟨locs, X, N, Rl⟩, fun t k => XS.aloadN A hx rfl hd (get_cl ha) rfl k⟩
    · cases h
  · rename_i k
    obtain rfl : len = 2 := by simpa [lenOk] using hl
    split at h
    · rename_i a ha; cases h; exact ⟨rfl, T, ⟨locs, X, N, Rl⟩, fun t k => XS.iload A hx rfl hd (get_cl ha) k⟩
    · cases h
  · rename_i k
    obtain rfl : len = 1 := by simpa [lenOk] using hl
    split at h
    · rename_i a ha; cases h; exact ⟨rfl, T, ⟨locs, X, N, Rl⟩, fun t k => XS.iloadN A hx rfl hd (get_cl ha) k⟩
    · cases h
  · rename_i k
    obtain rfl : len = 2 := by simpa [lenOk] using hl
    split at h
    · rename_i a ha; cases h; exact ⟨rfl, T, ⟨locs, X, N, Rl⟩, fun t k => XT.lload A hx rfl hd (get_cl ha) k⟩
    · cases h
  · rename_i k
    obtain rfl : len = 1 := by simpa [lenOk] using hl
    split at h
    · rename_i a ha; cases h; exact ⟨rfl, T, ⟨locs, X, N, Rl⟩, fun t k => XT.lloadN A hx rfl hd (get_cl ha) k⟩
    · cases h
  · rename_i k
    obtain rfl : len = 2 := by simpa [lenOk] using hl
    split at h
    · split at h
      · rename_i l' hs; cases h; exact ⟨storeL_len hs, T, ⟨locs, X, N, Rl⟩, fun t k => XS.istore A hx rfl hd rfl (storeL_conc (ρ := ρ) hs) k⟩
      · cases h
    · cases h
  · rename_i k
    obtain rfl : len = 1 := by simpa [lenOk] using hl
    split at h
    · split at h
      · rename_i l' hs; cases h; exact ⟨storeL_len hs, T, ⟨locs, X, N, Rl⟩, fun t k => XS.istoreN A hx rfl hd rfl (storeL_conc (ρ := ρ) hs) k⟩
      · cases h
    · cases h
  · rename_i k
    obtain rfl : len = 2 := by simpa [lenOk] using hl
    split at h
    · split at h
      · rename_i l' hs; cases h; exact ⟨storeL_len hs, T, ⟨locs, X, N, Rl⟩, fun t k => XT.lstore A hx rfl hd rfl (storeL_conc (ρ := ρ) hs) k⟩
      · cases h
    · cases h
  · rename_i k
    obtain rfl : len = 1 := by simpa [lenOk] using hl
    split at h
    · split at h
      · rename_i l' hs; cases h; exact ⟨storeL_len hs, T, ⟨locs, X, N, Rl⟩, fun t k => XT.lstoreN A hx rfl hd rfl (storeL_conc (ρ := ρ) hs) k⟩
      · cases h
    · cases h
  · rename_i k
    obtain rfl : len = 2 := by simpa [lenOk] using hl
    split at h
    · split at h
      · rename_i l' hs; cases h; exact ⟨storeL_len hs, T, ⟨locs, X, N, Rl⟩, fun t k => XS.astore A hx rfl hd rfl rfl (storeL_conc (ρ := ρ) hs) k⟩
      · cases h
    · cases h
  · rename_i k
    obtain rfl : len = 1 := by simpa [lenOk] using hl
    split at h
    · split at h
      · rename_i l' hs; cases h; exact ⟨storeL_len hs, T, ⟨locs, X, N, Rl⟩, fun t k => XS.astoreN A hx rfl hd rfl rfl (storeL_conc (ρ := ρ) hs) k⟩
      · cases h
    · cases h
  · rename_i k d
    obtain rfl : len = 3 := by simpa [lenOk] using hl
    split at h
    · rename_i v ha; split at h
      · rename_i l' hs; cases h; exact ⟨storeL_len hs, T, ⟨locs, X, N, Rl⟩, fun t k => XS.iinc A hx rfl hd (get_cl ha) (storeL_conc (ρ := ρ) hs) k⟩
      · cases h
    · cases h
  · rename_i i
    obtain rfl : len = 1 := by simpa [lenOk] using hl
    cases h; exact ⟨rfl, T, ⟨locs, X, N, Rl⟩, fun t k => XS.iconst A hx rfl hd k⟩
  · rename_i i
    obtain rfl : len = 2 := by simpa [lenOk] using hl
    cases h; exact ⟨rfl, T, ⟨locs, X, N, Rl⟩, fun t k => XS.bipush A hx rfl hd k⟩
  · rename_i i
    obtain rfl : len = 3 := by simpa [lenOk] using hl
    cases h; exact ⟨rfl, T, ⟨locs, X, N, Rl⟩, fun t k => XS.sipush A hx rfl hd k⟩
  · rename_i i
    obtain rfl : len = 1 := by simpa [lenOk] using hl
    cases h; exact ⟨rfl, T, ⟨locs, X, N, Rl⟩, fun t k => XT.lconst A hx rfl hd k⟩
  · rename_i i
    obtain rfl : len = 2 := by simpa [lenOk] using hl
    split at h
    · rename_i v hv; cases h; exact ⟨rfl, T, ⟨locs, X, N, Rl⟩, fun t k => X.ldcInt hx hown (mvT hZ (hw _ (intLk_mem hv))) (g := mkF m pc (cl ρ ls) (cs ρ st)) rfl hd t k⟩
    · cases h
  · rename_i i
    obtain rfl : len = 3 := by simpa [lenOk] using hl
    split at h
    · rename_i v hv; cases h; exact ⟨rfl, T, ⟨locs, X, N, Rl⟩, fun t k => X.ldcwInt hx hown (mvT hZ (hw _ (intLk_mem hv))) (g := mkF m pc (cl ρ ls) (cs ρ st)) rfl hd t k⟩
    · cases h
  · rename_i i
    obtain rfl : len = 3 := by simpa [lenOk] using hl
    split at h
    · rename_i v hv; cases h; exact ⟨rfl, T, ⟨locs, X, N, Rl⟩, fun t k => X.ldc2Long hx hown (mvT hZ (hw _ (longLk_mem hv))) (g := mkF m pc (cl ρ ls) (cs ρ st)) rfl hd t k⟩
    · cases h
  · obtain rfl : len = 1 := by simpa [lenOk] using hl
    split at h
    · cases h; exact ⟨rfl, T, ⟨locs, X, N, Rl⟩, fun t k => XS.iadd A hx rfl hd rfl k⟩
    · cases h
  · obtain rfl : len = 1 := by simpa [lenOk] using hl
    split at h
    · cases h; exact ⟨rfl, T, ⟨locs, X, N, Rl⟩, fun t k => XS.isub A hx rfl hd rfl k⟩
    · cases h
  · obtain rfl : len = 1 := by simpa [lenOk] using hl
    split at h
    · cases h; exact ⟨rfl, T, ⟨locs, X, N, Rl⟩, fun t k => XS.imul A hx rfl hd rfl k⟩
    · cases h
  · obtain rfl : len = 1 := by simpa [lenOk] using hl
    split at h
    · cases h; exact ⟨rfl, T, ⟨locs, X, N, Rl⟩, fun t k => XS.iand A hx rfl hd rfl k⟩
    · cases h
  · obtain rfl : len = 1 := by simpa [lenOk] using hl
    split at h
    · cases h; exact ⟨rfl, T, ⟨locs, X, N, Rl⟩, fun t k => XT.ior A hx rfl hd rfl k⟩
    · cases h
  · obtain rfl : len = 1 := by simpa [lenOk] using hl
    split at h
    · cases h; exact ⟨rfl, T, ⟨locs, X, N, Rl⟩, fun t k => XT.ixor A hx rfl hd rfl k⟩
    · cases h
  · obtain rfl : len = 1 := by simpa [lenOk] using hl
    split at h
    · cases h; exact ⟨rfl, T, ⟨locs, X, N, Rl⟩, fun t k => XT.ishl A hx rfl hd rfl k⟩
    · cases h
  · obtain rfl : len = 1 := by simpa [lenOk] using hl
    split at h
    · cases h; exact ⟨rfl, T, ⟨locs, X, N, Rl⟩, fun t k => XT.ishr A hx rfl hd rfl k⟩
    · cases h
  · obtain rfl : len = 1 := by simpa [lenOk] using hl
    split at h
    · cases h; exact ⟨rfl, T, ⟨locs, X, N, Rl⟩, fun t k => XT.iushr A hx rfl hd rfl k⟩
    · cases h
  · obtain rfl : len = 1 := by simpa [lenOk] using hl
    split at h
    · split at h
      · cases h
      · rename_i hb; cases h; exact ⟨rfl, T, ⟨locs, X, N, Rl⟩, fun t k => XS.idiv A hx rfl hd rfl hb k⟩
    · cases h
  · obtain rfl : len = 1 := by simpa [lenOk] using hl
    split at h
    · split at h
      · cases h
      · rename_i hb; cases h; exact ⟨rfl, T, ⟨locs, X, N, Rl⟩, fun t k => XS.irem A hx rfl hd rfl hb k⟩
    · cases h
  · obtain rfl : len = 1 := by simpa [lenOk] using hl
    split at h
    · cases h; exact ⟨rfl, T, ⟨locs, X, N, Rl⟩, fun t k => XS.ineg A hx rfl hd rfl k⟩
    · cases h
  · obtain rfl : len = 1 := by simpa [lenOk] using hl
    split at h
    · cases h; exact ⟨rfl, T, ⟨locs, X, N, Rl⟩, fun t k => XT.ladd A hx rfl hd rfl k⟩
    · cases h
  · obtain rfl : len = 1 := by simpa [lenOk] using hl
    split at h
    · cases h; exact ⟨rfl, T, ⟨locs, X, N, Rl⟩, fun t k => XT.lsub A hx rfl hd rfl k⟩
    · cases h
  · obtain rfl : len = 1 := by simpa [lenOk] using hl
    split at h
    · cases h; exact ⟨rfl, T, ⟨locs, X, N, Rl⟩, fun t k => XT.lmul A hx rfl hd rfl k⟩
    · cases h
  · obtain rfl : len = 1 := by simpa [lenOk] using hl
    split at h
    · cases h; exact ⟨rfl, T, ⟨locs, X, N, Rl⟩, fun t k => XT.land A hx rfl hd rfl k⟩
    · cases h
  · obtain rfl : len = 1 := by simpa [lenOk] using hl
    split at h
    · cases h; exact ⟨rfl, T, ⟨locs, X, N, Rl⟩, fun t k => XT.lor A hx rfl hd rfl k⟩
    · cases h
  · obtain rfl : len = 1 := by simpa [lenOk] using hl
    split at h
    · cases h; exact ⟨rfl, T, ⟨locs, X, N, Rl⟩, fun t k => XT.lxor A hx rfl hd rfl k⟩
    · cases h
  · obtain rfl : len = 1 := by simpa [lenOk] using hl
    split at h
    · cases h; exact ⟨rfl, T, ⟨locs, X, N, Rl⟩, fun t k => XT.lshl A hx rfl hd rfl k⟩
    · cases h
  · obtain rfl : len = 1 := by simpa [lenOk] using hl
    split at h
    · cases h; exact ⟨rfl, T, ⟨locs, X, N, Rl⟩, fun t k => XT.lshr A hx rfl hd rfl k⟩
    · cases h
  · obtain rfl : len = 1 := by simpa [lenOk] using hl
    split at h
    · cases h; exact ⟨rfl, T, ⟨locs, X, N, Rl⟩, fun t k => XT.lushr A hx rfl hd rfl k⟩
    · cases h
  · obtain rfl : len = 1 := by simpa [lenOk] using hl
    split at h
    · split at h
      · cases h
      · rename_i hb; cases h; exact ⟨rfl, T, ⟨locs, X, N, Rl⟩, fun t k => XT.ldiv A hx rfl hd rfl hb k⟩
    · cases h
  · obtain rfl : len = 1 := by simpa [lenOk] using hl
    split at h
    · split at h
      · cases h
      · rename_i hb; cases h; exact ⟨rfl, T, ⟨locs, X, N, Rl⟩, fun t k => XT.lrem A hx rfl hd rfl hb k⟩
    · cases h
  · obtain rfl : len = 1 := by simpa [lenOk] using hl
    split at h
    · cases h; exact ⟨rfl, T, ⟨locs, X, N, Rl⟩, fun t k => XT.lneg A hx rfl hd rfl k⟩
    · cases h
  · obtain rfl : len = 1 := by simpa [lenOk] using hl
    split at h
    · cases h; exact ⟨rfl, T, ⟨locs, X, N, Rl⟩, fun t k => XT.lcmp A hx rfl hd rfl k⟩
    · cases h
  · obtain rfl : len = 1 := by simpa [lenOk] using hl
    split at h
    · cases h; exact ⟨rfl, T, ⟨locs, X, N, Rl⟩, fun t k => XT.i2l A hx rfl hd rfl k⟩
    · cases h
  · obtain rfl : len = 1 := by simpa [lenOk] using hl
    split at h
    · cases h; exact ⟨rfl, T, ⟨locs, X, N, Rl⟩, fun t k => XT.l2i A hx rfl hd rfl k⟩
    · cases h
  · obtain rfl : len = 1 := by simpa [lenOk] using hl
    split at h
    · cases h; exact ⟨rfl, T, ⟨locs, X, N, Rl⟩, fun t k => XT.i2s A hx rfl hd rfl k⟩
    · cases h
  · obtain rfl : len = 1 := by simpa [lenOk] using hl
    split at h
    · cases h; exact ⟨rfl, T, ⟨locs, X, N, Rl⟩, fun t k => XS.dup A hx rfl hd rfl rfl k⟩
    · cases h; exact ⟨rfl, T, ⟨locs, X, N, Rl⟩, fun t k => XS.dup A hx rfl hd rfl rfl k⟩
    · cases h
  · obtain rfl : len = 1 := by simpa [lenOk] using hl
    split at h
    · cases h; exact ⟨rfl, T, ⟨locs, X, N, Rl⟩, fun t k => XT.dup2 A hx rfl hd rfl rfl rfl k⟩
    · cases h; exact ⟨rfl, T, ⟨locs, X, N, Rl⟩, fun t k => XT.dup2 A hx rfl hd rfl rfl rfl k⟩
    · cases h; exact ⟨rfl, T, ⟨locs, X, N, Rl⟩, fun t k => XT.dup2L A hx rfl hd rfl k⟩
    · cases h
  · obtain rfl : len = 1 := by simpa [lenOk] using hl
    split at h
    · cases h; exact ⟨rfl, T, ⟨locs, X, N, Rl⟩, fun t k => XT.dupX1 A hx rfl hd rfl rfl rfl k⟩
    · cases h
  · obtain rfl : len = 1 := by simpa [lenOk] using hl
    split at h
    · cases h; exact ⟨rfl, T, ⟨locs, X, N, Rl⟩, fun t k => XT.pop A hx rfl hd rfl rfl k⟩
    · cases h; exact ⟨rfl, T, ⟨locs, X, N, Rl⟩, fun t k => XT.pop A hx rfl hd rfl rfl k⟩
    · cases h
  · rename_i o
    obtain rfl : len = 3 := by simpa [lenOk] using hl
    split at h
    · rename_i t ht; cases h; obtain ⟨j1, j2⟩ := jump_spec ht
      exact ⟨rfl, T, ⟨locs, X, N, Rl⟩, fun t k => XS.goto A hx rfl rfl hd j1 j2 k⟩
    · cases h
  · rename_i cd o
    obtain rfl : len = 3 := by simpa [lenOk] using hl
    split at h
    · rename_i a r
      split at h
      · rename_i t ht; cases h; obtain ⟨j1, j2⟩ := jump_spec ht
        refine ⟨rfl, T, ⟨locs, X, N, Rl⟩, fun t k => ?_⟩
        cases hb : ifCond.holds cd a with
        | true => rw [hb, if_pos rfl] at k; exact XS.ifYes A hx rfl rfl hd rfl hb j1 j2 k
        | false => rw [hb, if_neg Bool.false_ne_true] at k; exact XS.ifNo A hx rfl hd rfl hb k
      · cases h
    · cases h
  · rename_i cd o
    obtain rfl : len = 3 := by simpa [lenOk] using hl
    split at h
    · rename_i b a r
      split at h
      · rename_i t ht; cases h; obtain ⟨j1, j2⟩ := jump_spec ht
        refine ⟨rfl, T, ⟨locs, X, N, Rl⟩, fun t k => ?_⟩
        cases hb : if_icmp.holds cd a b with
        | true => rw [hb, if_pos rfl] at k; exact XS.icmpYes A hx rfl rfl hd rfl hb j1 j2 k
        | false => rw [hb, if_neg Bool.false_ne_true] at k; exact XS.icmpNo A hx rfl hd rfl hb k
      · cases h
    · cases h
  · rename_i o
    obtain rfl : len = 3 := by simpa [lenOk] using hl
    split at h
    · split at h
      · rename_i t ht; cases h; obtain ⟨j1, j2⟩ := jump_spec ht
        exact ⟨rfl, T, ⟨locs, X, N, Rl⟩, fun t k => XS.ifnullYes A hx rfl rfl hd rfl j1 j2 k⟩
      · cases h
    · cases h; exact ⟨rfl, T, ⟨locs, X, N, Rl⟩, fun t k => XS.ifnullNo A hx rfl hd rfl k⟩
    · cases h
  · rename_i o
    obtain rfl : len = 3 := by simpa [lenOk] using hl
    split at h
    · split at h
      · rename_i t ht; cases h; obtain ⟨j1, j2⟩ := jump_spec ht
        exact ⟨rfl, T, ⟨locs, X, N, Rl⟩, fun t k => XT.ifnonnullYes A hx rfl rfl hd rfl j1 j2 k⟩
      · cases h
    · cases h; exact ⟨rfl, T, ⟨locs, X, N, Rl⟩, fun t k => XT.ifnonnullNo A hx rfl hd rfl k⟩
    · cases h
  · rename_i dflt low high offs
    split at h
    · split at h
      · rename_i hout; split at h
        · rename_i t ht; cases h; obtain ⟨j1, j2⟩ := jump_spec ht
          exact ⟨rfl, T, ⟨locs, X, N, Rl⟩, fun t k => XS.tswOut A hx rfl rfl hd rfl hout j1 j2 k⟩
        · cases h
      · rename_i hin; split at h
        · cases h
        · rename_i off hoff; split at h
          · rename_i t ht; cases h; obtain ⟨j1, j2⟩ := jump_spec ht
            exact ⟨rfl, T, ⟨locs, X, N, Rl⟩, fun t k => XS.tswIn A hx rfl rfl hd rfl hin hoff j1 j2 k⟩
          · cases h
    · cases h
  · rename_i idx
    obtain rfl : len = 3 := by simpa [lenOk] using hl
    split at h
    · rename_i a r; split at h
      · rename_i C k kd fin C' u hf hc
        split at h
        · rename_i hC
          cases h
          subst hC
          obtain ⟨n, d, q1, q2, rfl, q4⟩ := fieldAt_spec hf
          have Fd := ((Rl.2.2.1 _ _ hc).1 rfl).2 _ _ _ _ q2 q4
          obtain ⟨T', X', e', st'⟩ := getF X hx hZ hown (host := "") (Or.inl (hw _ q1)) Via.refl rfl Fd (g := mkF m pc (cl ρ ls) (cs ρ (.ref a :: r))) rfl rfl hd
          exact ⟨rfl, T', ⟨locs, X', N, by rw [e']; exact Rl⟩, fun t k => st' t k⟩
        · cases h
      · cases h
    · cases h
  · obtain rfl : len = 1 := by simpa [lenOk] using hl
    split at h
    · rename_i a r; split at h
      · rename_i u n hc
        cases h
        obtain ⟨cell, Ar, hs, -⟩ := (Rl.2.2.1 _ _ hc).2.1 rfl
        have hs' : cell.slots.size = n := hs
        refine ⟨rfl, T, ⟨locs, X, N, Rl⟩, fun t k => X.arraylength hx Ar.1 (State.isArrayOf_alike hZ.alike Ar.2.1) (g := mkF m pc (cl ρ ls) (cs ρ (.ref a :: r))) rfl rfl hd t ?_⟩
        rw [hs']; exact k
      · rename_i u n hc
        cases h
        obtain ⟨cell, Ar, hs, -⟩ := (Rl.2.2.1 _ _ hc).2.2.1 rfl
        have hs' : cell.slots.size = n := hs
        refine ⟨rfl, T, ⟨locs, X, N, Rl⟩, fun t k => X.arraylength hx Ar.1 (State.isArrayOf_alike hZ.alike Ar.2.1) (g := mkF m pc (cl ρ ls) (cs ρ (.ref a :: r))) rfl rfl hd t ?_⟩
        rw [hs']; exact k
      · rename_i u n hc
        cases h
        obtain ⟨cell, Ar, hs, -⟩ := (Rl.2.2.1 _ _ hc).2.2.2 rfl
        have hs' : cell.slots.size = n := hs
        refine ⟨rfl, T, ⟨locs, X, N, Rl⟩, fun t k => X.arraylength hx Ar.1 (State.isArrayOf_alike hZ.alike Ar.2.1) (g := mkF m pc (cl ρ ls) (cs ρ (.ref a :: r))) rfl rfl hd t ?_⟩
        rw [hs']; exact k
      · cases h
    · cases h
  · obtain rfl : len = 1 := by simpa [lenOk] using hl
    split at h
    · rename_i j a r; split at h
      · rename_i u n hc
        split at h
        · rename_i hj
          cases h
          obtain ⟨cell, Ar, hs, hv⟩ := (Rl.2.2.1 _ _ hc).2.1 rfl
          have hs' : cell.slots.size = n := hs
          have hj' := inb_spec hj
          have hlt : j.toNatClampNeg < n := by
            have := fun q => hj' (Or.inr q)
            omega
          exact ⟨rfl, T, ⟨locs, X, N, Rl⟩, fun t k => X.iaload hx Ar.1 (State.isArrayOf_alike hZ.alike Ar.2.1) Ar.2.2 (by rw [hs']; exact hj') (hv _ hlt) (g := mkF m pc (cl ρ ls) (cs ρ (.int j :: .ref a :: r))) rfl rfl hd t k⟩
        · cases h
      · cases h
    · cases h
  · obtain rfl : len = 1 := by simpa [lenOk] using hl
    split at h
    · rename_i j a r; split at h
      · rename_i u n hc
        split at h
        · rename_i hj
          cases h
          obtain ⟨cell, Ar, hs, hv⟩ := (Rl.2.2.1 _ _ hc).2.2.2 rfl
          have hs' : cell.slots.size = n := hs
          have hj' := inb_spec hj
          have hlt : j.toNatClampNeg < n := by
            have := fun q => hj' (Or.inr q)
            omega
          exact ⟨rfl, T, ⟨locs, X, N, Rl⟩, fun t k => X.baloadBooleans hx Ar.1 (State.isArrayOf_alike hZ.alike Ar.2.1) Ar.2.2 (by rw [hs']; exact hj') (hv _ hlt) (g := mkF m pc (cl ρ ls) (cs ρ (.int j :: .ref a :: r))) rfl rfl hd t k⟩
        · cases h
      · cases h
    · cases h
  · obtain rfl : len = 1 := by simpa [lenOk] using hl
    split at h
    · rename_i j a r; split at h
      · rename_i u n hc
        split at h
        · rename_i hj
          cases h
          obtain ⟨cell, Ar, hs, hv⟩ := (Rl.2.2.1 _ _ hc).2.2.1 rfl
          have hs' : cell.slots.size = n := hs
          have hj' := inb_spec hj
          have hlt : j.toNatClampNeg < n := by
            have := fun q => hj' (Or.inr q)
            omega
          exact ⟨rfl, T, ⟨locs, X, N, Rl⟩, fun t k => X.laload hx Ar.1 (State.isArrayOf_alike hZ.alike Ar.2.1) Ar.2.2 (by rw [hs']; exact hj') (hv _ hlt) (g := mkF m pc (cl ρ ls) (cs ρ (.int j :: .ref a :: r))) rfl rfl hd t k⟩
        · cases h
      · cases h
    · cases h
  · rename_i idx
    obtain rfl : len = 3 := by simpa [lenOk] using hl
    split at h
    · rename_i a r; split at h
      · rename_i hc
        cases h
        obtain ⟨c1, c2, c3⟩ := hc
        obtain ⟨w1, w2, w3⟩ := objInitAt_spec c1
        obtain ⟨T', X', e', stp⟩ := initO X hx hZ hown (hw _ w1) (hw _ w2) (hw _ w3) rfl (g := mkF m pc (cl ρ ls) (cs ρ (.ref a :: st'))) rfl (by simp [hsz]) rfl hd (by omega) (W := wt st') (by show 2 * 0 + ((st'.map (conc ρ)).map fun v => v.category).sum ≤ _; rw [wt_conc]; omega) (by omega)
        exact ⟨rfl, T', ⟨locs, X', N, by rw [e']; exact Rl⟩, fun t k => stp t k⟩
      · cases h
    · cases h
  · cases h
theorem execM_ext {ins : Instr} {st st' : List Value} {M M' : EMem} (h : execM W ro y ins st M = some (st', M')) : M.1.length ≤ M'.1.length ∧ szL M.1 ≤ szL M'.1 := by
  have push : ∀ (L : ELay) (x : Nat × String × Nat), L.length ≤ (L ++ [x]).length ∧ szL L ≤ szL (L ++ [x]) := fun L x => by simp [szL]
  unfold execM at h
  split at h
  · split at h
    · split at h
      · split at h
        · split at h <;> first | (cases h; exact ⟨Nat.le_refl _, Nat.le_refl _⟩) | cases h
        · cases h
      · cases h
    · cases h
  all_goals first
    | (split at h
       · split at h
         · split at h
           · cases h; exact ⟨Nat.le_refl _, Nat.le_refl _⟩
           · cases h
         · cases h
       · cases h)
    | (split at h
       · cases h; exact push _ _
       · cases h)
    | (split at h
       · split at h
         · cases h; exact push _ _
         · cases h
       · cases h)
    | cases h
theorem szL_push (L : ELay) (x : Nat × String × Nat) : szL (L ++ [x]) = szL L + x.2.2 := by simp [szL]
set_option maxRecDepth 65536 in
set_option maxHeartbeats 40000000 in
theorem execM_sound (H : Here p l e R s m args below meth c Z W ρ ro n0 L0 T M) (hx : p.tables.exec = Jvm.exec) (hZ : Z.Warmed39 s.vm) (hw : ∀ d ∈ W, d.before a0 Z = true) (hown : s.vm.findClass y.cls = some m.cls) (hnm : meth.name = y.name)
    (hρ : ∀ a b, ρ a = ρ b → a = b) (hρn : ∀ a, ro ≤ a → ρ a = n0 + (a - ro)) (hL : L0.length ≤ M.1.length) (hS : szL L0 ≤ szL M.1) (hs0 : s.heap.size = n0 + (L0.length - ro)) (hro : ro ≤ L0.length)
    {ls : List Slot} {st st' : List Value} {M' : EMem} {ins : Instr} {pc len : Nat} (hd : decode c.code pc = .ok (ins, len)) (hl : lenOk len ins = true) (hRc : M'.1.length - L0.length ≤ R.cells) (hRs : szL M'.1 - szL L0 ≤ R.slots) (h : execM W ro y ins st M = some (st', M')) :
    ∃ T', Here p l e R s m args below meth c Z W ρ ro n0 L0 T' M' ∧ ∀ target, Steps p.tables e below (T'.setTop (mkF m (pc + len) (cl ρ ls) (cs ρ st'))) target → Steps p.tables e below (T.setTop (mkF m pc (cl ρ ls) (cs ρ st))) target := by
  obtain ⟨locs, X, N, Rl⟩ := H
  obtain ⟨L, mi, ml, mr⟩ := M
  have hL' : L0.length ≤ L.length := hL
  have hS' : szL L0 ≤ szL L := hS
  have hsize : T.heap.size = n0 + (L.length - ro) := Rl.1
  have hnew : T.heap.size = ρ L.length := by rw [hρn _ (Nat.le_trans hro hL'), hsize]
  unfold execM at h
  split at h
  · rename_i idx
    obtain rfl : len = 3 := by simpa [lenOk] using hl
    split at h
    · rename_i v a r
      split at h
      · rename_i C k kd fin C' u hf hc
        split at h
        · rename_i hC
          obtain ⟨rfl, hra, hfin, hinst⟩ := hC
          obtain ⟨n, d, q1, q2, rfl, q4⟩ := fieldAt_spec hf
          obtain ⟨ni, hni⟩ := Option.isSome_iff_exists.mp hinst
          have hcell : L[a]? = some (0, C', u) := hc
          obtain ⟨Ex, Fs⟩ := (Rl.2.2.1 _ _ hc).1 rfl
          have Fd := Fs _ _ _ _ q2 q4
          have hge : n0 ≤ ρ a := by rw [hρn a hra]; omega
          have Lw : (Jvm.Cond.lays C' C' n d).before a0 Z = true ∨ ((Jvm.Cond.laysFinal C' C' n d).before a0 Z = true ∧ y.cls = C' ∧ meth.name = "<init>") := by
            have e := hw _ (List.mem_of_getElem? (layAt_spec q2))
            cases fin with
            | false => exact Or.inl e
            | true =>
              rcases hfin with z | ⟨z1, z2⟩
              · cases z
              · exact Or.inr ⟨e, z1, hnm.trans z2⟩
          split at h
          · rename_i x hk
            cases h
            obtain ⟨T', h', X', e', w, stp⟩ := putFN X hx hZ hown (hw _ q1) Via.refl rfl Fd Ex Lw (hw _ (instLk_mem hni)) (ty := .int) (v' := .int x) (kindD_1 hk) rfl rfl (g := mkF m pc (cl ρ ls) (cs ρ (.int x :: .ref a :: st'))) rfl rfl hd
            refine ⟨T', ⟨_, X', Fr.snoc X' N hge, ?_⟩, fun t k => stp t k⟩
            rw [e']
            exact Rel.write hρ w hcell (fun x hx k => up_ne hx k) (fun _ _ _ => rfl) (fun _ _ _ => rfl) (RelC.put hw q2 q4 w (by rw [hk, up_eq]; rfl) (fun j hj => up_ne' hj a) (fun _ _ => rfl) (fun _ _ => rfl)) Rl
          · rename_i x hk
            cases h
            obtain ⟨T', h', X', e', w, stp⟩ := putFN X hx hZ hown (hw _ q1) Via.refl rfl Fd Ex Lw (hw _ (instLk_mem hni)) (ty := .boolean) (v' := .int (x &&& 1)) (kindD_2 hk) rfl (fits_nar_bool x) (g := mkF m pc (cl ρ ls) (cs ρ (.int x :: .ref a :: st'))) rfl rfl hd
            refine ⟨T', ⟨_, X', Fr.snoc X' N hge, ?_⟩, fun t k => stp t k⟩
            rw [e']
            exact Rel.write hρ w hcell (fun x hx k => up_ne hx k) (fun _ _ _ => rfl) (fun _ _ _ => rfl) (RelC.put hw q2 q4 w (by rw [hk, up_eq]; rfl) (fun j hj => up_ne' hj a) (fun _ _ => rfl) (fun _ _ => rfl)) Rl
          · rename_i x hk
            cases h
            obtain ⟨T', h', X', e', w, stp⟩ := putFN X hx hZ hown (hw _ q1) Via.refl rfl Fd Ex Lw (hw _ (instLk_mem hni)) (ty := .long) (v' := .long x) (kindD_3 hk) rfl rfl (g := mkF m pc (cl ρ ls) (cs ρ (.long x :: .ref a :: st'))) rfl rfl hd
            refine ⟨T', ⟨_, X', Fr.snoc X' N hge, ?_⟩, fun t k => stp t k⟩
            rw [e']
            exact Rel.write hρ w hcell (fun _ _ _ => rfl) (fun x hx k => up_ne hx k) (fun _ _ _ => rfl) (RelC.put hw q2 q4 w (by rw [hk, up_eq]; rfl) (fun _ _ => rfl) (fun j hj => up_ne' hj a) (fun _ _ => rfl)) Rl
          · rename_i b hk
            cases h
            obtain ⟨ty, t1, t2, t3, -⟩ := kindD_4 hk
            obtain ⟨T', h', X', e', w, stp⟩ := putFN X hx hZ hown (hw _ q1) Via.refl rfl Fd Ex Lw (hw _ (instLk_mem hni)) (ty := ty) (v' := .ref (ρ b)) t1 (t2 _) (t3 _) (g := mkF m pc (cl ρ ls) (cs ρ (.ref b :: .ref a :: st'))) rfl rfl hd
            refine ⟨T', ⟨_, X', Fr.snoc X' N hge, ?_⟩, fun t k => stp t k⟩
            rw [e']
            exact Rel.write hρ w hcell (fun _ _ _ => rfl) (fun _ _ _ => rfl) (fun x hx k => up_ne hx k) (RelC.put hw q2 q4 w (by rw [hk, up_eq]; rfl) (fun _ _ => rfl) (fun _ _ => rfl) (fun j hj => up_ne' hj a)) Rl
          · cases h
        · cases h
      · cases h
    · cases h
  · obtain rfl : len = 1 := by simpa [lenOk] using hl
    split at h
    · rename_i x j a r
      split at h
      · rename_i u n hc
        split at h
        · rename_i hj
          obtain ⟨hj, hra⟩ := hj
          cases h
          have hcell : L[a]? = some (_, u, n) := hc
          obtain ⟨cell, Ar, hs, hv⟩ := (Rl.2.2.1 _ _ hc).2.1 rfl
          have hs' : cell.slots.size = n := hs
          have hge : n0 ≤ ρ a := by rw [hρn a hra]; omega
          obtain ⟨T', h', X', e', w, stp⟩ := stI X hx hZ rfl Ar (by rw [hs']; exact inb_spec hj) (g := mkF m pc (cl ρ ls) (cs ρ (.int x :: .int j :: .ref a :: st'))) rfl rfl hd
          refine ⟨T', ⟨_, X', Fr.snoc X' N hge, ?_⟩, fun t k => stp t k⟩
          rw [e']
          exact Rel.write hρ w hcell (fun x hx k => up_ne hx k) (fun _ _ _ => rfl) (fun _ _ _ => rfl) (RelC.st1 w) Rl
        · cases h
      · cases h
    · cases h
  · obtain rfl : len = 1 := by simpa [lenOk] using hl
    split at h
    · rename_i x j a r
      split at h
      · rename_i u n hc
        split at h
        · rename_i hj
          obtain ⟨hj, hra⟩ := hj
          cases h
          have hcell : L[a]? = some (_, u, n) := hc
          obtain ⟨cell, Ar, hs, hv⟩ := (Rl.2.2.1 _ _ hc).2.2.2 rfl
          have hs' : cell.slots.size = n := hs
          have hge : n0 ≤ ρ a := by rw [hρn a hra]; omega
          obtain ⟨T', h', X', e', w, stp⟩ := stZ X hx hZ rfl Ar (by rw [hs']; exact inb_spec hj) (g := mkF m pc (cl ρ ls) (cs ρ (.int x :: .int j :: .ref a :: st'))) rfl rfl hd
          refine ⟨T', ⟨_, X', Fr.snoc X' N hge, ?_⟩, fun t k => stp t k⟩
          rw [e']
          exact Rel.write hρ w hcell (fun x hx k => up_ne hx k) (fun _ _ _ => rfl) (fun _ _ _ => rfl) (RelC.st3 w) Rl
        · cases h
      · cases h
    · cases h
  · obtain rfl : len = 1 := by simpa [lenOk] using hl
    split at h
    · rename_i x j a r
      split at h
      · rename_i u n hc
        split at h
        · rename_i hj
          obtain ⟨hj, hra⟩ := hj
          cases h
          have hcell : L[a]? = some (_, u, n) := hc
          obtain ⟨cell, Ar, hs, hv⟩ := (Rl.2.2.1 _ _ hc).2.2.1 rfl
          have hs' : cell.slots.size = n := hs
          have hge : n0 ≤ ρ a := by rw [hρn a hra]; omega
          obtain ⟨T', h', X', e', w, stp⟩ := stJ X hx hZ rfl Ar (by rw [hs']; exact inb_spec hj) (g := mkF m pc (cl ρ ls) (cs ρ (.long x :: .int j :: .ref a :: st'))) rfl rfl hd
          refine ⟨T', ⟨_, X', Fr.snoc X' N hge, ?_⟩, fun t k => stp t k⟩
          rw [e']
          exact Rel.write hρ w hcell (fun _ _ _ => rfl) (fun x hx k => up_ne hx k) (fun _ _ _ => rfl) (RelC.st2 w) Rl
        · cases h
      · cases h
    · cases h
  · rename_i idx
    obtain rfl : len = 3 := by simpa [lenOk] using hl
    split at h
    · rename_i C n hn
      cases h
      obtain ⟨w1, w2, w3⟩ : Jvm.Cond.classLink y.cls idx C ∈ W ∧ Jvm.Cond.instantiable C n ∈ W ∧ Jvm.Cond.initialized C ∈ W := by
        unfold newAt at hn
        split at hn
        · cases hn
        · rename_i C' h1
          split at hn
          · cases hn
          · rename_i n' h2
            split at hn
            · rename_i h3
              cases hn
              exact ⟨classLk_mem h1, instLk_mem h2, hasInit_mem h3⟩
            · cases hn
      have c1 : (L ++ [((0 : Nat), C, n)]).length - L0.length = L.length - L0.length + 1 := by rw [List.length_append]; simp; omega
      have c2 : szL (L ++ [((0 : Nat), C, n)]) - szL L0 = szL L - szL L0 + n := by rw [szL_push]; simp only; omega
      have hRc' : (L ++ [((0 : Nat), C, n)]).length - L0.length ≤ R.cells := hRc
      have hRs' : szL (L ++ [((0 : Nat), C, n)]) - szL L0 ≤ R.slots := hRs
      obtain ⟨T', h', X', e', E, Ex, D, -, st'⟩ := newO X hx hZ hown (hw _ w1) (hw _ w2) (hw _ w3) rfl (g := mkF m pc (cl ρ ls) (cs ρ st)) rfl hd (by show L.length - L0.length + 1 ≤ _; omega) (by show szL L - szL L0 + n ≤ _; omega)
      have hup : T'.heap.size ≤ s.heap.size + (L.length - L0.length + 1) := X'.heapSize
      have hlo : T.heap.size < h'.size := Ex.lt
      refine ⟨T', ⟨locs, by rw [← c1, ← c2] at X'; exact X', N, ?_⟩, fun t k => st' t ?_⟩
      · rw [e']
        rw [e'] at hup
        refine Rel.push E (by omega) ⟨fun _ => ⟨by rw [← hnew]; exact Ex, fun nm k d fin q1 q2 => ?_⟩, fun q => (by cases q), fun q => (by cases q), fun q => (by cases q)⟩ Rl
        obtain ⟨z1, z2, z3⟩ := Rl.2.2.2 L.length (Nat.le_refl _) k
        have z1' : mi L.length k = 0 := z1
        have z2' : ml L.length k = 0 := z2
        have z3' : mr L.length k = .null := z3
        dsimp only
        rw [z1', z2', z3', ← hnew]
        have Lw := layAt_laid hw q1
        rcases kindD_lt d with z | z | z | z | z
        · exact absurd z q2
        · rw [z]; exact D Lw (kindD_1 z)
        · rw [z]; exact D Lw (kindD_2 z)
        · rw [z]; exact D Lw (kindD_3 z)
        · obtain ⟨ty, t1, -, -, t4⟩ := kindD_4 z
          have q := D Lw t1
          rw [t4] at q
          rw [z]; exact q
      · rw [hnew]; exact k
    · cases h
  · obtain rfl : len = 2 := by simpa [lenOk] using hl
    split at h
    · rename_i n r
      split at h
      · rename_i hc
        obtain ⟨hn, hb, ha⟩ := hc
        cases h
        have c1 : (L ++ [((1 : Nat), "", n.toNatClampNeg)]).length - L0.length = L.length - L0.length + 1 := by rw [List.length_append]; simp; omega
        have c2 : szL (L ++ [((1 : Nat), "", n.toNatClampNeg)]) - szL L0 = szL L - szL L0 + n.toNatClampNeg := by rw [szL_push]; simp only; omega
        have hRc' : (L ++ [((1 : Nat), "", n.toNatClampNeg)]).length - L0.length ≤ R.cells := hRc
        have hRs' : szL (L ++ [((1 : Nat), "", n.toNatClampNeg)]) - szL L0 ≤ R.slots := hRs
        obtain ⟨T', h', cA, X', e', E, Ar, st'⟩ := newP X hx hZ (aty := .int) (hw _ (hasArr_mem ha)) rfl (g := mkF m pc (cl ρ ls) (cs ρ (.int n :: r))) rfl hd rfl hn (cap := n.toNatClampNeg) (Nat.le_refl _) hb (by show L.length - L0.length + 1 ≤ _; omega) (by show szL L - szL L0 + n.toNatClampNeg ≤ _; omega)
        have hup : T'.heap.size ≤ s.heap.size + (L.length - L0.length + 1) := X'.heapSize
        have hlo : T.heap.size < h'.size := Ar.lt
        refine ⟨T', ⟨locs, by rw [← c1, ← c2] at X'; exact X', N, ?_⟩, fun t k => st' t ?_⟩
        · rw [e']
          rw [e'] at hup
          refine Rel.push E (by omega) ⟨fun q => (by cases q), fun _ => ?_, fun q => (by cases q), fun q => (by cases q)⟩ Rl
          refine ⟨_, by rw [← hnew]; exact Ar, sz_new _ _ _, fun k hk => ?_⟩
          have hk' : k < n.toNatClampNeg := hk
          have z1 : mi L.length k = 0 := (Rl.2.2.2 L.length (Nat.le_refl _) k).1
          dsimp only
          rw [z1]
          simp [newA, hk']
          rfl
        · rw [hnew]; exact k
      · cases h
    · cases h
  · obtain rfl : len = 2 := by simpa [lenOk] using hl
    split at h
    · rename_i n r
      split at h
      · rename_i hc
        obtain ⟨hn, hb, ha⟩ := hc
        cases h
        have c1 : (L ++ [((2 : Nat), "", n.toNatClampNeg)]).length - L0.length = L.length - L0.length + 1 := by rw [List.length_append]; simp; omega
        have c2 : szL (L ++ [((2 : Nat), "", n.toNatClampNeg)]) - szL L0 = szL L - szL L0 + n.toNatClampNeg := by rw [szL_push]; simp only; omega
        have hRc' : (L ++ [((2 : Nat), "", n.toNatClampNeg)]).length - L0.length ≤ R.cells := hRc
        have hRs' : szL (L ++ [((2 : Nat), "", n.toNatClampNeg)]) - szL L0 ≤ R.slots := hRs
        obtain ⟨T', h', cA, X', e', E, Ar, st'⟩ := newP X hx hZ (aty := .long) (hw _ (hasArr_mem ha)) rfl (g := mkF m pc (cl ρ ls) (cs ρ (.int n :: r))) rfl hd rfl hn (cap := n.toNatClampNeg) (Nat.le_refl _) hb (by show L.length - L0.length + 1 ≤ _; omega) (by show szL L - szL L0 + n.toNatClampNeg ≤ _; omega)
        have hup : T'.heap.size ≤ s.heap.size + (L.length - L0.length + 1) := X'.heapSize
        have hlo : T.heap.size < h'.size := Ar.lt
        refine ⟨T', ⟨locs, by rw [← c1, ← c2] at X'; exact X', N, ?_⟩, fun t k => st' t ?_⟩
        · rw [e']
          rw [e'] at hup
          refine Rel.push E (by omega) ⟨fun q => (by cases q), fun q => (by cases q), fun _ => ?_, fun q => (by cases q)⟩ Rl
          refine ⟨_, by rw [← hnew]; exact Ar, sz_new _ _ _, fun k hk => ?_⟩
          have hk' : k < n.toNatClampNeg := hk
          have z1 : ml L.length k = 0 := (Rl.2.2.2 L.length (Nat.le_refl _) k).2.1
          dsimp only
          rw [z1]
          simp [newA, hk']
          rfl
        · rw [hnew]; exact k
      · cases h
    · cases h
  · obtain rfl : len = 2 := by simpa [lenOk] using hl
    split at h
    · rename_i n r
      split at h
      · rename_i hc
        obtain ⟨hn, hb, ha⟩ := hc
        cases h
        have c1 : (L ++ [((3 : Nat), "", n.toNatClampNeg)]).length - L0.length = L.length - L0.length + 1 := by rw [List.length_append]; simp; omega
        have c2 : szL (L ++ [((3 : Nat), "", n.toNatClampNeg)]) - szL L0 = szL L - szL L0 + n.toNatClampNeg := by rw [szL_push]; simp only; omega
        have hRc' : (L ++ [((3 : Nat), "", n.toNatClampNeg)]).length - L0.length ≤ R.cells := hRc
        have hRs' : szL (L ++ [((3 : Nat), "", n.toNatClampNeg)]) - szL L0 ≤ R.slots := hRs
        obtain ⟨T', h', cA, X', e', E, Ar, st'⟩ := newP X hx hZ (aty := .boolean) (hw _ (hasArr_mem ha)) rfl (g := mkF m pc (cl ρ ls) (cs ρ (.int n :: r))) rfl hd rfl hn (cap := n.toNatClampNeg) (Nat.le_refl _) hb (by show L.length - L0.length + 1 ≤ _; omega) (by show szL L - szL L0 + n.toNatClampNeg ≤ _; omega)
        have hup : T'.heap.size ≤ s.heap.size + (L.length - L0.length + 1) := X'.heapSize
        have hlo : T.heap.size < h'.size := Ar.lt
        refine ⟨T', ⟨locs, by rw [← c1, ← c2] at X'; exact X', N, ?_⟩, fun t k => st' t ?_⟩
        · rw [e']
          rw [e'] at hup
          refine Rel.push E (by omega) ⟨fun q => (by cases q), fun q => (by cases q), fun q => (by cases q), fun _ => ?_⟩ Rl
          refine ⟨_, by rw [← hnew]; exact Ar, sz_new _ _ _, fun k hk => ?_⟩
          have hk' : k < n.toNatClampNeg := hk
          have z1 : mi L.length k = 0 := (Rl.2.2.2 L.length (Nat.le_refl _) k).1
          dsimp only
          rw [z1]
          simp [newA, hk']
          rfl
        · rw [hnew]; exact k
      · cases h
    · cases h
  · cases h
end S
end Jvm.OwnEv
namespace Jvm.OwnEv
open Sem ClassFile Op Lib Jvm.Stand Jvm.Free Jvm.LawKit Jvm.RoadKit
/-! PART 5: what the evaluator answers, the model does -/
theorem run_ext {W : List Jvm.Cond} {ro : Nat} : ∀ (n : Nat) {F Lb : Nat} {y : MethodName} {code : ByteArray} {ret : Option FieldType} {pc : Nat} {ls : List Slot} {st : List Value} {M M' : EMem} {v : Option Value},
    run W ro n F Lb y code ret pc ls st M = some (v, M') → M.1.length ≤ M'.1.length ∧ szL M.1 ≤ szL M'.1
  | 0, _, _, _, _, _, _, _, _, _, _, _, h => by simp [run] at h
  | n + 1, F, Lb, y, code, ret, pc, ls, st, M, M', v, h => by
    unfold run at h
    split at h
    · split at h
      · exact run_ext n h
      · split at h
        · rename_i he
          split at he
          · have q1 := execM_ext he
            have q2 := run_ext n h
            exact ⟨Nat.le_trans q1.1 q2.1, Nat.le_trans q1.2 q2.2⟩
          · cases he
        · split at h
          · cases h; exact ⟨Nat.le_refl _, Nat.le_refl _⟩
          · split at h
            · split at h
              · split at h
                · rename_i hr
                  have q1 := run_ext n hr
                  have q2 := run_ext n h
                  exact ⟨Nat.le_trans q1.1 q2.1, Nat.le_trans q1.2 q2.2⟩
                · cases h
              · cases h
            · cases h
    · cases h
theorem callAt_spec {W : List Jvm.Cond} {own : String} {idx kd : Nat} {z : MethodName} {na : Nat} {b : ByteArray} {mx : Nat} {r : Option FieldType} (h : callAt W own idx kd = some (z, na, b, mx, r)) :
    Jvm.Cond.methodLink own idx z ∈ W ∧ Jvm.Cond.code z b mx r ∈ W ∧ Jvm.Cond.initialized z.cls ∈ W ∧ plainName z.cls = true ∧ (z.cls ≠ "java/lang/invoke/MethodHandle" ∧ z.cls ≠ "java/lang/invoke/VarHandle") ∧ (∀ sig, parseMethodDescriptor z.desc = some sig → na = sig.parameters.length) ∧
    ((kd = 0 ∧ hasDecl z W = true ∧ hasSel z W = true ∧ hasInst z W = true) ∨ (kd = 1 ∧ hasPriv z W = true ∧ hasInst z W = true ∧ (instLk z.cls W).isSome = true) ∨ (kd = 2 ∧ z.name = "<init>" ∧ hasInst z W = true ∧ r = none) ∨ (kd = 3 ∧ hasStat z W = true)) := by
  unfold callAt at h
  split at h
  · cases h
  · rename_i z' h1
    split at h
    · rename_i b' n' r' sig h2 h3
      split at h
      · rename_i hc
        cases h
        obtain ⟨c2, c3, c4, c5, c6⟩ := hc
        exact ⟨methodLk_mem h1, codeLk_mem h2, hasInit_mem c2, c3, ⟨c4, c5⟩, fun sig' q => by rw [h3] at q; cases q; rfl, c6⟩
      · cases h
    · cases h
section S
variable {l : Launch} {Z : State} {a0 : Array Value} {W : List Jvm.Cond} {ρ : Nat → Addr} {ro n0 : Nat}
/-- what a run of n steps promises -/
def Good (l : Launch) (Z : State) (W : List Jvm.Cond) (ρ : Nat → Addr) (ro n0 : Nat) (n : Nat) : Prop :=
  ∀ ⦃F Lb : Nat⦄ ⦃y : MethodName⦄ ⦃code : ByteArray⦄ ⦃ret : Option FieldType⦄ ⦃pc : Nat⦄ ⦃ls : List Slot⦄ ⦃st : List Value⦄ ⦃M M' : EMem⦄ ⦃v : Option Value⦄, run W ro n F Lb y code ret pc ls st M = some (v, M') →
    ∀ ⦃p : Program⦄ ⦃e : Env⦄ ⦃R : Room⦄ ⦃s : State⦄ ⦃m : MethodId⦄ ⦃args : Array Value⦄ ⦃below : List Frame⦄ ⦃meth : Method⦄ ⦃c : Code⦄ ⦃L0 : ELay⦄ ⦃T : State⦄, p.tables.exec = Jvm.exec → Z.Warmed39 s.vm → s.vm.findClass y.cls = some m.cls → meth.name = y.name → c.code = code → meth.sig.returnType = ret → meth.locks = false → ls.length = c.maxLocals →
      F ≤ R.frames → Lb ≤ R.locals → M'.1.length - L0.length ≤ R.cells → szL M'.1 - szL L0 ≤ R.slots → L0.length ≤ M.1.length → szL L0 ≤ szL M.1 → s.heap.size = n0 + (L0.length - ro) → ro ≤ L0.length → Here p l e R s m args below meth c Z W ρ ro n0 L0 T M →
      ∃ (s₂ : State) (L : List Loc), Steps p.tables e below (T.setTop (mkF m pc (cl ρ ls) (cs ρ st))) s₂ ∧ s₂.status = .running ∧ Ended s₂ below (.returned (v.map (conc ρ))) ∧ Rel Z W ρ ro n0 s₂.heap M' ∧ Fr n0 L ∧ s.WarmedH s₂.vm ∧
        s.sameButNew ({ s₂ with vm := s.vm } : State) L (M'.1.length - L0.length) (szL M'.1 - szL L0)
theorem met_of {n : Nat} (G : Good l Z W ρ ro n0 n) {F Lb : Nat} {z : MethodName} {b : ByteArray} {r : Option FieldType} {as : List Value} {mx : Nat} {M M' : EMem} {v : Option Value} (h : run W ro n F Lb z b r 0 (entryL as mx) [] M = some (v, M'))
    (hfl : (fillL as).length ≤ mx) (hp : plainName z.cls = true) {h0 : Heap} (Rl : Rel Z W ρ ro n0 h0 M) {R : Room} (hF : F ≤ R.frames) (hLb : Lb ≤ R.locals) (hRc : M'.1.length - M.1.length ≤ R.cells) (hRs : szL M'.1 - szL M.1 ≤ R.slots) (ws : List Jvm.Cond) :
    MetFree l z (head1 (Jvm.Cond.code z b mx r :: ws) R) (fun a U => a = (as.map (conc ρ)).toArray ∧ Z.Warmed39 U.vm ∧ U.heap = h0) (fun _ _ _ _ _ => True)
      (fun _ U o U' => ∃ v' L, o = .returned v' ∧ (v' = v.map (conc ρ) ∧ Rel Z W ρ ro n0 U'.heap M' ∧ Fr n0 L) ∧ FrameEnd U o U' L (M'.1.length - M.1.length) (szL M'.1 - szL M.1)) := by
  refine MetFree.of_bodySF (plainFor_of_name hp) hisR ?_
  intro p e s m args below meth c s₁ Bd hml0 hP hK
  obtain ⟨rfl, hZ, hh⟩ := hP
  have hown : s.vm.findClass z.cls = some m.cls := findClass_of_methodNamed Bd.named
  have hnm := (name_of_methodNamed Bd.named Bd.method).1
  have X0 : Stand p l e R s m (as.map (conc ρ)).toArray below meth c s₁ [] 0 0 := Stand.of_body Bd
  have e0 : s₁.heap = h0 := by rw [← hh, Bd.state]; rfl
  have hH : Here p l e R s m (as.map (conc ρ)).toArray below meth c Z W ρ ro n0 M.1 s₁ M := ⟨[], by rw [Nat.sub_self, Nat.sub_self]; exact X0, Fr.nil n0, by rw [e0]; exact Rl⟩
  obtain ⟨s₂, L, q1, q2, q3, q4, q5, q6, q7⟩ := G h (p := p) (e := e) (R := R) (s := s) (m := m) (below := below) (L0 := M.1) (T := s₁) Bd.exec hZ hown hnm Bd.bytes Bd.returns Bd.notSynchronized (by rw [entryL_len hfl, hml0]) hF hLb hRc hRs (Nat.le_refl _) (Nat.le_refl _) (by rw [hh]; exact Rl.1) Rl.2.1 hH
  refine ⟨s₂, _, castTop ?_ q1, q2, q3, _, L, rfl, ⟨rfl, q4, q5⟩, ⟨_, rfl⟩, q6, q7⟩
  show ({ method := m, pc := 0, locals := argsToLocals (as.map (conc ρ)).toArray mx, stack := [], locked := none } : JFrame) = _
  rw [args_conc]
  rfl
theorem toL_conc (v : Option Value) (rest : List Value) : (v.map (conc ρ)).toList ++ cs ρ rest = cs ρ (v.toList ++ rest) := by cases v <;> simp
theorem split_st {st rest : List Value} {na : Nat} {x : Value} (h : st.drop na = x :: rest) : cs ρ st = ((st.take na).reverse.map (conc ρ)).reverse ++ conc ρ x :: cs ρ rest := by
  have e : st = st.take na ++ (x :: rest) := by rw [← h]; exact (List.take_append_drop na st).symm
  rw [← List.map_reverse, List.reverse_reverse]
  conv => lhs; rw [e]
  simp [cs]
theorem split_st0 {st : List Value} {na : Nat} : cs ρ st = ((st.take na).reverse.map (conc ρ)).reverse ++ cs ρ (st.drop na) := by
  rw [← List.map_reverse, List.reverse_reverse]
  conv => lhs; rw [← List.take_append_drop na st]
  simp [cs]
set_option maxRecDepth 65536 in
set_option maxHeartbeats 40000000 in
/-- a call by the callee's own run -/
theorem call_sound {n : Nat} (G : Good l Z W ρ ro n0 n) (hw : ∀ d ∈ W, d.before a0 Z = true) {p : Program} {e : Env} {R : Room} {s : State} {m : MethodId} {args : Array Value} {below : List Frame} {meth : Method} {c : Code} {L0 : ELay} {T : State} {M M' : EMem} {y : MethodName}
    (H : Here p l e R s m args below meth c Z W ρ ro n0 L0 T M) (hx : p.tables.exec = Jvm.exec) (hZ : Z.Warmed39 s.vm) (hown : s.vm.findClass y.cls = some m.cls) {F Lb : Nat} (hF : F ≤ R.frames) (hLb : Lb ≤ R.locals)
    {ls : List Slot} {st : List Value} {ins : Instr} {pc len : Nat} (hsz : ls.length = c.maxLocals) (hd : decode c.code pc = .ok (ins, len)) {z : MethodName} {as rest : List Value} {b : ByteArray} {mx : Nat} {r : Option FieldType} {v : Option Value}
    (hc : callOf W y ins len st M = some (z, as, rest, b, mx, r)) (h1 : 1 ≤ F) (h2 : wt rest + (mx + 11) ≤ Lb) (h3 : (fillL as).length ≤ mx) (hr : run W ro n (F - 1) (Lb - (wt rest + (mx + 11))) z b r 0 (entryL as mx) [] M = some (v, M'))
    (hL : L0.length ≤ M.1.length) (hS : szL L0 ≤ szL M.1) (hRc : M'.1.length - L0.length ≤ R.cells) (hRs : szL M'.1 - szL L0 ≤ R.slots) :
    ∃ T', Here p l e R s m args below meth c Z W ρ ro n0 L0 T' M' ∧ Steps p.tables e below (T.setTop (mkF m pc (cl ρ ls) (cs ρ st))) (T'.setTop (mkF m (pc + 3) (cl ρ ls) (cs ρ (v.toList ++ rest)))) := by
  obtain ⟨locs, X, N, Rl⟩ := H
  have hext := run_ext n hr
  have hsize : (mkF m pc (cl ρ ls) (cs ρ st)).locals.size = c.maxLocals := by simp [hsz]
  have hW : ∀ q : List Value, q = rest → 2 * (mkF m pc (cl ρ ls) (cs ρ st)).monitorRoom + ((cs ρ q).map fun v => v.category).sum ≤ wt rest := fun q e => by
    subst e
    show 2 * 0 + ((q.map (conc ρ)).map fun v => v.category).sum ≤ _
    rw [wt_conc]; omega
  unfold callOf at hc
  split at hc
  · rename_i hlen
    subst hlen
    split at hc
    · rename_i idx
      split at hc
      · rename_i z' na b' n' r' hca
        split at hc
        · rename_i a rest' hdrop
          split at hc
          · rename_i C u hcell
            split at hc
            · rename_i hcond
              cases hc
              obtain ⟨rfl, hna⟩ := hcond
              obtain ⟨k1, k2, k3, k4, k5, k6, k7⟩ := callAt_spec hca
              rcases k7 with ⟨q, -⟩ | ⟨-, g1, g2, g3⟩ | ⟨q, -⟩ | ⟨q, -⟩
              · cases q
              · obtain ⟨ni, hni⟩ := Option.isSome_iff_exists.mp g3
                have E := ((Rl.2.2.1 _ _ hcell).1 rfl).1
                obtain ⟨cq, q1, q2⟩ := E.cell
                have hpriv : s.PrivateAt z := Cond.privateMethod_at (mvP hZ (hw _ (hasPriv_mem g1)) (args := #[]))
                obtain ⟨ci, ki, i1, i2, i3, i4, -⟩ := Cond.instantiable_spec (mvT (args := args) hZ (hw _ (instLk_mem hni)))
                have hsel : (Jvm.Cond.selects z.cls z z).before args s = true := selects_self_of_private i1 i2 (by simp only [Bool.or_eq_false_iff] at i4; exact i4.1) hpriv (mvT hZ (hw _ (hasInst_mem g2))) k5
                have back := backOf (R := R) (p := p) (e := e) (below := below) (s := s) (args := args) (len := 3) (W := wt rest) (rm := { frames := F - 1, cells := M'.1.length - M.1.length, slots := szL M'.1 - szL M.1, locals := Lb - (wt rest + (mx + 11)) }) (Q := fun v' h' L => v' = v.map (conc ρ) ∧ Rel Z W ρ ro n0 h' M' ∧ Fr n0 L) (met_of G hr h3 k4 Rl (R := { frames := F - 1, cells := M'.1.length - M.1.length, slots := szL M'.1 - szL M.1, locals := Lb - (wt rest + (mx + 11)) }) (Nat.le_refl _) (Nat.le_refl _) (Nat.le_refl _) (Nat.le_refl _) []) hZ (hw _ k2) (hw _ k3) (by show F - 1 + 1 ≤ _; omega) (by show wt rest + (mx + 11) + (Lb - (wt rest + (mx + 11))) ≤ _; omega)
                obtain ⟨v', vm₁, ⟨T', Lq, cq', nq⟩, hW₁, X', ⟨L', ⟨rfl, hR', hN'⟩, l', y', z'⟩, st'⟩ := X.privateBack hx (y := z) hown (mvT hZ (hw _ k1)) (mvT hZ (hw _ (hasInst_mem g2))) hsel hpriv (mvT hZ (hw _ k2)) k5 back (g := mkF m pc (cl ρ ls) (cs ρ st)) rfl hsize (Steps.refl _) (a := ρ a) q1 q2 (argsL := (st.take na).reverse.map (conc ρ)) (rest := cs ρ rest)
                  (fun sig hs => by rw [← k6 sig hs]; simpa using hna) (split_st hdrop) (hW _ rfl) hd (fun _ _ => ⟨by simp [conc], rfl, by show M.1.length - L0.length + (M'.1.length - M.1.length) ≤ _; omega, by show szL M.1 - szL L0 + (szL M'.1 - szL M.1) ≤ _; omega⟩)
                dsimp only [Pt.U, Pt.locs, Pt.cells, Pt.slots] at X' l' y' z' st' hR'
                subst l' y' z'
                refine ⟨T', ⟨_, ?_, Fr.app N hN', hR'⟩, ?_⟩
                · have c1 : M'.1.length - L0.length = M.1.length - L0.length + (M'.1.length - M.1.length) := by omega
                  have c2 : szL M'.1 - szL L0 = szL M.1 - szL L0 + (szL M'.1 - szL M.1) := by omega
                  rw [c1, c2]; exact X'
                · rw [← toL_conc]; exact st'
              · cases q
              · cases q
            · cases hc
          · cases hc
        · cases hc
      · split at hc
        · rename_i z' na b' n' r' hca
          split at hc
          · rename_i a rest' hdrop
            split at hc
            · rename_i C u hcell
              split at hc
              · rename_i hcond
                cases hc
                obtain ⟨rfl, hna⟩ := hcond
                obtain ⟨k1, k2, k3, k4, k5, k6, k7⟩ := callAt_spec hca
                rcases k7 with ⟨-, g1, g2, g3⟩ | ⟨q, -⟩ | ⟨q, -⟩ | ⟨q, -⟩
                · have E := ((Rl.2.2.1 _ _ hcell).1 rfl).1
                  obtain ⟨cB, kB, q1, q2, q3⟩ := isOf (T := T) hZ rfl E
                  have back := backOf (R := R) (p := p) (e := e) (below := below) (s := s) (args := args) (len := 3) (W := wt rest) (rm := { frames := F - 1, cells := M'.1.length - M.1.length, slots := szL M'.1 - szL M.1, locals := Lb - (wt rest + (mx + 11)) }) (Q := fun v' h' L => v' = v.map (conc ρ) ∧ Rel Z W ρ ro n0 h' M' ∧ Fr n0 L) (met_of G hr h3 k4 Rl (R := { frames := F - 1, cells := M'.1.length - M.1.length, slots := szL M'.1 - szL M.1, locals := Lb - (wt rest + (mx + 11)) }) (Nat.le_refl _) (Nat.le_refl _) (Nat.le_refl _) (Nat.le_refl _) []) hZ (hw _ k2) (hw _ k3) (by show F - 1 + 1 ≤ _; omega) (by show wt rest + (mx + 11) + (Lb - (wt rest + (mx + 11))) ≤ _; omega)
                  have hsel : (Jvm.Cond.selects z.cls z z).before args s = true := mvT hZ (hw _ (hasSel_mem g2))
                  obtain ⟨v', vm₁, ⟨T', Lq, cq', nq⟩, hW₁, X', ⟨L', ⟨rfl, hR', hN'⟩, l', y', z'⟩, st'⟩ := X.virtualBack hx (y := z) (z := z) hown (mvT hZ (hw _ k1)) (mvT hZ (hw _ (hasDecl_mem g1))) (notFace_of_selects hsel) hsel (mvT hZ (hw _ (hasInst_mem g3))) k5 back q1 q3 (g := mkF m pc (cl ρ ls) (cs ρ st)) rfl hsize (Steps.refl _) (argsL := (st.take na).reverse.map (conc ρ)) (rest := cs ρ rest)
                    (fun sig hs => by rw [← k6 sig hs]; simpa using hna) (split_st hdrop) (hW _ rfl) hd (fun _ _ => ⟨by simp [conc], rfl, by show M.1.length - L0.length + (M'.1.length - M.1.length) ≤ _; omega, by show szL M.1 - szL L0 + (szL M'.1 - szL M.1) ≤ _; omega⟩)
                  dsimp only [Pt.U, Pt.locs, Pt.cells, Pt.slots] at X' l' y' z' st' hR'
                  subst l' y' z'
                  refine ⟨T', ⟨_, ?_, Fr.app N hN', hR'⟩, ?_⟩
                  · have c1 : M'.1.length - L0.length = M.1.length - L0.length + (M'.1.length - M.1.length) := by omega
                    have c2 : szL M'.1 - szL L0 = szL M.1 - szL L0 + (szL M'.1 - szL M.1) := by omega
                    rw [c1, c2]; exact X'
                  · rw [← toL_conc]; exact st'
                · cases q
                · cases q
                · cases q
              · cases hc
            · cases hc
          · cases hc
        · cases hc
    · rename_i idx
      split at hc
      · rename_i z' na b' n' r' hca
        split at hc
        · rename_i a rest' hdrop
          split at hc
          · rename_i hna
            cases hc
            obtain ⟨k1, k2, k3, k4, k5, k6, k7⟩ := callAt_spec hca
            rcases k7 with ⟨q, -⟩ | ⟨q, -⟩ | ⟨-, g1, g2, g3⟩ | ⟨q, -⟩
            · cases q
            · cases q
            · subst g3
              have back := backOf (R := R) (p := p) (e := e) (below := below) (s := s) (args := args) (len := 3) (W := wt rest) (rm := { frames := F - 1, cells := M'.1.length - M.1.length, slots := szL M'.1 - szL M.1, locals := Lb - (wt rest + (mx + 11)) }) (Q := fun v' h' L => v' = v.map (conc ρ) ∧ Rel Z W ρ ro n0 h' M' ∧ Fr n0 L) (met_of G hr h3 k4 Rl (R := { frames := F - 1, cells := M'.1.length - M.1.length, slots := szL M'.1 - szL M.1, locals := Lb - (wt rest + (mx + 11)) }) (Nat.le_refl _) (Nat.le_refl _) (Nat.le_refl _) (Nat.le_refl _) []) hZ (hw _ k2) (hw _ k3) (by show F - 1 + 1 ≤ _; omega) (by show wt rest + (mx + 11) + (Lb - (wt rest + (mx + 11))) ≤ _; omega)
              obtain ⟨v', vm₁, ⟨T', Lq, cq', nq⟩, hW₁, X', ⟨L', ⟨rfl, hR', hN'⟩, l', y', z'⟩, st'⟩ := X.specialBack hx (y := z) g1 hown (mvT hZ (hw _ k1)) (mvT hZ (hw _ (hasInst_mem g2))) (mvT hZ (hw _ k2)) k5 back (g := mkF m pc (cl ρ ls) (cs ρ st)) rfl hsize (Steps.refl _) (a := ρ a) (argsL := (st.take na).reverse.map (conc ρ)) (rest := cs ρ rest)
                (fun sig hs => by rw [← k6 sig hs]; simpa using hna) (split_st hdrop) (hW _ rfl) hd (fun _ _ => ⟨by simp [conc], rfl, by show M.1.length - L0.length + (M'.1.length - M.1.length) ≤ _; omega, by show szL M.1 - szL L0 + (szL M'.1 - szL M.1) ≤ _; omega⟩)
              dsimp only [Pt.U, Pt.locs, Pt.cells, Pt.slots] at X' l' y' z' st' hR'
              subst l' y' z'
              refine ⟨T', ⟨_, ?_, Fr.app N hN', hR'⟩, ?_⟩
              · have c1 : M'.1.length - L0.length = M.1.length - L0.length + (M'.1.length - M.1.length) := by omega
                have c2 : szL M'.1 - szL L0 = szL M.1 - szL L0 + (szL M'.1 - szL M.1) := by omega
                rw [c1, c2]; exact X'
              · rw [← toL_conc]; exact st'
            · cases q
          · cases hc
        · cases hc
      · cases hc
    · rename_i idx
      split at hc
      · rename_i z' na b' n' r' hca
        split at hc
        · rename_i hna
          cases hc
          obtain ⟨k1, k2, k3, k4, k5, k6, k7⟩ := callAt_spec hca
          rcases k7 with ⟨q, -⟩ | ⟨q, -⟩ | ⟨q, -⟩ | ⟨-, g1⟩
          · cases q
          · cases q
          · cases q
          · have back := backOf (R := R) (p := p) (e := e) (below := below) (s := s) (args := args) (len := 3) (W := wt (st.drop na)) (rm := { frames := F - 1, cells := M'.1.length - M.1.length, slots := szL M'.1 - szL M.1, locals := Lb - (wt (st.drop na) + (mx + 11)) }) (Q := fun v' h' L => v' = v.map (conc ρ) ∧ Rel Z W ρ ro n0 h' M' ∧ Fr n0 L) (met_of G hr h3 k4 Rl (R := { frames := F - 1, cells := M'.1.length - M.1.length, slots := szL M'.1 - szL M.1, locals := Lb - (wt (st.drop na) + (mx + 11)) }) (Nat.le_refl _) (Nat.le_refl _) (Nat.le_refl _) (Nat.le_refl _) []) hZ (hw _ k2) (hw _ k3) (by show F - 1 + 1 ≤ _; omega) (by show wt (st.drop na) + (mx + 11) + (Lb - (wt (st.drop na) + (mx + 11))) ≤ _; omega)
            obtain ⟨v', vm₁, ⟨T', Lq, cq', nq⟩, hW₁, X', ⟨L', ⟨rfl, hR', hN'⟩, l', y', z'⟩, st'⟩ := Jvm.LawKit.callS X hx (y := z) hown (mvT hZ (hw _ k1)) (mvT hZ (hw _ (hasStat_mem g1))) (mvT hZ (hw _ k3)) (mvT hZ (hw _ k2)) k5 back (g := mkF m pc (cl ρ ls) (cs ρ st)) rfl hsize (argsL := (st.take na).reverse.map (conc ρ)) (rest := cs ρ (st.drop na))
              (fun sig hs => by rw [← k6 sig hs]; simpa using hna) split_st0 (hW _ rfl) hd (fun _ _ => ⟨rfl, rfl, by show M.1.length - L0.length + (M'.1.length - M.1.length) ≤ _; omega, by show szL M.1 - szL L0 + (szL M'.1 - szL M.1) ≤ _; omega⟩)
            dsimp only [Pt.U, Pt.locs, Pt.cells, Pt.slots] at X' l' y' z' st' hR'
            subst l' y' z'
            refine ⟨T', ⟨_, ?_, Fr.app N hN', hR'⟩, ?_⟩
            · have c1 : M'.1.length - L0.length = M.1.length - L0.length + (M'.1.length - M.1.length) := by omega
              have c2 : szL M'.1 - szL L0 = szL M.1 - szL L0 + (szL M'.1 - szL M.1) := by omega
              rw [c1, c2]; exact X'
            · rw [← toL_conc]; exact st' _ (Steps.refl _)
        · cases hc
      · cases hc
    · cases hc
  · cases hc
set_option maxRecDepth 65536 in
set_option maxHeartbeats 40000000 in
theorem run_good (hw : ∀ d ∈ W, d.before a0 Z = true) (hρ : ∀ a b, ρ a = ρ b → a = b) (hρn : ∀ a, ro ≤ a → ρ a = n0 + (a - ro)) : ∀ n, Good l Z W ρ ro n0 n
  | 0 => fun F Lb y code ret pc ls st M M' v h => by simp [run] at h
  | n + 1 => by
    have G := run_good hw hρ hρn n
    intro F Lb y code ret pc ls st M M' v h p e R s m args below meth c L0 T hx hZ hown hnm hby hret hlocks hsz hF hLb hRc hRs hL hS hs0 hro H
    unfold run at h
    split at h
    · rename_i ins len hdec
      have hd : decode c.code pc = .ok (ins, len) := by rw [hby]; exact hdec
      split at h
      · rename_i pc' ls' st' hP
        split at hP
        · rename_i hlo
          obtain ⟨g1, T', H', g2⟩ := execP_sound H hx hZ hw hown hF hLb hsz hd hlo hP
          obtain ⟨s₂, L, q1, q⟩ := G h hx hZ hown hnm hby hret hlocks (g1.trans hsz) hF hLb hRc hRs hL hS hs0 hro H'
          exact ⟨s₂, L, g2 _ q1, q⟩
        · cases hP
      · split at h
        · rename_i st' M'' hM
          split at hM
          · rename_i hlo
            have q1 := execM_ext hM
            have q2 := run_ext n h
            obtain ⟨T', H', g2⟩ := execM_sound H hx hZ hw hown hnm hρ hρn hL hS hs0 hro (ls := ls) hd hlo (by omega) (by omega) hM
            obtain ⟨s₂, L, q1, q⟩ := G h hx hZ hown hnm hby hret hlocks hsz hF hLb hRc hRs (by omega) (by omega) hs0 hro H'
            exact ⟨s₂, L, g2 _ q1, q⟩
          · cases hM
        · split at h
          · rename_i v' hv
            cases h
            obtain ⟨locs, X, N, Rl⟩ := H
            unfold retOf at hv
            split at hv
            · rename_i hlen
              subst hlen
              split at hv
              · cases hv
                obtain ⟨fs, hr, hrun, hended, hWm, hsame⟩ := X.leave (v := none) (fun _ => rfl) hlocks
                exact ⟨_, locs, X.returnOut hx hret hd hr, hrun, hended, Rl, N, hWm, hsame⟩
              · rename_i zz _ _
                cases hv
                obtain ⟨fs, hr, hrun, hended, hWm, hsame⟩ := X.leave (v := some (.int zz)) (fun q => by rw [hret] at q; cases q) hlocks
                exact ⟨_, locs, X.ireturnOut hx hret rfl (Or.inl rfl) hd hr, hrun, hended, Rl, N, hWm, hsame⟩
              · rename_i zz _ _
                cases hv
                obtain ⟨fs, hr, hrun, hended, hWm, hsame⟩ := X.leave (v := some (.int (zz &&& 1))) (fun q => by rw [hret] at q; cases q) hlocks
                exact ⟨_, locs, retN X hx (t := .boolean) hret (Or.inl rfl) hd hr, hrun, hended, Rl, N, hWm, hsame⟩
              · rename_i zz _ _
                cases hv
                obtain ⟨fs, hr, hrun, hended, hWm, hsame⟩ := X.leave (v := some (.long zz)) (fun q => by rw [hret] at q; cases q) hlocks
                exact ⟨_, locs, X.lreturnOut hx hret hd hr, hrun, hended, Rl, N, hWm, hsame⟩
              · cases hv
            · cases hv
          · split at h
            · rename_i z as rest b mx r hc
              split at h
              · rename_i hcond
                obtain ⟨h1, h2, h3⟩ := hcond
                split at h
                · rename_i v'' M'' hr
                  have q1 := run_ext n hr
                  have q2 := run_ext n h
                  obtain ⟨T', H', g2⟩ := call_sound G hw H hx hZ hown hF hLb hsz hd hc h1 h2 h3 hr hL hS (by omega) (by omega)
                  obtain ⟨s₂, L, q1, q⟩ := G h hx hZ hown hnm hby hret hlocks hsz hF hLb hRc hRs (by omega) (by omega) hs0 hro H'
                  exact ⟨s₂, L, g2.trans q1, q⟩
                · cases h
              · cases h
            · cases h
    · cases h
end S
end Jvm.OwnEv
namespace Jvm.OwnEv
open Sem ClassFile Op Lib Jvm.Stand Jvm.Free Jvm.LawKit Jvm.RoadKit
/-! PART 6: the run comes to an end that Q says: the rules -/
theorem execP_special {W : List Jvm.Cond} {F Lb : Nat} {y : MethodName} {pc len idx : Nat} {ls : List Slot} {st : List Value} {M : EMem} : execP W F Lb y (.invokespecial idx) pc len ls st M = match st with
    | .ref _ :: r => if objInitAt W y.cls idx = true ∧ 1 ≤ F ∧ wt r + 12 ≤ Lb then some (pc + 3, ls, r) else none
    | _ => none := rfl
theorem objInit_no {W : List Jvm.Cond} {own : String} {idx kd : Nat} {z : MethodName} {na : Nat} {b : ByteArray} {mx : Nat} {r : Option FieldType} (h : callAt W own idx kd = some (z, na, b, mx, r)) : objInitAt W own idx = false := by
  cases q : objInitAt W own idx with
  | false => rfl
  | true =>
    have hm : methodLk own idx W = some Lib.objectInit := by
      unfold objInitAt at q
      split at q
      · rename_i z' b' n' r' h1 h2
        simp only [Bool.and_eq_true, decide_eq_true_eq] at q
        rw [h1, q.1.1.1.1]
      · cases q
    have hpn : plainName Lib.objectInit.cls = false := by decide
    unfold callAt at h
    rw [hm] at h
    simp only at h
    split at h
    · split at h
      · rename_i hc
        rw [hpn] at hc
        simp at hc
      · cases h
    · cases h
theorem run_succ {W : List Jvm.Cond} {ro : Nat} : ∀ (n : Nat) {F Lb : Nat} {y : MethodName} {code : ByteArray} {ret : Option FieldType} {pc : Nat} {ls : List Slot} {st : List Value} {M : EMem} {x : Option Value × EMem} {F' Lb' : Nat}, F ≤ F' → Lb ≤ Lb' →
    run W ro n F Lb y code ret pc ls st M = some x → run W ro (n + 1) F' Lb' y code ret pc ls st M = some x
  | 0, _, _, _, _, _, _, _, _, _, _, _, _, _, _, h => by simp [run] at h
  | n + 1, F, Lb, y, code, ret, pc, ls, st, M, x, F', Lb', hF, hL, h => by
    unfold run at h
    unfold run
    split at h
    · rename_i ins len hd
      split at h
      · rename_i pc' ls' st' hP
        have hP' : (if lenOk len ins = true then execP W F' Lb' y ins pc len ls st M else none) = some (pc', ls', st') := by
          split at hP
          · rename_i hl
            rw [if_pos hl]
            by_cases hi : ∃ idx, ins = .invokespecial idx
            · obtain ⟨idx, rfl⟩ := hi
              rw [execP_special] at hP ⊢
              split at hP
              · split at hP
                · rename_i hc
                  rw [if_pos ⟨hc.1, Nat.le_trans hc.2.1 hF, Nat.le_trans hc.2.2 hL⟩]
                  exact hP
                · cases hP
              · cases hP
            · have e : execP W F' Lb' y ins pc len ls st M = execP W F Lb y ins pc len ls st M := by
                cases ins <;> first | rfl | (exact absurd ⟨_, rfl⟩ hi)
              rw [e]; exact hP
          · cases hP
        rw [hP']
        exact run_succ n hF hL h
      · rename_i hP
        split at h
        · rename_i st' M' hM
          have hP' : (if lenOk len ins = true then execP W F' Lb' y ins pc len ls st M else none) = none := by
            split at hP
            · rename_i hl
              rw [if_pos hl]
              rw [if_pos hl] at hM
              cases ins <;> first | exact hP | (simp [execM] at hM)
            · rename_i hl
              rw [if_neg hl]
          rw [hP']
          exact run_succ n hF hL h
        · rename_i hM
          split at h
          · rename_i v hv
            have hP' : (if lenOk len ins = true then execP W F' Lb' y ins pc len ls st M else none) = none := by
              split at hP
              · rename_i hl
                rw [if_pos hl]
                cases ins <;> first | exact hP | (simp [retOf] at hv)
              · rename_i hl
                rw [if_neg hl]
            rw [hP']
            exact h
          · rename_i hv
            split at h
            · rename_i z as rest b mx r hc
              split at h
              · rename_i hcond
                obtain ⟨h1, h2, h3⟩ := hcond
                split at h
                · rename_i v M' hr
                  have hP' : (if lenOk len ins = true then execP W F' Lb' y ins pc len ls st M else none) = none := by
                    split at hP
                    · rename_i hl
                      rw [if_pos hl]
                      by_cases hi : ∃ idx, ins = .invokespecial idx
                      · obtain ⟨idx, rfl⟩ := hi
                        rw [execP_special]
                        split
                        · rw [if_neg]
                          intro q
                          have hcc : ∃ u, callAt W y.cls idx 2 = some u := by
                            cases hcq : callAt W y.cls idx 2 with
                            | some u => exact ⟨u, rfl⟩
                            | none =>
                              have e : ∀ s' : List Value, callOf W y (.invokespecial idx) len s' M = none := fun s' => by
                                unfold callOf
                                split
                                · simp only [hcq]
                                · rfl
                              rw [e] at hc; cases hc
                          obtain ⟨⟨u1, u2, u3, u4, u5⟩, hu⟩ := hcc
                          have q1 := q.1
                          rw [objInit_no hu] at q1
                          cases q1
                        · rfl
                      · have e : execP W F' Lb' y ins pc len ls st M = execP W F Lb y ins pc len ls st M := by
                          cases ins <;> first | rfl | (exact absurd ⟨_, rfl⟩ hi)
                        rw [e]; exact hP
                    · rename_i hl
                      rw [if_neg hl]
                  rw [hP']
                  simp only
                  rw [if_pos ⟨Nat.le_trans h1 hF, Nat.le_trans h2 hL, h3⟩, run_succ n (by omega) (by omega) hr]
                  exact run_succ n hF hL h
                · cases h
              · cases h
            · cases h
    · cases h
theorem run_mono {W : List Jvm.Cond} {ro n n' F Lb : Nat} {y : MethodName} {code : ByteArray} {ret : Option FieldType} {pc : Nat} {ls : List Slot} {st : List Value} {M : EMem} {x : Option Value × EMem} {F' Lb' : Nat} (hn : n < n') (hF : F ≤ F') (hL : Lb ≤ Lb')
    (h : run W ro n F Lb y code ret pc ls st M = some x) : run W ro n' F' Lb' y code ret pc ls st M = some x := by
  have : ∀ k, run W ro (n + 1 + k) F' Lb' y code ret pc ls st M = some x := fun k => by
    induction k with
    | zero => exact run_succ n hF hL h
    | succ k ih => exact run_succ _ (Nat.le_refl _) (Nat.le_refl _) ih
  have e : n' = n + 1 + (n' - (n + 1)) := by omega
  rw [e]; exact this _
def Wp (W : List Jvm.Cond) (ro F Lb : Nat) (y : MethodName) (code : ByteArray) (ret : Option FieldType) (pc : Nat) (ls : List Slot) (st : List Value) (M : EMem) (Q : Option Value → EMem → Prop) : Prop :=
  ∃ n v M', run W ro n F Lb y code ret pc ls st M = some (v, M') ∧ Q v M'
section Rules
variable {W : List Jvm.Cond} {ro F Lb : Nat} {y : MethodName} {code : ByteArray} {ret : Option FieldType} {pc : Nat} {ls : List Slot} {st : List Value} {M : EMem} {Q : Option Value → EMem → Prop}
theorem Wp.mono {Q' : Option Value → EMem → Prop} (h : Wp W ro F Lb y code ret pc ls st M Q) (q : ∀ v M', Q v M' → Q' v M') : Wp W ro F Lb y code ret pc ls st M Q' := by
  obtain ⟨n, v, M', h1, h2⟩ := h; exact ⟨n, v, M', h1, q _ _ h2⟩
theorem Wp.room {F' Lb' : Nat} (hF : F ≤ F') (hL : Lb ≤ Lb') (h : Wp W ro F Lb y code ret pc ls st M Q) : Wp W ro F' Lb' y code ret pc ls st M Q := by
  obtain ⟨n, v, M', h1, h2⟩ := h; exact ⟨n + 1, v, M', run_succ n hF hL h1, h2⟩
theorem Wp.p {ins : Instr} {len pc' : Nat} {ls' : List Slot} {st' : List Value} (hd : decode code pc = .ok (ins, len)) (hl : lenOk len ins = true) (he : execP W F Lb y ins pc len ls st M = some (pc', ls', st')) (k : Wp W ro F Lb y code ret pc' ls' st' M Q) : Wp W ro F Lb y code ret pc ls st M Q := by
  obtain ⟨n, v, M', h1, h2⟩ := k
  refine ⟨n + 1, v, M', ?_, h2⟩
  unfold run
  rw [hd]
  simp only
  rw [if_pos hl, he]
  exact h1
theorem Wp.m {ins : Instr} {len : Nat} {st' : List Value} {M1 : EMem} (hd : decode code pc = .ok (ins, len)) (hl : lenOk len ins = true) (hp : execP W F Lb y ins pc len ls st M = none) (he : execM W ro y ins st M = some (st', M1)) (k : Wp W ro F Lb y code ret (pc + len) ls st' M1 Q) : Wp W ro F Lb y code ret pc ls st M Q := by
  obtain ⟨n, v, M', h1, h2⟩ := k
  refine ⟨n + 1, v, M', ?_, h2⟩
  unfold run
  rw [hd]
  simp only
  rw [if_pos hl, hp]
  simp only
  rw [if_pos hl, he]
  exact h1
theorem Wp.r {ins : Instr} {len : Nat} {v : Option Value} (hd : decode code pc = .ok (ins, len)) (hp : execP W F Lb y ins pc len ls st M = none) (hm : execM W ro y ins st M = none) (hr : retOf ins len ret st = some v) (q : Q v M) : Wp W ro F Lb y code ret pc ls st M Q := by
  refine ⟨1, v, M, ?_, q⟩
  unfold run
  rw [hd]
  simp only
  rw [hp, ite_self, hm, ite_self]
  simp only
  rw [hr]
theorem Wp.c {ins : Instr} {len : Nat} {z : MethodName} {as rest : List Value} {b : ByteArray} {mx : Nat} {r : Option FieldType} {F' Lb' w : Nat} (hd : decode code pc = .ok (ins, len)) (hp : execP W F Lb y ins pc len ls st M = none) (hm : execM W ro y ins st M = none) (hr : retOf ins len ret st = none)
    (hc : callOf W y ins len st M = some (z, as, rest, b, mx, r)) (hw : wt rest = w) (h1 : F' + 1 ≤ F) (h2 : w + (mx + 11) + Lb' ≤ Lb) (h3 : (fillL as).length ≤ mx) (k : Wp W ro F' Lb' z b r 0 (entryL as mx) [] M fun v M' => Wp W ro F Lb y code ret (pc + 3) ls (v.toList ++ rest) M' Q) : Wp W ro F Lb y code ret pc ls st M Q := by
  obtain ⟨n1, v1, M1, k1, n2, v2, M2, k2, hq⟩ := k
  subst hw
  refine ⟨n1 + n2 + 3, v2, M2, ?_, hq⟩
  unfold run
  rw [hd]
  simp only
  rw [hp, ite_self, hm, ite_self]
  simp only
  rw [hr, hc]
  simp only
  rw [if_pos ⟨by omega, by omega, h3⟩, run_mono (n' := n1 + n2 + 2) (by omega) (by omega) (by omega) k1]
  exact run_mono (by omega) (Nat.le_refl _) (Nat.le_refl _) k2
theorem Wp.icmp {cd : ClassFile.Cond} {o : Int} {t : Nat} {a b : Int32} {r : List Value} (hd : decode code pc = .ok (.if_icmp cd o, 3)) (hj : jump pc o = some t) (k1 : if_icmp.holds cd a b = true → Wp W ro F Lb y code ret t ls r M Q) (k2 : if_icmp.holds cd a b = false → Wp W ro F Lb y code ret (pc + 3) ls r M Q) : Wp W ro F Lb y code ret pc ls (.int b :: .int a :: r) M Q := by
  have he : execP W F Lb y (.if_icmp cd o) pc 3 ls (.int b :: .int a :: r) M = some (if if_icmp.holds cd a b = true then t else pc + 3, ls, r) := by simp only [execP, hj]
  refine Wp.p hd rfl he ?_
  cases h : if_icmp.holds cd a b with
  | true => rw [if_pos rfl]; exact k1 h
  | false => rw [if_neg Bool.false_ne_true]; exact k2 h
theorem Wp.if0 {cd : ClassFile.Cond} {o : Int} {t : Nat} {a : Int32} {r : List Value} (hd : decode code pc = .ok (.ifCond cd o, 3)) (hj : jump pc o = some t) (k1 : if_icmp.holds cd a 0 = true → Wp W ro F Lb y code ret t ls r M Q) (k2 : if_icmp.holds cd a 0 = false → Wp W ro F Lb y code ret (pc + 3) ls r M Q) : Wp W ro F Lb y code ret pc ls (.int a :: r) M Q := by
  have he : execP W F Lb y (.ifCond cd o) pc 3 ls (.int a :: r) M = some (if ifCond.holds cd a = true then t else pc + 3, ls, r) := by simp only [execP, hj]
  refine Wp.p hd rfl he ?_
  rw [RoadKit.if0]
  cases h : if_icmp.holds cd a 0 with
  | true => rw [if_pos rfl]; exact k1 h
  | false => rw [if_neg Bool.false_ne_true]; exact k2 h
theorem Wp.icmp_lt {o : Int} {t : Nat} {a b : Int32} {r : List Value} (hd : decode code pc = .ok (.if_icmp .lt o, 3)) (hj : jump pc o = some t) (k1 : a < b → Wp W ro F Lb y code ret t ls r M Q) (k2 : ¬ a < b → Wp W ro F Lb y code ret (pc + 3) ls r M Q) : Wp W ro F Lb y code ret pc ls (.int b :: .int a :: r) M Q :=
  Wp.icmp hd hj (fun h => k1 (Classical.byContradiction fun q => by rw [(flt (x := a) (y := b) (by exact q)).1] at h; cases h)) (fun h => k2 (Classical.byContradiction fun q => by rw [(tlt (x := a) (y := b) (by simpa using q)).1] at h; cases h))
theorem Wp.if_lt {o : Int} {t : Nat} {a : Int32} {r : List Value} (hd : decode code pc = .ok (.ifCond .lt o, 3)) (hj : jump pc o = some t) (k1 : a < 0 → Wp W ro F Lb y code ret t ls r M Q) (k2 : ¬ a < 0 → Wp W ro F Lb y code ret (pc + 3) ls r M Q) : Wp W ro F Lb y code ret pc ls (.int a :: r) M Q :=
  Wp.if0 hd hj (fun h => k1 (Classical.byContradiction fun q => by rw [(flt (x := a) (y := 0) (by exact q)).1] at h; cases h)) (fun h => k2 (Classical.byContradiction fun q => by rw [(tlt (x := a) (y := 0) (by simpa using q)).1] at h; cases h))
theorem Wp.icmp_ge {o : Int} {t : Nat} {a b : Int32} {r : List Value} (hd : decode code pc = .ok (.if_icmp .ge o, 3)) (hj : jump pc o = some t) (k1 : ¬ a < b → Wp W ro F Lb y code ret t ls r M Q) (k2 : a < b → Wp W ro F Lb y code ret (pc + 3) ls r M Q) : Wp W ro F Lb y code ret pc ls (.int b :: .int a :: r) M Q :=
  Wp.icmp hd hj (fun h => k1 (Classical.byContradiction fun q => by rw [(tlt (x := a) (y := b) (by simpa using q)).2.1] at h; cases h)) (fun h => k2 (Classical.byContradiction fun q => by rw [(flt (x := a) (y := b) (by exact q)).2.1] at h; cases h))
theorem Wp.if_ge {o : Int} {t : Nat} {a : Int32} {r : List Value} (hd : decode code pc = .ok (.ifCond .ge o, 3)) (hj : jump pc o = some t) (k1 : ¬ a < 0 → Wp W ro F Lb y code ret t ls r M Q) (k2 : a < 0 → Wp W ro F Lb y code ret (pc + 3) ls r M Q) : Wp W ro F Lb y code ret pc ls (.int a :: r) M Q :=
  Wp.if0 hd hj (fun h => k1 (Classical.byContradiction fun q => by rw [(tlt (x := a) (y := 0) (by simpa using q)).2.1] at h; cases h)) (fun h => k2 (Classical.byContradiction fun q => by rw [(flt (x := a) (y := 0) (by exact q)).2.1] at h; cases h))
theorem Wp.icmp_gt {o : Int} {t : Nat} {a b : Int32} {r : List Value} (hd : decode code pc = .ok (.if_icmp .gt o, 3)) (hj : jump pc o = some t) (k1 : b < a → Wp W ro F Lb y code ret t ls r M Q) (k2 : ¬ b < a → Wp W ro F Lb y code ret (pc + 3) ls r M Q) : Wp W ro F Lb y code ret pc ls (.int b :: .int a :: r) M Q :=
  Wp.icmp hd hj (fun h => k1 (Classical.byContradiction fun q => by rw [(flt (x := b) (y := a) (by exact q)).2.2.1] at h; cases h)) (fun h => k2 (Classical.byContradiction fun q => by rw [(tlt (x := b) (y := a) (by simpa using q)).2.2.1] at h; cases h))
theorem Wp.if_gt {o : Int} {t : Nat} {a : Int32} {r : List Value} (hd : decode code pc = .ok (.ifCond .gt o, 3)) (hj : jump pc o = some t) (k1 : 0 < a → Wp W ro F Lb y code ret t ls r M Q) (k2 : ¬ 0 < a → Wp W ro F Lb y code ret (pc + 3) ls r M Q) : Wp W ro F Lb y code ret pc ls (.int a :: r) M Q :=
  Wp.if0 hd hj (fun h => k1 (Classical.byContradiction fun q => by rw [(flt (x := 0) (y := a) (by exact q)).2.2.1] at h; cases h)) (fun h => k2 (Classical.byContradiction fun q => by rw [(tlt (x := 0) (y := a) (by simpa using q)).2.2.1] at h; cases h))
theorem Wp.icmp_le {o : Int} {t : Nat} {a b : Int32} {r : List Value} (hd : decode code pc = .ok (.if_icmp .le o, 3)) (hj : jump pc o = some t) (k1 : ¬ b < a → Wp W ro F Lb y code ret t ls r M Q) (k2 : b < a → Wp W ro F Lb y code ret (pc + 3) ls r M Q) : Wp W ro F Lb y code ret pc ls (.int b :: .int a :: r) M Q :=
  Wp.icmp hd hj (fun h => k1 (Classical.byContradiction fun q => by rw [(tlt (x := b) (y := a) (by simpa using q)).2.2.2] at h; cases h)) (fun h => k2 (Classical.byContradiction fun q => by rw [(flt (x := b) (y := a) (by exact q)).2.2.2] at h; cases h))
theorem Wp.if_le {o : Int} {t : Nat} {a : Int32} {r : List Value} (hd : decode code pc = .ok (.ifCond .le o, 3)) (hj : jump pc o = some t) (k1 : ¬ 0 < a → Wp W ro F Lb y code ret t ls r M Q) (k2 : 0 < a → Wp W ro F Lb y code ret (pc + 3) ls r M Q) : Wp W ro F Lb y code ret pc ls (.int a :: r) M Q :=
  Wp.if0 hd hj (fun h => k1 (Classical.byContradiction fun q => by rw [(tlt (x := 0) (y := a) (by simpa using q)).2.2.2] at h; cases h)) (fun h => k2 (Classical.byContradiction fun q => by rw [(flt (x := 0) (y := a) (by exact q)).2.2.2] at h; cases h))
theorem Wp.icmp_eq {o : Int} {t : Nat} {a b : Int32} {r : List Value} (hd : decode code pc = .ok (.if_icmp .eq o, 3)) (hj : jump pc o = some t) (k1 : a = b → Wp W ro F Lb y code ret t ls r M Q) (k2 : ¬ a = b → Wp W ro F Lb y code ret (pc + 3) ls r M Q) : Wp W ro F Lb y code ret pc ls (.int b :: .int a :: r) M Q :=
  Wp.icmp hd hj (fun h => k1 (Classical.byContradiction fun q => by rw [(feq (x := a) (y := b) (by exact q)).1] at h; cases h)) (fun h => k2 (Classical.byContradiction fun q => by rw [(teq (x := a) (y := b) (by simpa using q)).1] at h; cases h))
theorem Wp.if_eq {o : Int} {t : Nat} {a : Int32} {r : List Value} (hd : decode code pc = .ok (.ifCond .eq o, 3)) (hj : jump pc o = some t) (k1 : a = 0 → Wp W ro F Lb y code ret t ls r M Q) (k2 : ¬ a = 0 → Wp W ro F Lb y code ret (pc + 3) ls r M Q) : Wp W ro F Lb y code ret pc ls (.int a :: r) M Q :=
  Wp.if0 hd hj (fun h => k1 (Classical.byContradiction fun q => by rw [(feq (x := a) (y := 0) (by exact q)).1] at h; cases h)) (fun h => k2 (Classical.byContradiction fun q => by rw [(teq (x := a) (y := 0) (by simpa using q)).1] at h; cases h))
theorem Wp.icmp_ne {o : Int} {t : Nat} {a b : Int32} {r : List Value} (hd : decode code pc = .ok (.if_icmp .ne o, 3)) (hj : jump pc o = some t) (k1 : ¬ a = b → Wp W ro F Lb y code ret t ls r M Q) (k2 : a = b → Wp W ro F Lb y code ret (pc + 3) ls r M Q) : Wp W ro F Lb y code ret pc ls (.int b :: .int a :: r) M Q :=
  Wp.icmp hd hj (fun h => k1 (Classical.byContradiction fun q => by rw [(teq (x := a) (y := b) (by simpa using q)).2] at h; cases h)) (fun h => k2 (Classical.byContradiction fun q => by rw [(feq (x := a) (y := b) (by exact q)).2] at h; cases h))
theorem Wp.if_ne {o : Int} {t : Nat} {a : Int32} {r : List Value} (hd : decode code pc = .ok (.ifCond .ne o, 3)) (hj : jump pc o = some t) (k1 : ¬ a = 0 → Wp W ro F Lb y code ret t ls r M Q) (k2 : a = 0 → Wp W ro F Lb y code ret (pc + 3) ls r M Q) : Wp W ro F Lb y code ret pc ls (.int a :: r) M Q :=
  Wp.if0 hd hj (fun h => k1 (Classical.byContradiction fun q => by rw [(teq (x := a) (y := 0) (by simpa using q)).2] at h; cases h)) (fun h => k2 (Classical.byContradiction fun q => by rw [(feq (x := a) (y := 0) (by exact q)).2] at h; cases h))
variable {L : ELay} {mi : Nat → Nat → Int32} {ml : Nat → Nat → Int64} {mr : Nat → Nat → Value}
theorem Wp.iconst {i : Int} {r : List Value} (v : Int32) (hd : decode code pc = .ok (.iconst i, 1)) (hv : Int32.ofInt i = v) (k : Wp W ro F Lb y code ret (pc + 1) ls (.int v :: r) M Q) : Wp W ro F Lb y code ret pc ls r M Q := by
  subst hv; exact Wp.p hd rfl rfl k
theorem Wp.bipush {i : Int} {r : List Value} (v : Int32) (hd : decode code pc = .ok (.bipush i, 2)) (hv : (Int8.ofInt i).toInt32 = v) (k : Wp W ro F Lb y code ret (pc + 2) ls (.int v :: r) M Q) : Wp W ro F Lb y code ret pc ls r M Q := by
  subst hv; exact Wp.p hd rfl rfl k
theorem Wp.sipush {i : Int} {r : List Value} (v : Int32) (hd : decode code pc = .ok (.sipush i, 3)) (hv : (Int16.ofInt i).toInt32 = v) (k : Wp W ro F Lb y code ret (pc + 3) ls (.int v :: r) M Q) : Wp W ro F Lb y code ret pc ls r M Q := by
  subst hv; exact Wp.p hd rfl rfl k
theorem Wp.lconst {i : Fin 2} {r : List Value} (v : Int64) (hd : decode code pc = .ok (.lconst i, 1)) (hv : Int64.ofNat i = v) (k : Wp W ro F Lb y code ret (pc + 1) ls (.long v :: r) M Q) : Wp W ro F Lb y code ret pc ls r M Q := by
  subst hv; exact Wp.p hd rfl rfl k
theorem Wp.iinc {i : Nat} {d : Int} {x : Int32} {l' : List Slot} (v : Int32) (hd : decode code pc = .ok (.iinc i d, 3)) (hv : Int32.ofInt d = v) (hl : ls[i]? = some (.val (.int x))) (hs : storeL ls i (.int (x + v)) = some l') (k : Wp W ro F Lb y code ret (pc + 3) l' st M Q) : Wp W ro F Lb y code ret pc ls st M Q := by
  subst hv
  exact Wp.p hd rfl (by simp only [execP, hl, hs]) k
theorem Wp.ldc {i : Nat} {r : List Value} {v : Int32} (hd : decode code pc = .ok (.ldc i, 2)) (hv : intLk y.cls i W = some v) (k : Wp W ro F Lb y code ret (pc + 2) ls (.int v :: r) M Q) : Wp W ro F Lb y code ret pc ls r M Q :=
  Wp.p hd rfl (by simp only [execP, hv]) k
theorem Wp.ldcw {i : Nat} {r : List Value} {v : Int32} (hd : decode code pc = .ok (.ldc_w i, 3)) (hv : intLk y.cls i W = some v) (k : Wp W ro F Lb y code ret (pc + 3) ls (.int v :: r) M Q) : Wp W ro F Lb y code ret pc ls r M Q :=
  Wp.p hd rfl (by simp only [execP, hv]) k
theorem Wp.ldc2 {i : Nat} {r : List Value} {v : Int64} (hd : decode code pc = .ok (.ldc2_w i, 3)) (hv : longLk y.cls i W = some v) (k : Wp W ro F Lb y code ret (pc + 3) ls (.long v :: r) M Q) : Wp W ro F Lb y code ret pc ls r M Q :=
  Wp.p hd rfl (by simp only [execP, hv]) k
theorem Wp.getI {i a k n : Nat} {C : String} {fin : Bool} {r : List Value} (v : Int32) (hd : decode code pc = .ok (.getfield i, 3)) (hf : fieldAt W y.cls i = some (C, k, 1, fin)) (hc : L[a]? = some (0, C, n)) (hv : mi a k = v) (q : Wp W ro F Lb y code ret (pc + 3) ls (.int v :: r) (L, mi, ml, mr) Q) : Wp W ro F Lb y code ret pc ls (.ref a :: r) (L, mi, ml, mr) Q := by
  subst hv
  exact Wp.p hd rfl (by simp only [execP, hf, hc, getV, if_true]) q
theorem Wp.getZ {i a k n : Nat} {C : String} {fin : Bool} {r : List Value} (v : Int32) (hd : decode code pc = .ok (.getfield i, 3)) (hf : fieldAt W y.cls i = some (C, k, 2, fin)) (hc : L[a]? = some (0, C, n)) (hv : mi a k = v) (q : Wp W ro F Lb y code ret (pc + 3) ls (.int v :: r) (L, mi, ml, mr) Q) : Wp W ro F Lb y code ret pc ls (.ref a :: r) (L, mi, ml, mr) Q := by
  subst hv
  exact Wp.p hd rfl (by simp only [execP, hf, hc, getV, if_true]) q
theorem Wp.getJ {i a k n : Nat} {C : String} {fin : Bool} {r : List Value} (v : Int64) (hd : decode code pc = .ok (.getfield i, 3)) (hf : fieldAt W y.cls i = some (C, k, 3, fin)) (hc : L[a]? = some (0, C, n)) (hv : ml a k = v) (q : Wp W ro F Lb y code ret (pc + 3) ls (.long v :: r) (L, mi, ml, mr) Q) : Wp W ro F Lb y code ret pc ls (.ref a :: r) (L, mi, ml, mr) Q := by
  subst hv
  exact Wp.p hd rfl (by simp only [execP, hf, hc, getV, if_true]) q
theorem Wp.getR {i a k n b : Nat} {C : String} {fin : Bool} {r : List Value} (hd : decode code pc = .ok (.getfield i, 3)) (hf : fieldAt W y.cls i = some (C, k, 4, fin)) (hc : L[a]? = some (0, C, n)) (hr : mr a k = .ref b) (q : Wp W ro F Lb y code ret (pc + 3) ls (.ref b :: r) (L, mi, ml, mr) Q) : Wp W ro F Lb y code ret pc ls (.ref a :: r) (L, mi, ml, mr) Q :=
  Wp.p hd rfl (by simp only [execP, hf, hc, getV, if_true, hr]) q
theorem Wp.len {a n kd : Nat} {u : String} {r : List Value} (hd : decode code pc = .ok (.arraylength, 1)) (hc : L[a]? = some (kd, u, n)) (hk : kd = 1 ∨ kd = 2 ∨ kd = 3) (q : Wp W ro F Lb y code ret (pc + 1) ls (.int n.toInt32 :: r) (L, mi, ml, mr) Q) : Wp W ro F Lb y code ret pc ls (.ref a :: r) (L, mi, ml, mr) Q := by
  rcases hk with rfl | rfl | rfl <;> exact Wp.p hd rfl (by simp only [execP, hc]) q
theorem Wp.iaload {a n k : Nat} {u : String} {j : Int32} {r : List Value} (v : Int32) (hd : decode code pc = .ok (.iaload, 1)) (hc : L[a]? = some (1, u, n)) (hk : j.toNatClampNeg = k) (hj : inb j n = true) (hv : mi a k = v) (q : Wp W ro F Lb y code ret (pc + 1) ls (.int v :: r) (L, mi, ml, mr) Q) : Wp W ro F Lb y code ret pc ls (.int j :: .ref a :: r) (L, mi, ml, mr) Q := by
  subst hk hv
  exact Wp.p hd rfl (by simp only [execP, hc, hj, if_true]) q
theorem Wp.baload {a n k : Nat} {u : String} {j : Int32} {r : List Value} (v : Int32) (hd : decode code pc = .ok (.baload, 1)) (hc : L[a]? = some (3, u, n)) (hk : j.toNatClampNeg = k) (hj : inb j n = true) (hv : mi a k = v) (q : Wp W ro F Lb y code ret (pc + 1) ls (.int v :: r) (L, mi, ml, mr) Q) : Wp W ro F Lb y code ret pc ls (.int j :: .ref a :: r) (L, mi, ml, mr) Q := by
  subst hk hv
  exact Wp.p hd rfl (by simp only [execP, hc, hj, if_true]) q
theorem Wp.laload {a n k : Nat} {u : String} {j : Int32} {r : List Value} (v : Int64) (hd : decode code pc = .ok (.laload, 1)) (hc : L[a]? = some (2, u, n)) (hk : j.toNatClampNeg = k) (hj : inb j n = true) (hv : ml a k = v) (q : Wp W ro F Lb y code ret (pc + 1) ls (.long v :: r) (L, mi, ml, mr) Q) : Wp W ro F Lb y code ret pc ls (.int j :: .ref a :: r) (L, mi, ml, mr) Q := by
  subst hk hv
  exact Wp.p hd rfl (by simp only [execP, hc, hj, if_true]) q
theorem Wp.iastore {a n k : Nat} {u : String} {j x : Int32} {r : List Value} (hd : decode code pc = .ok (.iastore, 1)) (hc : L[a]? = some (1, u, n)) (hk : j.toNatClampNeg = k) (hj : inb j n = true) (ha : ro ≤ a) (q : Wp W ro F Lb y code ret (pc + 1) ls r (L, up mi a k x, ml, mr) Q) : Wp W ro F Lb y code ret pc ls (.int x :: .int j :: .ref a :: r) (L, mi, ml, mr) Q := by
  subst hk
  exact Wp.m hd rfl rfl (by simp only [execM, hc]; rw [if_pos ⟨hj, ha⟩]) q
theorem Wp.bastore {a n k : Nat} {u : String} {j x : Int32} {r : List Value} (v : Int32) (hd : decode code pc = .ok (.bastore, 1)) (hc : L[a]? = some (3, u, n)) (hk : j.toNatClampNeg = k) (hj : inb j n = true) (ha : ro ≤ a) (hv : x &&& 1 = v) (q : Wp W ro F Lb y code ret (pc + 1) ls r (L, up mi a k v, ml, mr) Q) : Wp W ro F Lb y code ret pc ls (.int x :: .int j :: .ref a :: r) (L, mi, ml, mr) Q := by
  subst hk hv
  exact Wp.m hd rfl rfl (by simp only [execM, hc]; rw [if_pos ⟨hj, ha⟩]) q
theorem Wp.lastore {a n k : Nat} {u : String} {j : Int32} {x : Int64} {r : List Value} (hd : decode code pc = .ok (.lastore, 1)) (hc : L[a]? = some (2, u, n)) (hk : j.toNatClampNeg = k) (hj : inb j n = true) (ha : ro ≤ a) (q : Wp W ro F Lb y code ret (pc + 1) ls r (L, mi, up ml a k x, mr) Q) : Wp W ro F Lb y code ret pc ls (.long x :: .int j :: .ref a :: r) (L, mi, ml, mr) Q := by
  subst hk
  exact Wp.m hd rfl rfl (by simp only [execM, hc]; rw [if_pos ⟨hj, ha⟩]) q
theorem Wp.putI {i a k n u : Nat} {C : String} {fin : Bool} {x : Int32} {r : List Value} (hd : decode code pc = .ok (.putfield i, 3)) (hf : fieldAt W y.cls i = some (C, k, 1, fin)) (hc : L[a]? = some (0, C, n)) (ha : ro ≤ a) (hi : instLk C W = some u) (hfin : fin = false ∨ (y.cls = C ∧ y.name = "<init>")) (q : Wp W ro F Lb y code ret (pc + 3) ls r (L, up mi a k x, ml, mr) Q) : Wp W ro F Lb y code ret pc ls (.int x :: .ref a :: r) (L, mi, ml, mr) Q :=
  Wp.m hd rfl rfl (by simp only [execM, hf, hc]; rw [if_pos ⟨trivial, ha, hfin, by rw [hi]; rfl⟩]) q
theorem Wp.putZ {i a k n u : Nat} {C : String} {fin : Bool} {x : Int32} {r : List Value} (v : Int32) (hd : decode code pc = .ok (.putfield i, 3)) (hf : fieldAt W y.cls i = some (C, k, 2, fin)) (hc : L[a]? = some (0, C, n)) (ha : ro ≤ a) (hi : instLk C W = some u) (hfin : fin = false ∨ (y.cls = C ∧ y.name = "<init>")) (hv : x &&& 1 = v) (q : Wp W ro F Lb y code ret (pc + 3) ls r (L, up mi a k v, ml, mr) Q) : Wp W ro F Lb y code ret pc ls (.int x :: .ref a :: r) (L, mi, ml, mr) Q := by
  subst hv
  exact Wp.m hd rfl rfl (by simp only [execM, hf, hc]; rw [if_pos ⟨trivial, ha, hfin, by rw [hi]; rfl⟩]) q
theorem Wp.putJ {i a k n u : Nat} {C : String} {fin : Bool} {x : Int64} {r : List Value} (hd : decode code pc = .ok (.putfield i, 3)) (hf : fieldAt W y.cls i = some (C, k, 3, fin)) (hc : L[a]? = some (0, C, n)) (ha : ro ≤ a) (hi : instLk C W = some u) (hfin : fin = false ∨ (y.cls = C ∧ y.name = "<init>")) (q : Wp W ro F Lb y code ret (pc + 3) ls r (L, mi, up ml a k x, mr) Q) : Wp W ro F Lb y code ret pc ls (.long x :: .ref a :: r) (L, mi, ml, mr) Q :=
  Wp.m hd rfl rfl (by simp only [execM, hf, hc]; rw [if_pos ⟨trivial, ha, hfin, by rw [hi]; rfl⟩]) q
theorem Wp.putR {i a k n u b : Nat} {C : String} {fin : Bool} {r : List Value} (hd : decode code pc = .ok (.putfield i, 3)) (hf : fieldAt W y.cls i = some (C, k, 4, fin)) (hc : L[a]? = some (0, C, n)) (ha : ro ≤ a) (hi : instLk C W = some u) (hfin : fin = false ∨ (y.cls = C ∧ y.name = "<init>")) (q : Wp W ro F Lb y code ret (pc + 3) ls r (L, mi, ml, up mr a k (.ref b)) Q) : Wp W ro F Lb y code ret pc ls (.ref b :: .ref a :: r) (L, mi, ml, mr) Q :=
  Wp.m hd rfl rfl (by simp only [execM, hf, hc]; rw [if_pos ⟨trivial, ha, hfin, by rw [hi]; rfl⟩]) q
theorem Wp.new {i n a : Nat} {L' : ELay} {C : String} {r : List Value} (hd : decode code pc = .ok (.new i, 3)) (hn : newAt W y.cls i = some (C, n)) (ha : L.length = a) (hL : L ++ [(0, C, n)] = L') (q : Wp W ro F Lb y code ret (pc + 3) ls (.ref a :: r) (L', mi, ml, mr) Q) : Wp W ro F Lb y code ret pc ls r (L, mi, ml, mr) Q := by
  subst ha hL
  exact Wp.m hd rfl rfl (by simp only [execM, hn]) q
theorem Wp.new_int {n : Int32} {a z : Nat} {L' : ELay} {r : List Value} (hd : decode code pc = .ok (.newarray .int, 2)) (ha : hasArr .int W = true) (hn : ¬ n < 0 ∧ n.toNatClampNeg * 8 ≤ 536870912) (hz : n.toNatClampNeg = z) (he : L.length = a) (hL : L ++ [(1, "", z)] = L') (q : Wp W ro F Lb y code ret (pc + 2) ls (.ref a :: r) (L', mi, ml, mr) Q) : Wp W ro F Lb y code ret pc ls (.int n :: r) (L, mi, ml, mr) Q := by
  subst hz he hL
  exact Wp.m hd rfl rfl (by simp only [execM]; rw [if_pos ⟨hn.1, hn.2, ha⟩]) q
theorem Wp.new_long {n : Int32} {a z : Nat} {L' : ELay} {r : List Value} (hd : decode code pc = .ok (.newarray .long, 2)) (ha : hasArr .long W = true) (hn : ¬ n < 0 ∧ n.toNatClampNeg * 8 ≤ 536870912) (hz : n.toNatClampNeg = z) (he : L.length = a) (hL : L ++ [(2, "", z)] = L') (q : Wp W ro F Lb y code ret (pc + 2) ls (.ref a :: r) (L', mi, ml, mr) Q) : Wp W ro F Lb y code ret pc ls (.int n :: r) (L, mi, ml, mr) Q := by
  subst hz he hL
  exact Wp.m hd rfl rfl (by simp only [execM]; rw [if_pos ⟨hn.1, hn.2, ha⟩]) q
theorem Wp.new_boolean {n : Int32} {a z : Nat} {L' : ELay} {r : List Value} (hd : decode code pc = .ok (.newarray .boolean, 2)) (ha : hasArr .boolean W = true) (hn : ¬ n < 0 ∧ n.toNatClampNeg * 8 ≤ 536870912) (hz : n.toNatClampNeg = z) (he : L.length = a) (hL : L ++ [(3, "", z)] = L') (q : Wp W ro F Lb y code ret (pc + 2) ls (.ref a :: r) (L', mi, ml, mr) Q) : Wp W ro F Lb y code ret pc ls (.int n :: r) (L, mi, ml, mr) Q := by
  subst hz he hL
  exact Wp.m hd rfl rfl (by simp only [execM]; rw [if_pos ⟨hn.1, hn.2, ha⟩]) q
theorem Wp.objInit {i a w : Nat} {r : List Value} (hd : decode code pc = .ok (.invokespecial i, 3)) (ho : objInitAt W y.cls i = true) (hw : wt r = w) (h1 : 1 ≤ F) (h2 : w + 12 ≤ Lb) (q : Wp W ro F Lb y code ret (pc + 3) ls r M Q) : Wp W ro F Lb y code ret pc ls (.ref a :: r) M Q :=
  Wp.p hd rfl (by simp only [execP]; rw [if_pos ⟨ho, h1, by rw [hw]; exact h2⟩]) q
/-- a private method -/
theorem Wp.callP {i na mx a n F' Lb' w : Nat} {z : MethodName} {b : ByteArray} {rt : Option FieldType} {as rest : List Value} (hd : decode code pc = .ok (.invokevirtual i, 3)) (hc : callAt W y.cls i 1 = some (z, na, b, mx, rt)) (hl : L[a]? = some (0, z.cls, n)) (hs : st = as.reverse ++ .ref a :: rest) (hna : as.length = na) (hw : wt rest = w) (h1 : F' + 1 ≤ F) (h2 : w + (mx + 11) + Lb' ≤ Lb) (h3 : (fillL (.ref a :: as)).length ≤ mx)
    (k : Wp W ro F' Lb' z b rt 0 (entryL (.ref a :: as) mx) [] (L, mi, ml, mr) fun v M' => Wp W ro F Lb y code ret (pc + 3) ls (v.toList ++ rest) M' Q) : Wp W ro F Lb y code ret pc ls st (L, mi, ml, mr) Q := by
  subst hs hna
  refine Wp.c hd rfl rfl rfl ?_ hw h1 h2 h3 k
  have e1 : (as.reverse ++ Value.ref a :: rest).drop as.length = .ref a :: rest := by rw [← List.length_reverse (as := as), List.drop_left]
  have e2 : (as.reverse ++ Value.ref a :: rest).take as.length = as.reverse := by rw [← List.length_reverse (as := as), List.take_left]
  simp only [callOf, if_true, hc, e1, e2, hl, List.length_reverse, and_self, List.reverse_reverse]
theorem Wp.callV {i na mx a n F' Lb' w : Nat} {z : MethodName} {b : ByteArray} {rt : Option FieldType} {as rest : List Value} (hd : decode code pc = .ok (.invokevirtual i, 3)) (hc0 : callAt W y.cls i 1 = none) (hc : callAt W y.cls i 0 = some (z, na, b, mx, rt)) (hl : L[a]? = some (0, z.cls, n)) (hs : st = as.reverse ++ .ref a :: rest) (hna : as.length = na) (hw : wt rest = w) (h1 : F' + 1 ≤ F) (h2 : w + (mx + 11) + Lb' ≤ Lb) (h3 : (fillL (.ref a :: as)).length ≤ mx)
    (k : Wp W ro F' Lb' z b rt 0 (entryL (.ref a :: as) mx) [] (L, mi, ml, mr) fun v M' => Wp W ro F Lb y code ret (pc + 3) ls (v.toList ++ rest) M' Q) : Wp W ro F Lb y code ret pc ls st (L, mi, ml, mr) Q := by
  subst hs hna
  refine Wp.c hd rfl rfl rfl ?_ hw h1 h2 h3 k
  have e1 : (as.reverse ++ Value.ref a :: rest).drop as.length = .ref a :: rest := by rw [← List.length_reverse (as := as), List.drop_left]
  have e2 : (as.reverse ++ Value.ref a :: rest).take as.length = as.reverse := by rw [← List.length_reverse (as := as), List.take_left]
  simp only [callOf, if_true, hc0, hc, e1, e2, hl, List.length_reverse, and_self, List.reverse_reverse]
theorem Wp.callI {i na mx a F' Lb' w : Nat} {z : MethodName} {b : ByteArray} {rt : Option FieldType} {as rest : List Value} (hd : decode code pc = .ok (.invokespecial i, 3)) (ho : objInitAt W y.cls i = false) (hc : callAt W y.cls i 2 = some (z, na, b, mx, rt)) (hs : st = as.reverse ++ .ref a :: rest) (hna : as.length = na) (hw : wt rest = w) (h1 : F' + 1 ≤ F) (h2 : w + (mx + 11) + Lb' ≤ Lb) (h3 : (fillL (.ref a :: as)).length ≤ mx)
    (k : Wp W ro F' Lb' z b rt 0 (entryL (.ref a :: as) mx) [] M fun v M' => Wp W ro F Lb y code ret (pc + 3) ls (v.toList ++ rest) M' Q) : Wp W ro F Lb y code ret pc ls st M Q := by
  subst hs hna
  refine Wp.c hd ?_ rfl rfl ?_ hw h1 h2 h3 k
  · have e : ∀ s' : List Value, execP W F Lb y (.invokespecial i) pc 3 ls s' M = none := fun s' => by
      simp only [execP, ho]
      split
      · rw [if_neg]; intro q; cases q.1
      · rfl
    exact e _
  have e1 : (as.reverse ++ Value.ref a :: rest).drop as.length = .ref a :: rest := by rw [← List.length_reverse (as := as), List.drop_left]
  have e2 : (as.reverse ++ Value.ref a :: rest).take as.length = as.reverse := by rw [← List.length_reverse (as := as), List.take_left]
  simp only [callOf, if_true, hc, e1, e2, List.length_reverse, List.reverse_reverse]
theorem Wp.callS {i na mx F' Lb' w : Nat} {z : MethodName} {b : ByteArray} {rt : Option FieldType} {as rest : List Value} (hd : decode code pc = .ok (.invokestatic i, 3)) (hc : callAt W y.cls i 3 = some (z, na, b, mx, rt)) (hs : st = as.reverse ++ rest) (hna : as.length = na) (hw : wt rest = w) (h1 : F' + 1 ≤ F) (h2 : w + (mx + 11) + Lb' ≤ Lb) (h3 : (fillL as).length ≤ mx)
    (k : Wp W ro F' Lb' z b rt 0 (entryL as mx) [] M fun v M' => Wp W ro F Lb y code ret (pc + 3) ls (v.toList ++ rest) M' Q) : Wp W ro F Lb y code ret pc ls st M Q := by
  subst hs hna
  refine Wp.c hd rfl rfl rfl ?_ hw h1 h2 h3 k
  have e1 : (as.reverse ++ rest).drop as.length = rest := by rw [← List.length_reverse (as := as), List.drop_left]
  have e2 : (as.reverse ++ rest).take as.length = as.reverse := by rw [← List.length_reverse (as := as), List.take_left]
  simp only [callOf, if_true, hc, e1, e2, List.length_reverse, List.reverse_reverse]
theorem Wp.top {a : Int32} {r : List Value} (v : Int32) (h : a = v) (k : Wp W ro F Lb y code ret pc ls (.int v :: r) M Q) : Wp W ro F Lb y code ret pc ls (.int a :: r) M Q := by subst h; exact k
theorem Wp.topJ {a : Int64} {r : List Value} (v : Int64) (h : a = v) (k : Wp W ro F Lb y code ret pc ls (.long v :: r) M Q) : Wp W ro F Lb y code ret pc ls (.long a :: r) M Q := by subst h; exact k
theorem Wp.icmpT {cd : ClassFile.Cond} {o : Int} {t : Nat} {a b : Int32} {r : List Value} (hd : decode code pc = .ok (.if_icmp cd o, 3)) (hj : jump pc o = some t) (h : if_icmp.holds cd a b = true) (k : Wp W ro F Lb y code ret t ls r M Q) : Wp W ro F Lb y code ret pc ls (.int b :: .int a :: r) M Q :=
  Wp.icmp hd hj (fun _ => k) (fun q => by rw [h] at q; cases q)
theorem Wp.icmpF {cd : ClassFile.Cond} {o : Int} {t : Nat} {a b : Int32} {r : List Value} (hd : decode code pc = .ok (.if_icmp cd o, 3)) (hj : jump pc o = some t) (h : if_icmp.holds cd a b = false) (k : Wp W ro F Lb y code ret (pc + 3) ls r M Q) : Wp W ro F Lb y code ret pc ls (.int b :: .int a :: r) M Q :=
  Wp.icmp hd hj (fun q => by rw [h] at q; cases q) (fun _ => k)
theorem Wp.ifT {cd : ClassFile.Cond} {o : Int} {t : Nat} {a : Int32} {r : List Value} (hd : decode code pc = .ok (.ifCond cd o, 3)) (hj : jump pc o = some t) (h : if_icmp.holds cd a 0 = true) (k : Wp W ro F Lb y code ret t ls r M Q) : Wp W ro F Lb y code ret pc ls (.int a :: r) M Q :=
  Wp.if0 hd hj (fun _ => k) (fun q => by rw [h] at q; cases q)
theorem Wp.ifF {cd : ClassFile.Cond} {o : Int} {t : Nat} {a : Int32} {r : List Value} (hd : decode code pc = .ok (.ifCond cd o, 3)) (hj : jump pc o = some t) (h : if_icmp.holds cd a 0 = false) (k : Wp W ro F Lb y code ret (pc + 3) ls r M Q) : Wp W ro F Lb y code ret pc ls (.int a :: r) M Q :=
  Wp.if0 hd hj (fun q => by rw [h] at q; cases q) (fun _ => k)
theorem Wp.idiv {a b : Int32} {r : List Value} (hd : decode code pc = .ok (.idiv, 1)) (hb : ¬ b = 0) (k : Wp W ro F Lb y code ret (pc + 1) ls (.int (a / b) :: r) M Q) : Wp W ro F Lb y code ret pc ls (.int b :: .int a :: r) M Q :=
  Wp.p hd rfl (by simp only [execP]; rw [if_neg hb]) k
theorem Wp.irem {a b : Int32} {r : List Value} (hd : decode code pc = .ok (.irem, 1)) (hb : ¬ b = 0) (k : Wp W ro F Lb y code ret (pc + 1) ls (.int (a - (a / b) * b) :: r) M Q) : Wp W ro F Lb y code ret pc ls (.int b :: .int a :: r) M Q :=
  Wp.p hd rfl (by simp only [execP]; rw [if_neg hb]) k
theorem Wp.ldiv {a b : Int64} {r : List Value} (hd : decode code pc = .ok (.ldiv, 1)) (hb : ¬ b = 0) (k : Wp W ro F Lb y code ret (pc + 1) ls (.long (a / b) :: r) M Q) : Wp W ro F Lb y code ret pc ls (.long b :: .long a :: r) M Q :=
  Wp.p hd rfl (by simp only [execP]; rw [if_neg hb]) k
theorem Wp.lrem {a b : Int64} {r : List Value} (hd : decode code pc = .ok (.lrem, 1)) (hb : ¬ b = 0) (k : Wp W ro F Lb y code ret (pc + 1) ls (.long (a - (a / b) * b) :: r) M Q) : Wp W ro F Lb y code ret pc ls (.long b :: .long a :: r) M Q :=
  Wp.p hd rfl (by simp only [execP]; rw [if_neg hb]) k
theorem storeL_one {l l' : List Slot} {i : Nat} {o : Slot} {v : Value} (h : l[i]? = some o) (ho : One o) (hv : v.category = 1) (hs : setL l i (.val v) = some l') : storeL l i v = some l' := by
  unfold storeL
  rw [h]
  have e : storeSelfL l i v = some l' := by
    unfold storeSelfL
    rw [hs]
    simp [hv]
  rcases ho with rfl | ⟨w, rfl, hw⟩
  · exact e
  · simp [hw, e]
theorem Wp.istoreO {ins : Instr} {i len : Nat} {o : Slot} {x : Int32} {l' : List Slot} {r : List Value} (hd : decode code pc = .ok (ins, len)) (hi : (ins = .istore i ∧ len = 2) ∨ (∃ n : Fin 4, ins = .istore_n n ∧ n.val = i ∧ len = 1)) (h : ls[i]? = some o) (ho : One o) (hs : setL ls i (.val (.int x)) = some l') (k : Wp W ro F Lb y code ret (pc + len) l' r M Q) : Wp W ro F Lb y code ret pc ls (.int x :: r) M Q := by
  rcases hi with ⟨rfl, rfl⟩ | ⟨n, rfl, rfl, rfl⟩
  · exact Wp.p hd rfl (by simp only [execP, storeL_one h ho (v := .int x) rfl hs]) k
  · exact Wp.p hd rfl (by simp only [execP, storeL_one h ho (v := .int x) rfl hs]) k
def OneJ (a b : Slot) : Prop := (a = .unset ∧ b = .unset) ∨ (∃ w, a = .val (.long w) ∧ b = .second)
theorem storeL_oneJ {l l1 l2 : List Slot} {i : Nat} {a b : Slot} {x : Int64} (h : l[i]? = some a) (h' : l[i + 1]? = some b) (ho : OneJ a b) (h1 : setL l i (.val (.long x)) = some l1) (h2 : setL l1 (i + 1) .second = some l2) : storeL l i (.long x) = some l2 := by
  obtain ⟨hi, rfl⟩ := setL_some h1
  obtain ⟨hi2, rfl⟩ := setL_some h2
  have hlen : i + 1 < l.length := by simpa using hi2
  have set_ok : ∀ (l : List Slot) (j : Nat) (y : Slot), j < l.length → setL l j y = some (l.set j y) := fun l => by
    induction l with
    | nil => intro j y hj; simp at hj
    | cons q t ih =>
      intro j y hj
      cases j with
      | zero => rfl
      | succ j => simp only [setL, ih j y (by simpa using hj), List.set_cons_succ]
  rcases ho with ⟨rfl, rfl⟩ | ⟨w, rfl, rfl⟩
  · have e : (l.set i (.val (.long x)))[i + 1]? = some .unset := by rw [List.getElem?_set_ne (by omega)]; exact h'
    simp only [storeL, h, storeSelfL, h1, Value.category, if_true, e]
    exact h2
  · have e0 : setL l (i + 1) .unset = some (l.set (i + 1) .unset) := set_ok _ _ _ hlen
    have e1 : setL (l.set (i + 1) .unset) i (.val (.long x)) = some ((l.set (i + 1) .unset).set i (.val (.long x))) := set_ok _ _ _ (by simpa using hi)
    have e2 : ((l.set (i + 1) .unset).set i (.val (.long x)))[i + 1]? = some .unset := by rw [List.getElem?_set_ne (by omega)]; simp [hlen]
    have e3 : setL ((l.set (i + 1) .unset).set i (.val (.long x))) (i + 1) .second = some (((l.set (i + 1) .unset).set i (.val (.long x))).set (i + 1) .second) := set_ok _ _ _ (by simpa using hlen)
    simp only [storeL, h, storeSelfL, Value.category, if_true, e0, e1, e2, e3]
    congr 1
    apply List.ext_getElem?
    intro j
    by_cases q1 : j = i + 1
    · subst q1; simp [hlen]
    · by_cases q2 : j = i
      · subst q2
        have z1 : (((l.set (j + 1) Slot.unset).set j (.val (.long x))).set (j + 1) .second)[j]? = some (.val (.long x)) := by
          rw [List.getElem?_set_ne (by omega)]; exact List.getElem?_set_self (by simpa using hi)
        have z2 : ((l.set j (Slot.val (.long x))).set (j + 1) .second)[j]? = some (.val (.long x)) := by
          rw [List.getElem?_set_ne (by omega)]; exact List.getElem?_set_self hi
        rw [z1, z2]
      · rw [List.getElem?_set_ne (by omega), List.getElem?_set_ne (by omega), List.getElem?_set_ne (by omega), List.getElem?_set_ne (by omega), List.getElem?_set_ne (by omega)]
theorem Wp.lstoreO {ins : Instr} {i len : Nat} {a b : Slot} {x : Int64} {l1 l2 : List Slot} {r : List Value} (hd : decode code pc = .ok (ins, len)) (hi : (ins = .lstore i ∧ len = 2) ∨ (∃ n : Fin 4, ins = .lstore_n n ∧ n.val = i ∧ len = 1)) (h : ls[i]? = some a) (h' : ls[i + 1]? = some b) (ho : OneJ a b) (h1 : setL ls i (.val (.long x)) = some l1) (h2 : setL l1 (i + 1) .second = some l2) (k : Wp W ro F Lb y code ret (pc + len) l2 r M Q) : Wp W ro F Lb y code ret pc ls (.long x :: r) M Q := by
  rcases hi with ⟨rfl, rfl⟩ | ⟨n, rfl, rfl, rfl⟩
  · exact Wp.p hd rfl (by simp only [execP, storeL_oneJ h h' ho h1 h2]) k
  · exact Wp.p hd rfl (by simp only [execP, storeL_oneJ h h' ho h1 h2]) k
theorem Wp.tswD {dflt low high : Int} {offs : Array Int} {len t : Nat} {i : Int32} {r : List Value} (hd : decode code pc = .ok (.tableswitch dflt low high offs, len)) (hout : i.toInt < low ∨ i.toInt > high) (hj : jump pc dflt = some t) (k : Wp W ro F Lb y code ret t ls r M Q) : Wp W ro F Lb y code ret pc ls (.int i :: r) M Q :=
  Wp.p hd rfl (by simp only [execP]; rw [if_pos hout, hj]) k
theorem Wp.retV (hd : decode code pc = .ok (.return_, 1)) (q : Q none M) : Wp W ro F Lb y code none pc ls [] M Q := Wp.r hd rfl rfl rfl q
theorem Wp.retI {x : Int32} (hd : decode code pc = .ok (.ireturn, 1)) (q : Q (some (.int x)) M) : Wp W ro F Lb y code (some .int) pc ls [.int x] M Q := Wp.r hd rfl rfl rfl q
theorem Wp.retJ {x : Int64} (hd : decode code pc = .ok (.lreturn, 1)) (q : Q (some (.long x)) M) : Wp W ro F Lb y code (some .long) pc ls [.long x] M Q := Wp.r hd rfl rfl rfl q
theorem Wp.retZ {x : Int32} (v : Int32) (hd : decode code pc = .ok (.ireturn, 1)) (hv : x &&& 1 = v) (q : Q (some (.int v)) M) : Wp W ro F Lb y code (some .boolean) pc ls [.int x] M Q := by
  subst hv; exact Wp.r hd rfl rfl rfl q
end Rules
end Jvm.OwnEv
namespace Jvm.OwnEv
open Sem ClassFile Op Lib Jvm.Stand Jvm.Free Jvm.LawKit Jvm.RoadKit
/-! PART 7: from a law's run to its claim -/
theorem law_run {l : Launch} {W : List Jvm.Cond} {x : MethodName} {code : ByteArray} {maxL : Nat} {ret : Option FieldType} {R : Room} {as : List Value} {s : State} {a0 : Array Value} (hw : ∀ d ∈ W, d.before a0 s = true) {ro : Nat} {M0 : EMem} {ρ : Nat → Addr} (hρ : ∀ a b, ρ a = ρ b → a = b) (hρn : ∀ a, ro ≤ a → ρ a = s.heap.size + (a - ro))
    (Rl : Rel s W ρ ro s.heap.size s.heap M0) (hp : plainName x.cls = true) (hfl : (fillL as).length ≤ maxL)
    (h : Wp W ro R.frames R.locals x code ret 0 (entryL as maxL) [] M0 fun v M' => v = some (.int 1) ∧ M'.1.length - M0.1.length ≤ R.cells ∧ szL M'.1 - szL M0.1 ≤ R.slots) (ws : List Jvm.Cond) :
    MetFree l x (head1 (Jvm.Cond.code x code maxL ret :: ws) R) (fun a U => a = (as.map (conc ρ)).toArray ∧ s.Warmed39 U.vm ∧ U.heap = s.heap) (fun _ _ _ _ _ => True)
      (fun _ U o U' => ∃ v' L, o = .returned v' ∧ (v' = some (.int 1) ∧ Fr s.heap.size L) ∧ FrameEnd U o U' L R.cells R.slots) := by
  obtain ⟨n, v, M', h1, rfl, h3, h4⟩ := h
  have M1 := met_of (run_good (l := l) hw hρ hρn n) h1 hfl hp Rl (R := R) (Nat.le_refl _) (Nat.le_refl _) h3 h4 ws
  intro p e ha hc hk s' m args below hf happ hP hK
  obtain ⟨n', o, q1, q2, q3, v', L, q4, ⟨q5, q6, q7⟩, q8⟩ := M1 p e ha hc hk s' m args below hf happ hP hK
  exact ⟨n', o, q1, q2, q3, v', L, q4, ⟨q5, q7⟩, q8.1, q8.2.1, q8.2.2.mono h3 h4⟩
/-- the memory ahead of a law of ints -/
abbrev mem0 : EMem := ([], fun _ _ => 0, fun _ _ => 0, fun _ _ => .null)
theorem rel0 (s : State) (W : List Jvm.Cond) : Rel s W (fun a => s.heap.size + a) 0 s.heap.size s.heap mem0 :=
  ⟨rfl, Nat.le_refl _, fun a c h => by simp at h, fun _ _ _ => ⟨rfl, rfl, rfl⟩⟩
/-- the memory ahead of a law that is handed an array of ints -/
abbrev mem1 (n : Nat) (f : Nat → Int32) : EMem := ([(1, "", n)], fun a k => if a = 0 then f k else 0, fun _ _ => 0, fun _ _ => .null)
def rho1 (sa n0 : Nat) : Nat → Nat := fun a => if a = 0 then sa else n0 + (a - 1)
theorem rho1_inj {sa n0 : Nat} (h : sa < n0) (a b : Nat) (e : rho1 sa n0 a = rho1 sa n0 b) : a = b := by
  unfold rho1 at e
  split at e <;> split at e <;> omega
theorem rho1_n {sa n0 : Nat} (a : Nat) (h : 1 ≤ a) : rho1 sa n0 a = n0 + (a - 1) := by
  unfold rho1
  rw [if_neg (by omega)]
theorem rel1 {s : State} (W : List Jvm.Cond) {sa : Addr} {c : Cell} {f : Nat → Int32} (A : Arr s s.heap sa c .int) (hf : ∀ k, k < c.slots.size → c.slots[k]? = some (.int (f k))) : Rel s W (rho1 sa s.heap.size) 1 s.heap.size s.heap (mem1 c.slots.size f) := by
  refine ⟨rfl, Nat.le_refl _, fun a cc h => ?_, fun a h k => ⟨?_, rfl, rfl⟩⟩
  · cases a with
    | zero =>
      simp at h
      subst h
      exact ⟨fun q => (by cases q), fun _ => ⟨c, A, rfl, fun k hk => by simpa using hf k hk⟩, fun q => (by cases q), fun q => (by cases q)⟩
    | succ a => simp at h
  · have h' : 1 ≤ a := h
    exact if_neg (by omega)
theorem script_start {s : State} {a : Addr} {c : Cell} (hf : Fit s) (A : Arr s s.heap a c .int) (hn : c.slots.size < 2 ^ 31) : ∃ f : Nat → Int32, ∀ k, k < c.slots.size → c.slots[k]? = some (.int (f k)) := by
  refine ⟨fun k => atv c k.toInt32, fun k hk => ?_⟩
  obtain ⟨n, -, S⟩ := Scr.start hf A hn
  have h1 := idx_in hk hn
  have e : k.toInt32.toNatClampNeg = k := by
    have q : k.toInt32.toInt = k := len_toInt (by omega)
    simp only [Int32.toNatClampNeg, q]; rfl
  have h2 := S.2.2.2 k.toInt32 h1
  rw [e] at h2
  exact h2
theorem script_len {s : State} {a : Addr} {c : Cell} (A : Arr s s.heap a c .int) (h : (Jvm.Cond.le (Term.length (Term.arg 0)) (Term.int 260)).value #[Value.ref a] s none s [] = some true) : c.slots.size ≤ 260 := by
  have e := A.fin (Vm.Alike.refl _)
  by_cases hn : c.slots.size < 2 ^ 31
  · have el : (Term.length (Term.arg 0)).eval #[Value.ref a] s none [] s = some (.int c.slots.size.toInt32) := by
      simp [Term.eval, e, hn]
    have q := gotT (Cond.le_ints el (Term.int_eval 260)) h
    rw [Int32.le_iff_toInt_le, len_toInt hn] at q
    simp at q
    omega
  · have el : (Term.length (Term.arg 0)).eval #[Value.ref a] s none [] s = none := by
      simp [Term.eval, e, hn]
    simp [Cond.value, el] at h
end Jvm.OwnEv
namespace Jvm.OwnEv
open Sem ClassFile Op Lib Jvm.Stand Jvm.Free Jvm.LawKit Jvm.RoadKit
/-! PART 8: small facts on words and ints -/
theorem codeLk_at {y : MethodName} {b : ByteArray} {n : Nat} {r : Option FieldType} : ∀ {W : List Jvm.Cond} {i : Nat}, W[i]? = some (.code y b n r) → codeLk y (W.take i) = none → codeLk y W = some (b, n, r)
  | [], i, h, _ => by simp at h
  | w :: t, 0, h, _ => by
    simp at h
    subst h
    have : meq y y = true := by simp [meq]
    simp [codeLk, this]
  | w :: t, i + 1, h, h2 => by
    rw [List.getElem?_cons_succ] at h
    rw [List.take_succ_cons] at h2
    have key : codeLk y (t.take i) = none ∧ codeLk y (w :: t) = codeLk y t := by
      unfold codeLk at h2
      split at h2
      · rename_i heq; cases heq
      · rename_i heq
        cases heq
        split at h2
        · cases h2
        · rename_i hm
          exact ⟨h2, by rw [codeLk, if_neg hm]⟩
      · rename_i hno heq
        cases heq
        refine ⟨h2, ?_⟩
        rw [codeLk]
        exact hno
    rw [key.2]
    exact codeLk_at h key.1
theorem callAt_of {W : List Jvm.Cond} {own : String} {idx kd : Nat} {z : MethodName} {b : ByteArray} {n na : Nat} {r : Option FieldType} {sig : MethodDescriptor} (hm : methodLk own idx W = some z) (hc : codeLk z W = some (b, n, r)) (hp : parseMethodDescriptor z.desc = some sig)
    (h : hasInit z.cls W = true ∧ plainName z.cls = true ∧ z.cls ≠ "java/lang/invoke/MethodHandle" ∧ z.cls ≠ "java/lang/invoke/VarHandle" ∧ ((kd = 0 ∧ hasDecl z W = true ∧ hasSel z W = true ∧ hasInst z W = true) ∨ (kd = 1 ∧ hasPriv z W = true ∧ hasInst z W = true ∧ (instLk z.cls W).isSome = true) ∨ (kd = 2 ∧ z.name = "<init>" ∧ hasInst z W = true ∧ r = none) ∨ (kd = 3 ∧ hasStat z W = true)))
    (hn : sig.parameters.length = na) : callAt W own idx kd = some (z, na, b, n, r) := by
  subst hn
  unfold callAt
  rw [hm]
  simp only
  rw [hc, hp]
  simp only
  rw [if_pos h]
theorem callAt_pub {W : List Jvm.Cond} {own : String} {idx : Nat} {z : MethodName} (hm : methodLk own idx W = some z) (hp : hasPriv z W = false) : callAt W own idx 1 = none := by
  unfold callAt
  rw [hm]
  simp only
  split
  · rw [if_neg]
    rintro ⟨-, -, -, -, h⟩
    rcases h with h | h | h | h
    · cases h.1
    · rw [hp] at h; cases h.2.1
    · cases h.1
    · cases h.1
  · rfl
theorem inb_iff {j : Int32} {n : Nat} : inb j n = true ↔ 0 ≤ j.toInt ∧ j.toInt < n := by
  simp only [inb, Bool.and_eq_true, decide_eq_true_eq, Int32.lt_iff_toInt_lt, Int32.toNatClampNeg, Int32.reduceToInt]
  omega
theorem inb_of {j : Int32} {n : Nat} (h : 0 ≤ j.toInt ∧ j.toInt < n) : inb j n = true := inb_iff.mpr h
theorem inb_lt {j : Int32} {n : Nat} (m : Int32) (h1 : ¬ j < 0) (h2 : j < m) (hm : m.toInt = n) : inb j n = true := by
  rw [inb_iff]
  rw [Int32.lt_iff_toInt_lt] at h1 h2
  simp at h1
  omega
theorem clamp_inj {a b : Int32} (ha : ¬ a < 0) (hb : ¬ b < 0) (h : a.toNatClampNeg = b.toNatClampNeg) : a = b := by
  rw [Int32.lt_iff_toInt_lt] at ha hb
  simp at ha hb
  simp only [Int32.toNatClampNeg] at h
  apply Int32.toInt_inj.mp
  omega
theorem clamp_lt {j : Int32} {n : Nat} (m : Int32) (h1 : ¬ j < 0) (h2 : j < m) (hm : m.toInt = n) : j.toNatClampNeg < n := by
  rw [Int32.lt_iff_toInt_lt] at h1 h2
  simp at h1
  simp only [Int32.toNatClampNeg]
  omega
theorem up_at {α : Type} (f : Nat → Nat → α) (a k : Nat) (v : α) (x y : Nat) : up f a k v x y = if x = a ∧ y = k then v else f x y := rfl
theorem succ_int {x n : Int32} (h : x < n) : (x + 1).toInt = x.toInt + 1 := by
  rw [Int32.lt_iff_toInt_lt] at h
  have h1 := c_iadd x 1
  have h2 := rng32 (x + 1)
  have h3 := rng32 x
  have h4 := rng32 n
  have h5 : (1 : Int32).toInt = 1 := by decide
  omega
theorem succ_nn {x n : Int32} (hx : ¬ x < 0) (h : x < n) : ¬ x + 1 < 0 := by
  have hs := succ_int h
  rw [Int32.lt_iff_toInt_lt] at hx ⊢
  have z : (0 : Int32).toInt = 0 := by decide
  rw [z] at hx ⊢
  omega
theorem succ_dec {x n : Int32} (h : x < n) : (n.toInt - (x + 1).toInt).toNat < (n.toInt - x.toInt).toNat := by
  have hs := succ_int h
  rw [Int32.lt_iff_toInt_lt] at h
  omega
theorem lt_of_succ {a x n : Int32} (h : x < n) (h2 : a < x + 1) (q : ¬ a = x) : a < x := by
  have hs := succ_int h
  rw [Int32.lt_iff_toInt_lt] at h2 ⊢
  have : a.toInt ≠ x.toInt := fun z => q (Int32.toInt_inj.mp z)
  omega
theorem pred_int {x : Int32} (hx : ¬ x < 0) : (x + -1).toInt = x.toInt - 1 := by
  have h1 := c_iadd x (-1)
  have h2 := rng32 (x + -1)
  have h3 := rng32 x
  have h5 : (-1 : Int32).toInt = -1 := by decide
  have z : (0 : Int32).toInt = 0 := by decide
  rw [Int32.lt_iff_toInt_lt, z] at hx
  omega
theorem mul_int {a b : Int32} (h1 : -2147483648 ≤ a.toInt * b.toInt) (h2 : a.toInt * b.toInt < 2147483648) : (a * b).toInt = a.toInt * b.toInt := by
  have h3 := c_imul a b
  have h4 := rng32 (a * b)
  generalize a.toInt * b.toInt = p at *
  omega
theorem add_int {a b : Int32} (h1 : -2147483648 ≤ a.toInt + b.toInt) (h2 : a.toInt + b.toInt < 2147483648) : (a + b).toInt = a.toInt + b.toInt := by
  have h3 := c_iadd a b
  have h4 := rng32 (a + b)
  omega
theorem sub_int {a b : Int32} (h1 : -2147483648 ≤ a.toInt - b.toInt) (h2 : a.toInt - b.toInt < 2147483648) : (a - b).toInt = a.toInt - b.toInt := by
  have h3 := c_isub a b
  have h4 := rng32 (a - b)
  omega
theorem nn_int {a : Int32} (h : ¬ a < 0) : 0 ≤ a.toInt := by
  rw [Int32.lt_iff_toInt_lt] at h
  have z : (0 : Int32).toInt = 0 := by decide
  rw [z] at h; omega
theorem lt_int {a b : Int32} (h : a < b) : a.toInt < b.toInt := Int32.lt_iff_toInt_lt.mp h
theorem ge_int {a b : Int32} (h : ¬ a < b) : b.toInt ≤ a.toInt := by rw [Int32.lt_iff_toInt_lt] at h; omega
/-- a place of a table of rows -/
theorem idx2 {x y w h : Int32} (hx : ¬ x < 0) (hxw : x < w) (hy : ¬ y < 0) (hyh : y < h) (hw : ¬ 16 < w) (hh : ¬ 16 < h) : (y * w + x).toInt = y.toInt * w.toInt + x.toInt ∧ 0 ≤ y.toInt * w.toInt + x.toInt ∧ y.toInt * w.toInt + x.toInt < 256 ∧ y.toInt * w.toInt + x.toInt < h.toInt * w.toInt := by
  have a1 := nn_int hx
  have a2 := nn_int hy
  have a3 := lt_int hxw
  have a4 := lt_int hyh
  have a5 := ge_int hw
  have a6 := ge_int hh
  have c16 : (16 : Int32).toInt = 16 := by decide
  rw [c16] at a5 a6
  have m1 : 0 ≤ y.toInt * w.toInt := Int.mul_nonneg a2 (by omega)
  have m2 : (y.toInt + 1) * w.toInt ≤ h.toInt * w.toInt := Int.mul_le_mul_of_nonneg_right (by omega) (by omega)
  have m3 : h.toInt * w.toInt ≤ 16 * w.toInt := Int.mul_le_mul_of_nonneg_right (by omega) (by omega)
  rw [Int.add_mul] at m2
  have e1 : (y * w).toInt = y.toInt * w.toInt := mul_int (by omega) (by omega)
  have e2 : (y * w + x).toInt = (y * w).toInt + x.toInt := add_int (by rw [e1]; omega) (by rw [e1]; omega)
  rw [e2, e1]
  exact ⟨rfl, by omega, by omega, by omega⟩
theorem and1 {z : Int32} (h : z = 0 ∨ z = 1) : z &&& 1 = z := by rcases h with rfl | rfl <;> decide
end Jvm.OwnEv
namespace Jvm.Pilot.@@N@@
open Jvm Jvm.ClassFile Sem Op Lib Jvm.Free Jvm.Stand Jvm.LawKit Jvm.RoadKit Jvm.OwnEv Bundle Jvm.Pilot.@@N@@.Jvm.D
abbrev RR1 : Nat → Nat → Value := (up (up (up (up (up (up (up (up (up (up (up (up (up (up (up (up (up (up (up (up (up (fun _ _ => Value.null) 0 44 (.ref 1)) 0 46 (.ref 2)) 0 48 (.ref 3)) 0 50 (.ref 4)) 0 52 (.ref 5)) 0 54 (.ref 6)) 0 56 (.ref 7)) 0 58 (.ref 8)) 0 60 (.ref 9)) 0 62 (.ref 10)) 0 64 (.ref 11)) 0 66 (.ref 12)) 0 68 (.ref 13)) 0 70 (.ref 14)) 0 72 (.ref 15)) 0 74 (.ref 16)) 0 76 (.ref 17)) 0 78 (.ref 18)) 0 81 (.ref 19)) 0 83 (.ref 20)) 0 85 (.ref 21))
abbrev LL1 : ELay := [(0, "PredictCacheImage", 53), (1, "", 256), (1, "", 256), (1, "", 256), (1, "", 256), (1, "", 256), (1, "", 64), (1, "", 256), (1, "", 256), (1, "", 256), (1, "", 1060), (1, "", 1060), (1, "", 1060), (1, "", 1060), (1, "", 64), (1, "", 16), (1, "", 1060), (1, "", 1060), (1, "", 1060), (3, "", 1060), (1, "", 530), (1, "", 1024)]
abbrev QL : Option Value → EMem → Prop := fun v M' => v = some (.int 1) ∧ M'.1.length - 0 ≤ room_1.cells ∧ szL M'.1 - 0 ≤ room_1.slots
theorem ql1 {mi : Nat → Nat → Int32} {ml : Nat → Nat → Int64} {v : Int32} (h : v = 1) : QL (some (.int v)) (LL1, mi, ml, RR1) := ⟨by rw [h], by show LL1.length - 0 ≤ room_1.cells; decide, by show szL LL1 - 0 ≤ room_1.slots; decide⟩
theorem d_clamp_0 : decode prog_1_method_18_code 0 = .ok (.iload_n 1, 1) := by decide +kernel
theorem d_clamp_1 : decode prog_1_method_18_code 1 = .ok (.iload_n 2, 1) := by decide +kernel
theorem d_clamp_2 : decode prog_1_method_18_code 2 = .ok (.if_icmp .ge 5, 3) := by decide +kernel
theorem d_clamp_7 : decode prog_1_method_18_code 7 = .ok (.iload_n 1, 1) := by decide +kernel
theorem d_clamp_8 : decode prog_1_method_18_code 8 = .ok (.iload_n 3, 1) := by decide +kernel
theorem d_clamp_14 : decode prog_1_method_18_code 14 = .ok (.iload_n 1, 1) := by decide +kernel
theorem d_clamp_15 : decode prog_1_method_18_code 15 = .ok (.ireturn, 1) := by decide +kernel
theorem d_clamp_12 : decode prog_1_method_18_code 12 = .ok (.iload_n 3, 1) := by decide +kernel
theorem d_clamp_13 : decode prog_1_method_18_code 13 = .ok (.ireturn, 1) := by decide +kernel
theorem d_clamp_9 : decode prog_1_method_18_code 9 = .ok (.if_icmp .le 5, 3) := by decide +kernel
theorem d_clamp_5 : decode prog_1_method_18_code 5 = .ok (.iload_n 2, 1) := by decide +kernel
theorem d_clamp_6 : decode prog_1_method_18_code 6 = .ok (.ireturn, 1) := by decide +kernel
abbrev W_clamp (pc : Nat) (ls : List Slot) (st : List Value) (M : EMem) (Q : Option Value → EMem → Prop) : Prop := Wp tables_1 0 0 0 (⟨"PredictCacheImage", "clamp", "(III)I"⟩ : MethodName) prog_1_method_18_code (some .int) pc ls st M Q
theorem d_getWidth_0 : decode prog_1_method_12_code 0 = .ok (.aload_n 0, 1) := by decide +kernel
theorem d_getWidth_1 : decode prog_1_method_12_code 1 = .ok (.getfield 132, 3) := by decide +kernel
theorem fa_c132 : fieldAt tables_1 "PredictCacheImage" 132 = some ("PredictCacheImage", 96, 1, false) := by decide +kernel
theorem d_getWidth_4 : decode prog_1_method_12_code 4 = .ok (.ireturn, 1) := by decide +kernel
abbrev W_getWidth (pc : Nat) (ls : List Slot) (st : List Value) (M : EMem) (Q : Option Value → EMem → Prop) : Prop := Wp tables_1 0 0 0 (⟨"PredictCacheImage", "getWidth", "()I"⟩ : MethodName) prog_1_method_12_code (some .int) pc ls st M Q
theorem d_getHeight_0 : decode prog_1_method_13_code 0 = .ok (.aload_n 0, 1) := by decide +kernel
theorem d_getHeight_1 : decode prog_1_method_13_code 1 = .ok (.getfield 135, 3) := by decide +kernel
theorem fa_c135 : fieldAt tables_1 "PredictCacheImage" 135 = some ("PredictCacheImage", 98, 1, false) := by decide +kernel
theorem d_getHeight_4 : decode prog_1_method_13_code 4 = .ok (.ireturn, 1) := by decide +kernel
abbrev W_getHeight (pc : Nat) (ls : List Slot) (st : List Value) (M : EMem) (Q : Option Value → EMem → Prop) : Prop := Wp tables_1 0 0 0 (⟨"PredictCacheImage", "getHeight", "()I"⟩ : MethodName) prog_1_method_13_code (some .int) pc ls st M Q
theorem d_getCacheBits_0 : decode prog_1_method_16_code 0 = .ok (.aload_n 0, 1) := by decide +kernel
theorem d_getCacheBits_1 : decode prog_1_method_16_code 1 = .ok (.getfield 138, 3) := by decide +kernel
theorem fa_c138 : fieldAt tables_1 "PredictCacheImage" 138 = some ("PredictCacheImage", 100, 2, false) := by decide +kernel
theorem d_getCacheBits_4 : decode prog_1_method_16_code 4 = .ok (.ifCond .eq 10, 3) := by decide +kernel
theorem d_getCacheBits_14 : decode prog_1_method_16_code 14 = .ok (.iconst (-1), 1) := by decide +kernel
theorem d_getCacheBits_7 : decode prog_1_method_16_code 7 = .ok (.aload_n 0, 1) := by decide +kernel
theorem d_getCacheBits_8 : decode prog_1_method_16_code 8 = .ok (.getfield 145, 3) := by decide +kernel
theorem fa_c145 : fieldAt tables_1 "PredictCacheImage" 145 = some ("PredictCacheImage", 104, 1, false) := by decide +kernel
theorem d_getCacheBits_11 : decode prog_1_method_16_code 11 = .ok (.goto 4, 3) := by decide +kernel
abbrev W_getCacheBits (pc : Nat) (ls : List Slot) (st : List Value) (M : EMem) (Q : Option Value → EMem → Prop) : Prop := Wp tables_1 0 0 0 (⟨"PredictCacheImage", "getCacheBits", "()I"⟩ : MethodName) prog_1_method_16_code (some .int) pc ls st M Q
theorem d_getCacheBits_15 : decode prog_1_method_16_code 15 = .ok (.ireturn, 1) := by decide +kernel
theorem d_reset_0 : decode prog_1_method_2_code 0 = .ok (.aload_n 0, 1) := by decide +kernel
theorem d_reset_1 : decode prog_1_method_2_code 1 = .ok (.aload_n 0, 1) := by decide +kernel
theorem d_reset_2 : decode prog_1_method_2_code 2 = .ok (.iload_n 1, 1) := by decide +kernel
theorem d_reset_3 : decode prog_1_method_2_code 3 = .ok (.iconst 1, 1) := by decide +kernel
theorem d_reset_4 : decode prog_1_method_2_code 4 = .ok (.bipush 16, 2) := by decide +kernel
theorem d_reset_6 : decode prog_1_method_2_code 6 = .ok (.invokevirtual 128, 3) := by decide +kernel
theorem ml_c128 : methodLk "PredictCacheImage" 128 tables_1 = some (⟨"PredictCacheImage", "clamp", "(III)I"⟩ : MethodName) := by decide +kernel
theorem cl_clamp : codeLk (⟨"PredictCacheImage", "clamp", "(III)I"⟩ : MethodName) tables_1 = some (prog_1_method_18_code, 4, (some .int)) := codeLk_at (i := 94) rfl (by decide +kernel)
theorem pd_clamp : parseMethodDescriptor "(III)I" = some ⟨[.int, .int, .int], some .int⟩ := by decide +kernel
theorem cc_clamp_1 : hasInit (⟨"PredictCacheImage", "clamp", "(III)I"⟩ : MethodName).cls tables_1 = true ∧ plainName (⟨"PredictCacheImage", "clamp", "(III)I"⟩ : MethodName).cls = true ∧ (⟨"PredictCacheImage", "clamp", "(III)I"⟩ : MethodName).cls ≠ "java/lang/invoke/MethodHandle" ∧ (⟨"PredictCacheImage", "clamp", "(III)I"⟩ : MethodName).cls ≠ "java/lang/invoke/VarHandle" ∧ (((1 : Nat) = 0 ∧ hasDecl (⟨"PredictCacheImage", "clamp", "(III)I"⟩ : MethodName) tables_1 = true ∧ hasSel (⟨"PredictCacheImage", "clamp", "(III)I"⟩ : MethodName) tables_1 = true ∧ hasInst (⟨"PredictCacheImage", "clamp", "(III)I"⟩ : MethodName) tables_1 = true) ∨ ((1 : Nat) = 1 ∧ hasPriv (⟨"PredictCacheImage", "clamp", "(III)I"⟩ : MethodName) tables_1 = true ∧ hasInst (⟨"PredictCacheImage", "clamp", "(III)I"⟩ : MethodName) tables_1 = true ∧ (instLk (⟨"PredictCacheImage", "clamp", "(III)I"⟩ : MethodName).cls tables_1).isSome = true) ∨ ((1 : Nat) = 2 ∧ (⟨"PredictCacheImage", "clamp", "(III)I"⟩ : MethodName).name = "<init>" ∧ hasInst (⟨"PredictCacheImage", "clamp", "(III)I"⟩ : MethodName) tables_1 = true ∧ ((some .int) : Option FieldType) = none) ∨ ((1 : Nat) = 3 ∧ hasStat (⟨"PredictCacheImage", "clamp", "(III)I"⟩ : MethodName) tables_1 = true)) := by decide +kernel
theorem ca_c128_1 : callAt tables_1 "PredictCacheImage" 128 1 = some ((⟨"PredictCacheImage", "clamp", "(III)I"⟩ : MethodName), 3, prog_1_method_18_code, 4, (some .int)) := callAt_of ml_c128 cl_clamp pd_clamp cc_clamp_1 rfl
abbrev W_reset (pc : Nat) (ls : List Slot) (st : List Value) (M : EMem) (Q : Option Value → EMem → Prop) : Prop := Wp tables_1 0 1 16 (⟨"PredictCacheImage", "reset", "(II)V"⟩ : MethodName) prog_1_method_2_code none pc ls st M Q
theorem d_reset_9 : decode prog_1_method_2_code 9 = .ok (.putfield 132, 3) := by decide +kernel
theorem in_PredictCacheImage : instLk "PredictCacheImage" tables_1 = some 53 := by decide +kernel
theorem d_reset_12 : decode prog_1_method_2_code 12 = .ok (.aload_n 0, 1) := by decide +kernel
theorem d_reset_13 : decode prog_1_method_2_code 13 = .ok (.aload_n 0, 1) := by decide +kernel
theorem d_reset_14 : decode prog_1_method_2_code 14 = .ok (.iload_n 2, 1) := by decide +kernel
theorem d_reset_15 : decode prog_1_method_2_code 15 = .ok (.iconst 1, 1) := by decide +kernel
theorem d_reset_16 : decode prog_1_method_2_code 16 = .ok (.bipush 16, 2) := by decide +kernel
theorem d_reset_18 : decode prog_1_method_2_code 18 = .ok (.invokevirtual 128, 3) := by decide +kernel
theorem d_reset_21 : decode prog_1_method_2_code 21 = .ok (.putfield 135, 3) := by decide +kernel
theorem d_reset_24 : decode prog_1_method_2_code 24 = .ok (.iconst 0, 1) := by decide +kernel
theorem d_reset_25 : decode prog_1_method_2_code 25 = .ok (.istore_n 3, 1) := by decide +kernel
theorem d_reset_26 : decode prog_1_method_2_code 26 = .ok (.iload_n 3, 1) := by decide +kernel
theorem d_reset_27 : decode prog_1_method_2_code 27 = .ok (.sipush 256, 3) := by decide +kernel
theorem d_reset_30 : decode prog_1_method_2_code 30 = .ok (.if_icmp .ge 23, 3) := by decide +kernel
theorem d_reset_33 : decode prog_1_method_2_code 33 = .ok (.aload_n 0, 1) := by decide +kernel
theorem d_reset_34 : decode prog_1_method_2_code 34 = .ok (.getfield 59, 3) := by decide +kernel
theorem fa_c59 : fieldAt tables_1 "PredictCacheImage" 59 = some ("PredictCacheImage", 44, 4, true) := by decide +kernel
theorem d_reset_37 : decode prog_1_method_2_code 37 = .ok (.iload_n 3, 1) := by decide +kernel
theorem d_reset_38 : decode prog_1_method_2_code 38 = .ok (.iconst 0, 1) := by decide +kernel
theorem d_reset_53 : decode prog_1_method_2_code 53 = .ok (.aload_n 0, 1) := by decide +kernel
theorem d_reset_54 : decode prog_1_method_2_code 54 = .ok (.iconst 0, 1) := by decide +kernel
theorem d_reset_55 : decode prog_1_method_2_code 55 = .ok (.putfield 138, 3) := by decide +kernel
theorem d_reset_58 : decode prog_1_method_2_code 58 = .ok (.aload_n 0, 1) := by decide +kernel
theorem d_reset_59 : decode prog_1_method_2_code 59 = .ok (.iconst 0, 1) := by decide +kernel
theorem d_reset_60 : decode prog_1_method_2_code 60 = .ok (.putfield 142, 3) := by decide +kernel
theorem fa_c142 : fieldAt tables_1 "PredictCacheImage" 142 = some ("PredictCacheImage", 102, 2, false) := by decide +kernel
theorem d_reset_63 : decode prog_1_method_2_code 63 = .ok (.aload_n 0, 1) := by decide +kernel
theorem d_reset_64 : decode prog_1_method_2_code 64 = .ok (.iconst (-1), 1) := by decide +kernel
theorem d_reset_65 : decode prog_1_method_2_code 65 = .ok (.putfield 145, 3) := by decide +kernel
theorem d_reset_68 : decode prog_1_method_2_code 68 = .ok (.aload_n 0, 1) := by decide +kernel
theorem d_reset_69 : decode prog_1_method_2_code 69 = .ok (.iconst (-1), 1) := by decide +kernel
theorem d_reset_70 : decode prog_1_method_2_code 70 = .ok (.putfield 148, 3) := by decide +kernel
theorem fa_c148 : fieldAt tables_1 "PredictCacheImage" 148 = some ("PredictCacheImage", 106, 1, false) := by decide +kernel
theorem d_reset_73 : decode prog_1_method_2_code 73 = .ok (.return_, 1) := by decide +kernel
theorem d_reset_39 : decode prog_1_method_2_code 39 = .ok (.iastore, 1) := by decide +kernel
theorem d_reset_40 : decode prog_1_method_2_code 40 = .ok (.aload_n 0, 1) := by decide +kernel
theorem d_reset_41 : decode prog_1_method_2_code 41 = .ok (.getfield 63, 3) := by decide +kernel
theorem fa_c63 : fieldAt tables_1 "PredictCacheImage" 63 = some ("PredictCacheImage", 46, 4, true) := by decide +kernel
theorem d_reset_44 : decode prog_1_method_2_code 44 = .ok (.iload_n 3, 1) := by decide +kernel
theorem d_reset_45 : decode prog_1_method_2_code 45 = .ok (.iconst 0, 1) := by decide +kernel
theorem d_reset_46 : decode prog_1_method_2_code 46 = .ok (.iastore, 1) := by decide +kernel
theorem d_reset_47 : decode prog_1_method_2_code 47 = .ok (.iinc 3 1, 3) := by decide +kernel
theorem d_reset_50 : decode prog_1_method_2_code 50 = .ok (.goto (-24), 3) := by decide +kernel
theorem d_init_0 : decode prog_1_method_1_code 0 = .ok (.aload_n 0, 1) := by decide +kernel
theorem d_init_1 : decode prog_1_method_1_code 1 = .ok (.invokespecial 1, 3) := by decide +kernel
theorem oi_c1 : objInitAt tables_1 "PredictCacheImage" 1 = true := by decide +kernel
theorem d_init_4 : decode prog_1_method_1_code 4 = .ok (.aload_n 0, 1) := by decide +kernel
theorem d_init_5 : decode prog_1_method_1_code 5 = .ok (.sipush 528, 3) := by decide +kernel
theorem d_init_8 : decode prog_1_method_1_code 8 = .ok (.putfield 7, 3) := by decide +kernel
theorem fa_c7 : fieldAt tables_1 "PredictCacheImage" 7 = some ("PredictCacheImage", 10, 1, true) := by decide +kernel
theorem d_init_11 : decode prog_1_method_1_code 11 = .ok (.aload_n 0, 1) := by decide +kernel
theorem d_init_12 : decode prog_1_method_1_code 12 = .ok (.sipush 784, 3) := by decide +kernel
theorem d_init_15 : decode prog_1_method_1_code 15 = .ok (.putfield 13, 3) := by decide +kernel
theorem fa_c13 : fieldAt tables_1 "PredictCacheImage" 13 = some ("PredictCacheImage", 12, 1, true) := by decide +kernel
theorem d_init_18 : decode prog_1_method_1_code 18 = .ok (.aload_n 0, 1) := by decide +kernel
theorem d_init_19 : decode prog_1_method_1_code 19 = .ok (.sipush 1040, 3) := by decide +kernel
theorem d_init_22 : decode prog_1_method_1_code 22 = .ok (.putfield 16, 3) := by decide +kernel
theorem fa_c16 : fieldAt tables_1 "PredictCacheImage" 16 = some ("PredictCacheImage", 14, 1, true) := by decide +kernel
theorem d_init_25 : decode prog_1_method_1_code 25 = .ok (.aload_n 0, 1) := by decide +kernel
theorem d_init_26 : decode prog_1_method_1_code 26 = .ok (.sipush 1060, 3) := by decide +kernel
theorem d_init_29 : decode prog_1_method_1_code 29 = .ok (.putfield 19, 3) := by decide +kernel
theorem fa_c19 : fieldAt tables_1 "PredictCacheImage" 19 = some ("PredictCacheImage", 16, 1, true) := by decide +kernel
theorem d_init_32 : decode prog_1_method_1_code 32 = .ok (.aload_n 0, 1) := by decide +kernel
theorem d_init_33 : decode prog_1_method_1_code 33 = .ok (.sipush 256, 3) := by decide +kernel
theorem d_init_36 : decode prog_1_method_1_code 36 = .ok (.putfield 22, 3) := by decide +kernel
theorem fa_c22 : fieldAt tables_1 "PredictCacheImage" 22 = some ("PredictCacheImage", 18, 1, true) := by decide +kernel
theorem d_init_39 : decode prog_1_method_1_code 39 = .ok (.aload_n 0, 1) := by decide +kernel
theorem d_init_40 : decode prog_1_method_1_code 40 = .ok (.sipush 272, 3) := by decide +kernel
theorem d_init_43 : decode prog_1_method_1_code 43 = .ok (.putfield 25, 3) := by decide +kernel
theorem fa_c25 : fieldAt tables_1 "PredictCacheImage" 25 = some ("PredictCacheImage", 20, 1, true) := by decide +kernel
theorem d_init_46 : decode prog_1_method_1_code 46 = .ok (.aload_n 0, 1) := by decide +kernel
theorem d_init_47 : decode prog_1_method_1_code 47 = .ok (.bipush 18, 2) := by decide +kernel
theorem d_init_49 : decode prog_1_method_1_code 49 = .ok (.putfield 28, 3) := by decide +kernel
theorem fa_c28 : fieldAt tables_1 "PredictCacheImage" 28 = some ("PredictCacheImage", 22, 1, true) := by decide +kernel
theorem d_init_52 : decode prog_1_method_1_code 52 = .ok (.aload_n 0, 1) := by decide +kernel
theorem d_init_53 : decode prog_1_method_1_code 53 = .ok (.bipush 15, 2) := by decide +kernel
theorem d_init_55 : decode prog_1_method_1_code 55 = .ok (.putfield 31, 3) := by decide +kernel
theorem fa_c31 : fieldAt tables_1 "PredictCacheImage" 31 = some ("PredictCacheImage", 24, 1, true) := by decide +kernel
theorem d_init_58 : decode prog_1_method_1_code 58 = .ok (.aload_n 0, 1) := by decide +kernel
theorem d_init_59 : decode prog_1_method_1_code 59 = .ok (.iconst 3, 1) := by decide +kernel
theorem d_init_60 : decode prog_1_method_1_code 60 = .ok (.putfield 34, 3) := by decide +kernel
theorem fa_c34 : fieldAt tables_1 "PredictCacheImage" 34 = some ("PredictCacheImage", 26, 1, true) := by decide +kernel
theorem d_init_63 : decode prog_1_method_1_code 63 = .ok (.aload_n 0, 1) := by decide +kernel
theorem d_init_64 : decode prog_1_method_1_code 64 = .ok (.bipush 16, 2) := by decide +kernel
theorem d_init_66 : decode prog_1_method_1_code 66 = .ok (.putfield 37, 3) := by decide +kernel
theorem fa_c37 : fieldAt tables_1 "PredictCacheImage" 37 = some ("PredictCacheImage", 28, 1, true) := by decide +kernel
theorem d_init_69 : decode prog_1_method_1_code 69 = .ok (.aload_n 0, 1) := by decide +kernel
theorem d_init_70 : decode prog_1_method_1_code 70 = .ok (.bipush 13, 2) := by decide +kernel
theorem d_init_72 : decode prog_1_method_1_code 72 = .ok (.putfield 40, 3) := by decide +kernel
theorem fa_c40 : fieldAt tables_1 "PredictCacheImage" 40 = some ("PredictCacheImage", 30, 1, true) := by decide +kernel
theorem d_init_75 : decode prog_1_method_1_code 75 = .ok (.aload_n 0, 1) := by decide +kernel
theorem d_init_76 : decode prog_1_method_1_code 76 = .ok (.bipush 10, 2) := by decide +kernel
theorem d_init_78 : decode prog_1_method_1_code 78 = .ok (.putfield 43, 3) := by decide +kernel
theorem fa_c43 : fieldAt tables_1 "PredictCacheImage" 43 = some ("PredictCacheImage", 32, 1, true) := by decide +kernel
theorem d_init_81 : decode prog_1_method_1_code 81 = .ok (.aload_n 0, 1) := by decide +kernel
theorem d_init_82 : decode prog_1_method_1_code 82 = .ok (.ldc 46, 2) := by decide +kernel
theorem ik_c46 : intLk "PredictCacheImage" 46 tables_1 = some (506832829 : Int32) := by decide +kernel
theorem d_init_84 : decode prog_1_method_1_code 84 = .ok (.putfield 47, 3) := by decide +kernel
theorem fa_c47 : fieldAt tables_1 "PredictCacheImage" 47 = some ("PredictCacheImage", 35, 1, true) := by decide +kernel
theorem d_init_87 : decode prog_1_method_1_code 87 = .ok (.aload_n 0, 1) := by decide +kernel
theorem d_init_88 : decode prog_1_method_1_code 88 = .ok (.sipush 1024, 3) := by decide +kernel
theorem d_init_91 : decode prog_1_method_1_code 91 = .ok (.putfield 50, 3) := by decide +kernel
theorem fa_c50 : fieldAt tables_1 "PredictCacheImage" 50 = some ("PredictCacheImage", 37, 1, true) := by decide +kernel
theorem d_init_94 : decode prog_1_method_1_code 94 = .ok (.aload_n 0, 1) := by decide +kernel
theorem d_init_95 : decode prog_1_method_1_code 95 = .ok (.sipush 256, 3) := by decide +kernel
theorem d_init_98 : decode prog_1_method_1_code 98 = .ok (.putfield 53, 3) := by decide +kernel
theorem fa_c53 : fieldAt tables_1 "PredictCacheImage" 53 = some ("PredictCacheImage", 39, 1, true) := by decide +kernel
theorem d_init_101 : decode prog_1_method_1_code 101 = .ok (.aload_n 0, 1) := by decide +kernel
theorem d_init_102 : decode prog_1_method_1_code 102 = .ok (.bipush 64, 2) := by decide +kernel
theorem d_init_104 : decode prog_1_method_1_code 104 = .ok (.putfield 56, 3) := by decide +kernel
theorem fa_c56 : fieldAt tables_1 "PredictCacheImage" 56 = some ("PredictCacheImage", 41, 1, true) := by decide +kernel
theorem d_init_107 : decode prog_1_method_1_code 107 = .ok (.aload_n 0, 1) := by decide +kernel
theorem d_init_108 : decode prog_1_method_1_code 108 = .ok (.sipush 256, 3) := by decide +kernel
theorem d_init_111 : decode prog_1_method_1_code 111 = .ok (.newarray .int, 2) := by decide +kernel
theorem ar_int : hasArr .int tables_1 = true := by decide +kernel
theorem d_init_113 : decode prog_1_method_1_code 113 = .ok (.putfield 59, 3) := by decide +kernel
theorem d_init_116 : decode prog_1_method_1_code 116 = .ok (.aload_n 0, 1) := by decide +kernel
theorem d_init_117 : decode prog_1_method_1_code 117 = .ok (.sipush 256, 3) := by decide +kernel
theorem d_init_120 : decode prog_1_method_1_code 120 = .ok (.newarray .int, 2) := by decide +kernel
theorem d_init_122 : decode prog_1_method_1_code 122 = .ok (.putfield 63, 3) := by decide +kernel
theorem d_init_125 : decode prog_1_method_1_code 125 = .ok (.aload_n 0, 1) := by decide +kernel
theorem d_init_126 : decode prog_1_method_1_code 126 = .ok (.sipush 256, 3) := by decide +kernel
theorem d_init_129 : decode prog_1_method_1_code 129 = .ok (.newarray .int, 2) := by decide +kernel
theorem d_init_131 : decode prog_1_method_1_code 131 = .ok (.putfield 66, 3) := by decide +kernel
theorem fa_c66 : fieldAt tables_1 "PredictCacheImage" 66 = some ("PredictCacheImage", 48, 4, true) := by decide +kernel
theorem d_init_134 : decode prog_1_method_1_code 134 = .ok (.aload_n 0, 1) := by decide +kernel
theorem d_init_135 : decode prog_1_method_1_code 135 = .ok (.sipush 256, 3) := by decide +kernel
theorem d_init_138 : decode prog_1_method_1_code 138 = .ok (.newarray .int, 2) := by decide +kernel
theorem d_init_140 : decode prog_1_method_1_code 140 = .ok (.putfield 69, 3) := by decide +kernel
theorem fa_c69 : fieldAt tables_1 "PredictCacheImage" 69 = some ("PredictCacheImage", 50, 4, true) := by decide +kernel
theorem d_init_143 : decode prog_1_method_1_code 143 = .ok (.aload_n 0, 1) := by decide +kernel
theorem d_init_144 : decode prog_1_method_1_code 144 = .ok (.sipush 256, 3) := by decide +kernel
theorem d_init_147 : decode prog_1_method_1_code 147 = .ok (.newarray .int, 2) := by decide +kernel
theorem d_init_149 : decode prog_1_method_1_code 149 = .ok (.putfield 72, 3) := by decide +kernel
theorem fa_c72 : fieldAt tables_1 "PredictCacheImage" 72 = some ("PredictCacheImage", 52, 4, true) := by decide +kernel
theorem d_init_152 : decode prog_1_method_1_code 152 = .ok (.aload_n 0, 1) := by decide +kernel
theorem d_init_153 : decode prog_1_method_1_code 153 = .ok (.bipush 64, 2) := by decide +kernel
theorem d_init_155 : decode prog_1_method_1_code 155 = .ok (.newarray .int, 2) := by decide +kernel
theorem d_init_157 : decode prog_1_method_1_code 157 = .ok (.putfield 75, 3) := by decide +kernel
theorem fa_c75 : fieldAt tables_1 "PredictCacheImage" 75 = some ("PredictCacheImage", 54, 4, true) := by decide +kernel
theorem d_init_160 : decode prog_1_method_1_code 160 = .ok (.aload_n 0, 1) := by decide +kernel
theorem d_init_161 : decode prog_1_method_1_code 161 = .ok (.sipush 256, 3) := by decide +kernel
theorem d_init_164 : decode prog_1_method_1_code 164 = .ok (.newarray .int, 2) := by decide +kernel
theorem d_init_166 : decode prog_1_method_1_code 166 = .ok (.putfield 78, 3) := by decide +kernel
theorem fa_c78 : fieldAt tables_1 "PredictCacheImage" 78 = some ("PredictCacheImage", 56, 4, true) := by decide +kernel
theorem d_init_169 : decode prog_1_method_1_code 169 = .ok (.aload_n 0, 1) := by decide +kernel
theorem d_init_170 : decode prog_1_method_1_code 170 = .ok (.sipush 256, 3) := by decide +kernel
theorem d_init_173 : decode prog_1_method_1_code 173 = .ok (.newarray .int, 2) := by decide +kernel
theorem d_init_175 : decode prog_1_method_1_code 175 = .ok (.putfield 81, 3) := by decide +kernel
theorem fa_c81 : fieldAt tables_1 "PredictCacheImage" 81 = some ("PredictCacheImage", 58, 4, true) := by decide +kernel
theorem d_init_178 : decode prog_1_method_1_code 178 = .ok (.aload_n 0, 1) := by decide +kernel
theorem d_init_179 : decode prog_1_method_1_code 179 = .ok (.sipush 256, 3) := by decide +kernel
theorem d_init_182 : decode prog_1_method_1_code 182 = .ok (.newarray .int, 2) := by decide +kernel
theorem d_init_184 : decode prog_1_method_1_code 184 = .ok (.putfield 84, 3) := by decide +kernel
theorem fa_c84 : fieldAt tables_1 "PredictCacheImage" 84 = some ("PredictCacheImage", 60, 4, true) := by decide +kernel
theorem d_init_187 : decode prog_1_method_1_code 187 = .ok (.aload_n 0, 1) := by decide +kernel
theorem d_init_188 : decode prog_1_method_1_code 188 = .ok (.sipush 1060, 3) := by decide +kernel
theorem d_init_191 : decode prog_1_method_1_code 191 = .ok (.newarray .int, 2) := by decide +kernel
theorem d_init_193 : decode prog_1_method_1_code 193 = .ok (.putfield 87, 3) := by decide +kernel
theorem fa_c87 : fieldAt tables_1 "PredictCacheImage" 87 = some ("PredictCacheImage", 62, 4, true) := by decide +kernel
theorem d_init_196 : decode prog_1_method_1_code 196 = .ok (.aload_n 0, 1) := by decide +kernel
theorem d_init_197 : decode prog_1_method_1_code 197 = .ok (.sipush 1060, 3) := by decide +kernel
theorem d_init_200 : decode prog_1_method_1_code 200 = .ok (.newarray .int, 2) := by decide +kernel
theorem d_init_202 : decode prog_1_method_1_code 202 = .ok (.putfield 90, 3) := by decide +kernel
theorem fa_c90 : fieldAt tables_1 "PredictCacheImage" 90 = some ("PredictCacheImage", 64, 4, true) := by decide +kernel
theorem d_init_205 : decode prog_1_method_1_code 205 = .ok (.aload_n 0, 1) := by decide +kernel
theorem d_init_206 : decode prog_1_method_1_code 206 = .ok (.sipush 1060, 3) := by decide +kernel
theorem d_init_209 : decode prog_1_method_1_code 209 = .ok (.newarray .int, 2) := by decide +kernel
theorem d_init_211 : decode prog_1_method_1_code 211 = .ok (.putfield 93, 3) := by decide +kernel
theorem fa_c93 : fieldAt tables_1 "PredictCacheImage" 93 = some ("PredictCacheImage", 66, 4, true) := by decide +kernel
theorem d_init_214 : decode prog_1_method_1_code 214 = .ok (.aload_n 0, 1) := by decide +kernel
theorem d_init_215 : decode prog_1_method_1_code 215 = .ok (.sipush 1060, 3) := by decide +kernel
theorem d_init_218 : decode prog_1_method_1_code 218 = .ok (.newarray .int, 2) := by decide +kernel
theorem d_init_220 : decode prog_1_method_1_code 220 = .ok (.putfield 96, 3) := by decide +kernel
theorem fa_c96 : fieldAt tables_1 "PredictCacheImage" 96 = some ("PredictCacheImage", 68, 4, true) := by decide +kernel
theorem d_init_223 : decode prog_1_method_1_code 223 = .ok (.aload_n 0, 1) := by decide +kernel
theorem d_init_224 : decode prog_1_method_1_code 224 = .ok (.bipush 64, 2) := by decide +kernel
theorem d_init_226 : decode prog_1_method_1_code 226 = .ok (.newarray .int, 2) := by decide +kernel
theorem d_init_228 : decode prog_1_method_1_code 228 = .ok (.putfield 99, 3) := by decide +kernel
theorem fa_c99 : fieldAt tables_1 "PredictCacheImage" 99 = some ("PredictCacheImage", 70, 4, true) := by decide +kernel
theorem d_init_231 : decode prog_1_method_1_code 231 = .ok (.aload_n 0, 1) := by decide +kernel
theorem d_init_232 : decode prog_1_method_1_code 232 = .ok (.bipush 16, 2) := by decide +kernel
theorem d_init_234 : decode prog_1_method_1_code 234 = .ok (.newarray .int, 2) := by decide +kernel
theorem d_init_236 : decode prog_1_method_1_code 236 = .ok (.putfield 102, 3) := by decide +kernel
theorem fa_c102 : fieldAt tables_1 "PredictCacheImage" 102 = some ("PredictCacheImage", 72, 4, true) := by decide +kernel
theorem d_init_239 : decode prog_1_method_1_code 239 = .ok (.aload_n 0, 1) := by decide +kernel
theorem d_init_240 : decode prog_1_method_1_code 240 = .ok (.sipush 1060, 3) := by decide +kernel
theorem d_init_243 : decode prog_1_method_1_code 243 = .ok (.newarray .int, 2) := by decide +kernel
theorem d_init_245 : decode prog_1_method_1_code 245 = .ok (.putfield 105, 3) := by decide +kernel
theorem fa_c105 : fieldAt tables_1 "PredictCacheImage" 105 = some ("PredictCacheImage", 74, 4, true) := by decide +kernel
theorem d_init_248 : decode prog_1_method_1_code 248 = .ok (.aload_n 0, 1) := by decide +kernel
theorem d_init_249 : decode prog_1_method_1_code 249 = .ok (.sipush 1060, 3) := by decide +kernel
theorem d_init_252 : decode prog_1_method_1_code 252 = .ok (.newarray .int, 2) := by decide +kernel
theorem d_init_254 : decode prog_1_method_1_code 254 = .ok (.putfield 108, 3) := by decide +kernel
theorem fa_c108 : fieldAt tables_1 "PredictCacheImage" 108 = some ("PredictCacheImage", 76, 4, true) := by decide +kernel
theorem d_init_257 : decode prog_1_method_1_code 257 = .ok (.aload_n 0, 1) := by decide +kernel
theorem d_init_258 : decode prog_1_method_1_code 258 = .ok (.sipush 1060, 3) := by decide +kernel
theorem d_init_261 : decode prog_1_method_1_code 261 = .ok (.newarray .int, 2) := by decide +kernel
theorem d_init_263 : decode prog_1_method_1_code 263 = .ok (.putfield 111, 3) := by decide +kernel
theorem fa_c111 : fieldAt tables_1 "PredictCacheImage" 111 = some ("PredictCacheImage", 78, 4, true) := by decide +kernel
theorem d_init_266 : decode prog_1_method_1_code 266 = .ok (.aload_n 0, 1) := by decide +kernel
theorem d_init_267 : decode prog_1_method_1_code 267 = .ok (.sipush 1060, 3) := by decide +kernel
theorem d_init_270 : decode prog_1_method_1_code 270 = .ok (.newarray .boolean, 2) := by decide +kernel
theorem ar_boolean : hasArr .boolean tables_1 = true := by decide +kernel
theorem d_init_272 : decode prog_1_method_1_code 272 = .ok (.putfield 114, 3) := by decide +kernel
theorem fa_c114 : fieldAt tables_1 "PredictCacheImage" 114 = some ("PredictCacheImage", 81, 4, true) := by decide +kernel
theorem d_init_275 : decode prog_1_method_1_code 275 = .ok (.aload_n 0, 1) := by decide +kernel
theorem d_init_276 : decode prog_1_method_1_code 276 = .ok (.sipush 530, 3) := by decide +kernel
theorem d_init_279 : decode prog_1_method_1_code 279 = .ok (.newarray .int, 2) := by decide +kernel
theorem d_init_281 : decode prog_1_method_1_code 281 = .ok (.putfield 118, 3) := by decide +kernel
theorem fa_c118 : fieldAt tables_1 "PredictCacheImage" 118 = some ("PredictCacheImage", 83, 4, true) := by decide +kernel
theorem d_init_284 : decode prog_1_method_1_code 284 = .ok (.aload_n 0, 1) := by decide +kernel
theorem d_init_285 : decode prog_1_method_1_code 285 = .ok (.sipush 1024, 3) := by decide +kernel
theorem d_init_288 : decode prog_1_method_1_code 288 = .ok (.newarray .int, 2) := by decide +kernel
theorem d_init_290 : decode prog_1_method_1_code 290 = .ok (.putfield 121, 3) := by decide +kernel
theorem fa_c121 : fieldAt tables_1 "PredictCacheImage" 121 = some ("PredictCacheImage", 85, 4, true) := by decide +kernel
theorem d_init_293 : decode prog_1_method_1_code 293 = .ok (.aload_n 0, 1) := by decide +kernel
theorem d_init_294 : decode prog_1_method_1_code 294 = .ok (.iload_n 1, 1) := by decide +kernel
theorem d_init_295 : decode prog_1_method_1_code 295 = .ok (.iload_n 2, 1) := by decide +kernel
theorem d_init_296 : decode prog_1_method_1_code 296 = .ok (.invokevirtual 124, 3) := by decide +kernel
theorem ml_c124 : methodLk "PredictCacheImage" 124 tables_1 = some (⟨"PredictCacheImage", "reset", "(II)V"⟩ : MethodName) := by decide +kernel
theorem cl_reset : codeLk (⟨"PredictCacheImage", "reset", "(II)V"⟩ : MethodName) tables_1 = some (prog_1_method_2_code, 4, none) := codeLk_at (i := 90) rfl (by decide +kernel)
theorem pd_reset : parseMethodDescriptor "(II)V" = some ⟨[.int, .int], none⟩ := by decide +kernel
theorem cc_reset_0 : hasInit (⟨"PredictCacheImage", "reset", "(II)V"⟩ : MethodName).cls tables_1 = true ∧ plainName (⟨"PredictCacheImage", "reset", "(II)V"⟩ : MethodName).cls = true ∧ (⟨"PredictCacheImage", "reset", "(II)V"⟩ : MethodName).cls ≠ "java/lang/invoke/MethodHandle" ∧ (⟨"PredictCacheImage", "reset", "(II)V"⟩ : MethodName).cls ≠ "java/lang/invoke/VarHandle" ∧ (((0 : Nat) = 0 ∧ hasDecl (⟨"PredictCacheImage", "reset", "(II)V"⟩ : MethodName) tables_1 = true ∧ hasSel (⟨"PredictCacheImage", "reset", "(II)V"⟩ : MethodName) tables_1 = true ∧ hasInst (⟨"PredictCacheImage", "reset", "(II)V"⟩ : MethodName) tables_1 = true) ∨ ((0 : Nat) = 1 ∧ hasPriv (⟨"PredictCacheImage", "reset", "(II)V"⟩ : MethodName) tables_1 = true ∧ hasInst (⟨"PredictCacheImage", "reset", "(II)V"⟩ : MethodName) tables_1 = true ∧ (instLk (⟨"PredictCacheImage", "reset", "(II)V"⟩ : MethodName).cls tables_1).isSome = true) ∨ ((0 : Nat) = 2 ∧ (⟨"PredictCacheImage", "reset", "(II)V"⟩ : MethodName).name = "<init>" ∧ hasInst (⟨"PredictCacheImage", "reset", "(II)V"⟩ : MethodName) tables_1 = true ∧ (none : Option FieldType) = none) ∨ ((0 : Nat) = 3 ∧ hasStat (⟨"PredictCacheImage", "reset", "(II)V"⟩ : MethodName) tables_1 = true)) := by decide +kernel
theorem ca_c124_0 : callAt tables_1 "PredictCacheImage" 124 0 = some ((⟨"PredictCacheImage", "reset", "(II)V"⟩ : MethodName), 2, prog_1_method_2_code, 4, none) := callAt_of ml_c124 cl_reset pd_reset cc_reset_0 rfl
theorem np_reset : hasPriv (⟨"PredictCacheImage", "reset", "(II)V"⟩ : MethodName) tables_1 = false := by decide +kernel
theorem ca_c124_0n : callAt tables_1 "PredictCacheImage" 124 1 = none := callAt_pub ml_c124 np_reset
abbrev W_init (pc : Nat) (ls : List Slot) (st : List Value) (M : EMem) (Q : Option Value → EMem → Prop) : Prop := Wp tables_1 0 2 31 (⟨"PredictCacheImage", "<init>", "(II)V"⟩ : MethodName) prog_1_method_1_code none pc ls st M Q
theorem d_init_299 : decode prog_1_method_1_code 299 = .ok (.return_, 1) := by decide +kernel
theorem d_getInput_0 : decode prog_1_method_9_code 0 = .ok (.iload_n 1, 1) := by decide +kernel
theorem d_getInput_1 : decode prog_1_method_9_code 1 = .ok (.ifCond .lt 23, 3) := by decide +kernel
theorem d_getInput_24 : decode prog_1_method_9_code 24 = .ok (.iconst (-1), 1) := by decide +kernel
theorem d_getInput_25 : decode prog_1_method_9_code 25 = .ok (.ireturn, 1) := by decide +kernel
theorem d_getInput_4 : decode prog_1_method_9_code 4 = .ok (.iload_n 1, 1) := by decide +kernel
theorem d_getInput_5 : decode prog_1_method_9_code 5 = .ok (.aload_n 0, 1) := by decide +kernel
theorem d_getInput_6 : decode prog_1_method_9_code 6 = .ok (.getfield 132, 3) := by decide +kernel
theorem d_getInput_12 : decode prog_1_method_9_code 12 = .ok (.iload_n 2, 1) := by decide +kernel
theorem d_getInput_16 : decode prog_1_method_9_code 16 = .ok (.iload_n 2, 1) := by decide +kernel
theorem d_getInput_17 : decode prog_1_method_9_code 17 = .ok (.aload_n 0, 1) := by decide +kernel
theorem d_getInput_18 : decode prog_1_method_9_code 18 = .ok (.getfield 135, 3) := by decide +kernel
theorem d_getInput_26 : decode prog_1_method_9_code 26 = .ok (.aload_n 0, 1) := by decide +kernel
theorem d_getInput_27 : decode prog_1_method_9_code 27 = .ok (.getfield 59, 3) := by decide +kernel
theorem d_getInput_30 : decode prog_1_method_9_code 30 = .ok (.iload_n 2, 1) := by decide +kernel
theorem d_getInput_31 : decode prog_1_method_9_code 31 = .ok (.aload_n 0, 1) := by decide +kernel
theorem d_getInput_32 : decode prog_1_method_9_code 32 = .ok (.getfield 132, 3) := by decide +kernel
theorem d_getInput_35 : decode prog_1_method_9_code 35 = .ok (.imul, 1) := by decide +kernel
theorem d_getInput_36 : decode prog_1_method_9_code 36 = .ok (.iload_n 1, 1) := by decide +kernel
theorem d_getInput_37 : decode prog_1_method_9_code 37 = .ok (.iadd, 1) := by decide +kernel
theorem d_getInput_38 : decode prog_1_method_9_code 38 = .ok (.iaload, 1) := by decide +kernel
theorem d_getInput_39 : decode prog_1_method_9_code 39 = .ok (.ireturn, 1) := by decide +kernel
theorem d_getInput_21 : decode prog_1_method_9_code 21 = .ok (.if_icmp .lt 5, 3) := by decide +kernel
theorem d_getInput_13 : decode prog_1_method_9_code 13 = .ok (.ifCond .lt 11, 3) := by decide +kernel
theorem d_getInput_9 : decode prog_1_method_9_code 9 = .ok (.if_icmp .ge 15, 3) := by decide +kernel
abbrev W_getInput (pc : Nat) (ls : List Slot) (st : List Value) (M : EMem) (Q : Option Value → EMem → Prop) : Prop := Wp tables_1 0 0 0 (⟨"PredictCacheImage", "getInput", "(II)I"⟩ : MethodName) prog_1_method_9_code (some .int) pc ls st M Q
theorem d_getOutput_0 : decode prog_1_method_10_code 0 = .ok (.aload_n 0, 1) := by decide +kernel
theorem d_getOutput_1 : decode prog_1_method_10_code 1 = .ok (.getfield 142, 3) := by decide +kernel
theorem d_getOutput_4 : decode prog_1_method_10_code 4 = .ok (.ifCond .ne 5, 3) := by decide +kernel
theorem d_getOutput_9 : decode prog_1_method_10_code 9 = .ok (.iload_n 1, 1) := by decide +kernel
theorem d_getOutput_33 : decode prog_1_method_10_code 33 = .ok (.iconst (-1), 1) := by decide +kernel
theorem d_getOutput_34 : decode prog_1_method_10_code 34 = .ok (.ireturn, 1) := by decide +kernel
theorem d_getOutput_13 : decode prog_1_method_10_code 13 = .ok (.iload_n 1, 1) := by decide +kernel
theorem d_getOutput_14 : decode prog_1_method_10_code 14 = .ok (.aload_n 0, 1) := by decide +kernel
theorem d_getOutput_15 : decode prog_1_method_10_code 15 = .ok (.getfield 132, 3) := by decide +kernel
theorem d_getOutput_21 : decode prog_1_method_10_code 21 = .ok (.iload_n 2, 1) := by decide +kernel
theorem d_getOutput_25 : decode prog_1_method_10_code 25 = .ok (.iload_n 2, 1) := by decide +kernel
theorem d_getOutput_26 : decode prog_1_method_10_code 26 = .ok (.aload_n 0, 1) := by decide +kernel
theorem d_getOutput_27 : decode prog_1_method_10_code 27 = .ok (.getfield 135, 3) := by decide +kernel
theorem d_getOutput_35 : decode prog_1_method_10_code 35 = .ok (.aload_n 0, 1) := by decide +kernel
theorem d_getOutput_36 : decode prog_1_method_10_code 36 = .ok (.getfield 63, 3) := by decide +kernel
theorem d_getOutput_39 : decode prog_1_method_10_code 39 = .ok (.iload_n 2, 1) := by decide +kernel
theorem d_getOutput_40 : decode prog_1_method_10_code 40 = .ok (.aload_n 0, 1) := by decide +kernel
theorem d_getOutput_41 : decode prog_1_method_10_code 41 = .ok (.getfield 132, 3) := by decide +kernel
theorem d_getOutput_44 : decode prog_1_method_10_code 44 = .ok (.imul, 1) := by decide +kernel
theorem d_getOutput_45 : decode prog_1_method_10_code 45 = .ok (.iload_n 1, 1) := by decide +kernel
theorem d_getOutput_46 : decode prog_1_method_10_code 46 = .ok (.iadd, 1) := by decide +kernel
theorem d_getOutput_47 : decode prog_1_method_10_code 47 = .ok (.iaload, 1) := by decide +kernel
theorem d_getOutput_48 : decode prog_1_method_10_code 48 = .ok (.ireturn, 1) := by decide +kernel
theorem d_getOutput_30 : decode prog_1_method_10_code 30 = .ok (.if_icmp .lt 5, 3) := by decide +kernel
theorem d_getOutput_22 : decode prog_1_method_10_code 22 = .ok (.ifCond .lt 11, 3) := by decide +kernel
theorem d_getOutput_18 : decode prog_1_method_10_code 18 = .ok (.if_icmp .ge 15, 3) := by decide +kernel
theorem d_getOutput_10 : decode prog_1_method_10_code 10 = .ok (.ifCond .lt 23, 3) := by decide +kernel
theorem d_getOutput_7 : decode prog_1_method_10_code 7 = .ok (.iconst (-1), 1) := by decide +kernel
theorem d_getOutput_8 : decode prog_1_method_10_code 8 = .ok (.ireturn, 1) := by decide +kernel
abbrev W_getOutput (pc : Nat) (ls : List Slot) (st : List Value) (M : EMem) (Q : Option Value → EMem → Prop) : Prop := Wp tables_1 0 0 0 (⟨"PredictCacheImage", "getOutput", "(II)I"⟩ : MethodName) prog_1_method_10_code (some .int) pc ls st M Q
theorem d_decode_0 : decode prog_1_method_8_code 0 = .ok (.aload_n 0, 1) := by decide +kernel
theorem d_decode_1 : decode prog_1_method_8_code 1 = .ok (.getfield 138, 3) := by decide +kernel
theorem d_decode_4 : decode prog_1_method_8_code 4 = .ok (.ifCond .ne 5, 3) := by decide +kernel
theorem d_decode_9 : decode prog_1_method_8_code 9 = .ok (.aload_n 0, 1) := by decide +kernel
theorem d_decode_10 : decode prog_1_method_8_code 10 = .ok (.iconst 0, 1) := by decide +kernel
theorem d_decode_11 : decode prog_1_method_8_code 11 = .ok (.putfield 185, 3) := by decide +kernel
theorem fa_c185 : fieldAt tables_1 "PredictCacheImage" 185 = some ("PredictCacheImage", 138, 1, false) := by decide +kernel
theorem d_decode_14 : decode prog_1_method_8_code 14 = .ok (.aload_n 0, 1) := by decide +kernel
theorem d_decode_15 : decode prog_1_method_8_code 15 = .ok (.iconst 4, 1) := by decide +kernel
theorem d_decode_7 : decode prog_1_method_8_code 7 = .ok (.iconst 0, 1) := by decide +kernel
theorem d_decode_8 : decode prog_1_method_8_code 8 = .ok (.ireturn, 1) := by decide +kernel
abbrev W_decode (pc : Nat) (ls : List Slot) (st : List Value) (M : EMem) (Q : Option Value → EMem → Prop) : Prop := Wp tables_1 0 0 0 (⟨"PredictCacheImage", "decode", "()Z"⟩ : MethodName) prog_1_method_8_code (some .boolean) pc ls st M Q
theorem d_law_0 : decode code 0 = .ok (.iload_n 0, 1) := by decide +kernel
theorem d_law_1 : decode code 1 = .ok (.iconst 1, 1) := by decide +kernel
theorem d_law_2 : decode code 2 = .ok (.if_icmp .ge 7, 3) := by decide +kernel
theorem d_law_9 : decode code 9 = .ok (.iload_n 0, 1) := by decide +kernel
theorem d_law_10 : decode code 10 = .ok (.bipush 16, 2) := by decide +kernel
theorem d_law_20 : decode code 20 = .ok (.iload_n 0, 1) := by decide +kernel
theorem d_law_15 : decode code 15 = .ok (.bipush 16, 2) := by decide +kernel
theorem d_law_17 : decode code 17 = .ok (.goto 4, 3) := by decide +kernel
theorem d_law_12 : decode code 12 = .ok (.if_icmp .le 8, 3) := by decide +kernel
theorem d_law_5 : decode code 5 = .ok (.iconst 1, 1) := by decide +kernel
theorem d_law_6 : decode code 6 = .ok (.goto 15, 3) := by decide +kernel
abbrev W_law (pc : Nat) (ls : List Slot) (st : List Value) (M : EMem) (Q : Option Value → EMem → Prop) : Prop := Wp tables_1 0 6 144 x code (some .boolean) pc ls st M Q
theorem d_law_21 : decode code 21 = .ok (.istore 4, 2) := by decide +kernel
theorem d_law_23 : decode code 23 = .ok (.iload_n 1, 1) := by decide +kernel
theorem d_law_24 : decode code 24 = .ok (.iconst 1, 1) := by decide +kernel
theorem d_law_25 : decode code 25 = .ok (.if_icmp .ge 7, 3) := by decide +kernel
theorem d_law_32 : decode code 32 = .ok (.iload_n 1, 1) := by decide +kernel
theorem d_law_33 : decode code 33 = .ok (.bipush 16, 2) := by decide +kernel
theorem d_law_43 : decode code 43 = .ok (.iload_n 1, 1) := by decide +kernel
theorem d_law_38 : decode code 38 = .ok (.bipush 16, 2) := by decide +kernel
theorem d_law_40 : decode code 40 = .ok (.goto 4, 3) := by decide +kernel
theorem d_law_35 : decode code 35 = .ok (.if_icmp .le 8, 3) := by decide +kernel
theorem d_law_28 : decode code 28 = .ok (.iconst 1, 1) := by decide +kernel
theorem d_law_29 : decode code 29 = .ok (.goto 15, 3) := by decide +kernel
theorem d_law_44 : decode code 44 = .ok (.istore 5, 2) := by decide +kernel
theorem d_law_46 : decode code 46 = .ok (.iload_n 2, 1) := by decide +kernel
theorem d_law_47 : decode code 47 = .ok (.ifCond .lt 23, 3) := by decide +kernel
theorem d_law_70 : decode code 70 = .ok (.iconst 0, 1) := by decide +kernel
theorem d_law_50 : decode code 50 = .ok (.iload_n 2, 1) := by decide +kernel
theorem d_law_51 : decode code 51 = .ok (.iload 4, 2) := by decide +kernel
theorem d_law_56 : decode code 56 = .ok (.iload_n 3, 1) := by decide +kernel
theorem d_law_60 : decode code 60 = .ok (.iload_n 3, 1) := by decide +kernel
theorem d_law_61 : decode code 61 = .ok (.iload 5, 2) := by decide +kernel
theorem d_law_66 : decode code 66 = .ok (.iconst 1, 1) := by decide +kernel
theorem d_law_67 : decode code 67 = .ok (.goto 4, 3) := by decide +kernel
theorem d_law_63 : decode code 63 = .ok (.if_icmp .ge 7, 3) := by decide +kernel
theorem d_law_57 : decode code 57 = .ok (.ifCond .lt 13, 3) := by decide +kernel
theorem d_law_53 : decode code 53 = .ok (.if_icmp .ge 17, 3) := by decide +kernel
theorem d_law_71 : decode code 71 = .ok (.istore 6, 2) := by decide +kernel
theorem d_law_73 : decode code 73 = .ok (.iload 6, 2) := by decide +kernel
theorem d_law_75 : decode code 75 = .ok (.ifCond .eq 7, 3) := by decide +kernel
theorem d_law_82 : decode code 82 = .ok (.iconst (-1), 1) := by decide +kernel
theorem d_law_78 : decode code 78 = .ok (.iconst 0, 1) := by decide +kernel
theorem d_law_79 : decode code 79 = .ok (.goto 4, 3) := by decide +kernel
theorem d_law_83 : decode code 83 = .ok (.istore 7, 2) := by decide +kernel
theorem d_law_85 : decode code 85 = .ok (.new 7, 3) := by decide +kernel
theorem na_w7 : newAt tables_1 "PredictCacheImageL1" 7 = some ("PredictCacheImage", 53) := by decide +kernel
theorem d_law_88 : decode code 88 = .ok (.dup, 1) := by decide +kernel
theorem d_law_89 : decode code 89 = .ok (.iload_n 0, 1) := by decide +kernel
theorem d_law_90 : decode code 90 = .ok (.iload_n 1, 1) := by decide +kernel
theorem d_law_91 : decode code 91 = .ok (.invokespecial 9, 3) := by decide +kernel
theorem ml_w9 : methodLk "PredictCacheImageL1" 9 tables_1 = some (⟨"PredictCacheImage", "<init>", "(II)V"⟩ : MethodName) := by decide +kernel
theorem cl_init : codeLk (⟨"PredictCacheImage", "<init>", "(II)V"⟩ : MethodName) tables_1 = some (prog_1_method_1_code, 3, none) := codeLk_at (i := 5) rfl (by decide +kernel)
theorem pd_init : parseMethodDescriptor "(II)V" = some ⟨[.int, .int], none⟩ := by decide +kernel
theorem cc_init_2 : hasInit (⟨"PredictCacheImage", "<init>", "(II)V"⟩ : MethodName).cls tables_1 = true ∧ plainName (⟨"PredictCacheImage", "<init>", "(II)V"⟩ : MethodName).cls = true ∧ (⟨"PredictCacheImage", "<init>", "(II)V"⟩ : MethodName).cls ≠ "java/lang/invoke/MethodHandle" ∧ (⟨"PredictCacheImage", "<init>", "(II)V"⟩ : MethodName).cls ≠ "java/lang/invoke/VarHandle" ∧ (((2 : Nat) = 0 ∧ hasDecl (⟨"PredictCacheImage", "<init>", "(II)V"⟩ : MethodName) tables_1 = true ∧ hasSel (⟨"PredictCacheImage", "<init>", "(II)V"⟩ : MethodName) tables_1 = true ∧ hasInst (⟨"PredictCacheImage", "<init>", "(II)V"⟩ : MethodName) tables_1 = true) ∨ ((2 : Nat) = 1 ∧ hasPriv (⟨"PredictCacheImage", "<init>", "(II)V"⟩ : MethodName) tables_1 = true ∧ hasInst (⟨"PredictCacheImage", "<init>", "(II)V"⟩ : MethodName) tables_1 = true ∧ (instLk (⟨"PredictCacheImage", "<init>", "(II)V"⟩ : MethodName).cls tables_1).isSome = true) ∨ ((2 : Nat) = 2 ∧ (⟨"PredictCacheImage", "<init>", "(II)V"⟩ : MethodName).name = "<init>" ∧ hasInst (⟨"PredictCacheImage", "<init>", "(II)V"⟩ : MethodName) tables_1 = true ∧ (none : Option FieldType) = none) ∨ ((2 : Nat) = 3 ∧ hasStat (⟨"PredictCacheImage", "<init>", "(II)V"⟩ : MethodName) tables_1 = true)) := by decide +kernel
theorem ca_w9_2 : callAt tables_1 "PredictCacheImageL1" 9 2 = some ((⟨"PredictCacheImage", "<init>", "(II)V"⟩ : MethodName), 2, prog_1_method_1_code, 3, none) := callAt_of ml_w9 cl_init pd_init cc_init_2 rfl
theorem on_w9 : objInitAt tables_1 "PredictCacheImageL1" 9 = false := by decide +kernel
theorem d_law_94 : decode code 94 = .ok (.astore 8, 2) := by decide +kernel
theorem d_law_96 : decode code 96 = .ok (.aload 8, 2) := by decide +kernel
theorem d_law_98 : decode code 98 = .ok (.invokevirtual 12, 3) := by decide +kernel
theorem ml_w12 : methodLk "PredictCacheImageL1" 12 tables_1 = some (⟨"PredictCacheImage", "getWidth", "()I"⟩ : MethodName) := by decide +kernel
theorem cl_getWidth : codeLk (⟨"PredictCacheImage", "getWidth", "()I"⟩ : MethodName) tables_1 = some (prog_1_method_12_code, 1, (some .int)) := codeLk_at (i := 111) rfl (by decide +kernel)
theorem pd_getWidth : parseMethodDescriptor "()I" = some ⟨[], some .int⟩ := by decide +kernel
theorem cc_getWidth_0 : hasInit (⟨"PredictCacheImage", "getWidth", "()I"⟩ : MethodName).cls tables_1 = true ∧ plainName (⟨"PredictCacheImage", "getWidth", "()I"⟩ : MethodName).cls = true ∧ (⟨"PredictCacheImage", "getWidth", "()I"⟩ : MethodName).cls ≠ "java/lang/invoke/MethodHandle" ∧ (⟨"PredictCacheImage", "getWidth", "()I"⟩ : MethodName).cls ≠ "java/lang/invoke/VarHandle" ∧ (((0 : Nat) = 0 ∧ hasDecl (⟨"PredictCacheImage", "getWidth", "()I"⟩ : MethodName) tables_1 = true ∧ hasSel (⟨"PredictCacheImage", "getWidth", "()I"⟩ : MethodName) tables_1 = true ∧ hasInst (⟨"PredictCacheImage", "getWidth", "()I"⟩ : MethodName) tables_1 = true) ∨ ((0 : Nat) = 1 ∧ hasPriv (⟨"PredictCacheImage", "getWidth", "()I"⟩ : MethodName) tables_1 = true ∧ hasInst (⟨"PredictCacheImage", "getWidth", "()I"⟩ : MethodName) tables_1 = true ∧ (instLk (⟨"PredictCacheImage", "getWidth", "()I"⟩ : MethodName).cls tables_1).isSome = true) ∨ ((0 : Nat) = 2 ∧ (⟨"PredictCacheImage", "getWidth", "()I"⟩ : MethodName).name = "<init>" ∧ hasInst (⟨"PredictCacheImage", "getWidth", "()I"⟩ : MethodName) tables_1 = true ∧ ((some .int) : Option FieldType) = none) ∨ ((0 : Nat) = 3 ∧ hasStat (⟨"PredictCacheImage", "getWidth", "()I"⟩ : MethodName) tables_1 = true)) := by decide +kernel
theorem ca_w12_0 : callAt tables_1 "PredictCacheImageL1" 12 0 = some ((⟨"PredictCacheImage", "getWidth", "()I"⟩ : MethodName), 0, prog_1_method_12_code, 1, (some .int)) := callAt_of ml_w12 cl_getWidth pd_getWidth cc_getWidth_0 rfl
theorem np_getWidth : hasPriv (⟨"PredictCacheImage", "getWidth", "()I"⟩ : MethodName) tables_1 = false := by decide +kernel
theorem ca_w12_0n : callAt tables_1 "PredictCacheImageL1" 12 1 = none := callAt_pub ml_w12 np_getWidth
theorem d_law_101 : decode code 101 = .ok (.iload 4, 2) := by decide +kernel
theorem d_law_103 : decode code 103 = .ok (.if_icmp .eq 5, 3) := by decide +kernel
theorem d_law_108 : decode code 108 = .ok (.aload 8, 2) := by decide +kernel
theorem d_law_110 : decode code 110 = .ok (.invokevirtual 16, 3) := by decide +kernel
theorem ml_w16 : methodLk "PredictCacheImageL1" 16 tables_1 = some (⟨"PredictCacheImage", "getHeight", "()I"⟩ : MethodName) := by decide +kernel
theorem cl_getHeight : codeLk (⟨"PredictCacheImage", "getHeight", "()I"⟩ : MethodName) tables_1 = some (prog_1_method_13_code, 1, (some .int)) := codeLk_at (i := 116) rfl (by decide +kernel)
theorem pd_getHeight : parseMethodDescriptor "()I" = some ⟨[], some .int⟩ := by decide +kernel
theorem cc_getHeight_0 : hasInit (⟨"PredictCacheImage", "getHeight", "()I"⟩ : MethodName).cls tables_1 = true ∧ plainName (⟨"PredictCacheImage", "getHeight", "()I"⟩ : MethodName).cls = true ∧ (⟨"PredictCacheImage", "getHeight", "()I"⟩ : MethodName).cls ≠ "java/lang/invoke/MethodHandle" ∧ (⟨"PredictCacheImage", "getHeight", "()I"⟩ : MethodName).cls ≠ "java/lang/invoke/VarHandle" ∧ (((0 : Nat) = 0 ∧ hasDecl (⟨"PredictCacheImage", "getHeight", "()I"⟩ : MethodName) tables_1 = true ∧ hasSel (⟨"PredictCacheImage", "getHeight", "()I"⟩ : MethodName) tables_1 = true ∧ hasInst (⟨"PredictCacheImage", "getHeight", "()I"⟩ : MethodName) tables_1 = true) ∨ ((0 : Nat) = 1 ∧ hasPriv (⟨"PredictCacheImage", "getHeight", "()I"⟩ : MethodName) tables_1 = true ∧ hasInst (⟨"PredictCacheImage", "getHeight", "()I"⟩ : MethodName) tables_1 = true ∧ (instLk (⟨"PredictCacheImage", "getHeight", "()I"⟩ : MethodName).cls tables_1).isSome = true) ∨ ((0 : Nat) = 2 ∧ (⟨"PredictCacheImage", "getHeight", "()I"⟩ : MethodName).name = "<init>" ∧ hasInst (⟨"PredictCacheImage", "getHeight", "()I"⟩ : MethodName) tables_1 = true ∧ ((some .int) : Option FieldType) = none) ∨ ((0 : Nat) = 3 ∧ hasStat (⟨"PredictCacheImage", "getHeight", "()I"⟩ : MethodName) tables_1 = true)) := by decide +kernel
theorem ca_w16_0 : callAt tables_1 "PredictCacheImageL1" 16 0 = some ((⟨"PredictCacheImage", "getHeight", "()I"⟩ : MethodName), 0, prog_1_method_13_code, 1, (some .int)) := callAt_of ml_w16 cl_getHeight pd_getHeight cc_getHeight_0 rfl
theorem np_getHeight : hasPriv (⟨"PredictCacheImage", "getHeight", "()I"⟩ : MethodName) tables_1 = false := by decide +kernel
theorem ca_w16_0n : callAt tables_1 "PredictCacheImageL1" 16 1 = none := callAt_pub ml_w16 np_getHeight
theorem d_law_113 : decode code 113 = .ok (.iload 5, 2) := by decide +kernel
theorem d_law_115 : decode code 115 = .ok (.if_icmp .eq 5, 3) := by decide +kernel
theorem d_law_120 : decode code 120 = .ok (.aload 8, 2) := by decide +kernel
theorem d_law_122 : decode code 122 = .ok (.iload_n 2, 1) := by decide +kernel
theorem d_law_123 : decode code 123 = .ok (.iload_n 3, 1) := by decide +kernel
theorem d_law_124 : decode code 124 = .ok (.invokevirtual 19, 3) := by decide +kernel
theorem ml_w19 : methodLk "PredictCacheImageL1" 19 tables_1 = some (⟨"PredictCacheImage", "getInput", "(II)I"⟩ : MethodName) := by decide +kernel
theorem cl_getInput : codeLk (⟨"PredictCacheImage", "getInput", "(II)I"⟩ : MethodName) tables_1 = some (prog_1_method_9_code, 3, (some .int)) := codeLk_at (i := 121) rfl (by decide +kernel)
theorem pd_getInput : parseMethodDescriptor "(II)I" = some ⟨[.int, .int], some .int⟩ := by decide +kernel
theorem cc_getInput_0 : hasInit (⟨"PredictCacheImage", "getInput", "(II)I"⟩ : MethodName).cls tables_1 = true ∧ plainName (⟨"PredictCacheImage", "getInput", "(II)I"⟩ : MethodName).cls = true ∧ (⟨"PredictCacheImage", "getInput", "(II)I"⟩ : MethodName).cls ≠ "java/lang/invoke/MethodHandle" ∧ (⟨"PredictCacheImage", "getInput", "(II)I"⟩ : MethodName).cls ≠ "java/lang/invoke/VarHandle" ∧ (((0 : Nat) = 0 ∧ hasDecl (⟨"PredictCacheImage", "getInput", "(II)I"⟩ : MethodName) tables_1 = true ∧ hasSel (⟨"PredictCacheImage", "getInput", "(II)I"⟩ : MethodName) tables_1 = true ∧ hasInst (⟨"PredictCacheImage", "getInput", "(II)I"⟩ : MethodName) tables_1 = true) ∨ ((0 : Nat) = 1 ∧ hasPriv (⟨"PredictCacheImage", "getInput", "(II)I"⟩ : MethodName) tables_1 = true ∧ hasInst (⟨"PredictCacheImage", "getInput", "(II)I"⟩ : MethodName) tables_1 = true ∧ (instLk (⟨"PredictCacheImage", "getInput", "(II)I"⟩ : MethodName).cls tables_1).isSome = true) ∨ ((0 : Nat) = 2 ∧ (⟨"PredictCacheImage", "getInput", "(II)I"⟩ : MethodName).name = "<init>" ∧ hasInst (⟨"PredictCacheImage", "getInput", "(II)I"⟩ : MethodName) tables_1 = true ∧ ((some .int) : Option FieldType) = none) ∨ ((0 : Nat) = 3 ∧ hasStat (⟨"PredictCacheImage", "getInput", "(II)I"⟩ : MethodName) tables_1 = true)) := by decide +kernel
theorem ca_w19_0 : callAt tables_1 "PredictCacheImageL1" 19 0 = some ((⟨"PredictCacheImage", "getInput", "(II)I"⟩ : MethodName), 2, prog_1_method_9_code, 3, (some .int)) := callAt_of ml_w19 cl_getInput pd_getInput cc_getInput_0 rfl
theorem np_getInput : hasPriv (⟨"PredictCacheImage", "getInput", "(II)I"⟩ : MethodName) tables_1 = false := by decide +kernel
theorem ca_w19_0n : callAt tables_1 "PredictCacheImageL1" 19 1 = none := callAt_pub ml_w19 np_getInput
theorem d_law_118 : decode code 118 = .ok (.iconst 0, 1) := by decide +kernel
theorem d_law_119 : decode code 119 = .ok (.ireturn, 1) := by decide +kernel
theorem d_law_106 : decode code 106 = .ok (.iconst 0, 1) := by decide +kernel
theorem d_law_107 : decode code 107 = .ok (.ireturn, 1) := by decide +kernel
theorem d_law_127 : decode code 127 = .ok (.iload 7, 2) := by decide +kernel
theorem d_law_129 : decode code 129 = .ok (.if_icmp .eq 5, 3) := by decide +kernel
theorem d_law_134 : decode code 134 = .ok (.aload 8, 2) := by decide +kernel
theorem d_law_136 : decode code 136 = .ok (.iload_n 2, 1) := by decide +kernel
theorem d_law_137 : decode code 137 = .ok (.iload_n 3, 1) := by decide +kernel
theorem d_law_138 : decode code 138 = .ok (.invokevirtual 23, 3) := by decide +kernel
theorem ml_w23 : methodLk "PredictCacheImageL1" 23 tables_1 = some (⟨"PredictCacheImage", "getOutput", "(II)I"⟩ : MethodName) := by decide +kernel
theorem cl_getOutput : codeLk (⟨"PredictCacheImage", "getOutput", "(II)I"⟩ : MethodName) tables_1 = some (prog_1_method_10_code, 3, (some .int)) := codeLk_at (i := 126) rfl (by decide +kernel)
theorem pd_getOutput : parseMethodDescriptor "(II)I" = some ⟨[.int, .int], some .int⟩ := by decide +kernel
theorem cc_getOutput_0 : hasInit (⟨"PredictCacheImage", "getOutput", "(II)I"⟩ : MethodName).cls tables_1 = true ∧ plainName (⟨"PredictCacheImage", "getOutput", "(II)I"⟩ : MethodName).cls = true ∧ (⟨"PredictCacheImage", "getOutput", "(II)I"⟩ : MethodName).cls ≠ "java/lang/invoke/MethodHandle" ∧ (⟨"PredictCacheImage", "getOutput", "(II)I"⟩ : MethodName).cls ≠ "java/lang/invoke/VarHandle" ∧ (((0 : Nat) = 0 ∧ hasDecl (⟨"PredictCacheImage", "getOutput", "(II)I"⟩ : MethodName) tables_1 = true ∧ hasSel (⟨"PredictCacheImage", "getOutput", "(II)I"⟩ : MethodName) tables_1 = true ∧ hasInst (⟨"PredictCacheImage", "getOutput", "(II)I"⟩ : MethodName) tables_1 = true) ∨ ((0 : Nat) = 1 ∧ hasPriv (⟨"PredictCacheImage", "getOutput", "(II)I"⟩ : MethodName) tables_1 = true ∧ hasInst (⟨"PredictCacheImage", "getOutput", "(II)I"⟩ : MethodName) tables_1 = true ∧ (instLk (⟨"PredictCacheImage", "getOutput", "(II)I"⟩ : MethodName).cls tables_1).isSome = true) ∨ ((0 : Nat) = 2 ∧ (⟨"PredictCacheImage", "getOutput", "(II)I"⟩ : MethodName).name = "<init>" ∧ hasInst (⟨"PredictCacheImage", "getOutput", "(II)I"⟩ : MethodName) tables_1 = true ∧ ((some .int) : Option FieldType) = none) ∨ ((0 : Nat) = 3 ∧ hasStat (⟨"PredictCacheImage", "getOutput", "(II)I"⟩ : MethodName) tables_1 = true)) := by decide +kernel
theorem ca_w23_0 : callAt tables_1 "PredictCacheImageL1" 23 0 = some ((⟨"PredictCacheImage", "getOutput", "(II)I"⟩ : MethodName), 2, prog_1_method_10_code, 3, (some .int)) := callAt_of ml_w23 cl_getOutput pd_getOutput cc_getOutput_0 rfl
theorem np_getOutput : hasPriv (⟨"PredictCacheImage", "getOutput", "(II)I"⟩ : MethodName) tables_1 = false := by decide +kernel
theorem ca_w23_0n : callAt tables_1 "PredictCacheImageL1" 23 1 = none := callAt_pub ml_w23 np_getOutput
theorem d_law_132 : decode code 132 = .ok (.iconst 0, 1) := by decide +kernel
theorem d_law_133 : decode code 133 = .ok (.ireturn, 1) := by decide +kernel
theorem d_law_141 : decode code 141 = .ok (.iconst (-1), 1) := by decide +kernel
theorem d_law_142 : decode code 142 = .ok (.if_icmp .eq 5, 3) := by decide +kernel
theorem d_law_147 : decode code 147 = .ok (.aload 8, 2) := by decide +kernel
theorem d_law_149 : decode code 149 = .ok (.invokevirtual 26, 3) := by decide +kernel
theorem ml_w26 : methodLk "PredictCacheImageL1" 26 tables_1 = some (⟨"PredictCacheImage", "decode", "()Z"⟩ : MethodName) := by decide +kernel
theorem cl_decode : codeLk (⟨"PredictCacheImage", "decode", "()Z"⟩ : MethodName) tables_1 = some (prog_1_method_8_code, 5, (some .boolean)) := codeLk_at (i := 131) rfl (by decide +kernel)
theorem pd_decode : parseMethodDescriptor "()Z" = some ⟨[], some .boolean⟩ := by decide +kernel
theorem cc_decode_0 : hasInit (⟨"PredictCacheImage", "decode", "()Z"⟩ : MethodName).cls tables_1 = true ∧ plainName (⟨"PredictCacheImage", "decode", "()Z"⟩ : MethodName).cls = true ∧ (⟨"PredictCacheImage", "decode", "()Z"⟩ : MethodName).cls ≠ "java/lang/invoke/MethodHandle" ∧ (⟨"PredictCacheImage", "decode", "()Z"⟩ : MethodName).cls ≠ "java/lang/invoke/VarHandle" ∧ (((0 : Nat) = 0 ∧ hasDecl (⟨"PredictCacheImage", "decode", "()Z"⟩ : MethodName) tables_1 = true ∧ hasSel (⟨"PredictCacheImage", "decode", "()Z"⟩ : MethodName) tables_1 = true ∧ hasInst (⟨"PredictCacheImage", "decode", "()Z"⟩ : MethodName) tables_1 = true) ∨ ((0 : Nat) = 1 ∧ hasPriv (⟨"PredictCacheImage", "decode", "()Z"⟩ : MethodName) tables_1 = true ∧ hasInst (⟨"PredictCacheImage", "decode", "()Z"⟩ : MethodName) tables_1 = true ∧ (instLk (⟨"PredictCacheImage", "decode", "()Z"⟩ : MethodName).cls tables_1).isSome = true) ∨ ((0 : Nat) = 2 ∧ (⟨"PredictCacheImage", "decode", "()Z"⟩ : MethodName).name = "<init>" ∧ hasInst (⟨"PredictCacheImage", "decode", "()Z"⟩ : MethodName) tables_1 = true ∧ ((some .boolean) : Option FieldType) = none) ∨ ((0 : Nat) = 3 ∧ hasStat (⟨"PredictCacheImage", "decode", "()Z"⟩ : MethodName) tables_1 = true)) := by decide +kernel
theorem ca_w26_0 : callAt tables_1 "PredictCacheImageL1" 26 0 = some ((⟨"PredictCacheImage", "decode", "()Z"⟩ : MethodName), 0, prog_1_method_8_code, 5, (some .boolean)) := callAt_of ml_w26 cl_decode pd_decode cc_decode_0 rfl
theorem np_decode : hasPriv (⟨"PredictCacheImage", "decode", "()Z"⟩ : MethodName) tables_1 = false := by decide +kernel
theorem ca_w26_0n : callAt tables_1 "PredictCacheImageL1" 26 1 = none := callAt_pub ml_w26 np_decode
theorem d_law_145 : decode code 145 = .ok (.iconst 0, 1) := by decide +kernel
theorem d_law_146 : decode code 146 = .ok (.ireturn, 1) := by decide +kernel
theorem d_law_152 : decode code 152 = .ok (.ifCond .eq 5, 3) := by decide +kernel
theorem d_law_157 : decode code 157 = .ok (.aload 8, 2) := by decide +kernel
theorem d_law_159 : decode code 159 = .ok (.invokevirtual 30, 3) := by decide +kernel
theorem ml_w30 : methodLk "PredictCacheImageL1" 30 tables_1 = some (⟨"PredictCacheImage", "getCacheBits", "()I"⟩ : MethodName) := by decide +kernel
theorem cl_getCacheBits : codeLk (⟨"PredictCacheImage", "getCacheBits", "()I"⟩ : MethodName) tables_1 = some (prog_1_method_16_code, 1, (some .int)) := codeLk_at (i := 136) rfl (by decide +kernel)
theorem pd_getCacheBits : parseMethodDescriptor "()I" = some ⟨[], some .int⟩ := by decide +kernel
theorem cc_getCacheBits_0 : hasInit (⟨"PredictCacheImage", "getCacheBits", "()I"⟩ : MethodName).cls tables_1 = true ∧ plainName (⟨"PredictCacheImage", "getCacheBits", "()I"⟩ : MethodName).cls = true ∧ (⟨"PredictCacheImage", "getCacheBits", "()I"⟩ : MethodName).cls ≠ "java/lang/invoke/MethodHandle" ∧ (⟨"PredictCacheImage", "getCacheBits", "()I"⟩ : MethodName).cls ≠ "java/lang/invoke/VarHandle" ∧ (((0 : Nat) = 0 ∧ hasDecl (⟨"PredictCacheImage", "getCacheBits", "()I"⟩ : MethodName) tables_1 = true ∧ hasSel (⟨"PredictCacheImage", "getCacheBits", "()I"⟩ : MethodName) tables_1 = true ∧ hasInst (⟨"PredictCacheImage", "getCacheBits", "()I"⟩ : MethodName) tables_1 = true) ∨ ((0 : Nat) = 1 ∧ hasPriv (⟨"PredictCacheImage", "getCacheBits", "()I"⟩ : MethodName) tables_1 = true ∧ hasInst (⟨"PredictCacheImage", "getCacheBits", "()I"⟩ : MethodName) tables_1 = true ∧ (instLk (⟨"PredictCacheImage", "getCacheBits", "()I"⟩ : MethodName).cls tables_1).isSome = true) ∨ ((0 : Nat) = 2 ∧ (⟨"PredictCacheImage", "getCacheBits", "()I"⟩ : MethodName).name = "<init>" ∧ hasInst (⟨"PredictCacheImage", "getCacheBits", "()I"⟩ : MethodName) tables_1 = true ∧ ((some .int) : Option FieldType) = none) ∨ ((0 : Nat) = 3 ∧ hasStat (⟨"PredictCacheImage", "getCacheBits", "()I"⟩ : MethodName) tables_1 = true)) := by decide +kernel
theorem ca_w30_0 : callAt tables_1 "PredictCacheImageL1" 30 0 = some ((⟨"PredictCacheImage", "getCacheBits", "()I"⟩ : MethodName), 0, prog_1_method_16_code, 1, (some .int)) := callAt_of ml_w30 cl_getCacheBits pd_getCacheBits cc_getCacheBits_0 rfl
theorem np_getCacheBits : hasPriv (⟨"PredictCacheImage", "getCacheBits", "()I"⟩ : MethodName) tables_1 = false := by decide +kernel
theorem ca_w30_0n : callAt tables_1 "PredictCacheImageL1" 30 1 = none := callAt_pub ml_w30 np_getCacheBits
theorem d_law_162 : decode code 162 = .ok (.iconst (-1), 1) := by decide +kernel
theorem d_law_163 : decode code 163 = .ok (.if_icmp .ne 7, 3) := by decide +kernel
theorem d_law_170 : decode code 170 = .ok (.iconst 0, 1) := by decide +kernel
theorem d_law_166 : decode code 166 = .ok (.iconst 1, 1) := by decide +kernel
theorem d_law_167 : decode code 167 = .ok (.goto 4, 3) := by decide +kernel
theorem d_law_171 : decode code 171 = .ok (.ireturn, 1) := by decide +kernel
theorem d_law_155 : decode code 155 = .ok (.iconst 0, 1) := by decide +kernel
theorem d_law_156 : decode code 156 = .ok (.ireturn, 1) := by decide +kernel
set_option maxRecDepth 65536 in
set_option maxHeartbeats 4000000 in
theorem L_clamp_0 {x1 x2 x3 : Int32} {mi : Nat → Nat → Int32} {ml : Nat → Nat → Int64} {Q : Option Value → EMem → Prop}
    (h1 : ∀ v1 : Int32, v1 = (if x1 < x2 then x2 else (if x3 < x1 then x3 else x1)) → Q (some (.int v1)) (LL1, mi, ml, RR1)) :
    W_clamp 0 [.val (.ref 0), .val (.int x1), .val (.int x2), .val (.int x3)] [] (LL1, mi, ml, RR1) Q := by
  refine Wp.p (pc' := 1) d_clamp_0 rfl rfl ?_
  refine Wp.p (pc' := 2) d_clamp_1 rfl rfl ?_
  obtain ⟨v1, e1⟩ : ∃ z : Int32, z = (if x1 < x2 then x2 else (if x3 < x1 then x3 else x1)) := ⟨_, rfl⟩
  suffices K : Q (some (.int v1)) (LL1, mi, ml, RR1) by
    refine Wp.icmp_ge d_clamp_2 rfl (fun q0 => ?_) (fun q0 => ?_)
    ·
      refine Wp.p (pc' := 8) d_clamp_7 rfl rfl ?_
      refine Wp.p (pc' := 9) d_clamp_8 rfl rfl ?_
      refine Wp.icmp_le d_clamp_9 rfl (fun q1 => ?_) (fun q1 => ?_)
      ·
        refine Wp.p (pc' := 15) d_clamp_14 rfl rfl ?_
        refine Wp.retI d_clamp_15 ?_
        rw [if_neg q0, if_neg q1] at e1; subst e1
        exact K
      ·
        refine Wp.p (pc' := 13) d_clamp_12 rfl rfl ?_
        refine Wp.retI d_clamp_13 ?_
        rw [if_neg q0, if_pos q1] at e1; subst e1
        exact K
    ·
      refine Wp.p (pc' := 6) d_clamp_5 rfl rfl ?_
      refine Wp.retI d_clamp_6 ?_
      rw [if_pos q0] at e1; subst e1
      exact K
  exact (h1 v1 e1)
set_option maxRecDepth 65536 in
set_option maxHeartbeats 4000000 in
theorem L_getWidth_0 {mi : Nat → Nat → Int32} {ml : Nat → Nat → Int64} {Q : Option Value → EMem → Prop}
    (h1 : Q (some (.int (mi 0 96))) (LL1, mi, ml, RR1)) :
    W_getWidth 0 [.val (.ref 0)] [] (LL1, mi, ml, RR1) Q := by
  refine Wp.p (pc' := 1) d_getWidth_0 rfl rfl ?_
  refine Wp.getI (mi 0 96) d_getWidth_1 fa_c132 rfl rfl ?_
  refine Wp.retI d_getWidth_4 ?_
  exact h1
set_option maxRecDepth 65536 in
set_option maxHeartbeats 4000000 in
theorem L_getHeight_0 {mi : Nat → Nat → Int32} {ml : Nat → Nat → Int64} {Q : Option Value → EMem → Prop}
    (h1 : Q (some (.int (mi 0 98))) (LL1, mi, ml, RR1)) :
    W_getHeight 0 [.val (.ref 0)] [] (LL1, mi, ml, RR1) Q := by
  refine Wp.p (pc' := 1) d_getHeight_0 rfl rfl ?_
  refine Wp.getI (mi 0 98) d_getHeight_1 fa_c135 rfl rfl ?_
  refine Wp.retI d_getHeight_4 ?_
  exact h1
set_option maxRecDepth 65536 in
set_option maxHeartbeats 4000000 in
theorem L_getCacheBits_0 {mi : Nat → Nat → Int32} {ml : Nat → Nat → Int64} {Q : Option Value → EMem → Prop}
    (h1 : ∀ v1 : Int32, v1 = (if (mi 0 100) = (0 : Int32) then (-1 : Int32) else (mi 0 104)) → Q (some (.int v1)) (LL1, mi, ml, RR1)) :
    W_getCacheBits 0 [.val (.ref 0)] [] (LL1, mi, ml, RR1) Q := by
  refine Wp.p (pc' := 1) d_getCacheBits_0 rfl rfl ?_
  refine Wp.getZ (mi 0 100) d_getCacheBits_1 fa_c138 rfl rfl ?_
  obtain ⟨v1, e1⟩ : ∃ z : Int32, z = (if (mi 0 100) = (0 : Int32) then (-1 : Int32) else (mi 0 104)) := ⟨_, rfl⟩
  suffices K : W_getCacheBits 15 [.val (.ref 0)] [.int v1] (LL1, mi, ml, RR1) Q by
    refine Wp.if_eq d_getCacheBits_4 rfl (fun q0 => ?_) (fun q0 => ?_)
    ·
      refine Wp.iconst (-1 : Int32) d_getCacheBits_14 (by decide) ?_
      rw [if_pos q0] at e1; subst e1
      exact K
    ·
      refine Wp.p (pc' := 8) d_getCacheBits_7 rfl rfl ?_
      refine Wp.getI (mi 0 104) d_getCacheBits_8 fa_c145 rfl rfl ?_
      refine Wp.p (pc' := 15) d_getCacheBits_11 rfl rfl ?_
      rw [if_neg q0] at e1; subst e1
      exact K
  refine Wp.retI d_getCacheBits_15 ?_
  exact (h1 v1 e1)
set_option maxRecDepth 65536 in
set_option maxHeartbeats 4000000 in
theorem L_reset_0 {x1 x2 : Int32} {mi : Nat → Nat → Int32} {ml : Nat → Nat → Int64} {Q : Option Value → EMem → Prop}
    (h1 : ∀ v1 : Int32, v1 = (if x1 < (1 : Int32) then (1 : Int32) else (if (16 : Int32) < x1 then (16 : Int32) else x1)) → ∀ v2 : Int32, v2 = (if x2 < (1 : Int32) then (1 : Int32) else (if (16 : Int32) < x2 then (16 : Int32) else x2)) → W_reset 26 [.val (.ref 0), .val (.int x1), .val (.int x2), .val (.int (0 : Int32))] [] (LL1, (up (up mi 0 96 v1) 0 98 v2), ml, RR1) Q) :
    W_reset 0 [.val (.ref 0), .val (.int x1), .val (.int x2), .unset] [] (LL1, mi, ml, RR1) Q := by
  refine Wp.p (pc' := 1) d_reset_0 rfl rfl ?_
  refine Wp.p (pc' := 2) d_reset_1 rfl rfl ?_
  refine Wp.p (pc' := 3) d_reset_2 rfl rfl ?_
  refine Wp.iconst (1 : Int32) d_reset_3 (by decide) ?_
  refine Wp.bipush (16 : Int32) d_reset_4 (by decide) ?_
  refine Wp.callP (a := 0) (as := [.int x1, .int (1 : Int32), .int (16 : Int32)]) (rest := [.ref 0]) (w := 1) (F' := 0) (Lb' := 0) d_reset_6 ca_c128_1 rfl rfl rfl rfl (by decide) (by decide) (Nat.le_of_ble_eq_true rfl) ?_
  refine L_clamp_0 ?_
  intro v1 e1
  show W_reset 9 [.val (.ref 0), .val (.int x1), .val (.int x2), .unset] [.int v1, .ref 0] (LL1, mi, ml, RR1) Q
  refine Wp.putI d_reset_9 fa_c132 rfl (by decide) in_PredictCacheImage (Or.inl rfl) ?_
  refine Wp.p (pc' := 13) d_reset_12 rfl rfl ?_
  refine Wp.p (pc' := 14) d_reset_13 rfl rfl ?_
  refine Wp.p (pc' := 15) d_reset_14 rfl rfl ?_
  refine Wp.iconst (1 : Int32) d_reset_15 (by decide) ?_
  refine Wp.bipush (16 : Int32) d_reset_16 (by decide) ?_
  refine Wp.callP (a := 0) (as := [.int x2, .int (1 : Int32), .int (16 : Int32)]) (rest := [.ref 0]) (w := 1) (F' := 0) (Lb' := 0) d_reset_18 ca_c128_1 rfl rfl rfl rfl (by decide) (by decide) (Nat.le_of_ble_eq_true rfl) ?_
  refine L_clamp_0 ?_
  intro v2 e2
  show W_reset 21 [.val (.ref 0), .val (.int x1), .val (.int x2), .unset] [.int v2, .ref 0] (LL1, (up mi 0 96 v1), ml, RR1) Q
  refine Wp.putI d_reset_21 fa_c135 rfl (by decide) in_PredictCacheImage (Or.inl rfl) ?_
  refine Wp.iconst (0 : Int32) d_reset_24 (by decide) ?_
  refine Wp.p (pc' := 26) d_reset_25 rfl rfl ?_
  exact (h1 v1 e1 v2 e2)
set_option maxRecDepth 65536 in
set_option maxHeartbeats 4000000 in
theorem L_reset_26 {x1 x2 x3 : Int32} {mi : Nat → Nat → Int32} {ml : Nat → Nat → Int64} {Q : Option Value → EMem → Prop}
    (h1 : ¬ x3 < (256 : Int32) → Q none (LL1, (up (up (up (up mi 0 100 (0 : Int32)) 0 102 (0 : Int32)) 0 104 (-1 : Int32)) 0 106 (-1 : Int32)), ml, RR1))
    (b1 : x3 < (256 : Int32) → inb x3 256 = true)
    (h2 : x3 < (256 : Int32) → W_reset 26 [.val (.ref 0), .val (.int x1), .val (.int x2), .val (.int (x3 + (1 : Int32)))] [] (LL1, (up (up mi 1 (Int32.toNatClampNeg x3) (0 : Int32)) 2 (Int32.toNatClampNeg x3) (0 : Int32)), ml, RR1) Q) :
    W_reset 26 [.val (.ref 0), .val (.int x1), .val (.int x2), .val (.int x3)] [] (LL1, mi, ml, RR1) Q := by
  refine Wp.p (pc' := 27) d_reset_26 rfl rfl ?_
  refine Wp.sipush (256 : Int32) d_reset_27 (by decide) ?_
  refine Wp.icmp_ge d_reset_30 rfl (fun c1 => ?_) (fun c1 => ?_)
  ·
    refine Wp.p (pc' := 54) d_reset_53 rfl rfl ?_
    refine Wp.iconst (0 : Int32) d_reset_54 (by decide) ?_
    refine Wp.putZ (0 : Int32) d_reset_55 fa_c138 rfl (by decide) in_PredictCacheImage (Or.inl rfl) (by decide) ?_
    refine Wp.p (pc' := 59) d_reset_58 rfl rfl ?_
    refine Wp.iconst (0 : Int32) d_reset_59 (by decide) ?_
    refine Wp.putZ (0 : Int32) d_reset_60 fa_c142 rfl (by decide) in_PredictCacheImage (Or.inl rfl) (by decide) ?_
    refine Wp.p (pc' := 64) d_reset_63 rfl rfl ?_
    refine Wp.iconst (-1 : Int32) d_reset_64 (by decide) ?_
    refine Wp.putI d_reset_65 fa_c145 rfl (by decide) in_PredictCacheImage (Or.inl rfl) ?_
    refine Wp.p (pc' := 69) d_reset_68 rfl rfl ?_
    refine Wp.iconst (-1 : Int32) d_reset_69 (by decide) ?_
    refine Wp.putI d_reset_70 fa_c148 rfl (by decide) in_PredictCacheImage (Or.inl rfl) ?_
    refine Wp.retV d_reset_73 ?_
    exact (h1 c1)
  ·
    refine Wp.p (pc' := 34) d_reset_33 rfl rfl ?_
    refine Wp.getR (b := 1) d_reset_34 fa_c59 rfl rfl ?_
    refine Wp.p (pc' := 38) d_reset_37 rfl rfl ?_
    refine Wp.iconst (0 : Int32) d_reset_38 (by decide) ?_
    refine Wp.iastore d_reset_39 rfl (k := (Int32.toNatClampNeg x3)) rfl (b1 c1) (by decide) ?_
    refine Wp.p (pc' := 41) d_reset_40 rfl rfl ?_
    refine Wp.getR (b := 2) d_reset_41 fa_c63 rfl rfl ?_
    refine Wp.p (pc' := 45) d_reset_44 rfl rfl ?_
    refine Wp.iconst (0 : Int32) d_reset_45 (by decide) ?_
    refine Wp.iastore d_reset_46 rfl (k := (Int32.toNatClampNeg x3)) rfl (b1 c1) (by decide) ?_
    refine Wp.iinc (1 : Int32) d_reset_47 (by decide) rfl rfl ?_
    refine Wp.p (pc' := 26) d_reset_50 rfl rfl ?_
    exact (h2 c1)
set_option maxRecDepth 65536 in
set_option maxHeartbeats 4000000 in
theorem L_init_0 {x1 x2 : Int32} {mi : Nat → Nat → Int32} {ml : Nat → Nat → Int64} {Q : Option Value → EMem → Prop}
    (h1 : W_reset 0 [.val (.ref 0), .val (.int x1), .val (.int x2), .unset] [] (LL1, (up (up (up (up (up (up (up (up (up (up (up (up (up (up (up (up mi 0 10 (528 : Int32)) 0 12 (784 : Int32)) 0 14 (1040 : Int32)) 0 16 (1060 : Int32)) 0 18 (256 : Int32)) 0 20 (272 : Int32)) 0 22 (18 : Int32)) 0 24 (15 : Int32)) 0 26 (3 : Int32)) 0 28 (16 : Int32)) 0 30 (13 : Int32)) 0 32 (10 : Int32)) 0 35 (506832829 : Int32)) 0 37 (1024 : Int32)) 0 39 (256 : Int32)) 0 41 (64 : Int32)), ml, RR1) (fun v M' => W_init 299 [.val (.ref 0), .val (.int x1), .val (.int x2)] (v.toList ++ []) M' Q)) :
    W_init 0 [.val (.ref 0), .val (.int x1), .val (.int x2)] [] ([(0, "PredictCacheImage", 53)], mi, ml, (fun _ _ => Value.null)) Q := by
  refine Wp.p (pc' := 1) d_init_0 rfl rfl ?_
  refine Wp.objInit (w := 0) d_init_1 oi_c1 rfl (by decide) (by decide) ?_
  refine Wp.p (pc' := 5) d_init_4 rfl rfl ?_
  refine Wp.sipush (528 : Int32) d_init_5 (by decide) ?_
  refine Wp.putI d_init_8 fa_c7 rfl (by decide) in_PredictCacheImage (Or.inr ⟨rfl, rfl⟩) ?_
  refine Wp.p (pc' := 12) d_init_11 rfl rfl ?_
  refine Wp.sipush (784 : Int32) d_init_12 (by decide) ?_
  refine Wp.putI d_init_15 fa_c13 rfl (by decide) in_PredictCacheImage (Or.inr ⟨rfl, rfl⟩) ?_
  refine Wp.p (pc' := 19) d_init_18 rfl rfl ?_
  refine Wp.sipush (1040 : Int32) d_init_19 (by decide) ?_
  refine Wp.putI d_init_22 fa_c16 rfl (by decide) in_PredictCacheImage (Or.inr ⟨rfl, rfl⟩) ?_
  refine Wp.p (pc' := 26) d_init_25 rfl rfl ?_
  refine Wp.sipush (1060 : Int32) d_init_26 (by decide) ?_
  refine Wp.putI d_init_29 fa_c19 rfl (by decide) in_PredictCacheImage (Or.inr ⟨rfl, rfl⟩) ?_
  refine Wp.p (pc' := 33) d_init_32 rfl rfl ?_
  refine Wp.sipush (256 : Int32) d_init_33 (by decide) ?_
  refine Wp.putI d_init_36 fa_c22 rfl (by decide) in_PredictCacheImage (Or.inr ⟨rfl, rfl⟩) ?_
  refine Wp.p (pc' := 40) d_init_39 rfl rfl ?_
  refine Wp.sipush (272 : Int32) d_init_40 (by decide) ?_
  refine Wp.putI d_init_43 fa_c25 rfl (by decide) in_PredictCacheImage (Or.inr ⟨rfl, rfl⟩) ?_
  refine Wp.p (pc' := 47) d_init_46 rfl rfl ?_
  refine Wp.bipush (18 : Int32) d_init_47 (by decide) ?_
  refine Wp.putI d_init_49 fa_c28 rfl (by decide) in_PredictCacheImage (Or.inr ⟨rfl, rfl⟩) ?_
  refine Wp.p (pc' := 53) d_init_52 rfl rfl ?_
  refine Wp.bipush (15 : Int32) d_init_53 (by decide) ?_
  refine Wp.putI d_init_55 fa_c31 rfl (by decide) in_PredictCacheImage (Or.inr ⟨rfl, rfl⟩) ?_
  refine Wp.p (pc' := 59) d_init_58 rfl rfl ?_
  refine Wp.iconst (3 : Int32) d_init_59 (by decide) ?_
  refine Wp.putI d_init_60 fa_c34 rfl (by decide) in_PredictCacheImage (Or.inr ⟨rfl, rfl⟩) ?_
  refine Wp.p (pc' := 64) d_init_63 rfl rfl ?_
  refine Wp.bipush (16 : Int32) d_init_64 (by decide) ?_
  refine Wp.putI d_init_66 fa_c37 rfl (by decide) in_PredictCacheImage (Or.inr ⟨rfl, rfl⟩) ?_
  refine Wp.p (pc' := 70) d_init_69 rfl rfl ?_
  refine Wp.bipush (13 : Int32) d_init_70 (by decide) ?_
  refine Wp.putI d_init_72 fa_c40 rfl (by decide) in_PredictCacheImage (Or.inr ⟨rfl, rfl⟩) ?_
  refine Wp.p (pc' := 76) d_init_75 rfl rfl ?_
  refine Wp.bipush (10 : Int32) d_init_76 (by decide) ?_
  refine Wp.putI d_init_78 fa_c43 rfl (by decide) in_PredictCacheImage (Or.inr ⟨rfl, rfl⟩) ?_
  refine Wp.p (pc' := 82) d_init_81 rfl rfl ?_
  refine Wp.ldc d_init_82 ik_c46 ?_
  refine Wp.putI d_init_84 fa_c47 rfl (by decide) in_PredictCacheImage (Or.inr ⟨rfl, rfl⟩) ?_
  refine Wp.p (pc' := 88) d_init_87 rfl rfl ?_
  refine Wp.sipush (1024 : Int32) d_init_88 (by decide) ?_
  refine Wp.putI d_init_91 fa_c50 rfl (by decide) in_PredictCacheImage (Or.inr ⟨rfl, rfl⟩) ?_
  refine Wp.p (pc' := 95) d_init_94 rfl rfl ?_
  refine Wp.sipush (256 : Int32) d_init_95 (by decide) ?_
  refine Wp.putI d_init_98 fa_c53 rfl (by decide) in_PredictCacheImage (Or.inr ⟨rfl, rfl⟩) ?_
  refine Wp.p (pc' := 102) d_init_101 rfl rfl ?_
  refine Wp.bipush (64 : Int32) d_init_102 (by decide) ?_
  refine Wp.putI d_init_104 fa_c56 rfl (by decide) in_PredictCacheImage (Or.inr ⟨rfl, rfl⟩) ?_
  refine Wp.p (pc' := 108) d_init_107 rfl rfl ?_
  refine Wp.sipush (256 : Int32) d_init_108 (by decide) ?_
  refine Wp.new_int (a := 1) (z := 256) (L' := [(0, "PredictCacheImage", 53), (1, "", 256)]) d_init_111 ar_int (by decide) (by decide) rfl rfl ?_
  refine Wp.putR d_init_113 fa_c59 rfl (by decide) in_PredictCacheImage (Or.inr ⟨rfl, rfl⟩) ?_
  refine Wp.p (pc' := 117) d_init_116 rfl rfl ?_
  refine Wp.sipush (256 : Int32) d_init_117 (by decide) ?_
  refine Wp.new_int (a := 2) (z := 256) (L' := [(0, "PredictCacheImage", 53), (1, "", 256), (1, "", 256)]) d_init_120 ar_int (by decide) (by decide) rfl rfl ?_
  refine Wp.putR d_init_122 fa_c63 rfl (by decide) in_PredictCacheImage (Or.inr ⟨rfl, rfl⟩) ?_
  refine Wp.p (pc' := 126) d_init_125 rfl rfl ?_
  refine Wp.sipush (256 : Int32) d_init_126 (by decide) ?_
  refine Wp.new_int (a := 3) (z := 256) (L' := [(0, "PredictCacheImage", 53), (1, "", 256), (1, "", 256), (1, "", 256)]) d_init_129 ar_int (by decide) (by decide) rfl rfl ?_
  refine Wp.putR d_init_131 fa_c66 rfl (by decide) in_PredictCacheImage (Or.inr ⟨rfl, rfl⟩) ?_
  refine Wp.p (pc' := 135) d_init_134 rfl rfl ?_
  refine Wp.sipush (256 : Int32) d_init_135 (by decide) ?_
  refine Wp.new_int (a := 4) (z := 256) (L' := [(0, "PredictCacheImage", 53), (1, "", 256), (1, "", 256), (1, "", 256), (1, "", 256)]) d_init_138 ar_int (by decide) (by decide) rfl rfl ?_
  refine Wp.putR d_init_140 fa_c69 rfl (by decide) in_PredictCacheImage (Or.inr ⟨rfl, rfl⟩) ?_
  refine Wp.p (pc' := 144) d_init_143 rfl rfl ?_
  refine Wp.sipush (256 : Int32) d_init_144 (by decide) ?_
  refine Wp.new_int (a := 5) (z := 256) (L' := [(0, "PredictCacheImage", 53), (1, "", 256), (1, "", 256), (1, "", 256), (1, "", 256), (1, "", 256)]) d_init_147 ar_int (by decide) (by decide) rfl rfl ?_
  refine Wp.putR d_init_149 fa_c72 rfl (by decide) in_PredictCacheImage (Or.inr ⟨rfl, rfl⟩) ?_
  refine Wp.p (pc' := 153) d_init_152 rfl rfl ?_
  refine Wp.bipush (64 : Int32) d_init_153 (by decide) ?_
  refine Wp.new_int (a := 6) (z := 64) (L' := [(0, "PredictCacheImage", 53), (1, "", 256), (1, "", 256), (1, "", 256), (1, "", 256), (1, "", 256), (1, "", 64)]) d_init_155 ar_int (by decide) (by decide) rfl rfl ?_
  refine Wp.putR d_init_157 fa_c75 rfl (by decide) in_PredictCacheImage (Or.inr ⟨rfl, rfl⟩) ?_
  refine Wp.p (pc' := 161) d_init_160 rfl rfl ?_
  refine Wp.sipush (256 : Int32) d_init_161 (by decide) ?_
  refine Wp.new_int (a := 7) (z := 256) (L' := [(0, "PredictCacheImage", 53), (1, "", 256), (1, "", 256), (1, "", 256), (1, "", 256), (1, "", 256), (1, "", 64), (1, "", 256)]) d_init_164 ar_int (by decide) (by decide) rfl rfl ?_
  refine Wp.putR d_init_166 fa_c78 rfl (by decide) in_PredictCacheImage (Or.inr ⟨rfl, rfl⟩) ?_
  refine Wp.p (pc' := 170) d_init_169 rfl rfl ?_
  refine Wp.sipush (256 : Int32) d_init_170 (by decide) ?_
  refine Wp.new_int (a := 8) (z := 256) (L' := [(0, "PredictCacheImage", 53), (1, "", 256), (1, "", 256), (1, "", 256), (1, "", 256), (1, "", 256), (1, "", 64), (1, "", 256), (1, "", 256)]) d_init_173 ar_int (by decide) (by decide) rfl rfl ?_
  refine Wp.putR d_init_175 fa_c81 rfl (by decide) in_PredictCacheImage (Or.inr ⟨rfl, rfl⟩) ?_
  refine Wp.p (pc' := 179) d_init_178 rfl rfl ?_
  refine Wp.sipush (256 : Int32) d_init_179 (by decide) ?_
  refine Wp.new_int (a := 9) (z := 256) (L' := [(0, "PredictCacheImage", 53), (1, "", 256), (1, "", 256), (1, "", 256), (1, "", 256), (1, "", 256), (1, "", 64), (1, "", 256), (1, "", 256), (1, "", 256)]) d_init_182 ar_int (by decide) (by decide) rfl rfl ?_
  refine Wp.putR d_init_184 fa_c84 rfl (by decide) in_PredictCacheImage (Or.inr ⟨rfl, rfl⟩) ?_
  refine Wp.p (pc' := 188) d_init_187 rfl rfl ?_
  refine Wp.sipush (1060 : Int32) d_init_188 (by decide) ?_
  refine Wp.new_int (a := 10) (z := 1060) (L' := [(0, "PredictCacheImage", 53), (1, "", 256), (1, "", 256), (1, "", 256), (1, "", 256), (1, "", 256), (1, "", 64), (1, "", 256), (1, "", 256), (1, "", 256), (1, "", 1060)]) d_init_191 ar_int (by decide) (by decide) rfl rfl ?_
  refine Wp.putR d_init_193 fa_c87 rfl (by decide) in_PredictCacheImage (Or.inr ⟨rfl, rfl⟩) ?_
  refine Wp.p (pc' := 197) d_init_196 rfl rfl ?_
  refine Wp.sipush (1060 : Int32) d_init_197 (by decide) ?_
  refine Wp.new_int (a := 11) (z := 1060) (L' := [(0, "PredictCacheImage", 53), (1, "", 256), (1, "", 256), (1, "", 256), (1, "", 256), (1, "", 256), (1, "", 64), (1, "", 256), (1, "", 256), (1, "", 256), (1, "", 1060), (1, "", 1060)]) d_init_200 ar_int (by decide) (by decide) rfl rfl ?_
  refine Wp.putR d_init_202 fa_c90 rfl (by decide) in_PredictCacheImage (Or.inr ⟨rfl, rfl⟩) ?_
  refine Wp.p (pc' := 206) d_init_205 rfl rfl ?_
  refine Wp.sipush (1060 : Int32) d_init_206 (by decide) ?_
  refine Wp.new_int (a := 12) (z := 1060) (L' := [(0, "PredictCacheImage", 53), (1, "", 256), (1, "", 256), (1, "", 256), (1, "", 256), (1, "", 256), (1, "", 64), (1, "", 256), (1, "", 256), (1, "", 256), (1, "", 1060), (1, "", 1060), (1, "", 1060)]) d_init_209 ar_int (by decide) (by decide) rfl rfl ?_
  refine Wp.putR d_init_211 fa_c93 rfl (by decide) in_PredictCacheImage (Or.inr ⟨rfl, rfl⟩) ?_
  refine Wp.p (pc' := 215) d_init_214 rfl rfl ?_
  refine Wp.sipush (1060 : Int32) d_init_215 (by decide) ?_
  refine Wp.new_int (a := 13) (z := 1060) (L' := [(0, "PredictCacheImage", 53), (1, "", 256), (1, "", 256), (1, "", 256), (1, "", 256), (1, "", 256), (1, "", 64), (1, "", 256), (1, "", 256), (1, "", 256), (1, "", 1060), (1, "", 1060), (1, "", 1060), (1, "", 1060)]) d_init_218 ar_int (by decide) (by decide) rfl rfl ?_
  refine Wp.putR d_init_220 fa_c96 rfl (by decide) in_PredictCacheImage (Or.inr ⟨rfl, rfl⟩) ?_
  refine Wp.p (pc' := 224) d_init_223 rfl rfl ?_
  refine Wp.bipush (64 : Int32) d_init_224 (by decide) ?_
  refine Wp.new_int (a := 14) (z := 64) (L' := [(0, "PredictCacheImage", 53), (1, "", 256), (1, "", 256), (1, "", 256), (1, "", 256), (1, "", 256), (1, "", 64), (1, "", 256), (1, "", 256), (1, "", 256), (1, "", 1060), (1, "", 1060), (1, "", 1060), (1, "", 1060), (1, "", 64)]) d_init_226 ar_int (by decide) (by decide) rfl rfl ?_
  refine Wp.putR d_init_228 fa_c99 rfl (by decide) in_PredictCacheImage (Or.inr ⟨rfl, rfl⟩) ?_
  refine Wp.p (pc' := 232) d_init_231 rfl rfl ?_
  refine Wp.bipush (16 : Int32) d_init_232 (by decide) ?_
  refine Wp.new_int (a := 15) (z := 16) (L' := [(0, "PredictCacheImage", 53), (1, "", 256), (1, "", 256), (1, "", 256), (1, "", 256), (1, "", 256), (1, "", 64), (1, "", 256), (1, "", 256), (1, "", 256), (1, "", 1060), (1, "", 1060), (1, "", 1060), (1, "", 1060), (1, "", 64), (1, "", 16)]) d_init_234 ar_int (by decide) (by decide) rfl rfl ?_
  refine Wp.putR d_init_236 fa_c102 rfl (by decide) in_PredictCacheImage (Or.inr ⟨rfl, rfl⟩) ?_
  refine Wp.p (pc' := 240) d_init_239 rfl rfl ?_
  refine Wp.sipush (1060 : Int32) d_init_240 (by decide) ?_
  refine Wp.new_int (a := 16) (z := 1060) (L' := [(0, "PredictCacheImage", 53), (1, "", 256), (1, "", 256), (1, "", 256), (1, "", 256), (1, "", 256), (1, "", 64), (1, "", 256), (1, "", 256), (1, "", 256), (1, "", 1060), (1, "", 1060), (1, "", 1060), (1, "", 1060), (1, "", 64), (1, "", 16), (1, "", 1060)]) d_init_243 ar_int (by decide) (by decide) rfl rfl ?_
  refine Wp.putR d_init_245 fa_c105 rfl (by decide) in_PredictCacheImage (Or.inr ⟨rfl, rfl⟩) ?_
  refine Wp.p (pc' := 249) d_init_248 rfl rfl ?_
  refine Wp.sipush (1060 : Int32) d_init_249 (by decide) ?_
  refine Wp.new_int (a := 17) (z := 1060) (L' := [(0, "PredictCacheImage", 53), (1, "", 256), (1, "", 256), (1, "", 256), (1, "", 256), (1, "", 256), (1, "", 64), (1, "", 256), (1, "", 256), (1, "", 256), (1, "", 1060), (1, "", 1060), (1, "", 1060), (1, "", 1060), (1, "", 64), (1, "", 16), (1, "", 1060), (1, "", 1060)]) d_init_252 ar_int (by decide) (by decide) rfl rfl ?_
  refine Wp.putR d_init_254 fa_c108 rfl (by decide) in_PredictCacheImage (Or.inr ⟨rfl, rfl⟩) ?_
  refine Wp.p (pc' := 258) d_init_257 rfl rfl ?_
  refine Wp.sipush (1060 : Int32) d_init_258 (by decide) ?_
  refine Wp.new_int (a := 18) (z := 1060) (L' := [(0, "PredictCacheImage", 53), (1, "", 256), (1, "", 256), (1, "", 256), (1, "", 256), (1, "", 256), (1, "", 64), (1, "", 256), (1, "", 256), (1, "", 256), (1, "", 1060), (1, "", 1060), (1, "", 1060), (1, "", 1060), (1, "", 64), (1, "", 16), (1, "", 1060), (1, "", 1060), (1, "", 1060)]) d_init_261 ar_int (by decide) (by decide) rfl rfl ?_
  refine Wp.putR d_init_263 fa_c111 rfl (by decide) in_PredictCacheImage (Or.inr ⟨rfl, rfl⟩) ?_
  refine Wp.p (pc' := 267) d_init_266 rfl rfl ?_
  refine Wp.sipush (1060 : Int32) d_init_267 (by decide) ?_
  refine Wp.new_boolean (a := 19) (z := 1060) (L' := [(0, "PredictCacheImage", 53), (1, "", 256), (1, "", 256), (1, "", 256), (1, "", 256), (1, "", 256), (1, "", 64), (1, "", 256), (1, "", 256), (1, "", 256), (1, "", 1060), (1, "", 1060), (1, "", 1060), (1, "", 1060), (1, "", 64), (1, "", 16), (1, "", 1060), (1, "", 1060), (1, "", 1060), (3, "", 1060)]) d_init_270 ar_boolean (by decide) (by decide) rfl rfl ?_
  refine Wp.putR d_init_272 fa_c114 rfl (by decide) in_PredictCacheImage (Or.inr ⟨rfl, rfl⟩) ?_
  refine Wp.p (pc' := 276) d_init_275 rfl rfl ?_
  refine Wp.sipush (530 : Int32) d_init_276 (by decide) ?_
  refine Wp.new_int (a := 20) (z := 530) (L' := [(0, "PredictCacheImage", 53), (1, "", 256), (1, "", 256), (1, "", 256), (1, "", 256), (1, "", 256), (1, "", 64), (1, "", 256), (1, "", 256), (1, "", 256), (1, "", 1060), (1, "", 1060), (1, "", 1060), (1, "", 1060), (1, "", 64), (1, "", 16), (1, "", 1060), (1, "", 1060), (1, "", 1060), (3, "", 1060), (1, "", 530)]) d_init_279 ar_int (by decide) (by decide) rfl rfl ?_
  refine Wp.putR d_init_281 fa_c118 rfl (by decide) in_PredictCacheImage (Or.inr ⟨rfl, rfl⟩) ?_
  refine Wp.p (pc' := 285) d_init_284 rfl rfl ?_
  refine Wp.sipush (1024 : Int32) d_init_285 (by decide) ?_
  refine Wp.new_int (a := 21) (z := 1024) (L' := [(0, "PredictCacheImage", 53), (1, "", 256), (1, "", 256), (1, "", 256), (1, "", 256), (1, "", 256), (1, "", 64), (1, "", 256), (1, "", 256), (1, "", 256), (1, "", 1060), (1, "", 1060), (1, "", 1060), (1, "", 1060), (1, "", 64), (1, "", 16), (1, "", 1060), (1, "", 1060), (1, "", 1060), (3, "", 1060), (1, "", 530), (1, "", 1024)]) d_init_288 ar_int (by decide) (by decide) rfl rfl ?_
  refine Wp.putR d_init_290 fa_c121 rfl (by decide) in_PredictCacheImage (Or.inr ⟨rfl, rfl⟩) ?_
  refine Wp.p (pc' := 294) d_init_293 rfl rfl ?_
  refine Wp.p (pc' := 295) d_init_294 rfl rfl ?_
  refine Wp.p (pc' := 296) d_init_295 rfl rfl ?_
  refine Wp.callV (a := 0) (as := [.int x1, .int x2]) (rest := []) (w := 0) (F' := 1) (Lb' := 16) d_init_296 ca_c124_0n ca_c124_0 rfl rfl rfl rfl (by decide) (by decide) (Nat.le_of_ble_eq_true rfl) ?_
  exact h1
set_option maxRecDepth 65536 in
set_option maxHeartbeats 4000000 in
theorem L_init_299 {x1 x2 : Int32} {mi : Nat → Nat → Int32} {ml : Nat → Nat → Int64} {Q : Option Value → EMem → Prop}
    (h1 : Q none (LL1, mi, ml, RR1)) :
    W_init 299 [.val (.ref 0), .val (.int x1), .val (.int x2)] [] (LL1, mi, ml, RR1) Q := by
  refine Wp.retV d_init_299 ?_
  exact h1
set_option maxRecDepth 65536 in
set_option maxHeartbeats 4000000 in
theorem L_getInput_0 {x1 x2 : Int32} {mi : Nat → Nat → Int32} {ml : Nat → Nat → Int64} {Q : Option Value → EMem → Prop}
    (b1 : ¬ x1 < (0 : Int32) → x1 < (mi 0 96) → ¬ x2 < (0 : Int32) → x2 < (mi 0 98) → inb ((x2 * (mi 0 96)) + x1) 256 = true)
    (h1 : ∀ v1 : Int32, v1 = (if x1 < (0 : Int32) then (-1 : Int32) else (if x1 < (mi 0 96) then (if x2 < (0 : Int32) then (-1 : Int32) else (if x2 < (mi 0 98) then (mi 1 (Int32.toNatClampNeg ((x2 * (mi 0 96)) + x1))) else (-1 : Int32))) else (-1 : Int32))) → Q (some (.int v1)) (LL1, mi, ml, RR1)) :
    W_getInput 0 [.val (.ref 0), .val (.int x1), .val (.int x2)] [] (LL1, mi, ml, RR1) Q := by
  refine Wp.p (pc' := 1) d_getInput_0 rfl rfl ?_
  obtain ⟨v1, e1⟩ : ∃ z : Int32, z = (if x1 < (0 : Int32) then (-1 : Int32) else (if x1 < (mi 0 96) then (if x2 < (0 : Int32) then (-1 : Int32) else (if x2 < (mi 0 98) then (mi 1 (Int32.toNatClampNeg ((x2 * (mi 0 96)) + x1))) else (-1 : Int32))) else (-1 : Int32))) := ⟨_, rfl⟩
  suffices K : Q (some (.int v1)) (LL1, mi, ml, RR1) by
    refine Wp.if_lt d_getInput_1 rfl (fun q0 => ?_) (fun q0 => ?_)
    ·
      refine Wp.iconst (-1 : Int32) d_getInput_24 (by decide) ?_
      refine Wp.retI d_getInput_25 ?_
      rw [if_pos q0] at e1; subst e1
      exact K
    ·
      refine Wp.p (pc' := 5) d_getInput_4 rfl rfl ?_
      refine Wp.p (pc' := 6) d_getInput_5 rfl rfl ?_
      refine Wp.getI (mi 0 96) d_getInput_6 fa_c132 rfl rfl ?_
      refine Wp.icmp_ge d_getInput_9 rfl (fun q1 => ?_) (fun q1 => ?_)
      ·
        refine Wp.iconst (-1 : Int32) d_getInput_24 (by decide) ?_
        refine Wp.retI d_getInput_25 ?_
        rw [if_neg q0, if_neg q1] at e1; subst e1
        exact K
      ·
        refine Wp.p (pc' := 13) d_getInput_12 rfl rfl ?_
        refine Wp.if_lt d_getInput_13 rfl (fun q2 => ?_) (fun q2 => ?_)
        ·
          refine Wp.iconst (-1 : Int32) d_getInput_24 (by decide) ?_
          refine Wp.retI d_getInput_25 ?_
          rw [if_neg q0, if_pos q1, if_pos q2] at e1; subst e1
          exact K
        ·
          refine Wp.p (pc' := 17) d_getInput_16 rfl rfl ?_
          refine Wp.p (pc' := 18) d_getInput_17 rfl rfl ?_
          refine Wp.getI (mi 0 98) d_getInput_18 fa_c135 rfl rfl ?_
          refine Wp.icmp_lt d_getInput_21 rfl (fun q3 => ?_) (fun q3 => ?_)
          ·
            refine Wp.p (pc' := 27) d_getInput_26 rfl rfl ?_
            refine Wp.getR (b := 1) d_getInput_27 fa_c59 rfl rfl ?_
            refine Wp.p (pc' := 31) d_getInput_30 rfl rfl ?_
            refine Wp.p (pc' := 32) d_getInput_31 rfl rfl ?_
            refine Wp.getI (mi 0 96) d_getInput_32 fa_c132 rfl rfl ?_
            refine Wp.p (pc' := 36) d_getInput_35 rfl rfl ?_
            refine Wp.p (pc' := 37) d_getInput_36 rfl rfl ?_
            refine Wp.p (pc' := 38) d_getInput_37 rfl rfl ?_
            refine Wp.iaload (mi 1 (Int32.toNatClampNeg ((x2 * (mi 0 96)) + x1))) d_getInput_38 rfl (k := (Int32.toNatClampNeg ((x2 * (mi 0 96)) + x1))) rfl (b1 q0 q1 q2 q3) rfl ?_
            refine Wp.retI d_getInput_39 ?_
            rw [if_neg q0, if_pos q1, if_neg q2, if_pos q3] at e1; subst e1
            exact K
          ·
            refine Wp.iconst (-1 : Int32) d_getInput_24 (by decide) ?_
            refine Wp.retI d_getInput_25 ?_
            rw [if_neg q0, if_pos q1, if_neg q2, if_neg q3] at e1; subst e1
            exact K
  exact (h1 v1 e1)
set_option maxRecDepth 65536 in
set_option maxHeartbeats 4000000 in
theorem L_getOutput_0 {x1 x2 : Int32} {mi : Nat → Nat → Int32} {ml : Nat → Nat → Int64} {Q : Option Value → EMem → Prop}
    (b1 : ¬ (mi 0 102) = (0 : Int32) → ¬ x1 < (0 : Int32) → x1 < (mi 0 96) → ¬ x2 < (0 : Int32) → x2 < (mi 0 98) → inb ((x2 * (mi 0 96)) + x1) 256 = true)
    (h1 : ∀ v1 : Int32, v1 = (if (mi 0 102) = (0 : Int32) then (-1 : Int32) else (if x1 < (0 : Int32) then (-1 : Int32) else (if x1 < (mi 0 96) then (if x2 < (0 : Int32) then (-1 : Int32) else (if x2 < (mi 0 98) then (mi 2 (Int32.toNatClampNeg ((x2 * (mi 0 96)) + x1))) else (-1 : Int32))) else (-1 : Int32)))) → Q (some (.int v1)) (LL1, mi, ml, RR1)) :
    W_getOutput 0 [.val (.ref 0), .val (.int x1), .val (.int x2)] [] (LL1, mi, ml, RR1) Q := by
  refine Wp.p (pc' := 1) d_getOutput_0 rfl rfl ?_
  refine Wp.getZ (mi 0 102) d_getOutput_1 fa_c142 rfl rfl ?_
  obtain ⟨v1, e1⟩ : ∃ z : Int32, z = (if (mi 0 102) = (0 : Int32) then (-1 : Int32) else (if x1 < (0 : Int32) then (-1 : Int32) else (if x1 < (mi 0 96) then (if x2 < (0 : Int32) then (-1 : Int32) else (if x2 < (mi 0 98) then (mi 2 (Int32.toNatClampNeg ((x2 * (mi 0 96)) + x1))) else (-1 : Int32))) else (-1 : Int32)))) := ⟨_, rfl⟩
  suffices K : Q (some (.int v1)) (LL1, mi, ml, RR1) by
    refine Wp.if_ne d_getOutput_4 rfl (fun q0 => ?_) (fun q0 => ?_)
    ·
      refine Wp.p (pc' := 10) d_getOutput_9 rfl rfl ?_
      refine Wp.if_lt d_getOutput_10 rfl (fun q1 => ?_) (fun q1 => ?_)
      ·
        refine Wp.iconst (-1 : Int32) d_getOutput_33 (by decide) ?_
        refine Wp.retI d_getOutput_34 ?_
        rw [if_neg q0, if_pos q1] at e1; subst e1
        exact K
      ·
        refine Wp.p (pc' := 14) d_getOutput_13 rfl rfl ?_
        refine Wp.p (pc' := 15) d_getOutput_14 rfl rfl ?_
        refine Wp.getI (mi 0 96) d_getOutput_15 fa_c132 rfl rfl ?_
        refine Wp.icmp_ge d_getOutput_18 rfl (fun q2 => ?_) (fun q2 => ?_)
        ·
          refine Wp.iconst (-1 : Int32) d_getOutput_33 (by decide) ?_
          refine Wp.retI d_getOutput_34 ?_
          rw [if_neg q0, if_neg q1, if_neg q2] at e1; subst e1
          exact K
        ·
          refine Wp.p (pc' := 22) d_getOutput_21 rfl rfl ?_
          refine Wp.if_lt d_getOutput_22 rfl (fun q3 => ?_) (fun q3 => ?_)
          ·
            refine Wp.iconst (-1 : Int32) d_getOutput_33 (by decide) ?_
            refine Wp.retI d_getOutput_34 ?_
            rw [if_neg q0, if_neg q1, if_pos q2, if_pos q3] at e1; subst e1
            exact K
          ·
            refine Wp.p (pc' := 26) d_getOutput_25 rfl rfl ?_
            refine Wp.p (pc' := 27) d_getOutput_26 rfl rfl ?_
            refine Wp.getI (mi 0 98) d_getOutput_27 fa_c135 rfl rfl ?_
            refine Wp.icmp_lt d_getOutput_30 rfl (fun q4 => ?_) (fun q4 => ?_)
            ·
              refine Wp.p (pc' := 36) d_getOutput_35 rfl rfl ?_
              refine Wp.getR (b := 2) d_getOutput_36 fa_c63 rfl rfl ?_
              refine Wp.p (pc' := 40) d_getOutput_39 rfl rfl ?_
              refine Wp.p (pc' := 41) d_getOutput_40 rfl rfl ?_
              refine Wp.getI (mi 0 96) d_getOutput_41 fa_c132 rfl rfl ?_
              refine Wp.p (pc' := 45) d_getOutput_44 rfl rfl ?_
              refine Wp.p (pc' := 46) d_getOutput_45 rfl rfl ?_
              refine Wp.p (pc' := 47) d_getOutput_46 rfl rfl ?_
              refine Wp.iaload (mi 2 (Int32.toNatClampNeg ((x2 * (mi 0 96)) + x1))) d_getOutput_47 rfl (k := (Int32.toNatClampNeg ((x2 * (mi 0 96)) + x1))) rfl (b1 q0 q1 q2 q3 q4) rfl ?_
              refine Wp.retI d_getOutput_48 ?_
              rw [if_neg q0, if_neg q1, if_pos q2, if_neg q3, if_pos q4] at e1; subst e1
              exact K
            ·
              refine Wp.iconst (-1 : Int32) d_getOutput_33 (by decide) ?_
              refine Wp.retI d_getOutput_34 ?_
              rw [if_neg q0, if_neg q1, if_pos q2, if_neg q3, if_neg q4] at e1; subst e1
              exact K
    ·
      refine Wp.iconst (-1 : Int32) d_getOutput_7 (by decide) ?_
      refine Wp.retI d_getOutput_8 ?_
      rw [if_pos q0] at e1; subst e1
      exact K
  exact (h1 v1 e1)
set_option maxRecDepth 65536 in
set_option maxHeartbeats 4000000 in
theorem L_decode_0 {mi : Nat → Nat → Int32} {ml : Nat → Nat → Int64} {Q : Option Value → EMem → Prop}
    (u1 : ¬ (mi 0 100) = (0 : Int32) → False)
    (h1 : (mi 0 100) = (0 : Int32) → Q (some (.int (0 : Int32))) (LL1, mi, ml, RR1)) :
    W_decode 0 [.val (.ref 0), .unset, .unset, .unset, .unset] [] (LL1, mi, ml, RR1) Q := by
  refine Wp.p (pc' := 1) d_decode_0 rfl rfl ?_
  refine Wp.getZ (mi 0 100) d_decode_1 fa_c138 rfl rfl ?_
  refine Wp.if_ne d_decode_4 rfl (fun c1 => ?_) (fun c1 => ?_)
  ·
    refine Wp.p (pc' := 10) d_decode_9 rfl rfl ?_
    refine Wp.iconst (0 : Int32) d_decode_10 (by decide) ?_
    refine Wp.putI d_decode_11 fa_c185 rfl (by decide) in_PredictCacheImage (Or.inl rfl) ?_
    refine Wp.p (pc' := 15) d_decode_14 rfl rfl ?_
    refine Wp.iconst (4 : Int32) d_decode_15 (by decide) ?_
    exact (u1 c1).elim
  ·
    refine Wp.iconst (0 : Int32) d_decode_7 (by decide) ?_
    refine Wp.retZ (0 : Int32) d_decode_8 (by decide) ?_
    exact (h1 c1)
set_option maxRecDepth 65536 in
set_option maxHeartbeats 4000000 in
theorem L_law_0 {x0 x1 x2 x3 : Int32} {mi : Nat → Nat → Int32} {ml : Nat → Nat → Int64} {Q : Option Value → EMem → Prop}
    (h1 : ∀ v1 : Int32, v1 = (if x0 < (1 : Int32) then (1 : Int32) else (if (16 : Int32) < x0 then (16 : Int32) else x0)) → ∀ v2 : Int32, v2 = (if x1 < (1 : Int32) then (1 : Int32) else (if (16 : Int32) < x1 then (16 : Int32) else x1)) → ∀ v3 : Int32, v3 = (if x2 < (0 : Int32) then (0 : Int32) else (if x2 < v1 then (if x3 < (0 : Int32) then (0 : Int32) else (if x3 < v2 then (1 : Int32) else (0 : Int32))) else (0 : Int32))) → ∀ v4 : Int32, v4 = (if v3 = (0 : Int32) then (-1 : Int32) else (0 : Int32)) → W_init 0 [.val (.ref 0), .val (.int x0), .val (.int x1)] [] ([(0, "PredictCacheImage", 53)], mi, ml, (fun _ _ => Value.null)) (fun v M' => W_law 94 [.val (.int x0), .val (.int x1), .val (.int x2), .val (.int x3), .val (.int v1), .val (.int v2), .val (.int v3), .val (.int v4), .unset] (v.toList ++ [.ref 0]) M' Q)) :
    W_law 0 [.val (.int x0), .val (.int x1), .val (.int x2), .val (.int x3), .unset, .unset, .unset, .unset, .unset] [] ([], mi, ml, (fun _ _ => Value.null)) Q := by
  refine Wp.p (pc' := 1) d_law_0 rfl rfl ?_
  refine Wp.iconst (1 : Int32) d_law_1 (by decide) ?_
  obtain ⟨v1, e1⟩ : ∃ z : Int32, z = (if x0 < (1 : Int32) then (1 : Int32) else (if (16 : Int32) < x0 then (16 : Int32) else x0)) := ⟨_, rfl⟩
  suffices K : W_law 21 [.val (.int x0), .val (.int x1), .val (.int x2), .val (.int x3), .unset, .unset, .unset, .unset, .unset] [.int v1] ([], mi, ml, (fun _ _ => Value.null)) Q by
    refine Wp.icmp_ge d_law_2 rfl (fun q0 => ?_) (fun q0 => ?_)
    ·
      refine Wp.p (pc' := 10) d_law_9 rfl rfl ?_
      refine Wp.bipush (16 : Int32) d_law_10 (by decide) ?_
      refine Wp.icmp_le d_law_12 rfl (fun q1 => ?_) (fun q1 => ?_)
      ·
        refine Wp.p (pc' := 21) d_law_20 rfl rfl ?_
        rw [if_neg q0, if_neg q1] at e1; subst e1
        exact K
      ·
        refine Wp.bipush (16 : Int32) d_law_15 (by decide) ?_
        refine Wp.p (pc' := 21) d_law_17 rfl rfl ?_
        rw [if_neg q0, if_pos q1] at e1; subst e1
        exact K
    ·
      refine Wp.iconst (1 : Int32) d_law_5 (by decide) ?_
      refine Wp.p (pc' := 21) d_law_6 rfl rfl ?_
      rw [if_pos q0] at e1; subst e1
      exact K
  refine Wp.p (pc' := 23) d_law_21 rfl rfl ?_
  refine Wp.p (pc' := 24) d_law_23 rfl rfl ?_
  refine Wp.iconst (1 : Int32) d_law_24 (by decide) ?_
  obtain ⟨v2, e2⟩ : ∃ z : Int32, z = (if x1 < (1 : Int32) then (1 : Int32) else (if (16 : Int32) < x1 then (16 : Int32) else x1)) := ⟨_, rfl⟩
  suffices K : W_law 44 [.val (.int x0), .val (.int x1), .val (.int x2), .val (.int x3), .val (.int v1), .unset, .unset, .unset, .unset] [.int v2] ([], mi, ml, (fun _ _ => Value.null)) Q by
    refine Wp.icmp_ge d_law_25 rfl (fun q0 => ?_) (fun q0 => ?_)
    ·
      refine Wp.p (pc' := 33) d_law_32 rfl rfl ?_
      refine Wp.bipush (16 : Int32) d_law_33 (by decide) ?_
      refine Wp.icmp_le d_law_35 rfl (fun q1 => ?_) (fun q1 => ?_)
      ·
        refine Wp.p (pc' := 44) d_law_43 rfl rfl ?_
        rw [if_neg q0, if_neg q1] at e2; subst e2
        exact K
      ·
        refine Wp.bipush (16 : Int32) d_law_38 (by decide) ?_
        refine Wp.p (pc' := 44) d_law_40 rfl rfl ?_
        rw [if_neg q0, if_pos q1] at e2; subst e2
        exact K
    ·
      refine Wp.iconst (1 : Int32) d_law_28 (by decide) ?_
      refine Wp.p (pc' := 44) d_law_29 rfl rfl ?_
      rw [if_pos q0] at e2; subst e2
      exact K
  refine Wp.p (pc' := 46) d_law_44 rfl rfl ?_
  refine Wp.p (pc' := 47) d_law_46 rfl rfl ?_
  obtain ⟨v3, e3⟩ : ∃ z : Int32, z = (if x2 < (0 : Int32) then (0 : Int32) else (if x2 < v1 then (if x3 < (0 : Int32) then (0 : Int32) else (if x3 < v2 then (1 : Int32) else (0 : Int32))) else (0 : Int32))) := ⟨_, rfl⟩
  suffices K : W_law 71 [.val (.int x0), .val (.int x1), .val (.int x2), .val (.int x3), .val (.int v1), .val (.int v2), .unset, .unset, .unset] [.int v3] ([], mi, ml, (fun _ _ => Value.null)) Q by
    refine Wp.if_lt d_law_47 rfl (fun q0 => ?_) (fun q0 => ?_)
    ·
      refine Wp.iconst (0 : Int32) d_law_70 (by decide) ?_
      rw [if_pos q0] at e3; subst e3
      exact K
    ·
      refine Wp.p (pc' := 51) d_law_50 rfl rfl ?_
      refine Wp.p (pc' := 53) d_law_51 rfl rfl ?_
      refine Wp.icmp_ge d_law_53 rfl (fun q1 => ?_) (fun q1 => ?_)
      ·
        refine Wp.iconst (0 : Int32) d_law_70 (by decide) ?_
        rw [if_neg q0, if_neg q1] at e3; subst e3
        exact K
      ·
        refine Wp.p (pc' := 57) d_law_56 rfl rfl ?_
        refine Wp.if_lt d_law_57 rfl (fun q2 => ?_) (fun q2 => ?_)
        ·
          refine Wp.iconst (0 : Int32) d_law_70 (by decide) ?_
          rw [if_neg q0, if_pos q1, if_pos q2] at e3; subst e3
          exact K
        ·
          refine Wp.p (pc' := 61) d_law_60 rfl rfl ?_
          refine Wp.p (pc' := 63) d_law_61 rfl rfl ?_
          refine Wp.icmp_ge d_law_63 rfl (fun q3 => ?_) (fun q3 => ?_)
          ·
            refine Wp.iconst (0 : Int32) d_law_70 (by decide) ?_
            rw [if_neg q0, if_pos q1, if_neg q2, if_neg q3] at e3; subst e3
            exact K
          ·
            refine Wp.iconst (1 : Int32) d_law_66 (by decide) ?_
            refine Wp.p (pc' := 71) d_law_67 rfl rfl ?_
            rw [if_neg q0, if_pos q1, if_neg q2, if_pos q3] at e3; subst e3
            exact K
  refine Wp.p (pc' := 73) d_law_71 rfl rfl ?_
  refine Wp.p (pc' := 75) d_law_73 rfl rfl ?_
  obtain ⟨v4, e4⟩ : ∃ z : Int32, z = (if v3 = (0 : Int32) then (-1 : Int32) else (0 : Int32)) := ⟨_, rfl⟩
  suffices K : W_law 83 [.val (.int x0), .val (.int x1), .val (.int x2), .val (.int x3), .val (.int v1), .val (.int v2), .val (.int v3), .unset, .unset] [.int v4] ([], mi, ml, (fun _ _ => Value.null)) Q by
    refine Wp.if_eq d_law_75 rfl (fun q0 => ?_) (fun q0 => ?_)
    ·
      refine Wp.iconst (-1 : Int32) d_law_82 (by decide) ?_
      rw [if_pos q0] at e4; subst e4
      exact K
    ·
      refine Wp.iconst (0 : Int32) d_law_78 (by decide) ?_
      refine Wp.p (pc' := 83) d_law_79 rfl rfl ?_
      rw [if_neg q0] at e4; subst e4
      exact K
  refine Wp.p (pc' := 85) d_law_83 rfl rfl ?_
  refine Wp.new (a := 0) (L' := [(0, "PredictCacheImage", 53)]) d_law_85 na_w7 rfl rfl ?_
  refine Wp.p (pc' := 89) d_law_88 rfl rfl ?_
  refine Wp.p (pc' := 90) d_law_89 rfl rfl ?_
  refine Wp.p (pc' := 91) d_law_90 rfl rfl ?_
  refine Wp.callI (a := 0) (as := [.int x0, .int x1]) (rest := [.ref 0]) (w := 1) (F' := 2) (Lb' := 31) d_law_91 on_w9 ca_w9_2 rfl rfl rfl (by decide) (by decide) (Nat.le_of_ble_eq_true rfl) ?_
  exact (h1 v1 e1 v2 e2 v3 e3 v4 e4)
set_option maxRecDepth 65536 in
set_option maxHeartbeats 4000000 in
theorem L_law_94 {x0 x1 x2 x3 x4 x5 x6 x7 : Int32} {mi : Nat → Nat → Int32} {ml : Nat → Nat → Int64} {Q : Option Value → EMem → Prop}
    (h1 : (mi 0 96) = x4 → (mi 0 98) = x5 → W_getInput 0 [.val (.ref 0), .val (.int x2), .val (.int x3)] [] (LL1, mi, ml, RR1) (fun v M' => W_law 127 [.val (.int x0), .val (.int x1), .val (.int x2), .val (.int x3), .val (.int x4), .val (.int x5), .val (.int x6), .val (.int x7), .val (.ref 0)] (v.toList ++ []) M' Q))
    (h2 : (mi 0 96) = x4 → ¬ (mi 0 98) = x5 → Q (some (.int (0 : Int32))) (LL1, mi, ml, RR1))
    (h3 : ¬ (mi 0 96) = x4 → Q (some (.int (0 : Int32))) (LL1, mi, ml, RR1)) :
    W_law 94 [.val (.int x0), .val (.int x1), .val (.int x2), .val (.int x3), .val (.int x4), .val (.int x5), .val (.int x6), .val (.int x7), .unset] [.ref 0] (LL1, mi, ml, RR1) Q := by
  refine Wp.p (pc' := 96) d_law_94 rfl rfl ?_
  refine Wp.p (pc' := 98) d_law_96 rfl rfl ?_
  refine Wp.callV (a := 0) (as := []) (rest := []) (w := 0) (F' := 0) (Lb' := 0) d_law_98 ca_w12_0n ca_w12_0 rfl rfl rfl rfl (by decide) (by decide) (Nat.le_of_ble_eq_true rfl) ?_
  refine L_getWidth_0 ?_
  show W_law 101 [.val (.int x0), .val (.int x1), .val (.int x2), .val (.int x3), .val (.int x4), .val (.int x5), .val (.int x6), .val (.int x7), .val (.ref 0)] [.int (mi 0 96)] (LL1, mi, ml, RR1) Q
  refine Wp.p (pc' := 103) d_law_101 rfl rfl ?_
  refine Wp.icmp_eq d_law_103 rfl (fun c1 => ?_) (fun c1 => ?_)
  ·
    refine Wp.p (pc' := 110) d_law_108 rfl rfl ?_
    refine Wp.callV (a := 0) (as := []) (rest := []) (w := 0) (F' := 0) (Lb' := 0) d_law_110 ca_w16_0n ca_w16_0 rfl rfl rfl rfl (by decide) (by decide) (Nat.le_of_ble_eq_true rfl) ?_
    refine L_getHeight_0 ?_
    show W_law 113 [.val (.int x0), .val (.int x1), .val (.int x2), .val (.int x3), .val (.int x4), .val (.int x5), .val (.int x6), .val (.int x7), .val (.ref 0)] [.int (mi 0 98)] (LL1, mi, ml, RR1) Q
    refine Wp.p (pc' := 115) d_law_113 rfl rfl ?_
    refine Wp.icmp_eq d_law_115 rfl (fun c2 => ?_) (fun c2 => ?_)
    ·
      refine Wp.p (pc' := 122) d_law_120 rfl rfl ?_
      refine Wp.p (pc' := 123) d_law_122 rfl rfl ?_
      refine Wp.p (pc' := 124) d_law_123 rfl rfl ?_
      refine Wp.callV (a := 0) (as := [.int x2, .int x3]) (rest := []) (w := 0) (F' := 0) (Lb' := 0) d_law_124 ca_w19_0n ca_w19_0 rfl rfl rfl rfl (by decide) (by decide) (Nat.le_of_ble_eq_true rfl) ?_
      exact (h1 c1 c2)
    ·
      refine Wp.iconst (0 : Int32) d_law_118 (by decide) ?_
      refine Wp.retZ (0 : Int32) d_law_119 (by decide) ?_
      exact (h2 c1 c2)
  ·
    refine Wp.iconst (0 : Int32) d_law_106 (by decide) ?_
    refine Wp.retZ (0 : Int32) d_law_107 (by decide) ?_
    exact (h3 c1)
set_option maxRecDepth 65536 in
set_option maxHeartbeats 4000000 in
theorem L_law_127 {x0 x1 x2 x3 x4 x5 x6 x7 y0 : Int32} {mi : Nat → Nat → Int32} {ml : Nat → Nat → Int64} {Q : Option Value → EMem → Prop}
    (h1 : y0 = x7 → W_getOutput 0 [.val (.ref 0), .val (.int x2), .val (.int x3)] [] (LL1, mi, ml, RR1) (fun v M' => W_law 141 [.val (.int x0), .val (.int x1), .val (.int x2), .val (.int x3), .val (.int x4), .val (.int x5), .val (.int x6), .val (.int x7), .val (.ref 0)] (v.toList ++ []) M' Q))
    (h2 : ¬ y0 = x7 → Q (some (.int (0 : Int32))) (LL1, mi, ml, RR1)) :
    W_law 127 [.val (.int x0), .val (.int x1), .val (.int x2), .val (.int x3), .val (.int x4), .val (.int x5), .val (.int x6), .val (.int x7), .val (.ref 0)] [.int y0] (LL1, mi, ml, RR1) Q := by
  refine Wp.p (pc' := 129) d_law_127 rfl rfl ?_
  refine Wp.icmp_eq d_law_129 rfl (fun c1 => ?_) (fun c1 => ?_)
  ·
    refine Wp.p (pc' := 136) d_law_134 rfl rfl ?_
    refine Wp.p (pc' := 137) d_law_136 rfl rfl ?_
    refine Wp.p (pc' := 138) d_law_137 rfl rfl ?_
    refine Wp.callV (a := 0) (as := [.int x2, .int x3]) (rest := []) (w := 0) (F' := 0) (Lb' := 0) d_law_138 ca_w23_0n ca_w23_0 rfl rfl rfl rfl (by decide) (by decide) (Nat.le_of_ble_eq_true rfl) ?_
    exact (h1 c1)
  ·
    refine Wp.iconst (0 : Int32) d_law_132 (by decide) ?_
    refine Wp.retZ (0 : Int32) d_law_133 (by decide) ?_
    exact (h2 c1)
set_option maxRecDepth 65536 in
set_option maxHeartbeats 4000000 in
theorem L_law_141 {x0 x1 x2 x3 x4 x5 x6 x7 y0 : Int32} {mi : Nat → Nat → Int32} {ml : Nat → Nat → Int64} {Q : Option Value → EMem → Prop}
    (h1 : y0 = (-1 : Int32) → W_decode 0 [.val (.ref 0), .unset, .unset, .unset, .unset] [] (LL1, mi, ml, RR1) (fun v M' => W_law 152 [.val (.int x0), .val (.int x1), .val (.int x2), .val (.int x3), .val (.int x4), .val (.int x5), .val (.int x6), .val (.int x7), .val (.ref 0)] (v.toList ++ []) M' Q))
    (h2 : ¬ y0 = (-1 : Int32) → Q (some (.int (0 : Int32))) (LL1, mi, ml, RR1)) :
    W_law 141 [.val (.int x0), .val (.int x1), .val (.int x2), .val (.int x3), .val (.int x4), .val (.int x5), .val (.int x6), .val (.int x7), .val (.ref 0)] [.int y0] (LL1, mi, ml, RR1) Q := by
  refine Wp.iconst (-1 : Int32) d_law_141 (by decide) ?_
  refine Wp.icmp_eq d_law_142 rfl (fun c1 => ?_) (fun c1 => ?_)
  ·
    refine Wp.p (pc' := 149) d_law_147 rfl rfl ?_
    refine Wp.callV (a := 0) (as := []) (rest := []) (w := 0) (F' := 0) (Lb' := 0) d_law_149 ca_w26_0n ca_w26_0 rfl rfl rfl rfl (by decide) (by decide) (Nat.le_of_ble_eq_true rfl) ?_
    exact (h1 c1)
  ·
    refine Wp.iconst (0 : Int32) d_law_145 (by decide) ?_
    refine Wp.retZ (0 : Int32) d_law_146 (by decide) ?_
    exact (h2 c1)
set_option maxRecDepth 65536 in
set_option maxHeartbeats 4000000 in
theorem L_law_152 {x0 x1 x2 x3 x4 x5 x6 x7 y0 : Int32} {mi : Nat → Nat → Int32} {ml : Nat → Nat → Int64} {Q : Option Value → EMem → Prop}
    (h1 : y0 = (0 : Int32) → ∀ v2 : Int32, v2 = (if (mi 0 100) = (0 : Int32) then (-1 : Int32) else (mi 0 104)) → ∀ v3 : Int32, v3 = (if v2 = (-1 : Int32) then (1 : Int32) else (0 : Int32)) → Q (some (.int (v3 &&& 1))) (LL1, mi, ml, RR1))
    (h2 : ¬ y0 = (0 : Int32) → Q (some (.int (0 : Int32))) (LL1, mi, ml, RR1)) :
    W_law 152 [.val (.int x0), .val (.int x1), .val (.int x2), .val (.int x3), .val (.int x4), .val (.int x5), .val (.int x6), .val (.int x7), .val (.ref 0)] [.int y0] (LL1, mi, ml, RR1) Q := by
  refine Wp.if_eq d_law_152 rfl (fun c1 => ?_) (fun c1 => ?_)
  ·
    refine Wp.p (pc' := 159) d_law_157 rfl rfl ?_
    refine Wp.callV (a := 0) (as := []) (rest := []) (w := 0) (F' := 0) (Lb' := 0) d_law_159 ca_w30_0n ca_w30_0 rfl rfl rfl rfl (by decide) (by decide) (Nat.le_of_ble_eq_true rfl) ?_
    refine L_getCacheBits_0 ?_
    intro v2 e2
    show W_law 162 [.val (.int x0), .val (.int x1), .val (.int x2), .val (.int x3), .val (.int x4), .val (.int x5), .val (.int x6), .val (.int x7), .val (.ref 0)] [.int v2] (LL1, mi, ml, RR1) Q
    refine Wp.iconst (-1 : Int32) d_law_162 (by decide) ?_
    obtain ⟨v3, e3⟩ : ∃ z : Int32, z = (if v2 = (-1 : Int32) then (1 : Int32) else (0 : Int32)) := ⟨_, rfl⟩
    suffices K : W_law 171 [.val (.int x0), .val (.int x1), .val (.int x2), .val (.int x3), .val (.int x4), .val (.int x5), .val (.int x6), .val (.int x7), .val (.ref 0)] [.int v3] (LL1, mi, ml, RR1) Q by
      refine Wp.icmp_ne d_law_163 rfl (fun q0 => ?_) (fun q0 => ?_)
      ·
        refine Wp.iconst (0 : Int32) d_law_170 (by decide) ?_
        rw [if_neg q0] at e3; subst e3
        exact K
      ·
        refine Wp.iconst (1 : Int32) d_law_166 (by decide) ?_
        refine Wp.p (pc' := 171) d_law_167 rfl rfl ?_
        rw [if_pos q0] at e3; subst e3
        exact K
    refine Wp.retZ (v3 &&& 1) d_law_171 (by rfl) ?_
    exact (h1 c1 v2 e2 v3 e3)
  ·
    refine Wp.iconst (0 : Int32) d_law_155 (by decide) ?_
    refine Wp.retZ (0 : Int32) d_law_156 (by decide) ?_
    exact (h2 c1)

theorem own_reset {Q : Option Value → EMem → Prop} {x1 x2 : Int32} (F : Nat → Int32) (K : ∀ mi ml, (∀ k, mi 0 k = F k) → (∀ k, k < 256 → mi 1 k = 0) → Q none (LL1, (up (up (up (up mi 0 100 0) 0 102 0) 0 104 (-1)) 0 106 (-1)), ml, RR1))
    (x : Int32) (mi : Nat → Nat → Int32) (ml : Nat → Nat → Int64) (hx : ¬ x < 0) (h256 : ¬ 256 < x) (hF : ∀ k, mi 0 k = F k) (hI : ∀ k : Nat, (k : Int) < x.toInt → mi 1 k = 0) :
    W_reset 26 [.val (.ref 0), .val (.int x1), .val (.int x2), .val (.int x)] [] (LL1, mi, ml, RR1) Q := by
  refine L_reset_26 (fun h => ?_) (fun h => inb_lt 256 hx h (by decide)) (fun h => ?_)
  · refine K _ _ hF (fun k hk => hI k ?_)
    have := ge_int h
    have c : (256 : Int32).toInt = 256 := by decide
    omega
  · have hs := succ_int h
    refine own_reset F K (x + 1) _ _ (succ_nn hx h) (by grind) (fun k => hF k) ?_
    intro k hk
    rw [up_ne (by decide), up_at]
    by_cases q : k = x.toNatClampNeg
    · simp [q]
    · simp [q]
      refine hI k ?_
      have h0 := nn_int hx
      simp only [Int32.toNatClampNeg] at q
      omega
termination_by ((256 : Int32).toInt - x.toInt).toNat
decreasing_by exact succ_dec h

theorem own_law2 (i0 i1 x y w1 w2 w3 w4 : Int32) (f1 : w1 = if i0 < 1 then 1 else if 16 < i0 then 16 else i0) (f2 : w2 = if i1 < 1 then 1 else if 16 < i1 then 16 else i1) (f3 : w3 = if x < 0 then 0 else if x < w1 then (if y < 0 then 0 else if y < w2 then 1 else 0) else 0) (f4 : w4 = if w3 = 0 then -1 else 0)
    (mi : Nat → Nat → Int32) (ml : Nat → Nat → Int64) (hw : mi 0 96 = w1) (hh : mi 0 98 = w2) (he : mi 0 100 = 0) (hd : mi 0 102 = 0) (hI : ∀ k, k < 256 → mi 1 k = 0) :
    W_law 94 [.val (.int i0), .val (.int i1), .val (.int x), .val (.int y), .val (.int w1), .val (.int w2), .val (.int w3), .val (.int w4), .unset] [.ref 0] (LL1, mi, ml, RR1) QL := by
  have b1 : ¬ 16 < w1 := by grind
  have b2 : ¬ 16 < w2 := by grind
  refine L_law_94 (fun _ _ => ?_) (fun _ c => absurd hh c) (fun c => absurd hw c)
  refine L_getInput_0 ?_ ?_
  · intro q1 q2 q3 q4
    rw [hw] at q2
    rw [hh] at q4
    rw [hw]
    obtain ⟨e1, e2, e3, -⟩ := idx2 q1 q2 q3 q4 b1 b2
    exact inb_of ⟨by omega, by omega⟩
  · intro r er
    rw [hw, hh] at er
    have hr : r = w4 := by
      rw [er]
      by_cases q1 : x < 0
      · rw [if_pos q1]; grind
      · rw [if_neg q1]
        by_cases q2 : x < w1
        · rw [if_pos q2]
          by_cases q3 : y < 0
          · rw [if_pos q3]; grind
          · rw [if_neg q3]
            by_cases q4 : y < w2
            · rw [if_pos q4]
              obtain ⟨e1, e2, e3, -⟩ := idx2 q1 q2 q3 q4 b1 b2
              rw [hI _ (by simp only [Int32.toNatClampNeg]; omega)]
              grind
            · rw [if_neg q4]; grind
        · rw [if_neg q2]; grind
    refine L_law_127 (fun _ => ?_) (fun c => absurd hr c)
    refine L_getOutput_0 (fun c => absurd hd c) ?_
    intro r2 er2
    rw [hd, if_pos rfl] at er2
    refine L_law_141 (fun _ => ?_) (fun c => absurd er2 c)
    refine L_decode_0 (fun c => c he) (fun _ => ?_)
    refine L_law_152 (fun _ => ?_) (fun c => absurd rfl c)
    intro v2 g2 v3 g3
    rw [he, if_pos rfl] at g2
    rw [g2, if_pos rfl] at g3
    subst g3
    exact ql1 (by decide)
theorem law_ok (i0 i1 i2 i3 : Int32) : W_law 0 (entryL [.int i0, .int i1, .int i2, .int i3] maxLocals) [] mem0 QL := by
  refine L_law_0 ?_
  intro w1 f1 w2 f2 w3 f3 w4 f4
  refine L_init_0 ?_
  refine L_reset_0 ?_
  intro v1 e1 v2 e2
  refine own_reset _ ?_ 0 _ _ (by decide) (by decide) (fun k => rfl) (fun k hk => ?_)
  · intro mi ml hF hI
    refine L_init_299 ?_
    refine own_law2 i0 i1 i2 i3 w1 w2 w3 w4 f1 f2 f3 f4 _ _ ((hF _).trans ?_) ((hF _).trans ?_) rfl rfl hI
    · show v1 = w1
      rw [e1, f1]
    · show v2 = w2
      rw [e2, f2]
  · have : (0 : Int32).toInt = 0 := by decide
    omega

set_option maxRecDepth 65536 in
set_option maxHeartbeats 40000000 in
theorem comes_1 {Post : Tables → Env → Array Value → State → Outcome → State → Prop} (hpost : ∀ tb e args s v u, (limb_1_1.after args s (.returned v) u = true ∧ limb_1_2.after args s (.returned v) u = true ∧ True) → FrameEnd s (.returned v) u (Jvm.fieldLocs frame_1_writes args s ++ Jvm.arrayLocs frame_1_arrays args s ++ Jvm.staticLocs frame_1_statics s) 56 24640 → Post tb e args s (.returned v) u) :
    ArmFor flags0 classFile x code maxLocals ret World_1 tables_1 room_1 Calls_1 rest_1 Pre_1 Post := by
  intro l hfl _ _ p e ha hc hk s m args below hf hA hF happ hP
  obtain ⟨hcalls, hrest, hpre⟩ := hP
  obtain ⟨-, -, -, hnamed, -, -, -, hat⟩ := (Spec.applies_iff hf).mp happ
  obtain ⟨hg, hn⟩ := and_e (Cond.before_iff.mp (show (Jvm.Cond.and given_1 narrow_1).before args s = true from hpre))
  obtain ⟨g0, t0⟩ := and_e hg
  obtain ⟨g1, t1⟩ := and_e t0
  obtain ⟨g2, t2⟩ := and_e t1
  obtain ⟨g3, t3⟩ := and_e t2
  obtain ⟨w0, w1, w2, w3, rfl⟩ : ∃ w0 w1 w2 w3 : Value, args = #[w0, w1, w2, w3] := by
    have hs : args.size = 4 := by simpa [Cond.value, given_1] using g0
    obtain ⟨L⟩ := args
    match L, hs with
    | [w0, w1, w2, w3], _ => exact ⟨w0, w1, w2, w3, rfl⟩
  have hw := fun d (hd : d ∈ tables_1) => atoms_spec (ws := Jvm.Cond.code x code maxLocals ret :: tables_1) hat d (List.mem_cons_of_mem _ hd)
  obtain ⟨i0, e0⟩ := is_v g1
  obtain rfl : w0 = (.int i0) := Option.some.inj e0
  obtain ⟨i1, e1⟩ := is_v g2
  obtain rfl : w1 = (.int i1) := Option.some.inj e1
  obtain ⟨i2, e2⟩ := is_v g3
  obtain rfl : w2 = (.int i2) := Option.some.inj e2
  obtain ⟨i3, e3⟩ := is_v t3
  obtain rfl : w3 = (.int i3) := Option.some.inj e3
  obtain ⟨n, o, h1, h2, h3, _, L, rfl, ⟨rfl, N⟩, hq⟩ := law_run (l := l) (R := room_1) (as := [.int i0, .int i1, .int i2, .int i3]) hw (ρ := fun a => s.heap.size + a) (fun a b q => Nat.add_left_cancel q) (fun a _ => rfl) (rel0 s _) (by first | (simp [plainName, overriddenIn, x]; done) | decide +kernel) (Nat.le_of_ble_eq_true rfl) (law_ok i0 i1 i2 i3) tables_1 p e ha hc hk s m _ below hf ((Spec.applies_iff_loose hf).mp happ).1 ⟨rfl, State.Warmed39.refl s, rfl⟩ trivial
  refine ⟨n, _, h1, h2, h3, hpost _ _ _ _ _ _ ⟨Cond.after_iff.mpr rfl, Cond.after_iff.mpr (eq_i res_at (Term.int_eval (1)) rfl), trivial⟩ ⟨hq.1, hq.2.1, (hq.2.2.sift fun y hy => Or.inr (N y hy)).mono (by decide) (by decide)⟩⟩
theorem main_1_1 : Claimed_1_1 := comes_1 fun _ _ _ _ _ _ h hF => ⟨h.1, hF⟩
theorem main_1_2 : Claimed_1_2 := comes_1 fun _ _ _ _ _ _ h hF => ⟨h.2.1, hF⟩
end Jvm.Pilot.@@N@@
namespace Jvm.Pilot.@@N@@
open Jvm Jvm.ClassFile Sem Op Lib Jvm.Free Jvm.Stand Jvm.Pilot.@@N@@.Jvm.D
/-! MADE BY PROGRAM (witnessworld.py) out of the Statement's table words and the real class files: 11 classes; the members and pool entries that the words name. The judged class is class 1, her method 1. -/
namespace start1
open Jvm.ClassFile
def u (s : String) : CpInfo := .utf8 (stringToUtf16 s)
/-- a pool by its gaps: so many unusable entries, then the entry; so many at the end -/
def gap : Nat → List CpInfo → List CpInfo
  | 0, r => r
  | n + 1, r => .unusable :: gap n r
def poolList (es : List (Nat × CpInfo)) (last : Nat) : List CpInfo := es.foldr (fun e r => gap e.1 (e.2 :: r)) (gap last [])
def pool (es : List (Nat × CpInfo)) (last : Nat) : Array CpInfo := ⟨poolList es last⟩
def fileOf (pool : Array CpInfo) (this : Nat) (attrs : Array Attribute := #[]) (ms : Array MethodInfo := #[]) (fl : Nat := 33) (sup : Nat := 0) (ifs : Array Nat := #[]) (fds : Array FieldInfo := #[]) : ClassFile where
  minorVersion := 0
  majorVersion := 65
  constantPool := pool
  accessFlags := fl
  thisClass := this
  superClass := sup
  interfaces := ifs
  fields := fds
  methods := ms
  attributes := attrs
def plain (name : String) (sup : Option ClassId) : Class where
  name := name
  kind := .ordinary
  loader := none
  accessFlags := 33
  super := sup
  interfaces := #[]
  cf := none
  fields := #[]
  methods := #[]
  instanceTypes := #[]
  staticTypes := #[]
  resolved := #[]
  callSites := []
  init := .initialized
  statics := none
  mirror := none

def pool0 : Array CpInfo := pool [(5, u "<init>"), (0, u "()V"), (1, .class_ 10), (1, u "java/lang/Object")] 113

def k0c0 : Code := { maxStack := 0, maxLocals := 1, code := object_method_1_code, exceptionTable := #[], attributes := #[] }
def k0m0 : Method := { name := "<init>", desc := "()V", sig := { parameters := [], returnType := none }, accessFlags := 1, code := some k0c0 }
/-- java/lang/Object -/
def k0 : Class := { plain "java/lang/Object" none with
  accessFlags := 33
  interfaces := #[]
  cf := some (fileOf pool0 8 #[] #[{ accessFlags := 1, nameIndex := 5, descriptorIndex := 6, attributes := #[] }] 33 0 #[] #[])
  fields := #[]
  methods := #[k0m0]
  instanceTypes := #[]
  staticTypes := #[]
  resolved := Array.replicate 124 none
  statics := none }

def pool1 : Array CpInfo := pool [(2, .class_ 4), (1, u "java/lang/Object"), (0, u "<init>"), (0, u "()V"), (0, .class_ 8), (0, u "PredictCacheImage"), (0, .methodref 7 10), (0, .nameAndType 5 11), (0, u "(II)V"), (0, .methodref 7 13), (0, .nameAndType 14 15), (0, u "getWidth"), (0, u "()I"), (0, .methodref 7 17), (0, .nameAndType 18 15), (0, u "getHeight"), (0, .methodref 7 20), (0, .nameAndType 21 22), (0, u "getInput"), (0, u "(II)I"), (0, .methodref 7 24), (0, .nameAndType 25 22), (0, u "getOutput"), (0, .methodref 7 27), (0, .nameAndType 28 29), (0, u "decode"), (0, u "()Z"), (0, .methodref 7 31), (0, .nameAndType 32 15), (0, u "getCacheBits"), (0, .class_ 34), (0, u "PredictCacheImageL1"), (2, u "law"), (0, u "(IIII)Z")] 3

def k1m0 : Method := { name := "<init>", desc := "()V", sig := { parameters := [], returnType := none }, accessFlags := 1, code := none }
def k1c1 : Code := { maxStack := 4, maxLocals := 9, code := code, exceptionTable := #[], attributes := #[] }
def k1m1 : Method := { name := "law", desc := "(IIII)Z", sig := { parameters := [.int, .int, .int, .int], returnType := some .boolean }, accessFlags := 9, code := some k1c1 }
/-- PredictCacheImageL1 -/
def k1 : Class := { plain "PredictCacheImageL1" (some 0) with
  accessFlags := 49
  interfaces := #[]
  cf := some (fileOf pool1 33 #[] #[{ accessFlags := 1, nameIndex := 5, descriptorIndex := 6, attributes := #[] }, { accessFlags := 9, nameIndex := 37, descriptorIndex := 38, attributes := #[] }] 49 2 #[] #[])
  fields := #[]
  methods := #[k1m0, k1m1]
  instanceTypes := #[]
  staticTypes := #[]
  resolved := Array.replicate 42 none
  statics := none }

def pool2 : Array CpInfo := pool [(1, .methodref 2 3), (0, .class_ 4), (0, .nameAndType 5 6), (0, u "java/lang/Object"), (0, u "<init>"), (0, u "()V"), (0, .fieldref 8 9), (0, .class_ 10), (0, .nameAndType 11 12), (0, u "PredictCacheImage"), (0, u "redBase"), (0, u "I"), (0, .fieldref 8 14), (0, .nameAndType 15 12), (0, u "blueBase"), (0, .fieldref 8 17), (0, .nameAndType 18 12), (0, u "distBase"), (0, .fieldref 8 20), (0, .nameAndType 21 12), (0, u "codeSlots"), (0, .fieldref 8 23), (0, .nameAndType 24 12), (0, u "lengthSymBase"), (0, .fieldref 8 26), (0, .nameAndType 27 12), (0, u "cacheSymBase"), (0, .fieldref 8 29), (0, .nameAndType 30 12), (0, u "distSymbols"), (0, .fieldref 8 32), (0, .nameAndType 33 12), (0, u "maxCodeLen"), (0, .fieldref 8 35), (0, .nameAndType 36 12), (0, u "minMatch"), (0, .fieldref 8 38), (0, .nameAndType 39 12), (0, u "planeCodes"), (0, .fieldref 8 41), (0, .nameAndType 42 12), (0, u "predictorCount"), (0, .fieldref 8 44), (0, .nameAndType 45 12), (0, u "selectMode"), (0, .integer 506832829), (0, .fieldref 8 48), (0, .nameAndType 49 12), (0, u "hashMul"), (0, .fieldref 8 51), (0, .nameAndType 52 12), (0, u "streamWords"), (0, .fieldref 8 54), (0, .nameAndType 55 12), (0, u "maxPixels"), (0, .fieldref 8 57), (0, .nameAndType 58 12), (0, u "maxTiles"), (0, .fieldref 8 60), (0, .nameAndType 61 62), (0, u "input"), (0, u "[I"), (0, .fieldref 8 64), (0, .nameAndType 65 62), (0, u "output"), (0, .fieldref 8 67), (0, .nameAndType 68 62), (0, u "tpx"), (0, .fieldref 8 70), (0, .nameAndType 71 62), (0, u "res"), (0, .fieldref 8 73), (0, .nameAndType 74 62), (0, u "cache"), (0, .fieldref 8 76), (0, .nameAndType 77 62), (0, u "modes"), (0, .fieldref 8 79), (0, .nameAndType 80 62), (0, u "tokKind"), (0, .fieldref 8 82), (0, .nameAndType 83 62), (0, u "tokA"), (0, .fieldref 8 85), (0, .nameAndType 86 62), (0, u "tokB"), (0, .fieldref 8 88), (0, .nameAndType 89 62), (0, u "hist"), (0, .fieldref 8 91), (0, .nameAndType 92 62), (0, u "codeLen"), (0, .fieldref 8 94), (0, .nameAndType 95 62), (0, u "codeVal"), (0, .fieldref 8 97), (0, .nameAndType 98 62), (0, u "sorted"), (0, .fieldref 8 100), (0, .nameAndType 101 62), (0, u "blCount"), (0, .fieldref 8 103), (0, .nameAndType 104 62), (0, u "nextCode"), (0, .fieldref 8 106), (0, .nameAndType 107 62), (0, u "nodeW"), (0, .fieldref 8 109), (0, .nameAndType 110 62), (0, u "nodeParent"), (0, .fieldref 8 112), (0, .nameAndType 113 62), (0, u "nodeDepth"), (0, .fieldref 8 115), (0, .nameAndType 116 117), (0, u "nodeAlive"), (0, u "[Z"), (0, .fieldref 8 119), (0, .nameAndType 120 62), (0, u "leafSym"), (0, .fieldref 8 122), (0, .nameAndType 123 62), (0, u "stream"), (0, .methodref 8 125), (0, .nameAndType 126 127), (0, u "reset"), (0, u "(II)V"), (0, .methodref 8 129), (0, .nameAndType 130 131), (0, u "clamp"), (0, u "(III)I"), (0, .fieldref 8 133), (0, .nameAndType 134 12), (0, u "w"), (0, .fieldref 8 136), (0, .nameAndType 137 12), (0, u "h"), (0, .fieldref 8 139), (0, .nameAndType 140 141), (0, u "encoded"), (0, u "Z"), (0, .fieldref 8 143), (0, .nameAndType 144 141), (0, u "decoded"), (0, .fieldref 8 146), (0, .nameAndType 147 12), (0, u "recCacheBits"), (0, .fieldref 8 149), (0, .nameAndType 150 12), (0, u "recTileBits"), (34, .fieldref 8 186), (0, .nameAndType 187 12), (0, u "readPos"), (18, u "cbCur"), (2, u "greenSize"), (2, u "tbCur"), (2, u "tilesX"), (2, u "tilesY"), (21, u "(II)I"), (26, u "matchLen"), (2, u "matchDist"), (2, u "tokCount"), (42, u "bitPos"), (6, u "()I"), (33, u "MIN_SIDE"), (2, u "MAX_SIDE"), (1, u "MIN_CACHE_BITS"), (1, u "MAX_CACHE_BITS"), (1, u "MIN_TILE_BITS"), (0, u "MAX_TILE_BITS"), (1, u "NONE"), (1, u "RGB_MASK"), (23, u "decode"), (0, u "()Z"), (0, u "getInput"), (0, u "getOutput"), (1, u "getWidth"), (0, u "getHeight"), (2, u "getCacheBits")] 4

def k2c0 : Code := { maxStack := 3, maxLocals := 3, code := prog_1_method_1_code, exceptionTable := #[], attributes := #[] }
def k2m0 : Method := { name := "<init>", desc := "(II)V", sig := { parameters := [.int, .int], returnType := none }, accessFlags := 1, code := some k2c0 }
def k2c1 : Code := { maxStack := 5, maxLocals := 4, code := prog_1_method_2_code, exceptionTable := #[], attributes := #[] }
def k2m1 : Method := { name := "reset", desc := "(II)V", sig := { parameters := [.int, .int], returnType := none }, accessFlags := 1, code := some k2c1 }
def k2c2 : Code := { maxStack := 4, maxLocals := 5, code := prog_1_method_8_code, exceptionTable := #[], attributes := #[] }
def k2m2 : Method := { name := "decode", desc := "()Z", sig := { parameters := [], returnType := some .boolean }, accessFlags := 1, code := some k2c2 }
def k2c3 : Code := { maxStack := 3, maxLocals := 3, code := prog_1_method_9_code, exceptionTable := #[], attributes := #[] }
def k2m3 : Method := { name := "getInput", desc := "(II)I", sig := { parameters := [.int, .int], returnType := some .int }, accessFlags := 1, code := some k2c3 }
def k2c4 : Code := { maxStack := 3, maxLocals := 3, code := prog_1_method_10_code, exceptionTable := #[], attributes := #[] }
def k2m4 : Method := { name := "getOutput", desc := "(II)I", sig := { parameters := [.int, .int], returnType := some .int }, accessFlags := 1, code := some k2c4 }
def k2c5 : Code := { maxStack := 1, maxLocals := 1, code := prog_1_method_12_code, exceptionTable := #[], attributes := #[] }
def k2m5 : Method := { name := "getWidth", desc := "()I", sig := { parameters := [], returnType := some .int }, accessFlags := 1, code := some k2c5 }
def k2c6 : Code := { maxStack := 1, maxLocals := 1, code := prog_1_method_13_code, exceptionTable := #[], attributes := #[] }
def k2m6 : Method := { name := "getHeight", desc := "()I", sig := { parameters := [], returnType := some .int }, accessFlags := 1, code := some k2c6 }
def k2c7 : Code := { maxStack := 1, maxLocals := 1, code := prog_1_method_16_code, exceptionTable := #[], attributes := #[] }
def k2m7 : Method := { name := "getCacheBits", desc := "()I", sig := { parameters := [], returnType := some .int }, accessFlags := 1, code := some k2c7 }
def k2c8 : Code := { maxStack := 2, maxLocals := 4, code := prog_1_method_18_code, exceptionTable := #[], attributes := #[] }
def k2m8 : Method := { name := "clamp", desc := "(III)I", sig := { parameters := [.int, .int, .int], returnType := some .int }, accessFlags := 2, code := some k2c8 }
/-- PredictCacheImage -/
def k2 : Class := { plain "PredictCacheImage" (some 0) with
  accessFlags := 49
  interfaces := #[]
  cf := some (fileOf pool2 8 #[] #[{ accessFlags := 1, nameIndex := 5, descriptorIndex := 127, attributes := #[] }, { accessFlags := 1, nameIndex := 126, descriptorIndex := 127, attributes := #[] }, { accessFlags := 1, nameIndex := 395, descriptorIndex := 396, attributes := #[] }, { accessFlags := 1, nameIndex := 397, descriptorIndex := 240, attributes := #[] }, { accessFlags := 1, nameIndex := 398, descriptorIndex := 240, attributes := #[] }, { accessFlags := 1, nameIndex := 400, descriptorIndex := 323, attributes := #[] }, { accessFlags := 1, nameIndex := 401, descriptorIndex := 323, attributes := #[] }, { accessFlags := 1, nameIndex := 404, descriptorIndex := 323, attributes := #[] }, { accessFlags := 2, nameIndex := 130, descriptorIndex := 131, attributes := #[] }] 49 2 #[] #[{ accessFlags := 25, nameIndex := 357, descriptorIndex := 12, attributes := #[] }, { accessFlags := 25, nameIndex := 360, descriptorIndex := 12, attributes := #[] }, { accessFlags := 25, nameIndex := 362, descriptorIndex := 12, attributes := #[] }, { accessFlags := 25, nameIndex := 364, descriptorIndex := 12, attributes := #[] }, { accessFlags := 25, nameIndex := 366, descriptorIndex := 12, attributes := #[] }, { accessFlags := 25, nameIndex := 367, descriptorIndex := 12, attributes := #[] }, { accessFlags := 25, nameIndex := 369, descriptorIndex := 12, attributes := #[] }, { accessFlags := 25, nameIndex := 371, descriptorIndex := 12, attributes := #[] }, { accessFlags := 18, nameIndex := 11, descriptorIndex := 12, attributes := #[] }, { accessFlags := 18, nameIndex := 15, descriptorIndex := 12, attributes := #[] }, { accessFlags := 18, nameIndex := 18, descriptorIndex := 12, attributes := #[] }, { accessFlags := 18, nameIndex := 21, descriptorIndex := 12, attributes := #[] }, { accessFlags := 18, nameIndex := 24, descriptorIndex := 12, attributes := #[] }, { accessFlags := 18, nameIndex := 27, descriptorIndex := 12, attributes := #[] }, { accessFlags := 18, nameIndex := 30, descriptorIndex := 12, attributes := #[] }, { accessFlags := 18, nameIndex := 33, descriptorIndex := 12, attributes := #[] }, { accessFlags := 18, nameIndex := 36, descriptorIndex := 12, attributes := #[] }, { accessFlags := 18, nameIndex := 39, descriptorIndex := 12, attributes := #[] }, { accessFlags := 18, nameIndex := 42, descriptorIndex := 12, attributes := #[] }, { accessFlags := 18, nameIndex := 45, descriptorIndex := 12, attributes := #[] }, { accessFlags := 18, nameIndex := 49, descriptorIndex := 12, attributes := #[] }, { accessFlags := 18, nameIndex := 52, descriptorIndex := 12, attributes := #[] }, { accessFlags := 18, nameIndex := 55, descriptorIndex := 12, attributes := #[] }, { accessFlags := 18, nameIndex := 58, descriptorIndex := 12, attributes := #[] }, { accessFlags := 2, nameIndex := 134, descriptorIndex := 12, attributes := #[] }, { accessFlags := 2, nameIndex := 137, descriptorIndex := 12, attributes := #[] }, { accessFlags := 2, nameIndex := 140, descriptorIndex := 141, attributes := #[] }, { accessFlags := 2, nameIndex := 144, descriptorIndex := 141, attributes := #[] }, { accessFlags := 2, nameIndex := 147, descriptorIndex := 12, attributes := #[] }, { accessFlags := 2, nameIndex := 150, descriptorIndex := 12, attributes := #[] }, { accessFlags := 2, nameIndex := 206, descriptorIndex := 12, attributes := #[] }, { accessFlags := 2, nameIndex := 212, descriptorIndex := 12, attributes := #[] }, { accessFlags := 2, nameIndex := 215, descriptorIndex := 12, attributes := #[] }, { accessFlags := 2, nameIndex := 218, descriptorIndex := 12, attributes := #[] }, { accessFlags := 2, nameIndex := 209, descriptorIndex := 12, attributes := #[] }, { accessFlags := 2, nameIndex := 273, descriptorIndex := 12, attributes := #[] }, { accessFlags := 2, nameIndex := 316, descriptorIndex := 12, attributes := #[] }, { accessFlags := 2, nameIndex := 187, descriptorIndex := 12, attributes := #[] }, { accessFlags := 2, nameIndex := 267, descriptorIndex := 12, attributes := #[] }, { accessFlags := 2, nameIndex := 270, descriptorIndex := 12, attributes := #[] }, { accessFlags := 18, nameIndex := 61, descriptorIndex := 62, attributes := #[] }, { accessFlags := 18, nameIndex := 65, descriptorIndex := 62, attributes := #[] }, { accessFlags := 18, nameIndex := 68, descriptorIndex := 62, attributes := #[] }, { accessFlags := 18, nameIndex := 71, descriptorIndex := 62, attributes := #[] }, { accessFlags := 18, nameIndex := 74, descriptorIndex := 62, attributes := #[] }, { accessFlags := 18, nameIndex := 77, descriptorIndex := 62, attributes := #[] }, { accessFlags := 18, nameIndex := 80, descriptorIndex := 62, attributes := #[] }, { accessFlags := 18, nameIndex := 83, descriptorIndex := 62, attributes := #[] }, { accessFlags := 18, nameIndex := 86, descriptorIndex := 62, attributes := #[] }, { accessFlags := 18, nameIndex := 89, descriptorIndex := 62, attributes := #[] }, { accessFlags := 18, nameIndex := 92, descriptorIndex := 62, attributes := #[] }, { accessFlags := 18, nameIndex := 95, descriptorIndex := 62, attributes := #[] }, { accessFlags := 18, nameIndex := 98, descriptorIndex := 62, attributes := #[] }, { accessFlags := 18, nameIndex := 101, descriptorIndex := 62, attributes := #[] }, { accessFlags := 18, nameIndex := 104, descriptorIndex := 62, attributes := #[] }, { accessFlags := 18, nameIndex := 107, descriptorIndex := 62, attributes := #[] }, { accessFlags := 18, nameIndex := 110, descriptorIndex := 62, attributes := #[] }, { accessFlags := 18, nameIndex := 113, descriptorIndex := 62, attributes := #[] }, { accessFlags := 18, nameIndex := 116, descriptorIndex := 117, attributes := #[] }, { accessFlags := 18, nameIndex := 120, descriptorIndex := 62, attributes := #[] }, { accessFlags := 18, nameIndex := 123, descriptorIndex := 62, attributes := #[] }])
  fields := #[{ name := "MIN_SIDE", type := .int, accessFlags := 25, slot := 0, constantValue := 0 }, { name := "MAX_SIDE", type := .int, accessFlags := 25, slot := 1, constantValue := 0 }, { name := "MIN_CACHE_BITS", type := .int, accessFlags := 25, slot := 2, constantValue := 0 }, { name := "MAX_CACHE_BITS", type := .int, accessFlags := 25, slot := 3, constantValue := 0 }, { name := "MIN_TILE_BITS", type := .int, accessFlags := 25, slot := 4, constantValue := 0 }, { name := "MAX_TILE_BITS", type := .int, accessFlags := 25, slot := 5, constantValue := 0 }, { name := "NONE", type := .int, accessFlags := 25, slot := 6, constantValue := 0 }, { name := "RGB_MASK", type := .int, accessFlags := 25, slot := 7, constantValue := 0 }, { name := "redBase", type := .int, accessFlags := 18, slot := 0, constantValue := 0 }, { name := "blueBase", type := .int, accessFlags := 18, slot := 1, constantValue := 0 }, { name := "distBase", type := .int, accessFlags := 18, slot := 2, constantValue := 0 }, { name := "codeSlots", type := .int, accessFlags := 18, slot := 3, constantValue := 0 }, { name := "lengthSymBase", type := .int, accessFlags := 18, slot := 4, constantValue := 0 }, { name := "cacheSymBase", type := .int, accessFlags := 18, slot := 5, constantValue := 0 }, { name := "distSymbols", type := .int, accessFlags := 18, slot := 6, constantValue := 0 }, { name := "maxCodeLen", type := .int, accessFlags := 18, slot := 7, constantValue := 0 }, { name := "minMatch", type := .int, accessFlags := 18, slot := 8, constantValue := 0 }, { name := "planeCodes", type := .int, accessFlags := 18, slot := 9, constantValue := 0 }, { name := "predictorCount", type := .int, accessFlags := 18, slot := 10, constantValue := 0 }, { name := "selectMode", type := .int, accessFlags := 18, slot := 11, constantValue := 0 }, { name := "hashMul", type := .int, accessFlags := 18, slot := 12, constantValue := 0 }, { name := "streamWords", type := .int, accessFlags := 18, slot := 13, constantValue := 0 }, { name := "maxPixels", type := .int, accessFlags := 18, slot := 14, constantValue := 0 }, { name := "maxTiles", type := .int, accessFlags := 18, slot := 15, constantValue := 0 }, { name := "w", type := .int, accessFlags := 2, slot := 16, constantValue := 0 }, { name := "h", type := .int, accessFlags := 2, slot := 17, constantValue := 0 }, { name := "encoded", type := .boolean, accessFlags := 2, slot := 18, constantValue := 0 }, { name := "decoded", type := .boolean, accessFlags := 2, slot := 19, constantValue := 0 }, { name := "recCacheBits", type := .int, accessFlags := 2, slot := 20, constantValue := 0 }, { name := "recTileBits", type := .int, accessFlags := 2, slot := 21, constantValue := 0 }, { name := "cbCur", type := .int, accessFlags := 2, slot := 22, constantValue := 0 }, { name := "tbCur", type := .int, accessFlags := 2, slot := 23, constantValue := 0 }, { name := "tilesX", type := .int, accessFlags := 2, slot := 24, constantValue := 0 }, { name := "tilesY", type := .int, accessFlags := 2, slot := 25, constantValue := 0 }, { name := "greenSize", type := .int, accessFlags := 2, slot := 26, constantValue := 0 }, { name := "tokCount", type := .int, accessFlags := 2, slot := 27, constantValue := 0 }, { name := "bitPos", type := .int, accessFlags := 2, slot := 28, constantValue := 0 }, { name := "readPos", type := .int, accessFlags := 2, slot := 29, constantValue := 0 }, { name := "matchLen", type := .int, accessFlags := 2, slot := 30, constantValue := 0 }, { name := "matchDist", type := .int, accessFlags := 2, slot := 31, constantValue := 0 }, { name := "input", type := (.array .int), accessFlags := 18, slot := 32, constantValue := 0 }, { name := "output", type := (.array .int), accessFlags := 18, slot := 33, constantValue := 0 }, { name := "tpx", type := (.array .int), accessFlags := 18, slot := 34, constantValue := 0 }, { name := "res", type := (.array .int), accessFlags := 18, slot := 35, constantValue := 0 }, { name := "cache", type := (.array .int), accessFlags := 18, slot := 36, constantValue := 0 }, { name := "modes", type := (.array .int), accessFlags := 18, slot := 37, constantValue := 0 }, { name := "tokKind", type := (.array .int), accessFlags := 18, slot := 38, constantValue := 0 }, { name := "tokA", type := (.array .int), accessFlags := 18, slot := 39, constantValue := 0 }, { name := "tokB", type := (.array .int), accessFlags := 18, slot := 40, constantValue := 0 }, { name := "hist", type := (.array .int), accessFlags := 18, slot := 41, constantValue := 0 }, { name := "codeLen", type := (.array .int), accessFlags := 18, slot := 42, constantValue := 0 }, { name := "codeVal", type := (.array .int), accessFlags := 18, slot := 43, constantValue := 0 }, { name := "sorted", type := (.array .int), accessFlags := 18, slot := 44, constantValue := 0 }, { name := "blCount", type := (.array .int), accessFlags := 18, slot := 45, constantValue := 0 }, { name := "nextCode", type := (.array .int), accessFlags := 18, slot := 46, constantValue := 0 }, { name := "nodeW", type := (.array .int), accessFlags := 18, slot := 47, constantValue := 0 }, { name := "nodeParent", type := (.array .int), accessFlags := 18, slot := 48, constantValue := 0 }, { name := "nodeDepth", type := (.array .int), accessFlags := 18, slot := 49, constantValue := 0 }, { name := "nodeAlive", type := (.array .boolean), accessFlags := 18, slot := 50, constantValue := 0 }, { name := "leafSym", type := (.array .int), accessFlags := 18, slot := 51, constantValue := 0 }, { name := "stream", type := (.array .int), accessFlags := 18, slot := 52, constantValue := 0 }]
  methods := #[k2m0, k2m1, k2m2, k2m3, k2m4, k2m5, k2m6, k2m7, k2m8]
  instanceTypes := #[.int, .int, .int, .int, .int, .int, .int, .int, .int, .int, .int, .int, .int, .int, .int, .int, .int, .int, .boolean, .boolean, .int, .int, .int, .int, .int, .int, .int, .int, .int, .int, .int, .int, (.array .int), (.array .int), (.array .int), (.array .int), (.array .int), (.array .int), (.array .int), (.array .int), (.array .int), (.array .int), (.array .int), (.array .int), (.array .int), (.array .int), (.array .int), (.array .int), (.array .int), (.array .int), (.array .boolean), (.array .int), (.array .int)]
  staticTypes := #[.int, .int, .int, .int, .int, .int, .int, .int]
  resolved := Array.replicate 409 none
  statics := none }

def pool3 : Array CpInfo := pool [(1, u "java/lang/Cloneable"), (0, .class_ 1), (0, u "java/lang/Object"), (0, .class_ 3)] 3

/-- java/lang/Cloneable -/
def k3 : Class := { plain "java/lang/Cloneable" (some 0) with
  accessFlags := 1537
  interfaces := #[]
  cf := some (fileOf pool3 2 #[] #[] 1537 4 #[] #[])
  fields := #[]
  methods := #[]
  instanceTypes := #[]
  staticTypes := #[]
  resolved := Array.replicate 8 none
  statics := none }

def pool4 : Array CpInfo := pool [(1, u "java/io/Serializable"), (0, .class_ 1), (0, u "java/lang/Object"), (0, .class_ 3)] 3

/-- java/io/Serializable -/
def k4 : Class := { plain "java/io/Serializable" (some 0) with
  accessFlags := 1537
  interfaces := #[]
  cf := some (fileOf pool4 2 #[] #[] 1537 4 #[] #[])
  fields := #[]
  methods := #[]
  instanceTypes := #[]
  staticTypes := #[]
  resolved := Array.replicate 8 none
  statics := none }

/-- the primitive boolean -/
def k5 : Class := { plain "boolean" none with kind := .primitive 'Z', accessFlags := 0x411 }
/-- [Z -/
def k6 : Class := { plain "[Z" (some 0) with kind := .array 5 .boolean, interfaces := #[3, 4], accessFlags := 1041 }

/-- the primitive byte -/
def k7 : Class := { plain "byte" none with kind := .primitive 'B', accessFlags := 0x411 }
/-- [B -/
def k8 : Class := { plain "[B" (some 0) with kind := .array 7 .byte, interfaces := #[3, 4], accessFlags := 1041 }

/-- the primitive int -/
def k9 : Class := { plain "int" none with kind := .primitive 'I', accessFlags := 0x411 }
/-- [I -/
def k10 : Class := { plain "[I" (some 0) with kind := .array 9 .int, interfaces := #[3, 4], accessFlags := 1041 }

def heap : Heap := #[]
def classes : Array Class := #[k0, k1, k2, k3, k4, k5, k6, k7, k8, k9, k10]
def interned : List (Array UInt16 × Addr) := []
def slotsUsed : Nat := 0
def theMethod : MethodId := ⟨1, 1⟩
def args0 : Array Value := #[.int 5, .int 5, .int 5, .int 5]
def aboutOver (below : List Frame) : State where
  vm := { classes := classes, interned := interned.toArray }
  heap := heap
  slotsUsed := slotsUsed
  threads := #[{ frames := .invoking theMethod args0 :: below }]
def below0 : List Frame := [.native { method := ⟨0, 0⟩, args := #[] }]
def about1 : State := aboutOver below0
def p0 : Program := .bare "" "" ""
def e0 : Env := launch0.env 0 0 0
theorem w_frames : about1.frames = Frame.invoking theMethod args0 :: below0 := rfl
set_option maxRecDepth 65536 in
theorem w_args : argsFit about1.vm theMethod args0 = true := by decide +kernel
set_option maxRecDepth 65536 in
theorem w_heap : heapFits about1 = true := by decide +kernel
set_option maxRecDepth 65536 in
theorem w_runnable : about1.curStatus? = some .runnable := by decide +kernel
set_option maxRecDepth 65536 in
theorem w_alone : about1.alone = true := by decide +kernel
set_option maxRecDepth 65536 in
theorem w_named : about1.methodNamed? x = some theMethod := by decide +kernel
set_option maxRecDepth 65536 in
theorem w_hears : about1.hears theMethod below0 = true := by decide +kernel
set_option maxRecDepth 65536 in
theorem w_ripe : about1.ripe theMethod args0 below0 = true := by decide +kernel
theorem w_running : about1.status = .running := rfl
set_option maxRecDepth 65536 in
theorem w_room : about1.hasRoom e0.platform room_1 = true :=
  launch0.hasRoom_least _ room_1 (by decide +kernel) (by decide +kernel) (by decide +kernel) (by decide +kernel) (by decide +kernel) (by decide +kernel)
theorem allAtoms_all (ts : List Jvm.Cond) (a : Array Jvm.Value) (st : Jvm.State) : (allAtoms ts).before a st = ts.all (fun c => c.before a st) := by
  induction ts with
  | nil => rfl
  | cons c t ih =>
    show (Jvm.Cond.and c (allAtoms t)).before a st = _
    rw [Jvm.Cond.before_and, ih, List.all_cons]
def words1 : List Jvm.Cond := Jvm.Cond.code x code maxLocals ret :: tables_1
/-- a 'code' word, met by the world's own term for the bytes: nothing is compared byte by byte -/
theorem code_word {y : MethodName} {bytes : ByteArray} {mx : Nat} {rt : Option FieldType} {a : Array Value} {s : State} {m : MethodId} {meth : Method} {c : Code} (h1 : s.methodNamed? y = some m) (h2 : s.vm.method? m = some meth) (h3 : meth.code = some c) (h4 : c.code = bytes)
    (h5 : (c.maxLocals == mx && c.exceptionTable.isEmpty && decide (c.maxStack ≤ mostOperands) && decide (meth.sig.returnType = rt) && !meth.locks && decide (parseMethodDescriptor y.desc = some meth.sig)) = true) : (Jvm.Cond.code y bytes mx rt).before a s = true := by
  simp only [Bool.and_eq_true, beq_iff_eq, Bool.not_eq_true', decide_eq_true_eq] at h5
  obtain ⟨⟨⟨⟨⟨g1, g2⟩, g3⟩, g4⟩, g5⟩, g6⟩ := h5
  simp [Cond.before, Cond.holds, Cond.value, h1, h2, h3, h4, g1, g2, g3, g4, g5, g6]
def isCode : Jvm.Cond → Bool
  | .code _ _ _ _ => true
  | _ => false
theorem all_split {L : List Jvm.Cond} {P : Jvm.Cond → Bool} (h1 : L.all (fun c => isCode c || P c) = true) (h2 : ∀ c ∈ L.filter isCode, P c = true) : L.all P = true := by
  refine List.all_eq_true.mpr fun c hc => ?_
  have h := List.all_eq_true.mp h1 c hc
  rcases Bool.eq_false_or_eq_true (isCode c) with hi | hi
  · exact h2 c (List.mem_filter.mpr ⟨hc, hi⟩)
  · simpa [hi] using h
set_option maxRecDepth 65536 in
theorem w_c0 : (Jvm.Cond.code x code maxLocals ret).before args0 about1 = true := code_word (m := ⟨1, 1⟩) (meth := k1m1) (c := k1c1) (by decide +kernel) rfl rfl rfl (by decide +kernel)
set_option maxRecDepth 65536 in
theorem w_c1 : (Jvm.Cond.code ({ cls := "PredictCacheImage", name := "<init>", desc := "(II)V" } : Jvm.MethodName) prog_1_method_1_code (3 : Nat) (Option.none : Option Jvm.ClassFile.FieldType)).before args0 about1 = true := code_word (m := ⟨2, 0⟩) (meth := k2m0) (c := k2c0) (by decide +kernel) rfl rfl rfl (by decide +kernel)
set_option maxRecDepth 65536 in
theorem w_c2 : (Jvm.Cond.code ({ cls := "java/lang/Object", name := "<init>", desc := "()V" } : Jvm.MethodName) object_method_1_code (1 : Nat) (Option.none : Option Jvm.ClassFile.FieldType)).before args0 about1 = true := code_word (m := ⟨0, 0⟩) (meth := k0m0) (c := k0c0) (by decide +kernel) rfl rfl rfl (by decide +kernel)
set_option maxRecDepth 65536 in
theorem w_c3 : (Jvm.Cond.code ({ cls := "PredictCacheImage", name := "reset", desc := "(II)V" } : Jvm.MethodName) prog_1_method_2_code (4 : Nat) (Option.none : Option Jvm.ClassFile.FieldType)).before args0 about1 = true := code_word (m := ⟨2, 1⟩) (meth := k2m1) (c := k2c1) (by decide +kernel) rfl rfl rfl (by decide +kernel)
set_option maxRecDepth 65536 in
theorem w_c4 : (Jvm.Cond.code ({ cls := "PredictCacheImage", name := "clamp", desc := "(III)I" } : Jvm.MethodName) prog_1_method_18_code (4 : Nat) (Option.some Jvm.ClassFile.FieldType.int)).before args0 about1 = true := code_word (m := ⟨2, 8⟩) (meth := k2m8) (c := k2c8) (by decide +kernel) rfl rfl rfl (by decide +kernel)
set_option maxRecDepth 65536 in
theorem w_c5 : (Jvm.Cond.code ({ cls := "PredictCacheImage", name := "getWidth", desc := "()I" } : Jvm.MethodName) prog_1_method_12_code (1 : Nat) (Option.some Jvm.ClassFile.FieldType.int)).before args0 about1 = true := code_word (m := ⟨2, 5⟩) (meth := k2m5) (c := k2c5) (by decide +kernel) rfl rfl rfl (by decide +kernel)
set_option maxRecDepth 65536 in
theorem w_c6 : (Jvm.Cond.code ({ cls := "PredictCacheImage", name := "getHeight", desc := "()I" } : Jvm.MethodName) prog_1_method_13_code (1 : Nat) (Option.some Jvm.ClassFile.FieldType.int)).before args0 about1 = true := code_word (m := ⟨2, 6⟩) (meth := k2m6) (c := k2c6) (by decide +kernel) rfl rfl rfl (by decide +kernel)
set_option maxRecDepth 65536 in
theorem w_c7 : (Jvm.Cond.code ({ cls := "PredictCacheImage", name := "getInput", desc := "(II)I" } : Jvm.MethodName) prog_1_method_9_code (3 : Nat) (Option.some Jvm.ClassFile.FieldType.int)).before args0 about1 = true := code_word (m := ⟨2, 3⟩) (meth := k2m3) (c := k2c3) (by decide +kernel) rfl rfl rfl (by decide +kernel)
set_option maxRecDepth 65536 in
theorem w_c8 : (Jvm.Cond.code ({ cls := "PredictCacheImage", name := "getOutput", desc := "(II)I" } : Jvm.MethodName) prog_1_method_10_code (3 : Nat) (Option.some Jvm.ClassFile.FieldType.int)).before args0 about1 = true := code_word (m := ⟨2, 4⟩) (meth := k2m4) (c := k2c4) (by decide +kernel) rfl rfl rfl (by decide +kernel)
set_option maxRecDepth 65536 in
theorem w_c9 : (Jvm.Cond.code ({ cls := "PredictCacheImage", name := "decode", desc := "()Z" } : Jvm.MethodName) prog_1_method_8_code (5 : Nat) (Option.some Jvm.ClassFile.FieldType.boolean)).before args0 about1 = true := code_word (m := ⟨2, 2⟩) (meth := k2m2) (c := k2c2) (by decide +kernel) rfl rfl rfl (by decide +kernel)
set_option maxRecDepth 65536 in
theorem w_c10 : (Jvm.Cond.code ({ cls := "PredictCacheImage", name := "getCacheBits", desc := "()I" } : Jvm.MethodName) prog_1_method_16_code (1 : Nat) (Option.some Jvm.ClassFile.FieldType.int)).before args0 about1 = true := code_word (m := ⟨2, 7⟩) (meth := k2m7) (c := k2c7) (by decide +kernel) rfl rfl rfl (by decide +kernel)
def codes1 : List Jvm.Cond := [Jvm.Cond.code x code maxLocals ret, Jvm.Cond.code ({ cls := "PredictCacheImage", name := "<init>", desc := "(II)V" } : Jvm.MethodName) prog_1_method_1_code (3 : Nat) (Option.none : Option Jvm.ClassFile.FieldType), Jvm.Cond.code ({ cls := "java/lang/Object", name := "<init>", desc := "()V" } : Jvm.MethodName) object_method_1_code (1 : Nat) (Option.none : Option Jvm.ClassFile.FieldType), Jvm.Cond.code ({ cls := "PredictCacheImage", name := "reset", desc := "(II)V" } : Jvm.MethodName) prog_1_method_2_code (4 : Nat) (Option.none : Option Jvm.ClassFile.FieldType), Jvm.Cond.code ({ cls := "PredictCacheImage", name := "clamp", desc := "(III)I" } : Jvm.MethodName) prog_1_method_18_code (4 : Nat) (Option.some Jvm.ClassFile.FieldType.int), Jvm.Cond.code ({ cls := "PredictCacheImage", name := "getWidth", desc := "()I" } : Jvm.MethodName) prog_1_method_12_code (1 : Nat) (Option.some Jvm.ClassFile.FieldType.int), Jvm.Cond.code ({ cls := "PredictCacheImage", name := "getHeight", desc := "()I" } : Jvm.MethodName) prog_1_method_13_code (1 : Nat) (Option.some Jvm.ClassFile.FieldType.int), Jvm.Cond.code ({ cls := "PredictCacheImage", name := "getInput", desc := "(II)I" } : Jvm.MethodName) prog_1_method_9_code (3 : Nat) (Option.some Jvm.ClassFile.FieldType.int), Jvm.Cond.code ({ cls := "PredictCacheImage", name := "getOutput", desc := "(II)I" } : Jvm.MethodName) prog_1_method_10_code (3 : Nat) (Option.some Jvm.ClassFile.FieldType.int), Jvm.Cond.code ({ cls := "PredictCacheImage", name := "decode", desc := "()Z" } : Jvm.MethodName) prog_1_method_8_code (5 : Nat) (Option.some Jvm.ClassFile.FieldType.boolean), Jvm.Cond.code ({ cls := "PredictCacheImage", name := "getCacheBits", desc := "()I" } : Jvm.MethodName) prog_1_method_16_code (1 : Nat) (Option.some Jvm.ClassFile.FieldType.int)]
set_option maxRecDepth 65536 in
theorem codes_eq : words1.filter isCode = codes1 := rfl
theorem w_codes : ∀ c ∈ words1.filter isCode, c.before args0 about1 = true := by
  rw [codes_eq]
  intro c hc
  simp only [codes1, List.mem_cons, List.not_mem_nil, or_false] at hc
  rcases hc with rfl | rfl | rfl | rfl | rfl | rfl | rfl | rfl | rfl | rfl | rfl
  · exact w_c0
  · exact w_c1
  · exact w_c2
  · exact w_c3
  · exact w_c4
  · exact w_c5
  · exact w_c6
  · exact w_c7
  · exact w_c8
  · exact w_c9
  · exact w_c10
set_option maxRecDepth 65536 in
theorem w_t1 : (words1.take 24).all (fun c => isCode c || c.before args0 about1) = true := by decide +kernel
set_option maxRecDepth 65536 in
theorem w_t2 : ((words1.drop 24).take 24).all (fun c => isCode c || c.before args0 about1) = true := by decide +kernel
set_option maxRecDepth 65536 in
theorem w_t3 : (((words1.drop 24).drop 24).take 24).all (fun c => isCode c || c.before args0 about1) = true := by decide +kernel
set_option maxRecDepth 65536 in
theorem w_t4 : ((((words1.drop 24).drop 24).drop 24).take 24).all (fun c => isCode c || c.before args0 about1) = true := by decide +kernel
set_option maxRecDepth 65536 in
theorem w_t5 : (((((words1.drop 24).drop 24).drop 24).drop 24).take 24).all (fun c => isCode c || c.before args0 about1) = true := by decide +kernel
set_option maxRecDepth 65536 in
theorem w_t6 : (((((words1.drop 24).drop 24).drop 24).drop 24).drop 24).all (fun c => isCode c || c.before args0 about1) = true := by decide +kernel
theorem w_tables : (allAtoms (Jvm.Cond.code x code maxLocals ret :: tables_1)).before args0 about1 = true := by
  rw [allAtoms_all]
  show words1.all (fun c => c.before args0 about1) = true
  refine all_split ?_ w_codes
  rw [← List.take_append_drop 24 words1, List.all_append, w_t1, ← List.take_append_drop 24 (words1.drop 24), List.all_append, w_t2, ← List.take_append_drop 24 ((words1.drop 24).drop 24), List.all_append, w_t3, ← List.take_append_drop 24 (((words1.drop 24).drop 24).drop 24), List.all_append, w_t4, ← List.take_append_drop 24 ((((words1.drop 24).drop 24).drop 24).drop 24), List.all_append, w_t5, w_t6]
  rfl
set_option maxRecDepth 65536 in
theorem w_case : (Jvm.Cond.and given_1 narrow_1).before args0 about1 = true := by decide +kernel
theorem w_applies : (headSpec (Jvm.Cond.code x code maxLocals ret :: tables_1) room_1).applies x e0.platform about1 = true :=
  (Spec.applies_iff w_frames).mpr ⟨w_running, w_runnable, w_alone, w_named, w_hears, w_ripe, w_room, w_tables⟩
theorem atStart : AtStart classFile x code maxLocals ret World_1 tables_1 room_1 Calls_1 rest_1 Pre_1 launch0 p0 e0 about1 theMethod args0 below0 :=
  ⟨lists_1, trivial, launch0.admits_env _ _ _, launch0.least_env, fairChoices_fair.cas, fairChoices_fair.clock, w_frames, w_args, w_heap, w_applies, trivial, trivial, w_case⟩
end start1
theorem witness_1 : WitnessClaimed_1 := ⟨start1.p0, start1.e0, start1.about1, start1.theMethod, start1.args0, start1.below0, start1.atStart⟩
end Jvm.Pilot.@@N@@
