import JvmDerived
import JvmDerived.Pilot.@@N@@Statement
import JvmDerived.Pilot.@@N@@Code
set_option linter.unusedVariables false
set_option linter.unusedSimpArgs false
namespace Jvm.OwnEv
open Sem ClassFile Op Lib Jvm.Stand Jvm.Free Jvm.LawKit Jvm.RoadKit
/-! PART 1: a small evaluator of bytecode over a memory of its own (defs alone). A memory: the cells made (kind, class, size), and what they hold: ints, longs, references. -/
abbrev ELay : Type := List (Nat × String × Nat)
abbrev EMem : Type := ELay × (Nat → Nat → Int32) × (Nat → Nat → Int64) × (Nat → Nat → Value)
def up {α : Type} (f : Nat → Nat → α) (a k : Nat) (v : α) : Nat → Nat → α := fun x y => if x = a ∧ y = k then v else f x y
def szL (L : ELay) : Nat := (L.map fun c => c.2.2).sum
def wt (vs : List Value) : Nat := (vs.map fun v => v.category).sum
def setL : List Slot → Nat → Slot → Option (List Slot)
  | [], _, _ => none
  | _ :: t, 0, x => some (x :: t)
  | h :: t, n + 1, x => match setL t n x with
    | some t' => some (h :: t')
    | none => none
def storeSelfL (l : List Slot) (i : Nat) (v : Value) : Option (List Slot) :=
  match setL l i (.val v) with
  | none => none
  | some l1 => if v.category = 2 then
      match l1[i + 1]? with
      | none => none
      | some (.val old) => if old.category = 2 then
          match setL l1 (i + 2) .unset with
          | none => none
          | some l2 => setL l2 (i + 1) .second
        else setL l1 (i + 1) .second
      | some _ => setL l1 (i + 1) .second
    else some l1
def storeL (l : List Slot) (i : Nat) (v : Value) : Option (List Slot) :=
  match l[i]? with
  | none => none
  | some .second => match setL l (i - 1) .unset with
    | none => none
    | some l' => storeSelfL l' i v
  | some (.val old) => if old.category = 2 then
      match setL l (i + 1) .unset with
      | none => none
      | some l' => storeSelfL l' i v
    else storeSelfL l i v
  | some .unset => storeSelfL l i v
def fillL : List Value → List Slot
  | [] => []
  | v :: t => if v.category = 2 then .val v :: .second :: fillL t else .val v :: fillL t
def entryL (as : List Value) (maxL : Nat) : List Slot := fillL as ++ List.replicate (maxL - (fillL as).length) .unset
/-! what the sheet's words say -/
def kindD (d : String) : Nat := match parseFieldDescriptor d with
  | some .int => 1
  | some .boolean => 2
  | some .long => 3
  | some (.array _) => 4
  | some (.object _) => 4
  | _ => 0
def layGo (C n : String) : List Jvm.Cond → Nat → Option (Nat × String × Bool)
  | [], _ => none
  | .lays c o n' d :: t, k => if n' = n ∧ c = C ∧ o = C then some (k, d, false) else layGo C n t (k + 1)
  | .laysFinal c o n' d :: t, k => if n' = n ∧ c = C ∧ o = C then some (k, d, true) else layGo C n t (k + 1)
  | _ :: t, k => layGo C n t (k + 1)
def layAt (W : List Jvm.Cond) (C n : String) : Option (Nat × String × Bool) := layGo C n W 0
def fieldLk (own : String) (idx : Nat) : List Jvm.Cond → Option (String × String × String)
  | [] => none
  | .fieldLink o i r n d :: t => if i = idx ∧ o = own then some (r, n, d) else fieldLk own idx t
  | _ :: t => fieldLk own idx t
/-- the class, the field's place, its kind, final or not -/
def fieldAt (W : List Jvm.Cond) (own : String) (idx : Nat) : Option (String × Nat × Nat × Bool) :=
  match fieldLk own idx W with
  | none => none
  | some (r, n, d) => match layAt W r n with
    | none => none
    | some (k, d', fin) => if d' = d ∧ kindD d ≠ 0 then some (r, k, kindD d, fin) else none
def methodLk (own : String) (idx : Nat) : List Jvm.Cond → Option MethodName
  | [] => none
  | .methodLink o i y :: t => if i = idx ∧ o = own then some y else methodLk own idx t
  | _ :: t => methodLk own idx t
def classLk (own : String) (idx : Nat) : List Jvm.Cond → Option String
  | [] => none
  | .classLink o i C :: t => if i = idx ∧ o = own then some C else classLk own idx t
  | _ :: t => classLk own idx t
def instLk (C : String) : List Jvm.Cond → Option Nat
  | [] => none
  | .instantiable c n :: t => if c = C then some n else instLk C t
  | _ :: t => instLk C t
def meq (z y : MethodName) : Bool := decide (z.name = y.name) && (decide (z.desc = y.desc) && decide (z.cls = y.cls))
def codeLk (y : MethodName) : List Jvm.Cond → Option (ByteArray × Nat × Option FieldType)
  | [] => none
  | .code z b n r :: t => if meq z y = true then some (b, n, r) else codeLk y t
  | _ :: t => codeLk y t
def intLk (own : String) (idx : Nat) : List Jvm.Cond → Option Int32
  | [] => none
  | .constant o i v :: t => if i = idx ∧ o = own then some v else intLk own idx t
  | _ :: t => intLk own idx t
def longLk (own : String) (idx : Nat) : List Jvm.Cond → Option Int64
  | [] => none
  | .constantLong o i v :: t => if i = idx ∧ o = own then some v else longLk own idx t
  | _ :: t => longLk own idx t
def hasInit (C : String) : List Jvm.Cond → Bool
  | [] => false
  | .initialized c :: t => if c = C then true else hasInit C t
  | _ :: t => hasInit C t
def hasInst (y : MethodName) : List Jvm.Cond → Bool
  | [] => false
  | .instanceMethod z :: t => if meq z y = true then true else hasInst y t
  | _ :: t => hasInst y t
def hasPriv (y : MethodName) : List Jvm.Cond → Bool
  | [] => false
  | .privateMethod z :: t => if meq z y = true then true else hasPriv y t
  | _ :: t => hasPriv y t
def hasStat (y : MethodName) : List Jvm.Cond → Bool
  | [] => false
  | .static z :: t => if meq z y = true then true else hasStat y t
  | _ :: t => hasStat y t
def hasDecl (y : MethodName) : List Jvm.Cond → Bool
  | [] => false
  | .declares z :: t => if meq z y = true then true else hasDecl y t
  | _ :: t => hasDecl y t
def hasSel (y : MethodName) : List Jvm.Cond → Bool
  | [] => false
  | .selects C z z' :: t => if meq z y = true ∧ meq z' y = true ∧ C = y.cls then true else hasSel y t
  | _ :: t => hasSel y t
def hasArr (ty : FieldType) : List Jvm.Cond → Bool
  | [] => false
  | .arrayClass z :: t => if z = ty then true else hasArr ty t
  | _ :: t => hasArr ty t
def newAt (W : List Jvm.Cond) (own : String) (idx : Nat) : Option (String × Nat) :=
  match classLk own idx W with
  | none => none
  | some C => match instLk C W with
    | none => none
    | some n => if hasInit C W = true then some (C, n) else none
/-- kind: 0 invokevirtual of a public method, 1 of a private one, 2 a constructor, 3 static; the method, how many arguments, its body -/
def callAt (W : List Jvm.Cond) (own : String) (idx : Nat) (kd : Nat) : Option (MethodName × Nat × ByteArray × Nat × Option FieldType) :=
  match methodLk own idx W with
  | none => none
  | some z => match codeLk z W, parseMethodDescriptor z.desc with
    | some (b, n, r), some sig =>
      if hasInit z.cls W = true ∧ plainName z.cls = true ∧ z.cls ≠ "java/lang/invoke/MethodHandle" ∧ z.cls ≠ "java/lang/invoke/VarHandle" ∧
         ((kd = 0 ∧ hasDecl z W = true ∧ hasSel z W = true ∧ hasInst z W = true) ∨ (kd = 1 ∧ hasPriv z W = true ∧ hasInst z W = true ∧ (instLk z.cls W).isSome = true) ∨ (kd = 2 ∧ z.name = "<init>" ∧ hasInst z W = true ∧ r = none) ∨ (kd = 3 ∧ hasStat z W = true))
      then some (z, sig.parameters.length, b, n, r) else none
    | _, _ => none
def objInitAt (W : List Jvm.Cond) (own : String) (idx : Nat) : Bool :=
  match methodLk own idx W, codeLk Lib.objectInit W with
  | some z, some (b, n, r) => decide (z = Lib.objectInit) && hasInst Lib.objectInit W && decide (b = ⟨#[0xb1]⟩) && decide (n = 1) && decide (r = none)
  | _, _ => false
def jump (pc : Nat) (o : Int) : Option Nat := match (pc : Int) + o with
  | .ofNat n => some n
  | .negSucc _ => none
def getV (kd : Nat) (i : Int32) (j : Int64) (r : Value) : Value := match kd with
  | 1 => .int i
  | 2 => .int i
  | 3 => .long j
  | _ => r
def inb (j : Int32) (n : Nat) : Bool := decide (¬ j < 0) && decide (j.toNatClampNeg < n)
def lenOk (len : Nat) : Instr → Bool
  | .aload _ | .iload _ | .lload _ | .astore _ | .istore _ | .lstore _ | .bipush _ | .ldc _ | .newarray _ => len == 2
  | .sipush _ | .iinc _ _ | .ldc_w _ | .ldc2_w _ | .goto _ | .ifCond _ _ | .if_icmp _ _ | .ifnull _ | .ifnonnull _ | .getfield _ | .putfield _ | .new _ | .invokevirtual _ | .invokespecial _ | .invokestatic _ => len == 3
  | .tableswitch _ _ _ _ => true
  | _ => len == 1
/-- the steps that leave the memory as it is -/
def execP (W : List Jvm.Cond) (F Lb : Nat) (y : MethodName) (ins : Instr) (pc len : Nat) (ls : List Slot) (st : List Value) (M : EMem) : Option (Nat × List Slot × List Value) :=
  match ins with
  | .aload k => match ls[k]? with
    | some (.val (.ref a)) => some (pc + 2, ls, .ref a :: st)
    | some (.val .null) => some (pc + 2, ls, .null :: st)
    | _ => none
  | .aload_n k => match ls[k.val]? with
    | some (.val (.ref a)) => some (pc + 1, ls, .ref a :: st)
    | some (.val .null) => some (pc + 1, ls, .null :: st)
    | _ => none
  | .iload k => match ls[k]? with
    | some (.val (.int v)) => some (pc + 2, ls, .int v :: st)
    | _ => none
  | .iload_n k => match ls[k.val]? with
    | some (.val (.int v)) => some (pc + 1, ls, .int v :: st)
    | _ => none
  | .lload k => match ls[k]? with
    | some (.val (.long v)) => some (pc + 2, ls, .long v :: st)
    | _ => none
  | .lload_n k => match ls[k.val]? with
    | some (.val (.long v)) => some (pc + 1, ls, .long v :: st)
    | _ => none
  | .istore k => match st with
    | .int x :: r => match storeL ls k (.int x) with
      | some l' => some (pc + 2, l', r)
      | none => none
    | _ => none
  | .istore_n k => match st with
    | .int x :: r => match storeL ls k.val (.int x) with
      | some l' => some (pc + 1, l', r)
      | none => none
    | _ => none
  | .lstore k => match st with
    | .long x :: r => match storeL ls k (.long x) with
      | some l' => some (pc + 2, l', r)
      | none => none
    | _ => none
  | .lstore_n k => match st with
    | .long x :: r => match storeL ls k.val (.long x) with
      | some l' => some (pc + 1, l', r)
      | none => none
    | _ => none
  | .astore k => match st with
    | .ref x :: r => match storeL ls k (.ref x) with
      | some l' => some (pc + 2, l', r)
      | none => none
    | _ => none
  | .astore_n k => match st with
    | .ref x :: r => match storeL ls k.val (.ref x) with
      | some l' => some (pc + 1, l', r)
      | none => none
    | _ => none
  | .iinc k d => match ls[k]? with
    | some (.val (.int v)) => match storeL ls k (.int (v + Int32.ofInt d)) with
      | some l' => some (pc + 3, l', st)
      | none => none
    | _ => none
  | .iconst i => some (pc + 1, ls, .int (Int32.ofInt i) :: st)
  | .bipush i => some (pc + 2, ls, .int (Int8.ofInt i).toInt32 :: st)
  | .sipush i => some (pc + 3, ls, .int (Int16.ofInt i).toInt32 :: st)
  | .lconst k => some (pc + 1, ls, .long (Int64.ofNat k) :: st)
  | .ldc i => match intLk y.cls i W with
    | some v => some (pc + 2, ls, .int v :: st)
    | none => none
  | .ldc_w i => match intLk y.cls i W with
    | some v => some (pc + 3, ls, .int v :: st)
    | none => none
  | .ldc2_w i => match longLk y.cls i W with
    | some v => some (pc + 3, ls, .long v :: st)
    | none => none
  | .iadd => match st with
    | .int b :: .int a :: r => some (pc + 1, ls, .int (a + b) :: r)
    | _ => none
  | .isub => match st with
    | .int b :: .int a :: r => some (pc + 1, ls, .int (a - b) :: r)
    | _ => none
  | .imul => match st with
    | .int b :: .int a :: r => some (pc + 1, ls, .int (a * b) :: r)
    | _ => none
  | .iand => match st with
    | .int b :: .int a :: r => some (pc + 1, ls, .int (a &&& b) :: r)
    | _ => none
  | .ior => match st with
    | .int b :: .int a :: r => some (pc + 1, ls, .int (a ||| b) :: r)
    | _ => none
  | .ixor => match st with
    | .int b :: .int a :: r => some (pc + 1, ls, .int (a ^^^ b) :: r)
    | _ => none
  | .ishl => match st with
    | .int b :: .int a :: r => some (pc + 1, ls, .int (a <<< (b &&& 31)) :: r)
    | _ => none
  | .ishr => match st with
    | .int b :: .int a :: r => some (pc + 1, ls, .int (a >>> (b &&& 31)) :: r)
    | _ => none
  | .iushr => match st with
    | .int b :: .int a :: r => some (pc + 1, ls, .int (XT.ushr a b) :: r)
    | _ => none
  | .idiv => match st with
    | .int b :: .int a :: r => if b = 0 then none else some (pc + 1, ls, .int (a / b) :: r)
    | _ => none
  | .irem => match st with
    | .int b :: .int a :: r => if b = 0 then none else some (pc + 1, ls, .int (a - (a / b) * b) :: r)
    | _ => none
  | .ineg => match st with
    | .int a :: r => some (pc + 1, ls, .int (-a) :: r)
    | _ => none
  | .ladd => match st with
    | .long b :: .long a :: r => some (pc + 1, ls, .long (a + b) :: r)
    | _ => none
  | .lsub => match st with
    | .long b :: .long a :: r => some (pc + 1, ls, .long (a - b) :: r)
    | _ => none
  | .lmul => match st with
    | .long b :: .long a :: r => some (pc + 1, ls, .long (a * b) :: r)
    | _ => none
  | .land => match st with
    | .long b :: .long a :: r => some (pc + 1, ls, .long (a &&& b) :: r)
    | _ => none
  | .lor => match st with
    | .long b :: .long a :: r => some (pc + 1, ls, .long (a ||| b) :: r)
    | _ => none
  | .lxor => match st with
    | .long b :: .long a :: r => some (pc + 1, ls, .long (a ^^^ b) :: r)
    | _ => none
  | .lshl => match st with
    | .int b :: .long a :: r => some (pc + 1, ls, .long (a <<< (b.toInt64 &&& 63)) :: r)
    | _ => none
  | .lshr => match st with
    | .int b :: .long a :: r => some (pc + 1, ls, .long (a >>> (b.toInt64 &&& 63)) :: r)
    | _ => none
  | .lushr => match st with
    | .int b :: .long a :: r => some (pc + 1, ls, .long (XT.ushrL a b) :: r)
    | _ => none
  | .ldiv => match st with
    | .long b :: .long a :: r => if b = 0 then none else some (pc + 1, ls, .long (a / b) :: r)
    | _ => none
  | .lrem => match st with
    | .long b :: .long a :: r => if b = 0 then none else some (pc + 1, ls, .long (a - (a / b) * b) :: r)
    | _ => none
  | .lneg => match st with
    | .long a :: r => some (pc + 1, ls, .long (-a) :: r)
    | _ => none
  | .lcmp => match st with
    | .long b :: .long a :: r => some (pc + 1, ls, .int (XT.cmpL a b) :: r)
    | _ => none
  | .i2l => match st with
    | .int a :: r => some (pc + 1, ls, .long a.toInt64 :: r)
    | _ => none
  | .l2i => match st with
    | .long a :: r => some (pc + 1, ls, .int a.toInt32 :: r)
    | _ => none
  | .i2s => match st with
    | .int a :: r => some (pc + 1, ls, .int a.toInt16.toInt32 :: r)
    | _ => none
  | .dup => match st with
    | .int a :: r => some (pc + 1, ls, .int a :: .int a :: r)
    | .ref a :: r => some (pc + 1, ls, .ref a :: .ref a :: r)
    | _ => none
  | .dup2 => match st with
    | .int b :: .int a :: r => some (pc + 1, ls, .int b :: .int a :: .int b :: .int a :: r)
    | .int b :: .ref a :: r => some (pc + 1, ls, .int b :: .ref a :: .int b :: .ref a :: r)
    | .long b :: r => some (pc + 1, ls, .long b :: .long b :: r)
    | _ => none
  | .dup_x1 => match st with
    | .int b :: .ref a :: r => some (pc + 1, ls, .int b :: .ref a :: .int b :: r)
    | _ => none
  | .pop => match st with
    | .int _ :: r => some (pc + 1, ls, r)
    | .ref _ :: r => some (pc + 1, ls, r)
    | _ => none
  | .goto o => match jump pc o with
    | some t => some (t, ls, st)
    | none => none
  | .ifCond cd o => match st with
    | .int a :: r => match jump pc o with
      | some t => some (if ifCond.holds cd a = true then t else pc + 3, ls, r)
      | none => none
    | _ => none
  | .if_icmp cd o => match st with
    | .int b :: .int a :: r => match jump pc o with
      | some t => some (if if_icmp.holds cd a b = true then t else pc + 3, ls, r)
      | none => none
    | _ => none
  | .ifnull o => match st with
    | .null :: r => match jump pc o with
      | some t => some (t, ls, r)
      | none => none
    | .ref _ :: r => some (pc + 3, ls, r)
    | _ => none
  | .ifnonnull o => match st with
    | .ref _ :: r => match jump pc o with
      | some t => some (t, ls, r)
      | none => none
    | .null :: r => some (pc + 3, ls, r)
    | _ => none
  | .tableswitch dflt low high offs => match st with
    | .int i :: r => if i.toInt < low ∨ i.toInt > high then
        match jump pc dflt with
        | some t => some (t, ls, r)
        | none => none
      else match offs[(i.toInt - low).toNat]? with
        | none => none
        | some o => match jump pc o with
          | some t => some (t, ls, r)
          | none => none
    | _ => none
  | .getfield idx => match st with
    | .ref a :: r => match fieldAt W y.cls idx, M.1[a]? with
      | some (C, k, kd, _), some (0, C', _) => if C' = C then some (pc + 3, ls, getV kd (M.2.1 a k) (M.2.2.1 a k) (M.2.2.2 a k) :: r) else none
      | _, _ => none
    | _ => none
  | .arraylength => match st with
    | .ref a :: r => match M.1[a]? with
      | some (1, _, n) => some (pc + 1, ls, .int n.toInt32 :: r)
      | some (2, _, n) => some (pc + 1, ls, .int n.toInt32 :: r)
      | some (3, _, n) => some (pc + 1, ls, .int n.toInt32 :: r)
      | _ => none
    | _ => none
  | .iaload => match st with
    | .int j :: .ref a :: r => match M.1[a]? with
      | some (1, _, n) => if inb j n = true then some (pc + 1, ls, .int (M.2.1 a j.toNatClampNeg) :: r) else none
      | _ => none
    | _ => none
  | .baload => match st with
    | .int j :: .ref a :: r => match M.1[a]? with
      | some (3, _, n) => if inb j n = true then some (pc + 1, ls, .int (M.2.1 a j.toNatClampNeg) :: r) else none
      | _ => none
    | _ => none
  | .laload => match st with
    | .int j :: .ref a :: r => match M.1[a]? with
      | some (2, _, n) => if inb j n = true then some (pc + 1, ls, .long (M.2.2.1 a j.toNatClampNeg) :: r) else none
      | _ => none
    | _ => none
  | .invokespecial idx => match st with
    | .ref _ :: r => if objInitAt W y.cls idx = true ∧ 1 ≤ F ∧ wt r + 12 ≤ Lb then some (pc + 3, ls, r) else none
    | _ => none
  | _ => none
/-- the steps that write or make; ro: the cells below it are not written -/
def execM (W : List Jvm.Cond) (ro : Nat) (y : MethodName) (ins : Instr) (st : List Value) (M : EMem) : Option (List Value × EMem) :=
  match ins with
  | .putfield idx => match st with
    | v :: .ref a :: r => match fieldAt W y.cls idx, M.1[a]? with
      | some (C, k, kd, fin), some (0, C', _) =>
        if C' = C ∧ ro ≤ a ∧ (fin = false ∨ (y.cls = C ∧ y.name = "<init>")) ∧ (instLk C W).isSome = true then
          match kd, v with
          | 1, .int x => some (r, M.1, up M.2.1 a k x, M.2.2.1, M.2.2.2)
          | 2, .int x => some (r, M.1, up M.2.1 a k (x &&& 1), M.2.2.1, M.2.2.2)
          | 3, .long x => some (r, M.1, M.2.1, up M.2.2.1 a k x, M.2.2.2)
          | 4, .ref b => some (r, M.1, M.2.1, M.2.2.1, up M.2.2.2 a k (.ref b))
          | _, _ => none
        else none
      | _, _ => none
    | _ => none
  | .iastore => match st with
    | .int x :: .int j :: .ref a :: r => match M.1[a]? with
      | some (1, _, n) => if inb j n = true ∧ ro ≤ a then some (r, M.1, up M.2.1 a j.toNatClampNeg x, M.2.2.1, M.2.2.2) else none
      | _ => none
    | _ => none
  | .bastore => match st with
    | .int x :: .int j :: .ref a :: r => match M.1[a]? with
      | some (3, _, n) => if inb j n = true ∧ ro ≤ a then some (r, M.1, up M.2.1 a j.toNatClampNeg (x &&& 1), M.2.2.1, M.2.2.2) else none
      | _ => none
    | _ => none
  | .lastore => match st with
    | .long x :: .int j :: .ref a :: r => match M.1[a]? with
      | some (2, _, n) => if inb j n = true ∧ ro ≤ a then some (r, M.1, M.2.1, up M.2.2.1 a j.toNatClampNeg x, M.2.2.2) else none
      | _ => none
    | _ => none
  | .new idx => match newAt W y.cls idx with
    | some (C, n) => some (.ref M.1.length :: st, M.1 ++ [(0, C, n)], M.2.1, M.2.2.1, M.2.2.2)
    | none => none
  | .newarray .int => match st with
    | .int n :: r => if ¬ n < 0 ∧ n.toNatClampNeg * 8 ≤ 536870912 ∧ hasArr .int W = true then some (.ref M.1.length :: r, M.1 ++ [(1, "", n.toNatClampNeg)], M.2.1, M.2.2.1, M.2.2.2) else none
    | _ => none
  | .newarray .long => match st with
    | .int n :: r => if ¬ n < 0 ∧ n.toNatClampNeg * 8 ≤ 536870912 ∧ hasArr .long W = true then some (.ref M.1.length :: r, M.1 ++ [(2, "", n.toNatClampNeg)], M.2.1, M.2.2.1, M.2.2.2) else none
    | _ => none
  | .newarray .boolean => match st with
    | .int n :: r => if ¬ n < 0 ∧ n.toNatClampNeg * 8 ≤ 536870912 ∧ hasArr .boolean W = true then some (.ref M.1.length :: r, M.1 ++ [(3, "", n.toNatClampNeg)], M.2.1, M.2.2.1, M.2.2.2) else none
    | _ => none
  | _ => none
def retOf (ins : Instr) (len : Nat) (ret : Option FieldType) (st : List Value) : Option (Option Value) :=
  if len = 1 then
    match ins, ret, st with
    | .return_, none, [] => some none
    | .ireturn, some .int, [.int z] => some (some (.int z))
    | .ireturn, some .boolean, [.int z] => some (some (.int (z &&& 1)))
    | .lreturn, some .long, [.long z] => some (some (.long z))
    | _, _, _ => none
  else none
/-- the callee, her arguments (the receiver first), what lies under, her body -/
def callOf (W : List Jvm.Cond) (y : MethodName) (ins : Instr) (len : Nat) (st : List Value) (M : EMem) : Option (MethodName × List Value × List Value × ByteArray × Nat × Option FieldType) :=
  if len = 3 then
    match ins with
    | .invokevirtual idx => match callAt W y.cls idx 1 with
      | some (z, na, b, n, r) => match (st.drop na) with
        | .ref a :: rest => match M.1[a]? with
          | some (0, C, _) => if C = z.cls ∧ (st.take na).length = na then some (z, .ref a :: (st.take na).reverse, rest, b, n, r) else none
          | _ => none
        | _ => none
      | none => match callAt W y.cls idx 0 with
        | some (z, na, b, n, r) => match (st.drop na) with
          | .ref a :: rest => match M.1[a]? with
            | some (0, C, _) => if C = z.cls ∧ (st.take na).length = na then some (z, .ref a :: (st.take na).reverse, rest, b, n, r) else none
            | _ => none
          | _ => none
        | none => none
    | .invokespecial idx => match callAt W y.cls idx 2 with
      | some (z, na, b, n, r) => match (st.drop na) with
        | .ref a :: rest => if (st.take na).length = na then some (z, .ref a :: (st.take na).reverse, rest, b, n, r) else none
        | _ => none
      | none => none
    | .invokestatic idx => match callAt W y.cls idx 3 with
      | some (z, na, b, n, r) => if (st.take na).length = na then some (z, (st.take na).reverse, st.drop na, b, n, r) else none
      | none => none
    | _ => none
  else none
def run (W : List Jvm.Cond) (ro : Nat) : Nat → Nat → Nat → MethodName → ByteArray → Option FieldType → Nat → List Slot → List Value → EMem → Option (Option Value × EMem)
  | 0, _, _, _, _, _, _, _, _, _ => none
  | n + 1, F, Lb, y, code, ret, pc, ls, st, M =>
    match decode code pc with
    | .ok (ins, len) =>
      match (if lenOk len ins = true then execP W F Lb y ins pc len ls st M else none) with
      | some (pc', ls', st') => run W ro n F Lb y code ret pc' ls' st' M
      | none => match (if lenOk len ins = true then execM W ro y ins st M else none) with
        | some (st', M') => run W ro n F Lb y code ret (pc + len) ls st' M'
        | none => match retOf ins len ret st with
          | some v => some (v, M)
          | none => match callOf W y ins len st M with
            | some (z, as, rest, b, mx, r) =>
              if 1 ≤ F ∧ wt rest + (mx + 11) ≤ Lb ∧ (fillL as).length ≤ mx then
                match run W ro n (F - 1) (Lb - (wt rest + (mx + 11))) z b r 0 (entryL as mx) [] M with
                | some (v, M') => run W ro n F Lb y code ret (pc + 3) ls (v.toList ++ rest) M'
                | none => none
              else none
            | none => none
    | .error _ => none
end Jvm.OwnEv
namespace Jvm.OwnEv
open Sem ClassFile Op Lib Jvm.Stand Jvm.Free Jvm.LawKit Jvm.RoadKit
/-! PART 2: small facts: the variables, the words -/
def conc (ρ : Nat → Addr) : Value → Value
  | .ref a => .ref (ρ a)
  | v => v
def concS (ρ : Nat → Addr) : Slot → Slot
  | .val v => .val (conc ρ v)
  | s => s
theorem conc_cat (ρ : Nat → Addr) (v : Value) : (conc ρ v).category = v.category := by cases v <;> rfl
theorem wt_conc (ρ : Nat → Addr) (vs : List Value) : ((vs.map (conc ρ)).map fun v => v.category).sum = wt vs := by
  unfold wt
  rw [List.map_map]
  congr 1
  exact List.map_congr_left fun v _ => conc_cat ρ v
abbrev cl (ρ : Nat → Addr) (ls : List Slot) : Array Slot := (ls.map (concS ρ)).toArray
abbrev cs (ρ : Nat → Addr) (st : List Value) : List Value := st.map (conc ρ)
theorem get_cl {ρ : Nat → Addr} {ls : List Slot} {k : Nat} {x : Slot} (h : ls[k]? = some x) : (cl ρ ls)[k]? = some (concS ρ x) := by simp [cl, h]
theorem setL_some : ∀ {l : List Slot} {i : Nat} {x : Slot} {l' : List Slot}, setL l i x = some l' → i < l.length ∧ l' = l.set i x
  | [], _, _, _, h => by simp [setL] at h
  | _ :: t, 0, x, l', h => by simp only [setL, Option.some.injEq] at h; subst h; simp
  | y :: t, n + 1, x, l', h => by
    simp only [setL] at h
    split at h
    · rename_i t' ht
      cases h
      obtain ⟨h1, h2⟩ := setL_some ht
      subst h2
      exact ⟨by simp; omega, by simp⟩
    · cases h
theorem setAt_conc {ρ : Nat → Addr} {l : List Slot} {i : Nat} {x : Slot} {l' : List Slot} (h : setL l i x = some l') : setAt (cl ρ l) i (concS ρ x) = some (cl ρ l') := by
  obtain ⟨hi, rfl⟩ := setL_some h
  simp [setAt, hi, cl, List.map_set]
theorem setL_len {l : List Slot} {i : Nat} {x : Slot} {l' : List Slot} (h : setL l i x = some l') : l'.length = l.length := by
  obtain ⟨-, rfl⟩ := setL_some h; simp
theorem cl_get {ρ : Nat → Addr} {l : List Slot} {i : Nat} : (cl ρ l)[i]? = (l[i]?).map (concS ρ) := by simp [cl]
theorem storeSelf_conc {ρ : Nat → Addr} {l : List Slot} {i : Nat} {v : Value} {l' : List Slot} (h : storeSelfL l i v = some l') : storeSelf (cl ρ l) i (conc ρ v) = some (cl ρ l') := by
  unfold storeSelfL at h
  split at h
  · cases h
  rename_i l1 h1
  have e1 : setAt (cl ρ l) i (.val (conc ρ v)) = some (cl ρ l1) := setAt_conc (ρ := ρ) h1
  unfold storeSelf
  rw [e1]
  simp only [Option.bind_eq_bind, Option.bind_some, conc_cat]
  split at h
  · rename_i hc
    rw [if_pos hc, cl_get]
    split at h
    · cases h
    · rename_i old ho
      rw [ho]
      simp only [Option.map_some, Option.bind_some, concS, conc_cat]
      split at h
      · rename_i hc2
        rw [if_pos hc2]
        split at h
        · cases h
        · rename_i l2 h2
          have e2 : setAt (cl ρ l1) (i + 2) .unset = some (cl ρ l2) := setAt_conc (ρ := ρ) h2
          have e3 : setAt (cl ρ l2) (i + 1) .second = some (cl ρ l') := setAt_conc (ρ := ρ) h
          rw [e2]
          exact e3
      · rename_i hc2
        rw [if_neg hc2]
        exact setAt_conc (ρ := ρ) h
    · rename_i x hx ho
      have e3 : setAt (cl ρ l1) (i + 1) .second = some (cl ρ l') := setAt_conc (ρ := ρ) h
      rw [ho]
      cases x with
      | val w => exact absurd rfl (hx w)
      | unset => exact e3
      | second => exact e3
  · rename_i hc
    rw [if_neg hc]
    cases h
    rfl
theorem storeL_conc {ρ : Nat → Addr} {l : List Slot} {i : Nat} {v : Value} {l' : List Slot} (h : storeL l i v = some l') : storeLocals (cl ρ l) i (conc ρ v) = some (cl ρ l') := by
  unfold storeL at h
  unfold storeLocals
  rw [cl_get]
  split at h
  · cases h
  · rename_i ho
    rw [ho]
    split at h
    · cases h
    · rename_i l1 h1
      have e1 : setAt (cl ρ l) (i - 1) .unset = some (cl ρ l1) := setAt_conc (ρ := ρ) h1
      have e2 := storeSelf_conc (ρ := ρ) h
      simp only [Option.map_some, Option.bind_eq_bind, Option.bind_some, concS, e1]
      exact e2
  · rename_i old ho
    rw [ho]
    simp only [Option.map_some, Option.bind_eq_bind, Option.bind_some, concS, conc_cat]
    split at h
    · rename_i hc
      rw [if_pos hc]
      split at h
      · cases h
      · rename_i l1 h1
        have e1 : setAt (cl ρ l) (i + 1) .unset = some (cl ρ l1) := setAt_conc (ρ := ρ) h1
        rw [e1]
        exact storeSelf_conc (ρ := ρ) h
    · rename_i hc
      rw [if_neg hc]
      exact storeSelf_conc (ρ := ρ) h
  · rename_i ho
    rw [ho]
    exact storeSelf_conc (ρ := ρ) h
theorem storeSelfL_len {l : List Slot} {i : Nat} {v : Value} {l' : List Slot} (h : storeSelfL l i v = some l') : l'.length = l.length := by
  unfold storeSelfL at h
  split at h
  · cases h
  rename_i l1 h1
  have e1 := setL_len h1
  split at h
  · split at h
    · cases h
    · split at h
      · split at h
        · cases h
        · rename_i l2 h2
          rw [setL_len h, setL_len h2, e1]
      · rw [setL_len h, e1]
    · rw [setL_len h, e1]
  · cases h; exact e1
theorem storeL_len {l : List Slot} {i : Nat} {v : Value} {l' : List Slot} (h : storeL l i v = some l') : l'.length = l.length := by
  unfold storeL at h
  split at h
  · cases h
  · split at h
    · cases h
    · rename_i l1 h1
      rw [storeSelfL_len h, setL_len h1]
  · split at h
    · split at h
      · cases h
      · rename_i l1 h1
        rw [storeSelfL_len h, setL_len h1]
    · exact storeSelfL_len h
  · exact storeSelfL_len h
theorem fill_fold (ρ : Nat → Addr) : ∀ (as : List Value) (acc : Array Slot), (as.map (conc ρ)).foldl (fun acc v => if v.category = 2 then (acc.push (Slot.val v)).push .second else acc.push (.val v)) acc = acc ++ ((fillL as).map (concS ρ)).toArray
  | [], acc => by simp [fillL]
  | v :: t, acc => by
    simp only [List.map_cons, List.foldl_cons, conc_cat]
    rw [fill_fold ρ t]
    rw [show fillL (v :: t) = if v.category = 2 then .val v :: .second :: fillL t else .val v :: fillL t from rfl]
    apply Array.ext'
    split
    · simp [concS]
    · simp [concS]
theorem args_conc (ρ : Nat → Addr) (as : List Value) (mx : Nat) : argsToLocals (as.map (conc ρ)).toArray mx = cl ρ (entryL as mx) := by
  unfold argsToLocals
  simp only [List.foldl_toArray, fill_fold ρ as]
  simp [entryL, cl, concS]
theorem entryL_len {as : List Value} {mx : Nat} (h : (fillL as).length ≤ mx) : (entryL as mx).length = mx := by simp [entryL]; omega
theorem meq_eq {z y : MethodName} (h : meq z y = true) : z = y := by
  simp only [meq, Bool.and_eq_true, decide_eq_true_eq] at h
  obtain ⟨h1, h2, h3⟩ := h
  cases z; cases y
  simp only at h1 h2 h3
  subst h1 h2 h3
  rfl
/-! the words -/
theorem fieldLk_mem {own : String} {idx : Nat} {r n d : String} : ∀ {t : List Jvm.Cond}, fieldLk own idx t = some (r, n, d) → Jvm.Cond.fieldLink own idx r n d ∈ t
  | [], h => by simp [fieldLk] at h
  | w :: t, h => by
    unfold fieldLk at h
    split at h
    · rename_i heq; cases heq
    · rename_i heq
      cases heq
      split at h
      · rename_i hc; obtain ⟨rfl, rfl⟩ := hc; cases h; exact List.mem_cons_self
      · exact List.mem_cons_of_mem _ (fieldLk_mem h)
    · rename_i heq; cases heq; exact List.mem_cons_of_mem _ (fieldLk_mem h)
theorem methodLk_mem {own : String} {idx : Nat} {y : MethodName} : ∀ {t : List Jvm.Cond}, methodLk own idx t = some y → Jvm.Cond.methodLink own idx y ∈ t
  | [], h => by simp [methodLk] at h
  | w :: t, h => by
    unfold methodLk at h
    split at h
    · rename_i heq; cases heq
    · rename_i heq
      cases heq
      split at h
      · rename_i hc; obtain ⟨rfl, rfl⟩ := hc; cases h; exact List.mem_cons_self
      · exact List.mem_cons_of_mem _ (methodLk_mem h)
    · rename_i heq; cases heq; exact List.mem_cons_of_mem _ (methodLk_mem h)
theorem classLk_mem {own : String} {idx : Nat} {y : String} : ∀ {t : List Jvm.Cond}, classLk own idx t = some y → Jvm.Cond.classLink own idx y ∈ t
  | [], h => by simp [classLk] at h
  | w :: t, h => by
    unfold classLk at h
    split at h
    · rename_i heq; cases heq
    · rename_i heq
      cases heq
      split at h
      · rename_i hc; obtain ⟨rfl, rfl⟩ := hc; cases h; exact List.mem_cons_self
      · exact List.mem_cons_of_mem _ (classLk_mem h)
    · rename_i heq; cases heq; exact List.mem_cons_of_mem _ (classLk_mem h)
theorem intLk_mem {own : String} {idx : Nat} {y : Int32} : ∀ {t : List Jvm.Cond}, intLk own idx t = some y → Jvm.Cond.constant own idx y ∈ t
  | [], h => by simp [intLk] at h
  | w :: t, h => by
    unfold intLk at h
    split at h
    · rename_i heq; cases heq
    · rename_i heq
      cases heq
      split at h
      · rename_i hc; obtain ⟨rfl, rfl⟩ := hc; cases h; exact List.mem_cons_self
      · exact List.mem_cons_of_mem _ (intLk_mem h)
    · rename_i heq; cases heq; exact List.mem_cons_of_mem _ (intLk_mem h)
theorem longLk_mem {own : String} {idx : Nat} {y : Int64} : ∀ {t : List Jvm.Cond}, longLk own idx t = some y → Jvm.Cond.constantLong own idx y ∈ t
  | [], h => by simp [longLk] at h
  | w :: t, h => by
    unfold longLk at h
    split at h
    · rename_i heq; cases heq
    · rename_i heq
      cases heq
      split at h
      · rename_i hc; obtain ⟨rfl, rfl⟩ := hc; cases h; exact List.mem_cons_self
      · exact List.mem_cons_of_mem _ (longLk_mem h)
    · rename_i heq; cases heq; exact List.mem_cons_of_mem _ (longLk_mem h)
theorem instLk_mem {C : String} {n : Nat} : ∀ {t : List Jvm.Cond}, instLk C t = some n → Jvm.Cond.instantiable C n ∈ t
  | [], h => by simp [instLk] at h
  | w :: t, h => by
    unfold instLk at h
    split at h
    · rename_i heq; cases heq
    · rename_i heq
      cases heq
      split at h
      · rename_i hc; subst hc; cases h; exact List.mem_cons_self
      · exact List.mem_cons_of_mem _ (instLk_mem h)
    · rename_i heq; cases heq; exact List.mem_cons_of_mem _ (instLk_mem h)
theorem codeLk_mem {y : MethodName} {b : ByteArray} {n : Nat} {r : Option FieldType} : ∀ {t : List Jvm.Cond}, codeLk y t = some (b, n, r) → Jvm.Cond.code y b n r ∈ t
  | [], h => by simp [codeLk] at h
  | w :: t, h => by
    unfold codeLk at h
    split at h
    · rename_i heq; cases heq
    · rename_i heq
      cases heq
      split at h
      · rename_i hc; cases meq_eq hc; cases h; exact List.mem_cons_self
      · exact List.mem_cons_of_mem _ (codeLk_mem h)
    · rename_i heq; cases heq; exact List.mem_cons_of_mem _ (codeLk_mem h)
theorem hasInit_mem {y : String} : ∀ {t : List Jvm.Cond}, hasInit y t = true → Jvm.Cond.initialized y ∈ t
  | [], h => by simp [hasInit] at h
  | w :: t, h => by
    unfold hasInit at h
    split at h
    · rename_i heq; cases heq
    · rename_i heq
      cases heq
      split at h
      · rename_i hc; subst hc; exact List.mem_cons_self
      · exact List.mem_cons_of_mem _ (hasInit_mem h)
    · rename_i heq; cases heq; exact List.mem_cons_of_mem _ (hasInit_mem h)
theorem hasInst_mem {y : MethodName} : ∀ {t : List Jvm.Cond}, hasInst y t = true → Jvm.Cond.instanceMethod y ∈ t
  | [], h => by simp [hasInst] at h
  | w :: t, h => by
    unfold hasInst at h
    split at h
    · rename_i heq; cases heq
    · rename_i heq
      cases heq
      split at h
      · rename_i hc; cases meq_eq hc; exact List.mem_cons_self
      · exact List.mem_cons_of_mem _ (hasInst_mem h)
    · rename_i heq; cases heq; exact List.mem_cons_of_mem _ (hasInst_mem h)
theorem hasPriv_mem {y : MethodName} : ∀ {t : List Jvm.Cond}, hasPriv y t = true → Jvm.Cond.privateMethod y ∈ t
  | [], h => by simp [hasPriv] at h
  | w :: t, h => by
    unfold hasPriv at h
    split at h
    · rename_i heq; cases heq
    · rename_i heq
      cases heq
      split at h
      · rename_i hc; cases meq_eq hc; exact List.mem_cons_self
      · exact List.mem_cons_of_mem _ (hasPriv_mem h)
    · rename_i heq; cases heq; exact List.mem_cons_of_mem _ (hasPriv_mem h)
theorem hasStat_mem {y : MethodName} : ∀ {t : List Jvm.Cond}, hasStat y t = true → Jvm.Cond.static y ∈ t
  | [], h => by simp [hasStat] at h
  | w :: t, h => by
    unfold hasStat at h
    split at h
    · rename_i heq; cases heq
    · rename_i heq
      cases heq
      split at h
      · rename_i hc; cases meq_eq hc; exact List.mem_cons_self
      · exact List.mem_cons_of_mem _ (hasStat_mem h)
    · rename_i heq; cases heq; exact List.mem_cons_of_mem _ (hasStat_mem h)
theorem hasDecl_mem {y : MethodName} : ∀ {t : List Jvm.Cond}, hasDecl y t = true → Jvm.Cond.declares y ∈ t
  | [], h => by simp [hasDecl] at h
  | w :: t, h => by
    unfold hasDecl at h
    split at h
    · rename_i heq; cases heq
    · rename_i heq
      cases heq
      split at h
      · rename_i hc; cases meq_eq hc; exact List.mem_cons_self
      · exact List.mem_cons_of_mem _ (hasDecl_mem h)
    · rename_i heq; cases heq; exact List.mem_cons_of_mem _ (hasDecl_mem h)
theorem hasArr_mem {y : FieldType} : ∀ {t : List Jvm.Cond}, hasArr y t = true → Jvm.Cond.arrayClass y ∈ t
  | [], h => by simp [hasArr] at h
  | w :: t, h => by
    unfold hasArr at h
    split at h
    · rename_i heq; cases heq
    · rename_i heq
      cases heq
      split at h
      · rename_i hc; subst hc; exact List.mem_cons_self
      · exact List.mem_cons_of_mem _ (hasArr_mem h)
    · rename_i heq; cases heq; exact List.mem_cons_of_mem _ (hasArr_mem h)
theorem hasSel_mem {y : MethodName} : ∀ {t : List Jvm.Cond}, hasSel y t = true → Jvm.Cond.selects y.cls y y ∈ t
  | [], h => by simp [hasSel] at h
  | w :: t, h => by
    unfold hasSel at h
    split at h
    · rename_i heq; cases heq
    · rename_i heq
      cases heq
      split at h
      · rename_i hc; obtain ⟨c1, c2, rfl⟩ := hc; cases meq_eq c1; cases meq_eq c2; exact List.mem_cons_self
      · exact List.mem_cons_of_mem _ (hasSel_mem h)
    · rename_i heq; cases heq; exact List.mem_cons_of_mem _ (hasSel_mem h)
theorem layGo_spec {C n : String} {k : Nat} {d : String} {fin : Bool} : ∀ {t : List Jvm.Cond} {k0 : Nat}, layGo C n t k0 = some (k, d, fin) → k0 ≤ k ∧ t[k - k0]? = some (if fin = true then Jvm.Cond.laysFinal C C n d else Jvm.Cond.lays C C n d)
  | [], _, h => by simp [layGo] at h
  | w :: t, k0, h => by
    have next : layGo C n t (k0 + 1) = some (k, d, fin) → k0 ≤ k ∧ (w :: t)[k - k0]? = some (if fin = true then Jvm.Cond.laysFinal C C n d else Jvm.Cond.lays C C n d) := fun q => by
      obtain ⟨h1, h2⟩ := layGo_spec q
      refine ⟨by omega, ?_⟩
      have e : k - k0 = (k - (k0 + 1)) + 1 := by omega
      rw [e, List.getElem?_cons_succ]
      exact h2
    unfold layGo at h
    split at h
    · rename_i heq; cases heq
    · rename_i heq
      cases heq
      split at h
      · rename_i hc
        obtain ⟨rfl, rfl, rfl⟩ := hc
        cases h
        exact ⟨Nat.le_refl _, by simp⟩
      · exact next h
    · rename_i heq
      cases heq
      split at h
      · rename_i hc
        obtain ⟨rfl, rfl, rfl⟩ := hc
        cases h
        exact ⟨Nat.le_refl _, by simp⟩
      · exact next h
    · rename_i heq; cases heq; exact next h
theorem layAt_spec {W : List Jvm.Cond} {C n : String} {k : Nat} {d : String} {fin : Bool} (h : layAt W C n = some (k, d, fin)) : W[k]? = some (if fin = true then Jvm.Cond.laysFinal C C n d else Jvm.Cond.lays C C n d) := (layGo_spec h).2
theorem layAt_inj {W : List Jvm.Cond} {C n n' : String} {k : Nat} {d d' : String} {fin fin' : Bool} (h : layAt W C n = some (k, d, fin)) (h' : layAt W C n' = some (k, d', fin')) : n = n' := by
  have e := (layAt_spec h).symm.trans (layAt_spec h')
  cases fin <;> cases fin' <;> simp at e
  · exact e.1
  · exact e.1
theorem layAt_laid {W : List Jvm.Cond} {C n : String} {k : Nat} {d : String} {fin : Bool} {Z : State} {a0 : Array Value} (hw : ∀ d ∈ W, d.before a0 Z = true) (h : layAt W C n = some (k, d, fin)) : Laid Z a0 C C n d := by
  have e := hw _ (List.mem_of_getElem? (layAt_spec h))
  cases fin
  · exact Or.inl e
  · exact Or.inr e
theorem fieldAt_spec {W : List Jvm.Cond} {own : String} {idx : Nat} {C : String} {k kd : Nat} {fin : Bool} (h : fieldAt W own idx = some (C, k, kd, fin)) : ∃ n d, Jvm.Cond.fieldLink own idx C n d ∈ W ∧ layAt W C n = some (k, d, fin) ∧ kd = kindD d ∧ kindD d ≠ 0 := by
  unfold fieldAt at h
  split at h
  · cases h
  · rename_i r n d h1
    split at h
    · cases h
    · rename_i k' d' fin' h2
      split at h
      · rename_i hc
        cases h
        obtain ⟨rfl, hk⟩ := hc
        exact ⟨n, _, fieldLk_mem h1, h2, rfl, hk⟩
      · cases h
theorem kindD_1 {d : String} (h : kindD d = 1) : parseFieldDescriptor d = some .int := by
  unfold kindD at h
  split at h <;> first | assumption | (simp at h)
theorem kindD_2 {d : String} (h : kindD d = 2) : parseFieldDescriptor d = some .boolean := by
  unfold kindD at h
  split at h <;> first | assumption | (simp at h)
theorem kindD_3 {d : String} (h : kindD d = 3) : parseFieldDescriptor d = some .long := by
  unfold kindD at h
  split at h <;> first | assumption | (simp at h)
theorem kindD_4 {d : String} (h : kindD d = 4) : ∃ ty, parseFieldDescriptor d = some ty ∧ (∀ v : Value, narrow ty v = v) ∧ (∀ a, fits ty (.ref a) = true) ∧ defaultValue ty = .null := by
  unfold kindD at h
  split at h
  · simp at h
  · simp at h
  · simp at h
  · rename_i t ht; exact ⟨_, ht, fun _ => rfl, fun _ => rfl, rfl⟩
  · rename_i t ht; exact ⟨_, ht, fun _ => rfl, fun _ => rfl, rfl⟩
  · simp at h
theorem kindD_lt (d : String) : kindD d = 0 ∨ kindD d = 1 ∨ kindD d = 2 ∨ kindD d = 3 ∨ kindD d = 4 := by
  unfold kindD
  split <;> simp
theorem jump_spec {pc : Nat} {o : Int} {t : Nat} (h : jump pc o = some t) : 0 ≤ (pc : Int) + o ∧ ((pc : Int) + o).toNat = t := by
  unfold jump at h
  split at h
  · rename_i n hn
    cases h
    rw [hn]
    exact ⟨Int.natCast_nonneg _, rfl⟩
  · cases h
theorem inb_spec {j : Int32} {n : Nat} (h : inb j n = true) : ¬ (j < 0 ∨ n ≤ j.toNatClampNeg) := by
  simp only [inb, Bool.and_eq_true, decide_eq_true_eq] at h
  rintro (q | q)
  · exact h.1 q
  · omega
end Jvm.OwnEv
namespace Jvm.OwnEv
open Sem ClassFile Op Lib Jvm.Stand Jvm.Free Jvm.LawKit Jvm.RoadKit
/-! PART 3: the memory and the heap -/
def RelC (Z : State) (W : List Jvm.Cond) (ρ : Nat → Addr) (h : Heap) (mi : Nat → Nat → Int32) (ml : Nat → Nat → Int64) (mr : Nat → Nat → Value) (a : Nat) (c : Nat × String × Nat) : Prop :=
  (c.1 = 0 → Exa Z h (ρ a) c.2.1 ∧ ∀ n k d fin, layAt W c.2.1 n = some (k, d, fin) → kindD d ≠ 0 → Fld Z h (ρ a) c.2.1 n d (conc ρ (getV (kindD d) (mi a k) (ml a k) (mr a k)))) ∧
  (c.1 = 1 → ∃ cell : Cell, Arr Z h (ρ a) cell .int ∧ cell.slots.size = c.2.2 ∧ ∀ k, k < c.2.2 → cell.slots[k]? = some (.int (mi a k))) ∧
  (c.1 = 2 → ∃ cell : Cell, Arr Z h (ρ a) cell .long ∧ cell.slots.size = c.2.2 ∧ ∀ k, k < c.2.2 → cell.slots[k]? = some (.long (ml a k))) ∧
  (c.1 = 3 → ∃ cell : Cell, Arr Z h (ρ a) cell .boolean ∧ cell.slots.size = c.2.2 ∧ ∀ k, k < c.2.2 → cell.slots[k]? = some (.int (mi a k)))
def Rel (Z : State) (W : List Jvm.Cond) (ρ : Nat → Addr) (ro n0 : Nat) (h : Heap) (M : EMem) : Prop :=
  h.size = n0 + (M.1.length - ro) ∧ ro ≤ M.1.length ∧ (∀ a c, M.1[a]? = some c → RelC Z W ρ h M.2.1 M.2.2.1 M.2.2.2 a c) ∧
  (∀ a, M.1.length ≤ a → ∀ k, M.2.1 a k = 0 ∧ M.2.2.1 a k = 0 ∧ M.2.2.2 a k = .null)
section R
variable {Z : State} {W : List Jvm.Cond} {ρ : Nat → Addr} {h h' : Heap} {mi mi' : Nat → Nat → Int32} {ml ml' : Nat → Nat → Int64} {mr mr' : Nat → Nat → Value} {a b : Nat} {c : Nat × String × Nat} {a0 : Array Value}
theorem RelC.mono (hE : ∀ C, Exa Z h (ρ a) C → Exa Z h' (ρ a) C) (hF : ∀ C n d v, Fld Z h (ρ a) C n d v → Fld Z h' (ρ a) C n d v) (hA : ∀ cell ty, Arr Z h (ρ a) cell ty → Arr Z h' (ρ a) cell ty)
    (hi : ∀ k, mi' a k = mi a k) (hl : ∀ k, ml' a k = ml a k) (hr : ∀ k, mr' a k = mr a k) (X : RelC Z W ρ h mi ml mr a c) : RelC Z W ρ h' mi' ml' mr' a c := by
  obtain ⟨x0, x1, x2, x3⟩ := X
  refine ⟨fun q => ?_, fun q => ?_, fun q => ?_, fun q => ?_⟩
  · obtain ⟨e1, e2⟩ := x0 q
    exact ⟨hE _ e1, fun n k d fin e3 e4 => by rw [hi, hl, hr]; exact hF _ _ _ _ (e2 n k d fin e3 e4)⟩
  · obtain ⟨cell, e1, e2, e3⟩ := x1 q
    exact ⟨cell, hA _ _ e1, e2, fun k hk => by rw [hi]; exact e3 k hk⟩
  · obtain ⟨cell, e1, e2, e3⟩ := x2 q
    exact ⟨cell, hA _ _ e1, e2, fun k hk => by rw [hl]; exact e3 k hk⟩
  · obtain ⟨cell, e1, e2, e3⟩ := x3 q
    exact ⟨cell, hA _ _ e1, e2, fun k hk => by rw [hi]; exact e3 k hk⟩
theorem up_ne {α : Type} {f : Nat → Nat → α} {a k : Nat} {v : α} {x : Nat} (h : x ≠ a) (y : Nat) : up f a k v x y = f x y := by simp [up, h]
theorem up_eq {α : Type} {f : Nat → Nat → α} {a k : Nat} {v : α} : up f a k v a k = v := by simp [up]
theorem up_ne' {α : Type} {f : Nat → Nat → α} {a k : Nat} {v : α} {y : Nat} (h : y ≠ k) (x : Nat) : up f a k v x y = f x y := by simp [up, h]
theorem RelC.other {sl : Nat} {v : Value} (w : Wr h h' (ρ b) sl v) (ne : ρ a ≠ ρ b) (hi : ∀ k, mi' a k = mi a k) (hl : ∀ k, ml' a k = ml a k) (hr : ∀ k, mr' a k = mr a k) (X : RelC Z W ρ h mi ml mr a c) : RelC Z W ρ h' mi' ml' mr' a c :=
  X.mono (fun _ q => q.wr w) (fun _ _ _ _ q => q.other w (Or.inl ne)) (fun _ _ q => q.other w ne) hi hl hr
theorem RelC.ext (E : Ext h h') (X : RelC Z W ρ h mi ml mr a c) : RelC Z W ρ h' mi ml mr a c :=
  X.mono (fun _ q => q.ext E) (fun _ _ _ _ q => q.ext E) (fun _ _ q => q.ext E) (fun _ => rfl) (fun _ => rfl) (fun _ => rfl)
/-- a field is written -/
theorem RelC.put (hw : ∀ d ∈ W, d.before a0 Z = true) {C n d : String} {k : Nat} {fin : Bool} {u : Nat} {v : Value} (hla : layAt W C n = some (k, d, fin)) (hk0 : kindD d ≠ 0) (w : Wr h h' (ρ a) (Jvm.RoadKit.slotOf Z C n d) v)
    (hv : conc ρ (getV (kindD d) (mi' a k) (ml' a k) (mr' a k)) = v)
    (hi : ∀ j, j ≠ k → mi' a j = mi a j) (hl : ∀ j, j ≠ k → ml' a j = ml a j) (hr : ∀ j, j ≠ k → mr' a j = mr a j) (X : RelC Z W ρ h mi ml mr a (0, C, u)) : RelC Z W ρ h' mi' ml' mr' a (0, C, u) := by
  obtain ⟨x0, -⟩ := X
  refine ⟨fun q => ?_, fun q => (by cases q), fun q => (by cases q), fun q => (by cases q)⟩
  obtain ⟨e1, e2⟩ := x0 q
  refine ⟨e1.wr w, fun n' k' d' fin' e3 e4 => ?_⟩
  by_cases hn : n' = n
  · subst hn
    cases hla.symm.trans e3
    rw [hv]
    exact Fld.same w (e2 _ _ _ _ e3 e4)
  · have hk : k' ≠ k := fun q => by subst q; exact hn (layAt_inj e3 hla)
    rw [hi _ hk, hl _ hk, hr _ hk]
    have pd : ∀ {x : String}, kindD x ≠ 0 → ∃ t, parseFieldDescriptor x = some t := fun {x} q => by
      rcases kindD_lt x with z | z | z | z | z
      · exact absurd z q
      · exact ⟨_, kindD_1 z⟩
      · exact ⟨_, kindD_2 z⟩
      · exact ⟨_, kindD_3 z⟩
      · obtain ⟨t, ht, -⟩ := kindD_4 z; exact ⟨t, ht⟩
    obtain ⟨t1, ht1⟩ := pd e4
    obtain ⟨t2, ht2⟩ := pd hk0
    exact (e2 _ _ _ _ e3 e4).other w (Or.inr (slot_ne (layAt_laid hw e3) (layAt_laid hw hla) hn ht1 ht2))
theorem get_set {cell : Cell} {j k n : Nat} {v : Value} (hs : cell.slots.size = n) (hk : k < n) : (cell.setSlot j v).slots[k]? = if j = k then some v else cell.slots[k]? := by
  by_cases e : j = k
  · subst e
    simp [Cell.setSlot, hs, hk]
  · rw [if_neg e]
    exact Array.getElem?_setIfInBounds_ne e
theorem RelC.st1 {n : Nat} {u : String} {j : Nat} {x : Int32} (w : Wr h h' (ρ a) j (.int x)) (X : RelC Z W ρ h mi ml mr a (1, u, n)) : RelC Z W ρ h' (up mi a j x) ml mr a (1, u, n) := by
  obtain ⟨-, x1, -⟩ := X
  refine ⟨fun q => (by cases q), fun q => ?_, fun q => (by cases q), fun q => (by cases q)⟩
  obtain ⟨cell, e1, e2, e3⟩ := x1 q
  refine ⟨_, e1.same w, (sz_set _ _ _).trans e2, fun k hk => ?_⟩
  rw [get_set e2 hk]
  by_cases e : j = k
  · subst e; simp [up]
  · rw [if_neg e, e3 k hk]; simp [up, Ne.symm e]
theorem RelC.st3 {n : Nat} {u : String} {j : Nat} {x : Int32} (w : Wr h h' (ρ a) j (.int x)) (X : RelC Z W ρ h mi ml mr a (3, u, n)) : RelC Z W ρ h' (up mi a j x) ml mr a (3, u, n) := by
  obtain ⟨-, -, -, x1⟩ := X
  refine ⟨fun q => (by cases q), fun q => (by cases q), fun q => (by cases q), fun q => ?_⟩
  obtain ⟨cell, e1, e2, e3⟩ := x1 q
  refine ⟨_, e1.same w, (sz_set _ _ _).trans e2, fun k hk => ?_⟩
  rw [get_set e2 hk]
  by_cases e : j = k
  · subst e; simp [up]
  · rw [if_neg e, e3 k hk]; simp [up, Ne.symm e]
theorem RelC.st2 {n : Nat} {u : String} {j : Nat} {x : Int64} (w : Wr h h' (ρ a) j (.long x)) (X : RelC Z W ρ h mi ml mr a (2, u, n)) : RelC Z W ρ h' mi (up ml a j x) mr a (2, u, n) := by
  obtain ⟨-, -, x1, -⟩ := X
  refine ⟨fun q => (by cases q), fun q => (by cases q), fun q => ?_, fun q => (by cases q)⟩
  obtain ⟨cell, e1, e2, e3⟩ := x1 q
  refine ⟨_, e1.same w, (sz_set _ _ _).trans e2, fun k hk => ?_⟩
  rw [get_set e2 hk]
  by_cases e : j = k
  · subst e; simp [up]
  · rw [if_neg e, e3 k hk]; simp [up, Ne.symm e]
/-- one cell is written, the others stay -/
theorem Rel.write {ro n0 : Nat} {L : ELay} {sl : Nat} {v : Value} (hρ : ∀ a b, ρ a = ρ b → a = b) (w : Wr h h' (ρ a) sl v) (hc : L[a]? = some c)
    (hi : ∀ x, x ≠ a → ∀ k, mi' x k = mi x k) (hl : ∀ x, x ≠ a → ∀ k, ml' x k = ml x k) (hr : ∀ x, x ≠ a → ∀ k, mr' x k = mr x k)
    (self : RelC Z W ρ h mi ml mr a c → RelC Z W ρ h' mi' ml' mr' a c) (X : Rel Z W ρ ro n0 h (L, mi, ml, mr)) : Rel Z W ρ ro n0 h' (L, mi', ml', mr') := by
  obtain ⟨x1, x2, x3, x4⟩ := X
  have hlt : a < L.length := (List.getElem?_eq_some_iff.mp hc).1
  refine ⟨by rw [w.size]; exact x1, x2, fun b cb hb => ?_, fun b hb k => ?_⟩
  · by_cases e : b = a
    · subst e
      cases hc.symm.trans hb
      exact self (x3 _ _ hc)
    · exact (x3 b cb hb).other w (fun q => e (hρ _ _ q)) (hi b e) (hl b e) (hr b e)
  · have e : b ≠ a := fun q => by
      have hb' : L.length ≤ b := hb
      omega
    obtain ⟨y1, y2, y3⟩ := x4 b hb k
    exact ⟨(hi b e k).trans y1, (hl b e k).trans y2, (hr b e k).trans y3⟩
/-- one cell more -/
theorem Rel.push {ro n0 : Nat} {L : ELay} (E : Ext h h') (hsz : h'.size = h.size + 1) (new : RelC Z W ρ h' mi ml mr L.length c) (X : Rel Z W ρ ro n0 h (L, mi, ml, mr)) : Rel Z W ρ ro n0 h' (L ++ [c], mi, ml, mr) := by
  obtain ⟨x1, x2, x3, x4⟩ := X
  have x2' : ro ≤ L.length := x2
  have x1' : h.size = n0 + (L.length - ro) := x1
  refine ⟨?_, ?_, fun b cb hb => ?_, fun b hb k => ?_⟩
  · show h'.size = n0 + ((L ++ [c]).length - ro)
    rw [hsz, x1', List.length_append]
    simp; omega
  · show ro ≤ (L ++ [c]).length
    rw [List.length_append]; omega
  · have hb' : (L ++ [c])[b]? = some cb := hb
    by_cases e : b < L.length
    · rw [List.getElem?_append_left e] at hb'
      exact (x3 b cb hb').ext E
    · have hlt := (List.getElem?_eq_some_iff.mp hb').1
      rw [List.length_append] at hlt
      have : b = L.length := by simp at hlt; omega
      subst this
      simp at hb'
      subst hb'
      exact new
  · have hb' : (L ++ [c]).length ≤ b := hb
    rw [List.length_append] at hb'
    exact x4 b (by show L.length ≤ b; omega) k
end R
end Jvm.OwnEv
namespace Jvm.OwnEv
open Sem ClassFile Op Lib Jvm.Stand Jvm.Free Jvm.LawKit Jvm.RoadKit
/-! PART 4: the evaluator's plain steps are steps of the model -/
def Here (p : Program) (l : Launch) (e : Env) (R : Room) (s : State) (m : MethodId) (args : Array Value) (below : List Frame) (meth : Method) (c : Code) (Z : State) (W : List Jvm.Cond) (ρ : Nat → Addr) (ro n0 : Nat) (L0 : ELay) (T : State) (M : EMem) : Prop :=
  ∃ locs, Stand p l e R s m args below meth c T locs (M.1.length - L0.length) (szL M.1 - szL L0) ∧ Fr n0 locs ∧ Rel Z W ρ ro n0 T.heap M
theorem objInitAt_spec {W : List Jvm.Cond} {own : String} {idx : Nat} (h : objInitAt W own idx = true) : Jvm.Cond.methodLink own idx Lib.objectInit ∈ W ∧ Jvm.Cond.instanceMethod Lib.objectInit ∈ W ∧ Jvm.Cond.code Lib.objectInit ⟨#[0xb1]⟩ 1 none ∈ W := by
  unfold objInitAt at h
  split at h
  · rename_i z b n r h1 h2
    simp only [Bool.and_eq_true, decide_eq_true_eq] at h
    obtain ⟨⟨⟨⟨rfl, h3⟩, rfl⟩, rfl⟩, rfl⟩ := h
    exact ⟨methodLk_mem h1, hasInst_mem h3, codeLk_mem h2⟩
  · cases h
section S
variable {p : Program} {l : Launch} {e : Env} {R : Room} {s : State} {m : MethodId} {args : Array Value} {below : List Frame} {meth : Method} {c : Code} {Z : State} {a0 : Array Value} {W : List Jvm.Cond} {ρ : Nat → Addr} {ro n0 : Nat} {L0 : ELay} {y : MethodName} {T : State} {M : EMem}
set_option maxRecDepth 65536 in
set_option maxHeartbeats 40000000 in
theorem execP_sound (H : Here p l e R s m args below meth c Z W ρ ro n0 L0 T M) (hx : p.tables.exec = Jvm.exec) (hZ : Z.Warmed39 s.vm) (hw : ∀ d ∈ W, d.before a0 Z = true) (hown : s.vm.findClass y.cls = some m.cls) {F Lb : Nat} (hF : F ≤ R.frames) (hLb : Lb ≤ R.locals)
    {ls ls' : List Slot} {st st' : List Value} {ins : Instr} {pc pc' len : Nat} (hsz : ls.length = c.maxLocals) (hd : decode c.code pc = .ok (ins, len)) (hl : lenOk len ins = true) (h : execP W F Lb y ins pc len ls st M = some (pc', ls', st')) :
    ls'.length = ls.length ∧ ∃ T', Here p l e R s m args below meth c Z W ρ ro n0 L0 T' M ∧ ∀ target, Steps p.tables e below (T'.setTop (mkF m pc' (cl ρ ls') (cs ρ st'))) target → Steps p.tables e below (T.setTop (mkF m pc (cl ρ ls) (cs ρ st))) target := by
  obtain ⟨locs, X, N, Rl⟩ := H
  have A := X.here
  unfold execP at h
  split at h
  · rename_i k
    obtain rfl : len = 2 := by simpa [lenOk] using hl
    split at h
    · rename_i a ha; cases h; exact ⟨rfl, T, ⟨locs, X, N, Rl⟩, fun t k => XS.aload A hx rfl hd (get_cl ha) rfl k⟩
    · rename_i ha; cases h; exact ⟨rfl, T, ⟨locs, X, N, Rl⟩, fun t k => XS.aload A hx rfl hd (get_cl ha) rfl k⟩
    · cases h
  · rename_i k
    obtain rfl : len = 1 := by simpa [lenOk] using hl
    split at h
    · rename_i a ha; cases h; exact ⟨rfl, T, ⟨locs, X, N, Rl⟩, fun t k => XS.aloadN A hx rfl hd (get_cl ha) rfl k⟩
    · rename_i ha; cases h; exact ⟨rfl, T, ⟨locs, X, N, Rl⟩, fun t k => XS.aloadN A hx rfl hd (get_cl ha) rfl k⟩
    · cases h
  · rename_i k
    obtain rfl : len = 2 := by simpa [lenOk] using hl
    split at h
    · rename_i a ha; cases h; exact ⟨rfl, T, ⟨locs, X, N, Rl⟩, fun t k => XS.iload A hx rfl hd (get_cl ha) k⟩
    · cases h
  · rename_i k
    obtain rfl : len = 1 := by simpa [lenOk] using hl
    split at h
    · rename_i a ha; cases h; exact ⟨rfl, T, ⟨locs, X, N, Rl⟩, fun t k => XS.iloadN A hx rfl hd (get_cl ha) k⟩
    · cases h
  · rename_i k
    obtain rfl : len = 2 := by simpa [lenOk] using hl
    split at h
    · rename_i a ha; cases h; exact ⟨rfl, T, ⟨locs, X, N, Rl⟩, fun t k => XT.lload A hx rfl hd (get_cl ha) k⟩
    · cases h
  · rename_i k
    obtain rfl : len = 1 := by simpa [lenOk] using hl
    split at h
    · rename_i a ha; cases h; exact ⟨rfl, T, ⟨locs, X, N, Rl⟩, fun t k => XT.lloadN A hx rfl hd (get_cl ha) k⟩
    · cases h
  · rename_i k
    obtain rfl : len = 2 := by simpa [lenOk] using hl
    split at h
    · split at h
      · rename_i l' hs; cases h; exact ⟨storeL_len hs, T, ⟨locs, X, N, Rl⟩, fun t k => XS.istore A hx rfl hd rfl (storeL_conc (ρ := ρ) hs) k⟩
      · cases h
    · cases h
  · rename_i k
    obtain rfl : len = 1 := by simpa [lenOk] using hl
    split at h
    · split at h
      · rename_i l' hs; cases h; exact ⟨storeL_len hs, T, ⟨locs, X, N, Rl⟩, fun t k => XS.istoreN A hx rfl hd rfl (storeL_conc (ρ := ρ) hs) k⟩
      · cases h
    · cases h
  · rename_i k
    obtain rfl : len = 2 := by simpa [lenOk] using hl
    split at h
    · split at h
      · rename_i l' hs; cases h; exact ⟨storeL_len hs, T, ⟨locs, X, N, Rl⟩, fun t k => XT.lstore A hx rfl hd rfl (storeL_conc (ρ := ρ) hs) k⟩
      · cases h
    · cases h
  · rename_i k
    obtain rfl : len = 1 := by simpa [lenOk] using hl
    split at h
    · split at h
      · rename_i l' hs; cases h; exact ⟨storeL_len hs, T, ⟨locs, X, N, Rl⟩, fun t k => XT.lstoreN A hx rfl hd rfl (storeL_conc (ρ := ρ) hs) k⟩
      · cases h
    · cases h
  · rename_i k
    obtain rfl : len = 2 := by simpa [lenOk] using hl
    split at h
    · split at h
      · rename_i l' hs; cases h; exact ⟨storeL_len hs, T, ⟨locs, X, N, Rl⟩, fun t k => XS.astore A hx rfl hd rfl rfl (storeL_conc (ρ := ρ) hs) k⟩
      · cases h
    · cases h
  · rename_i k
    obtain rfl : len = 1 := by simpa [lenOk] using hl
    split at h
    · split at h
      · rename_i l' hs; cases h; exact ⟨storeL_len hs, T, ⟨locs, X, N, Rl⟩, fun t k => XS.astoreN A hx rfl hd rfl rfl (storeL_conc (ρ := ρ) hs) k⟩
      · cases h
    · cases h
  · rename_i k d
    obtain rfl : len = 3 := by simpa [lenOk] using hl
    split at h
    · rename_i v ha; split at h
      · rename_i l' hs; cases h; exact ⟨storeL_len hs, T, ⟨locs, X, N, Rl⟩, fun t k => XS.iinc A hx rfl hd (get_cl ha) (storeL_conc (ρ := ρ) hs) k⟩
      · cases h
    · cases h
  · rename_i i
    obtain rfl : len = 1 := by simpa [lenOk] using hl
    cases h; exact ⟨rfl, T, ⟨locs, X, N, Rl⟩, fun t k => XS.iconst A hx rfl hd k⟩
  · rename_i i
    obtain rfl : len = 2 := by simpa [lenOk] using hl
    cases h; exact ⟨rfl, T, ⟨locs, X, N, Rl⟩, fun t k => XS.bipush A hx rfl hd k⟩
  · rename_i i
    obtain rfl : len = 3 := by simpa [lenOk] using hl
    cases h; exact ⟨rfl, T, ⟨locs, X, N, Rl⟩, fun t k => XS.sipush A hx rfl hd k⟩
  · rename_i i
    obtain rfl : len = 1 := by simpa [lenOk] using hl
    cases h; exact ⟨rfl, T, ⟨locs, X, N, Rl⟩, fun t k => XT.lconst A hx rfl hd k⟩
  · rename_i i
    obtain rfl : len = 2 := by simpa [lenOk] using hl
    split at h
    · rename_i v hv; cases h; exact ⟨rfl, T, ⟨locs, X, N, Rl⟩, fun t k => X.ldcInt hx hown (mvT hZ (hw _ (intLk_mem hv))) (g := mkF m pc (cl ρ ls) (cs ρ st)) rfl hd t k⟩
    · cases h
  · rename_i i
    obtain rfl : len = 3 := by simpa [lenOk] using hl
    split at h
    · rename_i v hv; cases h; exact ⟨rfl, T, ⟨locs, X, N, Rl⟩, fun t k => X.ldcwInt hx hown (mvT hZ (hw _ (intLk_mem hv))) (g := mkF m pc (cl ρ ls) (cs ρ st)) rfl hd t k⟩
    · cases h
  · rename_i i
    obtain rfl : len = 3 := by simpa [lenOk] using hl
    split at h
    · rename_i v hv; cases h; exact ⟨rfl, T, ⟨locs, X, N, Rl⟩, fun t k => X.ldc2Long hx hown (mvT hZ (hw _ (longLk_mem hv))) (g := mkF m pc (cl ρ ls) (cs ρ st)) rfl hd t k⟩
    · cases h
  · obtain rfl : len = 1 := by simpa [lenOk] using hl
    split at h
    · cases h; exact ⟨rfl, T, ⟨locs, X, N, Rl⟩, fun t k => XS.iadd A hx rfl hd rfl k⟩
    · cases h
  · obtain rfl : len = 1 := by simpa [lenOk] using hl
    split at h
    · cases h; exact ⟨rfl, T, ⟨locs, X, N, Rl⟩, fun t k => XS.isub A hx rfl hd rfl k⟩
    · cases h
  · obtain rfl : len = 1 := by simpa [lenOk] using hl
    split at h
    · cases h; exact ⟨rfl, T, ⟨locs, X, N, Rl⟩, fun t k => XS.imul A hx rfl hd rfl k⟩
    · cases h
  · obtain rfl : len = 1 := by simpa [lenOk] using hl
    split at h
    · cases h; exact ⟨rfl, T, ⟨locs, X, N, Rl⟩, fun t k => XS.iand A hx rfl hd rfl k⟩
    · cases h
  · obtain rfl : len = 1 := by simpa [lenOk] using hl
    split at h
    · cases h; exact ⟨rfl, T, ⟨locs, X, N, Rl⟩, fun t k => XT.ior A hx rfl hd rfl k⟩
    · cases h
  · obtain rfl : len = 1 := by simpa [lenOk] using hl
    split at h
    · cases h; exact ⟨rfl, T, ⟨locs, X, N, Rl⟩, fun t k => XT.ixor A hx rfl hd rfl k⟩
    · cases h
  · obtain rfl : len = 1 := by simpa [lenOk] using hl
    split at h
    · cases h; exact ⟨rfl, T, ⟨locs, X, N, Rl⟩, fun t k => XT.ishl A hx rfl hd rfl k⟩
    · cases h
  · obtain rfl : len = 1 := by simpa [lenOk] using hl
    split at h
    · cases h; exact ⟨rfl, T, ⟨locs, X, N, Rl⟩, fun t k => XT.ishr A hx rfl hd rfl k⟩
    · cases h
  · obtain rfl : len = 1 := by simpa [lenOk] using hl
    split at h
    · cases h; exact ⟨rfl, T, ⟨locs, X, N, Rl⟩, fun t k => XT.iushr A hx rfl hd rfl k⟩
    · cases h
  · obtain rfl : len = 1 := by simpa [lenOk] using hl
    split at h
    · split at h
      · cases h
      · rename_i hb; cases h; exact ⟨rfl, T, ⟨locs, X, N, Rl⟩, fun t k => XS.idiv A hx rfl hd rfl hb k⟩
    · cases h
  · obtain rfl : len = 1 := by simpa [lenOk] using hl
    split at h
    · split at h
      · cases h
      · rename_i hb; cases h; exact ⟨rfl, T, ⟨locs, X, N, Rl⟩, fun t k => XS.irem A hx rfl hd rfl hb k⟩
    · cases h
  · obtain rfl : len = 1 := by simpa [lenOk] using hl
    split at h
    · cases h; exact ⟨rfl, T, ⟨locs, X, N, Rl⟩, fun t k => XS.ineg A hx rfl hd rfl k⟩
    · cases h
  · obtain rfl : len = 1 := by simpa [lenOk] using hl
    split at h
    · cases h; exact ⟨rfl, T, ⟨locs, X, N, Rl⟩, fun t k => XT.ladd A hx rfl hd rfl k⟩
    · cases h
  · obtain rfl : len = 1 := by simpa [lenOk] using hl
    split at h
    · cases h; exact ⟨rfl, T, ⟨locs, X, N, Rl⟩, fun t k => XT.lsub A hx rfl hd rfl k⟩
    · cases h
  · obtain rfl : len = 1 := by simpa [lenOk] using hl
    split at h
    · cases h; exact ⟨rfl, T, ⟨locs, X, N, Rl⟩, fun t k => XT.lmul A hx rfl hd rfl k⟩
    · cases h
  · obtain rfl : len = 1 := by simpa [lenOk] using hl
    split at h
    · cases h; exact ⟨rfl, T, ⟨locs, X, N, Rl⟩, fun t k => XT.land A hx rfl hd rfl k⟩
    · cases h
  · obtain rfl : len = 1 := by simpa [lenOk] using hl
    split at h
    · cases h; exact ⟨rfl, T, ⟨locs, X, N, Rl⟩, fun t k => XT.lor A hx rfl hd rfl k⟩
    · cases h
  · obtain rfl : len = 1 := by simpa [lenOk] using hl
    split at h
    · cases h; exact ⟨rfl, T, ⟨locs, X, N, Rl⟩, fun t k => XT.lxor A hx rfl hd rfl k⟩
    · cases h
  · obtain rfl : len = 1 := by simpa [lenOk] using hl
    split at h
    · cases h; exact ⟨rfl, T, ⟨locs, X, N, Rl⟩, fun t k => XT.lshl A hx rfl hd rfl k⟩
    · cases h
  · obtain rfl : len = 1 := by simpa [lenOk] using hl
    split at h
    · cases h; exact ⟨rfl, T, ⟨locs, X, N, Rl⟩, fun t k => XT.lshr A hx rfl hd rfl k⟩
    · cases h
  · obtain rfl : len = 1 := by simpa [lenOk] using hl
    split at h
    · cases h; exact ⟨rfl, T, ⟨locs, X, N, Rl⟩, fun t k => XT.lushr A hx rfl hd rfl k⟩
    · cases h
  · obtain rfl : len = 1 := by simpa [lenOk] using hl
    split at h
    · split at h
      · cases h
      · rename_i hb; cases h; exact ⟨rfl, T, ⟨locs, X, N, Rl⟩, fun t k => XT.ldiv A hx rfl hd rfl hb k⟩
    · cases h
  · obtain rfl : len = 1 := by simpa [lenOk] using hl
    split at h
    · split at h
      · cases h
      · rename_i hb; cases h; exact ⟨rfl, T, ⟨locs, X, N, Rl⟩, fun t k => XT.lrem A hx rfl hd rfl hb k⟩
    · cases h
  · obtain rfl : len = 1 := by simpa [lenOk] using hl
    split at h
    · cases h; exact ⟨rfl, T, ⟨locs, X, N, Rl⟩, fun t k => XT.lneg A hx rfl hd rfl k⟩
    · cases h
  · obtain rfl : len = 1 := by simpa [lenOk] using hl
    split at h
    · cases h; exact ⟨rfl, T, ⟨locs, X, N, Rl⟩, fun t k => XT.lcmp A hx rfl hd rfl k⟩
    · cases h
  · obtain rfl : len = 1 := by simpa [lenOk] using hl
    split at h
    · cases h; exact ⟨rfl, T, ⟨locs, X, N, Rl⟩, fun t k => XT.i2l A hx rfl hd rfl k⟩
    · cases h
  · obtain rfl : len = 1 := by simpa [lenOk] using hl
    split at h
    · cases h; exact ⟨rfl, T, ⟨locs, X, N, Rl⟩, fun t k => XT.l2i A hx rfl hd rfl k⟩
    · cases h
  · obtain rfl : len = 1 := by simpa [lenOk] using hl
    split at h
    · cases h; exact ⟨rfl, T, ⟨locs, X, N, Rl⟩, fun t k => XT.i2s A hx rfl hd rfl k⟩
    · cases h
  · obtain rfl : len = 1 := by simpa [lenOk] using hl
    split at h
    · cases h; exact ⟨rfl, T, ⟨locs, X, N, Rl⟩, fun t k => XS.dup A hx rfl hd rfl rfl k⟩
    · cases h; exact ⟨rfl, T, ⟨locs, X, N, Rl⟩, fun t k => XS.dup A hx rfl hd rfl rfl k⟩
    · cases h
  · obtain rfl : len = 1 := by simpa [lenOk] using hl
    split at h
    · cases h; exact ⟨rfl, T, ⟨locs, X, N, Rl⟩, fun t k => XT.dup2 A hx rfl hd rfl rfl rfl k⟩
    · cases h; exact ⟨rfl, T, ⟨locs, X, N, Rl⟩, fun t k => XT.dup2 A hx rfl hd rfl rfl rfl k⟩
    · cases h; exact ⟨rfl, T, ⟨locs, X, N, Rl⟩, fun t k => XT.dup2L A hx rfl hd rfl k⟩
    · cases h
  · obtain rfl : len = 1 := by simpa [lenOk] using hl
    split at h
    · cases h; exact ⟨rfl, T, ⟨locs, X, N, Rl⟩, fun t k => XT.dupX1 A hx rfl hd rfl rfl rfl k⟩
    · cases h
  · obtain rfl : len = 1 := by simpa [lenOk] using hl
    split at h
    · cases h; exact ⟨rfl, T, ⟨locs, X, N, Rl⟩, fun t k => XT.pop A hx rfl hd rfl rfl k⟩
    · cases h; exact ⟨rfl, T, ⟨locs, X, N, Rl⟩, fun t k => XT.pop A hx rfl hd rfl rfl k⟩
    · cases h
  · rename_i o
    obtain rfl : len = 3 := by simpa [lenOk] using hl
    split at h
    · rename_i t ht; cases h; obtain ⟨j1, j2⟩ := jump_spec ht
      exact ⟨rfl, T, ⟨locs, X, N, Rl⟩, fun t k => XS.goto A hx rfl rfl hd j1 j2 k⟩
    · cases h
  · rename_i cd o
    obtain rfl : len = 3 := by simpa [lenOk] using hl
    split at h
    · rename_i a r
      split at h
      · rename_i t ht; cases h; obtain ⟨j1, j2⟩ := jump_spec ht
        refine ⟨rfl, T, ⟨locs, X, N, Rl⟩, fun t k => ?_⟩
        cases hb : ifCond.holds cd a with
        | true => rw [hb, if_pos rfl] at k; exact XS.ifYes A hx rfl rfl hd rfl hb j1 j2 k
        | false => rw [hb, if_neg Bool.false_ne_true] at k; exact XS.ifNo A hx rfl hd rfl hb k
      · cases h
    · cases h
  · rename_i cd o
    obtain rfl : len = 3 := by simpa [lenOk] using hl
    split at h
    · rename_i b a r
      split at h
      · rename_i t ht; cases h; obtain ⟨j1, j2⟩ := jump_spec ht
        refine ⟨rfl, T, ⟨locs, X, N, Rl⟩, fun t k => ?_⟩
        cases hb : if_icmp.holds cd a b with
        | true => rw [hb, if_pos rfl] at k; exact XS.icmpYes A hx rfl rfl hd rfl hb j1 j2 k
        | false => rw [hb, if_neg Bool.false_ne_true] at k; exact XS.icmpNo A hx rfl hd rfl hb k
      · cases h
    · cases h
  · rename_i o
    obtain rfl : len = 3 := by simpa [lenOk] using hl
    split at h
    · split at h
      · rename_i t ht; cases h; obtain ⟨j1, j2⟩ := jump_spec ht
        exact ⟨rfl, T, ⟨locs, X, N, Rl⟩, fun t k => XS.ifnullYes A hx rfl rfl hd rfl j1 j2 k⟩
      · cases h
    · cases h; exact ⟨rfl, T, ⟨locs, X, N, Rl⟩, fun t k => XS.ifnullNo A hx rfl hd rfl k⟩
    · cases h
  · rename_i o
    obtain rfl : len = 3 := by simpa [lenOk] using hl
    split at h
    · split at h
      · rename_i t ht; cases h; obtain ⟨j1, j2⟩ := jump_spec ht
        exact ⟨rfl, T, ⟨locs, X, N, Rl⟩, fun t k => XT.ifnonnullYes A hx rfl rfl hd rfl j1 j2 k⟩
      · cases h
    · cases h; exact ⟨rfl, T, ⟨locs, X, N, Rl⟩, fun t k => XT.ifnonnullNo A hx rfl hd rfl k⟩
    · cases h
  · rename_i dflt low high offs
    split at h
    · split at h
      · rename_i hout; split at h
        · rename_i t ht; cases h; obtain ⟨j1, j2⟩ := jump_spec ht
          exact ⟨rfl, T, ⟨locs, X, N, Rl⟩, fun t k => XS.tswOut A hx rfl rfl hd rfl hout j1 j2 k⟩
        · cases h
      · rename_i hin; split at h
        · cases h
        · rename_i off hoff; split at h
          · rename_i t ht; cases h; obtain ⟨j1, j2⟩ := jump_spec ht
            exact ⟨rfl, T, ⟨locs, X, N, Rl⟩, fun t k => XS.tswIn A hx rfl rfl hd rfl hin hoff j1 j2 k⟩
          · cases h
    · cases h
  · rename_i idx
    obtain rfl : len = 3 := by simpa [lenOk] using hl
    split at h
    · rename_i a r; split at h
      · rename_i C k kd fin C' u hf hc
        split at h
        · rename_i hC
          cases h
          subst hC
          obtain ⟨n, d, q1, q2, rfl, q4⟩ := fieldAt_spec hf
          have Fd := ((Rl.2.2.1 _ _ hc).1 rfl).2 _ _ _ _ q2 q4
          obtain ⟨T', X', e', st'⟩ := getF X hx hZ hown (host := "") (Or.inl (hw _ q1)) Via.refl rfl Fd (g := mkF m pc (cl ρ ls) (cs ρ (.ref a :: r))) rfl rfl hd
          exact ⟨rfl, T', ⟨locs, X', N, by rw [e']; exact Rl⟩, fun t k => st' t k⟩
        · cases h
      · cases h
    · cases h
  · obtain rfl : len = 1 := by simpa [lenOk] using hl
    split at h
    · rename_i a r; split at h
      · rename_i u n hc
        cases h
        obtain ⟨cell, Ar, hs, -⟩ := (Rl.2.2.1 _ _ hc).2.1 rfl
        have hs' : cell.slots.size = n := hs
        refine ⟨rfl, T, ⟨locs, X, N, Rl⟩, fun t k => X.arraylength hx Ar.1 (State.isArrayOf_alike hZ.alike Ar.2.1) (g := mkF m pc (cl ρ ls) (cs ρ (.ref a :: r))) rfl rfl hd t ?_⟩
        rw [hs']; exact k
      · rename_i u n hc
        cases h
        obtain ⟨cell, Ar, hs, -⟩ := (Rl.2.2.1 _ _ hc).2.2.1 rfl
        have hs' : cell.slots.size = n := hs
        refine ⟨rfl, T, ⟨locs, X, N, Rl⟩, fun t k => X.arraylength hx Ar.1 (State.isArrayOf_alike hZ.alike Ar.2.1) (g := mkF m pc (cl ρ ls) (cs ρ (.ref a :: r))) rfl rfl hd t ?_⟩
        rw [hs']; exact k
      · rename_i u n hc
        cases h
        obtain ⟨cell, Ar, hs, -⟩ := (Rl.2.2.1 _ _ hc).2.2.2 rfl
        have hs' : cell.slots.size = n := hs
        refine ⟨rfl, T, ⟨locs, X, N, Rl⟩, fun t k => X.arraylength hx Ar.1 (State.isArrayOf_alike hZ.alike Ar.2.1) (g := mkF m pc (cl ρ ls) (cs ρ (.ref a :: r))) rfl rfl hd t ?_⟩
        rw [hs']; exact k
      · cases h
    · cases h
  · obtain rfl : len = 1 := by simpa [lenOk] using hl
    split at h
    · rename_i j a r; split at h
      · rename_i u n hc
        split at h
        · rename_i hj
          cases h
          obtain ⟨cell, Ar, hs, hv⟩ := (Rl.2.2.1 _ _ hc).2.1 rfl
          have hs' : cell.slots.size = n := hs
          have hj' := inb_spec hj
          have hlt : j.toNatClampNeg < n := by
            have := fun q => hj' (Or.inr q)
            omega
          exact ⟨rfl, T, ⟨locs, X, N, Rl⟩, fun t k => X.iaload hx Ar.1 (State.isArrayOf_alike hZ.alike Ar.2.1) Ar.2.2 (by rw [hs']; exact hj') (hv _ hlt) (g := mkF m pc (cl ρ ls) (cs ρ (.int j :: .ref a :: r))) rfl rfl hd t k⟩
        · cases h
      · cases h
    · cases h
  · obtain rfl : len = 1 := by simpa [lenOk] using hl
    split at h
    · rename_i j a r; split at h
      · rename_i u n hc
        split at h
        · rename_i hj
          cases h
          obtain ⟨cell, Ar, hs, hv⟩ := (Rl.2.2.1 _ _ hc).2.2.2 rfl
          have hs' : cell.slots.size = n := hs
          have hj' := inb_spec hj
          have hlt : j.toNatClampNeg < n := by
            have := fun q => hj' (Or.inr q)
            omega
          exact ⟨rfl, T, ⟨locs, X, N, Rl⟩, fun t k => X.baloadBooleans hx Ar.1 (State.isArrayOf_alike hZ.alike Ar.2.1) Ar.2.2 (by rw [hs']; exact hj') (hv _ hlt) (g := mkF m pc (cl ρ ls) (cs ρ (.int j :: .ref a :: r))) rfl rfl hd t k⟩
        · cases h
      · cases h
    · cases h
  · obtain rfl : len = 1 := by simpa [lenOk] using hl
    split at h
    · rename_i j a r; split at h
      · rename_i u n hc
        split at h
        · rename_i hj
          cases h
          obtain ⟨cell, Ar, hs, hv⟩ := (Rl.2.2.1 _ _ hc).2.2.1 rfl
          have hs' : cell.slots.size = n := hs
          have hj' := inb_spec hj
          have hlt : j.toNatClampNeg < n := by
            have := fun q => hj' (Or.inr q)
            omega
          exact ⟨rfl, T, ⟨locs, X, N, Rl⟩, fun t k => X.laload hx Ar.1 (State.isArrayOf_alike hZ.alike Ar.2.1) Ar.2.2 (by rw [hs']; exact hj') (hv _ hlt) (g := mkF m pc (cl ρ ls) (cs ρ (.int j :: .ref a :: r))) rfl rfl hd t k⟩
        · cases h
      · cases h
    · cases h
  · rename_i idx
    obtain rfl : len = 3 := by simpa [lenOk] using hl
    split at h
    · rename_i a r; split at h
      · rename_i hc
        cases h
        obtain ⟨c1, c2, c3⟩ := hc
        obtain ⟨w1, w2, w3⟩ := objInitAt_spec c1
        obtain ⟨T', X', e', stp⟩ := initO X hx hZ hown (hw _ w1) (hw _ w2) (hw _ w3) rfl (g := mkF m pc (cl ρ ls) (cs ρ (.ref a :: st'))) rfl (by simp [hsz]) rfl hd (by omega) (W := wt st') (by show 2 * 0 + ((st'.map (conc ρ)).map fun v => v.category).sum ≤ _; rw [wt_conc]; omega) (by omega)
        exact ⟨rfl, T', ⟨locs, X', N, by rw [e']; exact Rl⟩, fun t k => stp t k⟩
      · cases h
    · cases h
  · cases h
theorem execM_ext {ins : Instr} {st st' : List Value} {M M' : EMem} (h : execM W ro y ins st M = some (st', M')) : M.1.length ≤ M'.1.length ∧ szL M.1 ≤ szL M'.1 := by
  have push : ∀ (L : ELay) (x : Nat × String × Nat), L.length ≤ (L ++ [x]).length ∧ szL L ≤ szL (L ++ [x]) := fun L x => by simp [szL]
  unfold execM at h
  split at h
  · split at h
    · split at h
      · split at h
        · split at h <;> first | (cases h; exact ⟨Nat.le_refl _, Nat.le_refl _⟩) | cases h
        · cases h
      · cases h
    · cases h
  all_goals first
    | (split at h
       · split at h
         · split at h
           · cases h; exact ⟨Nat.le_refl _, Nat.le_refl _⟩
           · cases h
         · cases h
       · cases h)
    | (split at h
       · cases h; exact push _ _
       · cases h)
    | (split at h
       · split at h
         · cases h; exact push _ _
         · cases h
       · cases h)
    | cases h
theorem szL_push (L : ELay) (x : Nat × String × Nat) : szL (L ++ [x]) = szL L + x.2.2 := by simp [szL]
set_option maxRecDepth 65536 in
set_option maxHeartbeats 40000000 in
theorem execM_sound (H : Here p l e R s m args below meth c Z W ρ ro n0 L0 T M) (hx : p.tables.exec = Jvm.exec) (hZ : Z.Warmed39 s.vm) (hw : ∀ d ∈ W, d.before a0 Z = true) (hown : s.vm.findClass y.cls = some m.cls) (hnm : meth.name = y.name)
    (hρ : ∀ a b, ρ a = ρ b → a = b) (hρn : ∀ a, ro ≤ a → ρ a = n0 + (a - ro)) (hL : L0.length ≤ M.1.length) (hS : szL L0 ≤ szL M.1) (hs0 : s.heap.size = n0 + (L0.length - ro)) (hro : ro ≤ L0.length)
    {ls : List Slot} {st st' : List Value} {M' : EMem} {ins : Instr} {pc len : Nat} (hd : decode c.code pc = .ok (ins, len)) (hl : lenOk len ins = true) (hRc : M'.1.length - L0.length ≤ R.cells) (hRs : szL M'.1 - szL L0 ≤ R.slots) (h : execM W ro y ins st M = some (st', M')) :
    ∃ T', Here p l e R s m args below meth c Z W ρ ro n0 L0 T' M' ∧ ∀ target, Steps p.tables e below (T'.setTop (mkF m (pc + len) (cl ρ ls) (cs ρ st'))) target → Steps p.tables e below (T.setTop (mkF m pc (cl ρ ls) (cs ρ st))) target := by
  obtain ⟨locs, X, N, Rl⟩ := H
  obtain ⟨L, mi, ml, mr⟩ := M
  have hL' : L0.length ≤ L.length := hL
  have hS' : szL L0 ≤ szL L := hS
  have hsize : T.heap.size = n0 + (L.length - ro) := Rl.1
  have hnew : T.heap.size = ρ L.length := by rw [hρn _ (Nat.le_trans hro hL'), hsize]
  unfold execM at h
  split at h
  · rename_i idx
    obtain rfl : len = 3 := by simpa [lenOk] using hl
    split at h
    · rename_i v a r
      split at h
      · rename_i C k kd fin C' u hf hc
        split at h
        · rename_i hC
          obtain ⟨rfl, hra, hfin, hinst⟩ := hC
          obtain ⟨n, d, q1, q2, rfl, q4⟩ := fieldAt_spec hf
          obtain ⟨ni, hni⟩ := Option.isSome_iff_exists.mp hinst
          have hcell : L[a]? = some (0, C', u) := hc
          obtain ⟨Ex, Fs⟩ := (Rl.2.2.1 _ _ hc).1 rfl
          have Fd := Fs _ _ _ _ q2 q4
          have hge : n0 ≤ ρ a := by rw [hρn a hra]; omega
          have Lw : (Jvm.Cond.lays C' C' n d).before a0 Z = true ∨ ((Jvm.Cond.laysFinal C' C' n d).before a0 Z = true ∧ y.cls = C' ∧ meth.name = "<init>") := by
            have e := hw _ (List.mem_of_getElem? (layAt_spec q2))
            cases fin with
            | false => exact Or.inl e
            | true =>
              rcases hfin with z | ⟨z1, z2⟩
              · cases z
              · exact Or.inr ⟨e, z1, hnm.trans z2⟩
          split at h
          · rename_i x hk
            cases h
            obtain ⟨T', h', X', e', w, stp⟩ := putFN X hx hZ hown (hw _ q1) Via.refl rfl Fd Ex Lw (hw _ (instLk_mem hni)) (ty := .int) (v' := .int x) (kindD_1 hk) rfl rfl (g := mkF m pc (cl ρ ls) (cs ρ (.int x :: .ref a :: st'))) rfl rfl hd
            refine ⟨T', ⟨_, X', Fr.snoc X' N hge, ?_⟩, fun t k => stp t k⟩
            rw [e']
            exact Rel.write hρ w hcell (fun x hx k => up_ne hx k) (fun _ _ _ => rfl) (fun _ _ _ => rfl) (RelC.put hw q2 q4 w (by rw [hk, up_eq]; rfl) (fun j hj => up_ne' hj a) (fun _ _ => rfl) (fun _ _ => rfl)) Rl
          · rename_i x hk
            cases h
            obtain ⟨T', h', X', e', w, stp⟩ := putFN X hx hZ hown (hw _ q1) Via.refl rfl Fd Ex Lw (hw _ (instLk_mem hni)) (ty := .boolean) (v' := .int (x &&& 1)) (kindD_2 hk) rfl (fits_nar_bool x) (g := mkF m pc (cl ρ ls) (cs ρ (.int x :: .ref a :: st'))) rfl rfl hd
            refine ⟨T', ⟨_, X', Fr.snoc X' N hge, ?_⟩, fun t k => stp t k⟩
            rw [e']
            exact Rel.write hρ w hcell (fun x hx k => up_ne hx k) (fun _ _ _ => rfl) (fun _ _ _ => rfl) (RelC.put hw q2 q4 w (by rw [hk, up_eq]; rfl) (fun j hj => up_ne' hj a) (fun _ _ => rfl) (fun _ _ => rfl)) Rl
          · rename_i x hk
            cases h
            obtain ⟨T', h', X', e', w, stp⟩ := putFN X hx hZ hown (hw _ q1) Via.refl rfl Fd Ex Lw (hw _ (instLk_mem hni)) (ty := .long) (v' := .long x) (kindD_3 hk) rfl rfl (g := mkF m pc (cl ρ ls) (cs ρ (.long x :: .ref a :: st'))) rfl rfl hd
            refine ⟨T', ⟨_, X', Fr.snoc X' N hge, ?_⟩, fun t k => stp t k⟩
            rw [e']
            exact Rel.write hρ w hcell (fun _ _ _ => rfl) (fun x hx k => up_ne hx k) (fun _ _ _ => rfl) (RelC.put hw q2 q4 w (by rw [hk, up_eq]; rfl) (fun _ _ => rfl) (fun j hj => up_ne' hj a) (fun _ _ => rfl)) Rl
          · rename_i b hk
            cases h
            obtain ⟨ty, t1, t2, t3, -⟩ := kindD_4 hk
            obtain ⟨T', h', X', e', w, stp⟩ := putFN X hx hZ hown (hw _ q1) Via.refl rfl Fd Ex Lw (hw _ (instLk_mem hni)) (ty := ty) (v' := .ref (ρ b)) t1 (t2 _) (t3 _) (g := mkF m pc (cl ρ ls) (cs ρ (.ref b :: .ref a :: st'))) rfl rfl hd
            refine ⟨T', ⟨_, X', Fr.snoc X' N hge, ?_⟩, fun t k => stp t k⟩
            rw [e']
            exact Rel.write hρ w hcell (fun _ _ _ => rfl) (fun _ _ _ => rfl) (fun x hx k => up_ne hx k) (RelC.put hw q2 q4 w (by rw [hk, up_eq]; rfl) (fun _ _ => rfl) (fun _ _ => rfl) (fun j hj => up_ne' hj a)) Rl
          · cases h
        · cases h
      · cases h
    · cases h
  · obtain rfl : len = 1 := by simpa [lenOk] using hl
    split at h
    · rename_i x j a r
      split at h
      · rename_i u n hc
        split at h
        · rename_i hj
          obtain ⟨hj, hra⟩ := hj
          cases h
          have hcell : L[a]? = some (_, u, n) := hc
          obtain ⟨cell, Ar, hs, hv⟩ := (Rl.2.2.1 _ _ hc).2.1 rfl
          have hs' : cell.slots.size = n := hs
          have hge : n0 ≤ ρ a := by rw [hρn a hra]; omega
          obtain ⟨T', h', X', e', w, stp⟩ := stI X hx hZ rfl Ar (by rw [hs']; exact inb_spec hj) (g := mkF m pc (cl ρ ls) (cs ρ (.int x :: .int j :: .ref a :: st'))) rfl rfl hd
          refine ⟨T', ⟨_, X', Fr.snoc X' N hge, ?_⟩, fun t k => stp t k⟩
          rw [e']
          exact Rel.write hρ w hcell (fun x hx k => up_ne hx k) (fun _ _ _ => rfl) (fun _ _ _ => rfl) (RelC.st1 w) Rl
        · cases h
      · cases h
    · cases h
  · obtain rfl : len = 1 := by simpa [lenOk] using hl
    split at h
    · rename_i x j a r
      split at h
      · rename_i u n hc
        split at h
        · rename_i hj
          obtain ⟨hj, hra⟩ := hj
          cases h
          have hcell : L[a]? = some (_, u, n) := hc
          obtain ⟨cell, Ar, hs, hv⟩ := (Rl.2.2.1 _ _ hc).2.2.2 rfl
          have hs' : cell.slots.size = n := hs
          have hge : n0 ≤ ρ a := by rw [hρn a hra]; omega
          obtain ⟨T', h', X', e', w, stp⟩ := stZ X hx hZ rfl Ar (by rw [hs']; exact inb_spec hj) (g := mkF m pc (cl ρ ls) (cs ρ (.int x :: .int j :: .ref a :: st'))) rfl rfl hd
          refine ⟨T', ⟨_, X', Fr.snoc X' N hge, ?_⟩, fun t k => stp t k⟩
          rw [e']
          exact Rel.write hρ w hcell (fun x hx k => up_ne hx k) (fun _ _ _ => rfl) (fun _ _ _ => rfl) (RelC.st3 w) Rl
        · cases h
      · cases h
    · cases h
  · obtain rfl : len = 1 := by simpa [lenOk] using hl
    split at h
    · rename_i x j a r
      split at h
      · rename_i u n hc
        split at h
        · rename_i hj
          obtain ⟨hj, hra⟩ := hj
          cases h
          have hcell : L[a]? = some (_, u, n) := hc
          obtain ⟨cell, Ar, hs, hv⟩ := (Rl.2.2.1 _ _ hc).2.2.1 rfl
          have hs' : cell.slots.size = n := hs
          have hge : n0 ≤ ρ a := by rw [hρn a hra]; omega
          obtain ⟨T', h', X', e', w, stp⟩ := stJ X hx hZ rfl Ar (by rw [hs']; exact inb_spec hj) (g := mkF m pc (cl ρ ls) (cs ρ (.long x :: .int j :: .ref a :: st'))) rfl rfl hd
          refine ⟨T', ⟨_, X', Fr.snoc X' N hge, ?_⟩, fun t k => stp t k⟩
          rw [e']
          exact Rel.write hρ w hcell (fun _ _ _ => rfl) (fun x hx k => up_ne hx k) (fun _ _ _ => rfl) (RelC.st2 w) Rl
        · cases h
      · cases h
    · cases h
  · rename_i idx
    obtain rfl : len = 3 := by simpa [lenOk] using hl
    split at h
    · rename_i C n hn
      cases h
      obtain ⟨w1, w2, w3⟩ : Jvm.Cond.classLink y.cls idx C ∈ W ∧ Jvm.Cond.instantiable C n ∈ W ∧ Jvm.Cond.initialized C ∈ W := by
        unfold newAt at hn
        split at hn
        · cases hn
        · rename_i C' h1
          split at hn
          · cases hn
          · rename_i n' h2
            split at hn
            · rename_i h3
              cases hn
              exact ⟨classLk_mem h1, instLk_mem h2, hasInit_mem h3⟩
            · cases hn
      have c1 : (L ++ [((0 : Nat), C, n)]).length - L0.length = L.length - L0.length + 1 := by rw [List.length_append]; simp; omega
      have c2 : szL (L ++ [((0 : Nat), C, n)]) - szL L0 = szL L - szL L0 + n := by rw [szL_push]; simp only; omega
      have hRc' : (L ++ [((0 : Nat), C, n)]).length - L0.length ≤ R.cells := hRc
      have hRs' : szL (L ++ [((0 : Nat), C, n)]) - szL L0 ≤ R.slots := hRs
      obtain ⟨T', h', X', e', E, Ex, D, -, st'⟩ := newO X hx hZ hown (hw _ w1) (hw _ w2) (hw _ w3) rfl (g := mkF m pc (cl ρ ls) (cs ρ st)) rfl hd (by show L.length - L0.length + 1 ≤ _; omega) (by show szL L - szL L0 + n ≤ _; omega)
      have hup : T'.heap.size ≤ s.heap.size + (L.length - L0.length + 1) := X'.heapSize
      have hlo : T.heap.size < h'.size := Ex.lt
      refine ⟨T', ⟨locs, by rw [← c1, ← c2] at X'; exact X', N, ?_⟩, fun t k => st' t ?_⟩
      · rw [e']
        rw [e'] at hup
        refine Rel.push E (by omega) ⟨fun _ => ⟨by rw [← hnew]; exact Ex, fun nm k d fin q1 q2 => ?_⟩, fun q => (by cases q), fun q => (by cases q), fun q => (by cases q)⟩ Rl
        obtain ⟨z1, z2, z3⟩ := Rl.2.2.2 L.length (Nat.le_refl _) k
        have z1' : mi L.length k = 0 := z1
        have z2' : ml L.length k = 0 := z2
        have z3' : mr L.length k = .null := z3
        dsimp only
        rw [z1', z2', z3', ← hnew]
        have Lw := layAt_laid hw q1
        rcases kindD_lt d with z | z | z | z | z
        · exact absurd z q2
        · rw [z]; exact D Lw (kindD_1 z)
        · rw [z]; exact D Lw (kindD_2 z)
        · rw [z]; exact D Lw (kindD_3 z)
        · obtain ⟨ty, t1, -, -, t4⟩ := kindD_4 z
          have q := D Lw t1
          rw [t4] at q
          rw [z]; exact q
      · rw [hnew]; exact k
    · cases h
  · obtain rfl : len = 2 := by simpa [lenOk] using hl
    split at h
    · rename_i n r
      split at h
      · rename_i hc
        obtain ⟨hn, hb, ha⟩ := hc
        cases h
        have c1 : (L ++ [((1 : Nat), "", n.toNatClampNeg)]).length - L0.length = L.length - L0.length + 1 := by rw [List.length_append]; simp; omega
        have c2 : szL (L ++ [((1 : Nat), "", n.toNatClampNeg)]) - szL L0 = szL L - szL L0 + n.toNatClampNeg := by rw [szL_push]; simp only; omega
        have hRc' : (L ++ [((1 : Nat), "", n.toNatClampNeg)]).length - L0.length ≤ R.cells := hRc
        have hRs' : szL (L ++ [((1 : Nat), "", n.toNatClampNeg)]) - szL L0 ≤ R.slots := hRs
        obtain ⟨T', h', cA, X', e', E, Ar, st'⟩ := newP X hx hZ (aty := .int) (hw _ (hasArr_mem ha)) rfl (g := mkF m pc (cl ρ ls) (cs ρ (.int n :: r))) rfl hd rfl hn (cap := n.toNatClampNeg) (Nat.le_refl _) hb (by show L.length - L0.length + 1 ≤ _; omega) (by show szL L - szL L0 + n.toNatClampNeg ≤ _; omega)
        have hup : T'.heap.size ≤ s.heap.size + (L.length - L0.length + 1) := X'.heapSize
        have hlo : T.heap.size < h'.size := Ar.lt
        refine ⟨T', ⟨locs, by rw [← c1, ← c2] at X'; exact X', N, ?_⟩, fun t k => st' t ?_⟩
        · rw [e']
          rw [e'] at hup
          refine Rel.push E (by omega) ⟨fun q => (by cases q), fun _ => ?_, fun q => (by cases q), fun q => (by cases q)⟩ Rl
          refine ⟨_, by rw [← hnew]; exact Ar, sz_new _ _ _, fun k hk => ?_⟩
          have hk' : k < n.toNatClampNeg := hk
          have z1 : mi L.length k = 0 := (Rl.2.2.2 L.length (Nat.le_refl _) k).1
          dsimp only
          rw [z1]
          simp [newA, hk']
          rfl
        · rw [hnew]; exact k
      · cases h
    · cases h
  · obtain rfl : len = 2 := by simpa [lenOk] using hl
    split at h
    · rename_i n r
      split at h
      · rename_i hc
        obtain ⟨hn, hb, ha⟩ := hc
        cases h
        have c1 : (L ++ [((2 : Nat), "", n.toNatClampNeg)]).length - L0.length = L.length - L0.length + 1 := by rw [List.length_append]; simp; omega
        have c2 : szL (L ++ [((2 : Nat), "", n.toNatClampNeg)]) - szL L0 = szL L - szL L0 + n.toNatClampNeg := by rw [szL_push]; simp only; omega
        have hRc' : (L ++ [((2 : Nat), "", n.toNatClampNeg)]).length - L0.length ≤ R.cells := hRc
        have hRs' : szL (L ++ [((2 : Nat), "", n.toNatClampNeg)]) - szL L0 ≤ R.slots := hRs
        obtain ⟨T', h', cA, X', e', E, Ar, st'⟩ := newP X hx hZ (aty := .long) (hw _ (hasArr_mem ha)) rfl (g := mkF m pc (cl ρ ls) (cs ρ (.int n :: r))) rfl hd rfl hn (cap := n.toNatClampNeg) (Nat.le_refl _) hb (by show L.length - L0.length + 1 ≤ _; omega) (by show szL L - szL L0 + n.toNatClampNeg ≤ _; omega)
        have hup : T'.heap.size ≤ s.heap.size + (L.length - L0.length + 1) := X'.heapSize
        have hlo : T.heap.size < h'.size := Ar.lt
        refine ⟨T', ⟨locs, by rw [← c1, ← c2] at X'; exact X', N, ?_⟩, fun t k => st' t ?_⟩
        · rw [e']
          rw [e'] at hup
          refine Rel.push E (by omega) ⟨fun q => (by cases q), fun q => (by cases q), fun _ => ?_, fun q => (by cases q)⟩ Rl
          refine ⟨_, by rw [← hnew]; exact Ar, sz_new _ _ _, fun k hk => ?_⟩
          have hk' : k < n.toNatClampNeg := hk
          have z1 : ml L.length k = 0 := (Rl.2.2.2 L.length (Nat.le_refl _) k).2.1
          dsimp only
          rw [z1]
          simp [newA, hk']
          rfl
        · rw [hnew]; exact k
      · cases h
    · cases h
  · obtain rfl : len = 2 := by simpa [lenOk] using hl
    split at h
    · rename_i n r
      split at h
      · rename_i hc
        obtain ⟨hn, hb, ha⟩ := hc
        cases h
        have c1 : (L ++ [((3 : Nat), "", n.toNatClampNeg)]).length - L0.length = L.length - L0.length + 1 := by rw [List.length_append]; simp; omega
        have c2 : szL (L ++ [((3 : Nat), "", n.toNatClampNeg)]) - szL L0 = szL L - szL L0 + n.toNatClampNeg := by rw [szL_push]; simp only; omega
        have hRc' : (L ++ [((3 : Nat), "", n.toNatClampNeg)]).length - L0.length ≤ R.cells := hRc
        have hRs' : szL (L ++ [((3 : Nat), "", n.toNatClampNeg)]) - szL L0 ≤ R.slots := hRs
        obtain ⟨T', h', cA, X', e', E, Ar, st'⟩ := newP X hx hZ (aty := .boolean) (hw _ (hasArr_mem ha)) rfl (g := mkF m pc (cl ρ ls) (cs ρ (.int n :: r))) rfl hd rfl hn (cap := n.toNatClampNeg) (Nat.le_refl _) hb (by show L.length - L0.length + 1 ≤ _; omega) (by show szL L - szL L0 + n.toNatClampNeg ≤ _; omega)
        have hup : T'.heap.size ≤ s.heap.size + (L.length - L0.length + 1) := X'.heapSize
        have hlo : T.heap.size < h'.size := Ar.lt
        refine ⟨T', ⟨locs, by rw [← c1, ← c2] at X'; exact X', N, ?_⟩, fun t k => st' t ?_⟩
        · rw [e']
          rw [e'] at hup
          refine Rel.push E (by omega) ⟨fun q => (by cases q), fun q => (by cases q), fun q => (by cases q), fun _ => ?_⟩ Rl
          refine ⟨_, by rw [← hnew]; exact Ar, sz_new _ _ _, fun k hk => ?_⟩
          have hk' : k < n.toNatClampNeg := hk
          have z1 : mi L.length k = 0 := (Rl.2.2.2 L.length (Nat.le_refl _) k).1
          dsimp only
          rw [z1]
          simp [newA, hk']
          rfl
        · rw [hnew]; exact k
      · cases h
    · cases h
  · cases h
end S
end Jvm.OwnEv
namespace Jvm.OwnEv
open Sem ClassFile Op Lib Jvm.Stand Jvm.Free Jvm.LawKit Jvm.RoadKit
/-! PART 5: what the evaluator answers, the model does -/
theorem run_ext {W : List Jvm.Cond} {ro : Nat} : ∀ (n : Nat) {F Lb : Nat} {y : MethodName} {code : ByteArray} {ret : Option FieldType} {pc : Nat} {ls : List Slot} {st : List Value} {M M' : EMem} {v : Option Value},
    run W ro n F Lb y code ret pc ls st M = some (v, M') → M.1.length ≤ M'.1.length ∧ szL M.1 ≤ szL M'.1
  | 0, _, _, _, _, _, _, _, _, _, _, _, h => by simp [run] at h
  | n + 1, F, Lb, y, code, ret, pc, ls, st, M, M', v, h => by
    unfold run at h
    split at h
    · split at h
      · exact run_ext n h
      · split at h
        · rename_i he
          split at he
          · have q1 := execM_ext he
            have q2 := run_ext n h
            exact ⟨Nat.le_trans q1.1 q2.1, Nat.le_trans q1.2 q2.2⟩
          · cases he
        · split at h
          · cases h; exact ⟨Nat.le_refl _, Nat.le_refl _⟩
          · split at h
            · split at h
              · split at h
                · rename_i hr
                  have q1 := run_ext n hr
                  have q2 := run_ext n h
                  exact ⟨Nat.le_trans q1.1 q2.1, Nat.le_trans q1.2 q2.2⟩
                · cases h
              · cases h
            · cases h
    · cases h
theorem callAt_spec {W : List Jvm.Cond} {own : String} {idx kd : Nat} {z : MethodName} {na : Nat} {b : ByteArray} {mx : Nat} {r : Option FieldType} (h : callAt W own idx kd = some (z, na, b, mx, r)) :
    Jvm.Cond.methodLink own idx z ∈ W ∧ Jvm.Cond.code z b mx r ∈ W ∧ Jvm.Cond.initialized z.cls ∈ W ∧ plainName z.cls = true ∧ (z.cls ≠ "java/lang/invoke/MethodHandle" ∧ z.cls ≠ "java/lang/invoke/VarHandle") ∧ (∀ sig, parseMethodDescriptor z.desc = some sig → na = sig.parameters.length) ∧
    ((kd = 0 ∧ hasDecl z W = true ∧ hasSel z W = true ∧ hasInst z W = true) ∨ (kd = 1 ∧ hasPriv z W = true ∧ hasInst z W = true ∧ (instLk z.cls W).isSome = true) ∨ (kd = 2 ∧ z.name = "<init>" ∧ hasInst z W = true ∧ r = none) ∨ (kd = 3 ∧ hasStat z W = true)) := by
  unfold callAt at h
  split at h
  · cases h
  · rename_i z' h1
    split at h
    · rename_i b' n' r' sig h2 h3
      split at h
      · rename_i hc
        cases h
        obtain ⟨c2, c3, c4, c5, c6⟩ := hc
        exact ⟨methodLk_mem h1, codeLk_mem h2, hasInit_mem c2, c3, ⟨c4, c5⟩, fun sig' q => by rw [h3] at q; cases q; rfl, c6⟩
      · cases h
    · cases h
section S
variable {l : Launch} {Z : State} {a0 : Array Value} {W : List Jvm.Cond} {ρ : Nat → Addr} {ro n0 : Nat}
/-- what a run of n steps promises -/
def Good (l : Launch) (Z : State) (W : List Jvm.Cond) (ρ : Nat → Addr) (ro n0 : Nat) (n : Nat) : Prop :=
  ∀ ⦃F Lb : Nat⦄ ⦃y : MethodName⦄ ⦃code : ByteArray⦄ ⦃ret : Option FieldType⦄ ⦃pc : Nat⦄ ⦃ls : List Slot⦄ ⦃st : List Value⦄ ⦃M M' : EMem⦄ ⦃v : Option Value⦄, run W ro n F Lb y code ret pc ls st M = some (v, M') →
    ∀ ⦃p : Program⦄ ⦃e : Env⦄ ⦃R : Room⦄ ⦃s : State⦄ ⦃m : MethodId⦄ ⦃args : Array Value⦄ ⦃below : List Frame⦄ ⦃meth : Method⦄ ⦃c : Code⦄ ⦃L0 : ELay⦄ ⦃T : State⦄, p.tables.exec = Jvm.exec → Z.Warmed39 s.vm → s.vm.findClass y.cls = some m.cls → meth.name = y.name → c.code = code → meth.sig.returnType = ret → meth.locks = false → ls.length = c.maxLocals →
      F ≤ R.frames → Lb ≤ R.locals → M'.1.length - L0.length ≤ R.cells → szL M'.1 - szL L0 ≤ R.slots → L0.length ≤ M.1.length → szL L0 ≤ szL M.1 → s.heap.size = n0 + (L0.length - ro) → ro ≤ L0.length → Here p l e R s m args below meth c Z W ρ ro n0 L0 T M →
      ∃ (s₂ : State) (L : List Loc), Steps p.tables e below (T.setTop (mkF m pc (cl ρ ls) (cs ρ st))) s₂ ∧ s₂.status = .running ∧ Ended s₂ below (.returned (v.map (conc ρ))) ∧ Rel Z W ρ ro n0 s₂.heap M' ∧ Fr n0 L ∧ s.WarmedH s₂.vm ∧
        s.sameButNew ({ s₂ with vm := s.vm } : State) L (M'.1.length - L0.length) (szL M'.1 - szL L0)
theorem met_of {n : Nat} (G : Good l Z W ρ ro n0 n) {F Lb : Nat} {z : MethodName} {b : ByteArray} {r : Option FieldType} {as : List Value} {mx : Nat} {M M' : EMem} {v : Option Value} (h : run W ro n F Lb z b r 0 (entryL as mx) [] M = some (v, M'))
    (hfl : (fillL as).length ≤ mx) (hp : plainName z.cls = true) {h0 : Heap} (Rl : Rel Z W ρ ro n0 h0 M) {R : Room} (hF : F ≤ R.frames) (hLb : Lb ≤ R.locals) (hRc : M'.1.length - M.1.length ≤ R.cells) (hRs : szL M'.1 - szL M.1 ≤ R.slots) (ws : List Jvm.Cond) :
    MetFree l z (head1 (Jvm.Cond.code z b mx r :: ws) R) (fun a U => a = (as.map (conc ρ)).toArray ∧ Z.Warmed39 U.vm ∧ U.heap = h0) (fun _ _ _ _ _ => True)
      (fun _ U o U' => ∃ v' L, o = .returned v' ∧ (v' = v.map (conc ρ) ∧ Rel Z W ρ ro n0 U'.heap M' ∧ Fr n0 L) ∧ FrameEnd U o U' L (M'.1.length - M.1.length) (szL M'.1 - szL M.1)) := by
  refine MetFree.of_bodySF (plainFor_of_name hp) hisR ?_
  intro p e s m args below meth c s₁ Bd hml0 hP hK
  obtain ⟨rfl, hZ, hh⟩ := hP
  have hown : s.vm.findClass z.cls = some m.cls := findClass_of_methodNamed Bd.named
  have hnm := (name_of_methodNamed Bd.named Bd.method).1
  have X0 : Stand p l e R s m (as.map (conc ρ)).toArray below meth c s₁ [] 0 0 := Stand.of_body Bd
  have e0 : s₁.heap = h0 := by rw [← hh, Bd.state]; rfl
  have hH : Here p l e R s m (as.map (conc ρ)).toArray below meth c Z W ρ ro n0 M.1 s₁ M := ⟨[], by rw [Nat.sub_self, Nat.sub_self]; exact X0, Fr.nil n0, by rw [e0]; exact Rl⟩
  obtain ⟨s₂, L, q1, q2, q3, q4, q5, q6, q7⟩ := G h (p := p) (e := e) (R := R) (s := s) (m := m) (below := below) (L0 := M.1) (T := s₁) Bd.exec hZ hown hnm Bd.bytes Bd.returns Bd.notSynchronized (by rw [entryL_len hfl, hml0]) hF hLb hRc hRs (Nat.le_refl _) (Nat.le_refl _) (by rw [hh]; exact Rl.1) Rl.2.1 hH
  refine ⟨s₂, _, castTop ?_ q1, q2, q3, _, L, rfl, ⟨rfl, q4, q5⟩, ⟨_, rfl⟩, q6, q7⟩
  show ({ method := m, pc := 0, locals := argsToLocals (as.map (conc ρ)).toArray mx, stack := [], locked := none } : JFrame) = _
  rw [args_conc]
  rfl
theorem toL_conc (v : Option Value) (rest : List Value) : (v.map (conc ρ)).toList ++ cs ρ rest = cs ρ (v.toList ++ rest) := by cases v <;> simp
theorem split_st {st rest : List Value} {na : Nat} {x : Value} (h : st.drop na = x :: rest) : cs ρ st = ((st.take na).reverse.map (conc ρ)).reverse ++ conc ρ x :: cs ρ rest := by
  have e : st = st.take na ++ (x :: rest) := by rw [← h]; exact (List.take_append_drop na st).symm
  rw [← List.map_reverse, List.reverse_reverse]
  conv => lhs; rw [e]
  simp [cs]
theorem split_st0 {st : List Value} {na : Nat} : cs ρ st = ((st.take na).reverse.map (conc ρ)).reverse ++ cs ρ (st.drop na) := by
  rw [← List.map_reverse, List.reverse_reverse]
  conv => lhs; rw [← List.take_append_drop na st]
  simp [cs]
set_option maxRecDepth 65536 in
set_option maxHeartbeats 40000000 in
/-- a call by the callee's own run -/
theorem call_sound {n : Nat} (G : Good l Z W ρ ro n0 n) (hw : ∀ d ∈ W, d.before a0 Z = true) {p : Program} {e : Env} {R : Room} {s : State} {m : MethodId} {args : Array Value} {below : List Frame} {meth : Method} {c : Code} {L0 : ELay} {T : State} {M M' : EMem} {y : MethodName}
    (H : Here p l e R s m args below meth c Z W ρ ro n0 L0 T M) (hx : p.tables.exec = Jvm.exec) (hZ : Z.Warmed39 s.vm) (hown : s.vm.findClass y.cls = some m.cls) {F Lb : Nat} (hF : F ≤ R.frames) (hLb : Lb ≤ R.locals)
    {ls : List Slot} {st : List Value} {ins : Instr} {pc len : Nat} (hsz : ls.length = c.maxLocals) (hd : decode c.code pc = .ok (ins, len)) {z : MethodName} {as rest : List Value} {b : ByteArray} {mx : Nat} {r : Option FieldType} {v : Option Value}
    (hc : callOf W y ins len st M = some (z, as, rest, b, mx, r)) (h1 : 1 ≤ F) (h2 : wt rest + (mx + 11) ≤ Lb) (h3 : (fillL as).length ≤ mx) (hr : run W ro n (F - 1) (Lb - (wt rest + (mx + 11))) z b r 0 (entryL as mx) [] M = some (v, M'))
    (hL : L0.length ≤ M.1.length) (hS : szL L0 ≤ szL M.1) (hRc : M'.1.length - L0.length ≤ R.cells) (hRs : szL M'.1 - szL L0 ≤ R.slots) :
    ∃ T', Here p l e R s m args below meth c Z W ρ ro n0 L0 T' M' ∧ Steps p.tables e below (T.setTop (mkF m pc (cl ρ ls) (cs ρ st))) (T'.setTop (mkF m (pc + 3) (cl ρ ls) (cs ρ (v.toList ++ rest)))) := by
  obtain ⟨locs, X, N, Rl⟩ := H
  have hext := run_ext n hr
  have hsize : (mkF m pc (cl ρ ls) (cs ρ st)).locals.size = c.maxLocals := by simp [hsz]
  have hW : ∀ q : List Value, q = rest → 2 * (mkF m pc (cl ρ ls) (cs ρ st)).monitorRoom + ((cs ρ q).map fun v => v.category).sum ≤ wt rest := fun q e => by
    subst e
    show 2 * 0 + ((q.map (conc ρ)).map fun v => v.category).sum ≤ _
    rw [wt_conc]; omega
  unfold callOf at hc
  split at hc
  · rename_i hlen
    subst hlen
    split at hc
    · rename_i idx
      split at hc
      · rename_i z' na b' n' r' hca
        split at hc
        · rename_i a rest' hdrop
          split at hc
          · rename_i C u hcell
            split at hc
            · rename_i hcond
              cases hc
              obtain ⟨rfl, hna⟩ := hcond
              obtain ⟨k1, k2, k3, k4, k5, k6, k7⟩ := callAt_spec hca
              rcases k7 with ⟨q, -⟩ | ⟨-, g1, g2, g3⟩ | ⟨q, -⟩ | ⟨q, -⟩
              · cases q
              · obtain ⟨ni, hni⟩ := Option.isSome_iff_exists.mp g3
                have E := ((Rl.2.2.1 _ _ hcell).1 rfl).1
                obtain ⟨cq, q1, q2⟩ := E.cell
                have hpriv : s.PrivateAt z := Cond.privateMethod_at (mvP hZ (hw _ (hasPriv_mem g1)) (args := #[]))
                obtain ⟨ci, ki, i1, i2, i3, i4, -⟩ := Cond.instantiable_spec (mvT (args := args) hZ (hw _ (instLk_mem hni)))
                have hsel : (Jvm.Cond.selects z.cls z z).before args s = true := selects_self_of_private i1 i2 (by simp only [Bool.or_eq_false_iff] at i4; exact i4.1) hpriv (mvT hZ (hw _ (hasInst_mem g2))) k5
                have back := backOf (R := R) (p := p) (e := e) (below := below) (s := s) (args := args) (len := 3) (W := wt rest) (rm := { frames := F - 1, cells := M'.1.length - M.1.length, slots := szL M'.1 - szL M.1, locals := Lb - (wt rest + (mx + 11)) }) (Q := fun v' h' L => v' = v.map (conc ρ) ∧ Rel Z W ρ ro n0 h' M' ∧ Fr n0 L) (met_of G hr h3 k4 Rl (R := { frames := F - 1, cells := M'.1.length - M.1.length, slots := szL M'.1 - szL M.1, locals := Lb - (wt rest + (mx + 11)) }) (Nat.le_refl _) (Nat.le_refl _) (Nat.le_refl _) (Nat.le_refl _) []) hZ (hw _ k2) (hw _ k3) (by show F - 1 + 1 ≤ _; omega) (by show wt rest + (mx + 11) + (Lb - (wt rest + (mx + 11))) ≤ _; omega)
                obtain ⟨v', vm₁, ⟨T', Lq, cq', nq⟩, hW₁, X', ⟨L', ⟨rfl, hR', hN'⟩, l', y', z'⟩, st'⟩ := X.privateBack hx (y := z) hown (mvT hZ (hw _ k1)) (mvT hZ (hw _ (hasInst_mem g2))) hsel hpriv (mvT hZ (hw _ k2)) k5 back (g := mkF m pc (cl ρ ls) (cs ρ st)) rfl hsize (Steps.refl _) (a := ρ a) q1 q2 (argsL := (st.take na).reverse.map (conc ρ)) (rest := cs ρ rest)
                  (fun sig hs => by rw [← k6 sig hs]; simpa using hna) (split_st hdrop) (hW _ rfl) hd (fun _ _ => ⟨by simp [conc], rfl, by show M.1.length - L0.length + (M'.1.length - M.1.length) ≤ _; omega, by show szL M.1 - szL L0 + (szL M'.1 - szL M.1) ≤ _; omega⟩)
                dsimp only [Pt.U, Pt.locs, Pt.cells, Pt.slots] at X' l' y' z' st' hR'
                subst l' y' z'
                refine ⟨T', ⟨_, ?_, Fr.app N hN', hR'⟩, ?_⟩
                · have c1 : M'.1.length - L0.length = M.1.length - L0.length + (M'.1.length - M.1.length) := by omega
                  have c2 : szL M'.1 - szL L0 = szL M.1 - szL L0 + (szL M'.1 - szL M.1) := by omega
                  rw [c1, c2]; exact X'
                · rw [← toL_conc]; exact st'
              · cases q
              · cases q
            · cases hc
          · cases hc
        · cases hc
      · split at hc
        · rename_i z' na b' n' r' hca
          split at hc
          · rename_i a rest' hdrop
            split at hc
            · rename_i C u hcell
              split at hc
              · rename_i hcond
                cases hc
                obtain ⟨rfl, hna⟩ := hcond
                obtain ⟨k1, k2, k3, k4, k5, k6, k7⟩ := callAt_spec hca
                rcases k7 with ⟨-, g1, g2, g3⟩ | ⟨q, -⟩ | ⟨q, -⟩ | ⟨q, -⟩
                · have E := ((Rl.2.2.1 _ _ hcell).1 rfl).1
                  obtain ⟨cB, kB, q1, q2, q3⟩ := isOf (T := T) hZ rfl E
                  have back := backOf (R := R) (p := p) (e := e) (below := below) (s := s) (args := args) (len := 3) (W := wt rest) (rm := { frames := F - 1, cells := M'.1.length - M.1.length, slots := szL M'.1 - szL M.1, locals := Lb - (wt rest + (mx + 11)) }) (Q := fun v' h' L => v' = v.map (conc ρ) ∧ Rel Z W ρ ro n0 h' M' ∧ Fr n0 L) (met_of G hr h3 k4 Rl (R := { frames := F - 1, cells := M'.1.length - M.1.length, slots := szL M'.1 - szL M.1, locals := Lb - (wt rest + (mx + 11)) }) (Nat.le_refl _) (Nat.le_refl _) (Nat.le_refl _) (Nat.le_refl _) []) hZ (hw _ k2) (hw _ k3) (by show F - 1 + 1 ≤ _; omega) (by show wt rest + (mx + 11) + (Lb - (wt rest + (mx + 11))) ≤ _; omega)
                  have hsel : (Jvm.Cond.selects z.cls z z).before args s = true := mvT hZ (hw _ (hasSel_mem g2))
                  obtain ⟨v', vm₁, ⟨T', Lq, cq', nq⟩, hW₁, X', ⟨L', ⟨rfl, hR', hN'⟩, l', y', z'⟩, st'⟩ := X.virtualBack hx (y := z) (z := z) hown (mvT hZ (hw _ k1)) (mvT hZ (hw _ (hasDecl_mem g1))) (notFace_of_selects hsel) hsel (mvT hZ (hw _ (hasInst_mem g3))) k5 back q1 q3 (g := mkF m pc (cl ρ ls) (cs ρ st)) rfl hsize (Steps.refl _) (argsL := (st.take na).reverse.map (conc ρ)) (rest := cs ρ rest)
                    (fun sig hs => by rw [← k6 sig hs]; simpa using hna) (split_st hdrop) (hW _ rfl) hd (fun _ _ => ⟨by simp [conc], rfl, by show M.1.length - L0.length + (M'.1.length - M.1.length) ≤ _; omega, by show szL M.1 - szL L0 + (szL M'.1 - szL M.1) ≤ _; omega⟩)
                  dsimp only [Pt.U, Pt.locs, Pt.cells, Pt.slots] at X' l' y' z' st' hR'
                  subst l' y' z'
                  refine ⟨T', ⟨_, ?_, Fr.app N hN', hR'⟩, ?_⟩
                  · have c1 : M'.1.length - L0.length = M.1.length - L0.length + (M'.1.length - M.1.length) := by omega
                    have c2 : szL M'.1 - szL L0 = szL M.1 - szL L0 + (szL M'.1 - szL M.1) := by omega
                    rw [c1, c2]; exact X'
                  · rw [← toL_conc]; exact st'
                · cases q
                · cases q
                · cases q
              · cases hc
            · cases hc
          · cases hc
        · cases hc
    · rename_i idx
      split at hc
      · rename_i z' na b' n' r' hca
        split at hc
        · rename_i a rest' hdrop
          split at hc
          · rename_i hna
            cases hc
            obtain ⟨k1, k2, k3, k4, k5, k6, k7⟩ := callAt_spec hca
            rcases k7 with ⟨q, -⟩ | ⟨q, -⟩ | ⟨-, g1, g2, g3⟩ | ⟨q, -⟩
            · cases q
            · cases q
            · subst g3
              have back := backOf (R := R) (p := p) (e := e) (below := below) (s := s) (args := args) (len := 3) (W := wt rest) (rm := { frames := F - 1, cells := M'.1.length - M.1.length, slots := szL M'.1 - szL M.1, locals := Lb - (wt rest + (mx + 11)) }) (Q := fun v' h' L => v' = v.map (conc ρ) ∧ Rel Z W ρ ro n0 h' M' ∧ Fr n0 L) (met_of G hr h3 k4 Rl (R := { frames := F - 1, cells := M'.1.length - M.1.length, slots := szL M'.1 - szL M.1, locals := Lb - (wt rest + (mx + 11)) }) (Nat.le_refl _) (Nat.le_refl _) (Nat.le_refl _) (Nat.le_refl _) []) hZ (hw _ k2) (hw _ k3) (by show F - 1 + 1 ≤ _; omega) (by show wt rest + (mx + 11) + (Lb - (wt rest + (mx + 11))) ≤ _; omega)
              obtain ⟨v', vm₁, ⟨T', Lq, cq', nq⟩, hW₁, X', ⟨L', ⟨rfl, hR', hN'⟩, l', y', z'⟩, st'⟩ := X.specialBack hx (y := z) g1 hown (mvT hZ (hw _ k1)) (mvT hZ (hw _ (hasInst_mem g2))) (mvT hZ (hw _ k2)) k5 back (g := mkF m pc (cl ρ ls) (cs ρ st)) rfl hsize (Steps.refl _) (a := ρ a) (argsL := (st.take na).reverse.map (conc ρ)) (rest := cs ρ rest)
                (fun sig hs => by rw [← k6 sig hs]; simpa using hna) (split_st hdrop) (hW _ rfl) hd (fun _ _ => ⟨by simp [conc], rfl, by show M.1.length - L0.length + (M'.1.length - M.1.length) ≤ _; omega, by show szL M.1 - szL L0 + (szL M'.1 - szL M.1) ≤ _; omega⟩)
              dsimp only [Pt.U, Pt.locs, Pt.cells, Pt.slots] at X' l' y' z' st' hR'
              subst l' y' z'
              refine ⟨T', ⟨_, ?_, Fr.app N hN', hR'⟩, ?_⟩
              · have c1 : M'.1.length - L0.length = M.1.length - L0.length + (M'.1.length - M.1.length) := by omega
                have c2 : szL M'.1 - szL L0 = szL M.1 - szL L0 + (szL M'.1 - szL M.1) := by omega
                rw [c1, c2]; exact X'
              · rw [← toL_conc]; exact st'
            · cases q
          · cases hc
        · cases hc
      · cases hc
    · rename_i idx
      split at hc
      · rename_i z' na b' n' r' hca
        split at hc
        · rename_i hna
          cases hc
          obtain ⟨k1, k2, k3, k4, k5, k6, k7⟩ := callAt_spec hca
          rcases k7 with ⟨q, -⟩ | ⟨q, -⟩ | ⟨q, -⟩ | ⟨-, g1⟩
          · cases q
          · cases q
          · cases q
          · have back := backOf (R := R) (p := p) (e := e) (below := below) (s := s) (args := args) (len := 3) (W := wt (st.drop na)) (rm := { frames := F - 1, cells := M'.1.length - M.1.length, slots := szL M'.1 - szL M.1, locals := Lb - (wt (st.drop na) + (mx + 11)) }) (Q := fun v' h' L => v' = v.map (conc ρ) ∧ Rel Z W ρ ro n0 h' M' ∧ Fr n0 L) (met_of G hr h3 k4 Rl (R := { frames := F - 1, cells := M'.1.length - M.1.length, slots := szL M'.1 - szL M.1, locals := Lb - (wt (st.drop na) + (mx + 11)) }) (Nat.le_refl _) (Nat.le_refl _) (Nat.le_refl _) (Nat.le_refl _) []) hZ (hw _ k2) (hw _ k3) (by show F - 1 + 1 ≤ _; omega) (by show wt (st.drop na) + (mx + 11) + (Lb - (wt (st.drop na) + (mx + 11))) ≤ _; omega)
            obtain ⟨v', vm₁, ⟨T', Lq, cq', nq⟩, hW₁, X', ⟨L', ⟨rfl, hR', hN'⟩, l', y', z'⟩, st'⟩ := Jvm.LawKit.callS X hx (y := z) hown (mvT hZ (hw _ k1)) (mvT hZ (hw _ (hasStat_mem g1))) (mvT hZ (hw _ k3)) (mvT hZ (hw _ k2)) k5 back (g := mkF m pc (cl ρ ls) (cs ρ st)) rfl hsize (argsL := (st.take na).reverse.map (conc ρ)) (rest := cs ρ (st.drop na))
              (fun sig hs => by rw [← k6 sig hs]; simpa using hna) split_st0 (hW _ rfl) hd (fun _ _ => ⟨rfl, rfl, by show M.1.length - L0.length + (M'.1.length - M.1.length) ≤ _; omega, by show szL M.1 - szL L0 + (szL M'.1 - szL M.1) ≤ _; omega⟩)
            dsimp only [Pt.U, Pt.locs, Pt.cells, Pt.slots] at X' l' y' z' st' hR'
            subst l' y' z'
            refine ⟨T', ⟨_, ?_, Fr.app N hN', hR'⟩, ?_⟩
            · have c1 : M'.1.length - L0.length = M.1.length - L0.length + (M'.1.length - M.1.length) := by omega
              have c2 : szL M'.1 - szL L0 = szL M.1 - szL L0 + (szL M'.1 - szL M.1) := by omega
              rw [c1, c2]; exact X'
            · rw [← toL_conc]; exact st' _ (Steps.refl _)
        · cases hc
      · cases hc
    · cases hc
  · cases hc
set_option maxRecDepth 65536 in
set_option maxHeartbeats 40000000 in
theorem run_good (hw : ∀ d ∈ W, d.before a0 Z = true) (hρ : ∀ a b, ρ a = ρ b → a = b) (hρn : ∀ a, ro ≤ a → ρ a = n0 + (a - ro)) : ∀ n, Good l Z W ρ ro n0 n
  | 0 => fun F Lb y code ret pc ls st M M' v h => by simp [run] at h
  | n + 1 => by
    have G := run_good hw hρ hρn n
    intro F Lb y code ret pc ls st M M' v h p e R s m args below meth c L0 T hx hZ hown hnm hby hret hlocks hsz hF hLb hRc hRs hL hS hs0 hro H
    unfold run at h
    split at h
    · rename_i ins len hdec
      have hd : decode c.code pc = .ok (ins, len) := by rw [hby]; exact hdec
      split at h
      · rename_i pc' ls' st' hP
        split at hP
        · rename_i hlo
          obtain ⟨g1, T', H', g2⟩ := execP_sound H hx hZ hw hown hF hLb hsz hd hlo hP
          obtain ⟨s₂, L, q1, q⟩ := G h hx hZ hown hnm hby hret hlocks (g1.trans hsz) hF hLb hRc hRs hL hS hs0 hro H'
          exact ⟨s₂, L, g2 _ q1, q⟩
        · cases hP
      · split at h
        · rename_i st' M'' hM
          split at hM
          · rename_i hlo
            have q1 := execM_ext hM
            have q2 := run_ext n h
            obtain ⟨T', H', g2⟩ := execM_sound H hx hZ hw hown hnm hρ hρn hL hS hs0 hro (ls := ls) hd hlo (by omega) (by omega) hM
            obtain ⟨s₂, L, q1, q⟩ := G h hx hZ hown hnm hby hret hlocks hsz hF hLb hRc hRs (by omega) (by omega) hs0 hro H'
            exact ⟨s₂, L, g2 _ q1, q⟩
          · cases hM
        · split at h
          · rename_i v' hv
            cases h
            obtain ⟨locs, X, N, Rl⟩ := H
            unfold retOf at hv
            split at hv
            · rename_i hlen
              subst hlen
              split at hv
              · cases hv
                obtain ⟨fs, hr, hrun, hended, hWm, hsame⟩ := X.leave (v := none) (fun _ => rfl) hlocks
                exact ⟨_, locs, X.returnOut hx hret hd hr, hrun, hended, Rl, N, hWm, hsame⟩
              · rename_i zz _ _
                cases hv
                obtain ⟨fs, hr, hrun, hended, hWm, hsame⟩ := X.leave (v := some (.int zz)) (fun q => by rw [hret] at q; cases q) hlocks
                exact ⟨_, locs, X.ireturnOut hx hret rfl (Or.inl rfl) hd hr, hrun, hended, Rl, N, hWm, hsame⟩
              · rename_i zz _ _
                cases hv
                obtain ⟨fs, hr, hrun, hended, hWm, hsame⟩ := X.leave (v := some (.int (zz &&& 1))) (fun q => by rw [hret] at q; cases q) hlocks
                exact ⟨_, locs, retN X hx (t := .boolean) hret (Or.inl rfl) hd hr, hrun, hended, Rl, N, hWm, hsame⟩
              · rename_i zz _ _
                cases hv
                obtain ⟨fs, hr, hrun, hended, hWm, hsame⟩ := X.leave (v := some (.long zz)) (fun q => by rw [hret] at q; cases q) hlocks
                exact ⟨_, locs, X.lreturnOut hx hret hd hr, hrun, hended, Rl, N, hWm, hsame⟩
              · cases hv
            · cases hv
          · split at h
            · rename_i z as rest b mx r hc
              split at h
              · rename_i hcond
                obtain ⟨h1, h2, h3⟩ := hcond
                split at h
                · rename_i v'' M'' hr
                  have q1 := run_ext n hr
                  have q2 := run_ext n h
                  obtain ⟨T', H', g2⟩ := call_sound G hw H hx hZ hown hF hLb hsz hd hc h1 h2 h3 hr hL hS (by omega) (by omega)
                  obtain ⟨s₂, L, q1, q⟩ := G h hx hZ hown hnm hby hret hlocks hsz hF hLb hRc hRs (by omega) (by omega) hs0 hro H'
                  exact ⟨s₂, L, g2.trans q1, q⟩
                · cases h
              · cases h
            · cases h
    · cases h
end S
end Jvm.OwnEv
namespace Jvm.OwnEv
open Sem ClassFile Op Lib Jvm.Stand Jvm.Free Jvm.LawKit Jvm.RoadKit
/-! PART 6: the run comes to an end that Q says: the rules -/
theorem execP_special {W : List Jvm.Cond} {F Lb : Nat} {y : MethodName} {pc len idx : Nat} {ls : List Slot} {st : List Value} {M : EMem} : execP W F Lb y (.invokespecial idx) pc len ls st M = match st with
    | .ref _ :: r => if objInitAt W y.cls idx = true ∧ 1 ≤ F ∧ wt r + 12 ≤ Lb then some (pc + 3, ls, r) else none
    | _ => none := rfl
theorem objInit_no {W : List Jvm.Cond} {own : String} {idx kd : Nat} {z : MethodName} {na : Nat} {b : ByteArray} {mx : Nat} {r : Option FieldType} (h : callAt W own idx kd = some (z, na, b, mx, r)) : objInitAt W own idx = false := by
  cases q : objInitAt W own idx with
  | false => rfl
  | true =>
    have hm : methodLk own idx W = some Lib.objectInit := by
      unfold objInitAt at q
      split at q
      · rename_i z' b' n' r' h1 h2
        simp only [Bool.and_eq_true, decide_eq_true_eq] at q
        rw [h1, q.1.1.1.1]
      · cases q
    have hpn : plainName Lib.objectInit.cls = false := by decide
    unfold callAt at h
    rw [hm] at h
    simp only at h
    split at h
    · split at h
      · rename_i hc
        rw [hpn] at hc
        simp at hc
      · cases h
    · cases h
theorem run_succ {W : List Jvm.Cond} {ro : Nat} : ∀ (n : Nat) {F Lb : Nat} {y : MethodName} {code : ByteArray} {ret : Option FieldType} {pc : Nat} {ls : List Slot} {st : List Value} {M : EMem} {x : Option Value × EMem} {F' Lb' : Nat}, F ≤ F' → Lb ≤ Lb' →
    run W ro n F Lb y code ret pc ls st M = some x → run W ro (n + 1) F' Lb' y code ret pc ls st M = some x
  | 0, _, _, _, _, _, _, _, _, _, _, _, _, _, _, h => by simp [run] at h
  | n + 1, F, Lb, y, code, ret, pc, ls, st, M, x, F', Lb', hF, hL, h => by
    unfold run at h
    unfold run
    split at h
    · rename_i ins len hd
      split at h
      · rename_i pc' ls' st' hP
        have hP' : (if lenOk len ins = true then execP W F' Lb' y ins pc len ls st M else none) = some (pc', ls', st') := by
          split at hP
          · rename_i hl
            rw [if_pos hl]
            by_cases hi : ∃ idx, ins = .invokespecial idx
            · obtain ⟨idx, rfl⟩ := hi
              rw [execP_special] at hP ⊢
              split at hP
              · split at hP
                · rename_i hc
                  rw [if_pos ⟨hc.1, Nat.le_trans hc.2.1 hF, Nat.le_trans hc.2.2 hL⟩]
                  exact hP
                · cases hP
              · cases hP
            · have e : execP W F' Lb' y ins pc len ls st M = execP W F Lb y ins pc len ls st M := by
                cases ins <;> first | rfl | (exact absurd ⟨_, rfl⟩ hi)
              rw [e]; exact hP
          · cases hP
        rw [hP']
        exact run_succ n hF hL h
      · rename_i hP
        split at h
        · rename_i st' M' hM
          have hP' : (if lenOk len ins = true then execP W F' Lb' y ins pc len ls st M else none) = none := by
            split at hP
            · rename_i hl
              rw [if_pos hl]
              rw [if_pos hl] at hM
              cases ins <;> first | exact hP | (simp [execM] at hM)
            · rename_i hl
              rw [if_neg hl]
          rw [hP']
          exact run_succ n hF hL h
        · rename_i hM
          split at h
          · rename_i v hv
            have hP' : (if lenOk len ins = true then execP W F' Lb' y ins pc len ls st M else none) = none := by
              split at hP
              · rename_i hl
                rw [if_pos hl]
                cases ins <;> first | exact hP | (simp [retOf] at hv)
              · rename_i hl
                rw [if_neg hl]
            rw [hP']
            exact h
          · rename_i hv
            split at h
            · rename_i z as rest b mx r hc
              split at h
              · rename_i hcond
                obtain ⟨h1, h2, h3⟩ := hcond
                split at h
                · rename_i v M' hr
                  have hP' : (if lenOk len ins = true then execP W F' Lb' y ins pc len ls st M else none) = none := by
                    split at hP
                    · rename_i hl
                      rw [if_pos hl]
                      by_cases hi : ∃ idx, ins = .invokespecial idx
                      · obtain ⟨idx, rfl⟩ := hi
                        rw [execP_special]
                        split
                        · rw [if_neg]
                          intro q
                          have hcc : ∃ u, callAt W y.cls idx 2 = some u := by
                            cases hcq : callAt W y.cls idx 2 with
                            | some u => exact ⟨u, rfl⟩
                            | none =>
                              have e : ∀ s' : List Value, callOf W y (.invokespecial idx) len s' M = none := fun s' => by
                                unfold callOf
                                split
                                · simp only [hcq]
                                · rfl
                              rw [e] at hc; cases hc
                          obtain ⟨⟨u1, u2, u3, u4, u5⟩, hu⟩ := hcc
                          have q1 := q.1
                          rw [objInit_no hu] at q1
                          cases q1
                        · rfl
                      · have e : execP W F' Lb' y ins pc len ls st M = execP W F Lb y ins pc len ls st M := by
                          cases ins <;> first | rfl | (exact absurd ⟨_, rfl⟩ hi)
                        rw [e]; exact hP
                    · rename_i hl
                      rw [if_neg hl]
                  rw [hP']
                  simp only
                  rw [if_pos ⟨Nat.le_trans h1 hF, Nat.le_trans h2 hL, h3⟩, run_succ n (by omega) (by omega) hr]
                  exact run_succ n hF hL h
                · cases h
              · cases h
            · cases h
    · cases h
theorem run_mono {W : List Jvm.Cond} {ro n n' F Lb : Nat} {y : MethodName} {code : ByteArray} {ret : Option FieldType} {pc : Nat} {ls : List Slot} {st : List Value} {M : EMem} {x : Option Value × EMem} {F' Lb' : Nat} (hn : n < n') (hF : F ≤ F') (hL : Lb ≤ Lb')
    (h : run W ro n F Lb y code ret pc ls st M = some x) : run W ro n' F' Lb' y code ret pc ls st M = some x := by
  have : ∀ k, run W ro (n + 1 + k) F' Lb' y code ret pc ls st M = some x := fun k => by
    induction k with
    | zero => exact run_succ n hF hL h
    | succ k ih => exact run_succ _ (Nat.le_refl _) (Nat.le_refl _) ih
  have e : n' = n + 1 + (n' - (n + 1)) := by omega
  rw [e]; exact this _
def Wp (W : List Jvm.Cond) (ro F Lb : Nat) (y : MethodName) (code : ByteArray) (ret : Option FieldType) (pc : Nat) (ls : List Slot) (st : List Value) (M : EMem) (Q : Option Value → EMem → Prop) : Prop :=
  ∃ n v M', run W ro n F Lb y code ret pc ls st M = some (v, M') ∧ Q v M'
section Rules
variable {W : List Jvm.Cond} {ro F Lb : Nat} {y : MethodName} {code : ByteArray} {ret : Option FieldType} {pc : Nat} {ls : List Slot} {st : List Value} {M : EMem} {Q : Option Value → EMem → Prop}
theorem Wp.mono {Q' : Option Value → EMem → Prop} (h : Wp W ro F Lb y code ret pc ls st M Q) (q : ∀ v M', Q v M' → Q' v M') : Wp W ro F Lb y code ret pc ls st M Q' := by
  obtain ⟨n, v, M', h1, h2⟩ := h; exact ⟨n, v, M', h1, q _ _ h2⟩
theorem Wp.room {F' Lb' : Nat} (hF : F ≤ F') (hL : Lb ≤ Lb') (h : Wp W ro F Lb y code ret pc ls st M Q) : Wp W ro F' Lb' y code ret pc ls st M Q := by
  obtain ⟨n, v, M', h1, h2⟩ := h; exact ⟨n + 1, v, M', run_succ n hF hL h1, h2⟩
theorem Wp.p {ins : Instr} {len pc' : Nat} {ls' : List Slot} {st' : List Value} (hd : decode code pc = .ok (ins, len)) (hl : lenOk len ins = true) (he : execP W F Lb y ins pc len ls st M = some (pc', ls', st')) (k : Wp W ro F Lb y code ret pc' ls' st' M Q) : Wp W ro F Lb y code ret pc ls st M Q := by
  obtain ⟨n, v, M', h1, h2⟩ := k
  refine ⟨n + 1, v, M', ?_, h2⟩
  unfold run
  rw [hd]
  simp only
  rw [if_pos hl, he]
  exact h1
theorem Wp.m {ins : Instr} {len : Nat} {st' : List Value} {M1 : EMem} (hd : decode code pc = .ok (ins, len)) (hl : lenOk len ins = true) (hp : execP W F Lb y ins pc len ls st M = none) (he : execM W ro y ins st M = some (st', M1)) (k : Wp W ro F Lb y code ret (pc + len) ls st' M1 Q) : Wp W ro F Lb y code ret pc ls st M Q := by
  obtain ⟨n, v, M', h1, h2⟩ := k
  refine ⟨n + 1, v, M', ?_, h2⟩
  unfold run
  rw [hd]
  simp only
  rw [if_pos hl, hp]
  simp only
  rw [if_pos hl, he]
  exact h1
theorem Wp.r {ins : Instr} {len : Nat} {v : Option Value} (hd : decode code pc = .ok (ins, len)) (hp : execP W F Lb y ins pc len ls st M = none) (hm : execM W ro y ins st M = none) (hr : retOf ins len ret st = some v) (q : Q v M) : Wp W ro F Lb y code ret pc ls st M Q := by
  refine ⟨1, v, M, ?_, q⟩
  unfold run
  rw [hd]
  simp only
  rw [hp, ite_self, hm, ite_self]
  simp only
  rw [hr]
theorem Wp.c {ins : Instr} {len : Nat} {z : MethodName} {as rest : List Value} {b : ByteArray} {mx : Nat} {r : Option FieldType} {F' Lb' w : Nat} (hd : decode code pc = .ok (ins, len)) (hp : execP W F Lb y ins pc len ls st M = none) (hm : execM W ro y ins st M = none) (hr : retOf ins len ret st = none)
    (hc : callOf W y ins len st M = some (z, as, rest, b, mx, r)) (hw : wt rest = w) (h1 : F' + 1 ≤ F) (h2 : w + (mx + 11) + Lb' ≤ Lb) (h3 : (fillL as).length ≤ mx) (k : Wp W ro F' Lb' z b r 0 (entryL as mx) [] M fun v M' => Wp W ro F Lb y code ret (pc + 3) ls (v.toList ++ rest) M' Q) : Wp W ro F Lb y code ret pc ls st M Q := by
  obtain ⟨n1, v1, M1, k1, n2, v2, M2, k2, hq⟩ := k
  subst hw
  refine ⟨n1 + n2 + 3, v2, M2, ?_, hq⟩
  unfold run
  rw [hd]
  simp only
  rw [hp, ite_self, hm, ite_self]
  simp only
  rw [hr, hc]
  simp only
  rw [if_pos ⟨by omega, by omega, h3⟩, run_mono (n' := n1 + n2 + 2) (by omega) (by omega) (by omega) k1]
  exact run_mono (by omega) (Nat.le_refl _) (Nat.le_refl _) k2
theorem Wp.icmp {cd : ClassFile.Cond} {o : Int} {t : Nat} {a b : Int32} {r : List Value} (hd : decode code pc = .ok (.if_icmp cd o, 3)) (hj : jump pc o = some t) (k1 : if_icmp.holds cd a b = true → Wp W ro F Lb y code ret t ls r M Q) (k2 : if_icmp.holds cd a b = false → Wp W ro F Lb y code ret (pc + 3) ls r M Q) : Wp W ro F Lb y code ret pc ls (.int b :: .int a :: r) M Q := by
  have he : execP W F Lb y (.if_icmp cd o) pc 3 ls (.int b :: .int a :: r) M = some (if if_icmp.holds cd a b = true then t else pc + 3, ls, r) := by simp only [execP, hj]
  refine Wp.p hd rfl he ?_
  cases h : if_icmp.holds cd a b with
  | true => rw [if_pos rfl]; exact k1 h
  | false => rw [if_neg Bool.false_ne_true]; exact k2 h
theorem Wp.if0 {cd : ClassFile.Cond} {o : Int} {t : Nat} {a : Int32} {r : List Value} (hd : decode code pc = .ok (.ifCond cd o, 3)) (hj : jump pc o = some t) (k1 : if_icmp.holds cd a 0 = true → Wp W ro F Lb y code ret t ls r M Q) (k2 : if_icmp.holds cd a 0 = false → Wp W ro F Lb y code ret (pc + 3) ls r M Q) : Wp W ro F Lb y code ret pc ls (.int a :: r) M Q := by
  have he : execP W F Lb y (.ifCond cd o) pc 3 ls (.int a :: r) M = some (if ifCond.holds cd a = true then t else pc + 3, ls, r) := by simp only [execP, hj]
  refine Wp.p hd rfl he ?_
  rw [RoadKit.if0]
  cases h : if_icmp.holds cd a 0 with
  | true => rw [if_pos rfl]; exact k1 h
  | false => rw [if_neg Bool.false_ne_true]; exact k2 h
theorem Wp.icmp_lt {o : Int} {t : Nat} {a b : Int32} {r : List Value} (hd : decode code pc = .ok (.if_icmp .lt o, 3)) (hj : jump pc o = some t) (k1 : a < b → Wp W ro F Lb y code ret t ls r M Q) (k2 : ¬ a < b → Wp W ro F Lb y code ret (pc + 3) ls r M Q) : Wp W ro F Lb y code ret pc ls (.int b :: .int a :: r) M Q :=
  Wp.icmp hd hj (fun h => k1 (Classical.byContradiction fun q => by rw [(flt (x := a) (y := b) (by exact q)).1] at h; cases h)) (fun h => k2 (Classical.byContradiction fun q => by rw [(tlt (x := a) (y := b) (by simpa using q)).1] at h; cases h))
theorem Wp.if_lt {o : Int} {t : Nat} {a : Int32} {r : List Value} (hd : decode code pc = .ok (.ifCond .lt o, 3)) (hj : jump pc o = some t) (k1 : a < 0 → Wp W ro F Lb y code ret t ls r M Q) (k2 : ¬ a < 0 → Wp W ro F Lb y code ret (pc + 3) ls r M Q) : Wp W ro F Lb y code ret pc ls (.int a :: r) M Q :=
  Wp.if0 hd hj (fun h => k1 (Classical.byContradiction fun q => by rw [(flt (x := a) (y := 0) (by exact q)).1] at h; cases h)) (fun h => k2 (Classical.byContradiction fun q => by rw [(tlt (x := a) (y := 0) (by simpa using q)).1] at h; cases h))
theorem Wp.icmp_ge {o : Int} {t : Nat} {a b : Int32} {r : List Value} (hd : decode code pc = .ok (.if_icmp .ge o, 3)) (hj : jump pc o = some t) (k1 : ¬ a < b → Wp W ro F Lb y code ret t ls r M Q) (k2 : a < b → Wp W ro F Lb y code ret (pc + 3) ls r M Q) : Wp W ro F Lb y code ret pc ls (.int b :: .int a :: r) M Q :=
  Wp.icmp hd hj (fun h => k1 (Classical.byContradiction fun q => by rw [(tlt (x := a) (y := b) (by simpa using q)).2.1] at h; cases h)) (fun h => k2 (Classical.byContradiction fun q => by rw [(flt (x := a) (y := b) (by exact q)).2.1] at h; cases h))
theorem Wp.if_ge {o : Int} {t : Nat} {a : Int32} {r : List Value} (hd : decode code pc = .ok (.ifCond .ge o, 3)) (hj : jump pc o = some t) (k1 : ¬ a < 0 → Wp W ro F Lb y code ret t ls r M Q) (k2 : a < 0 → Wp W ro F Lb y code ret (pc + 3) ls r M Q) : Wp W ro F Lb y code ret pc ls (.int a :: r) M Q :=
  Wp.if0 hd hj (fun h => k1 (Classical.byContradiction fun q => by rw [(tlt (x := a) (y := 0) (by simpa using q)).2.1] at h; cases h)) (fun h => k2 (Classical.byContradiction fun q => by rw [(flt (x := a) (y := 0) (by exact q)).2.1] at h; cases h))
theorem Wp.icmp_gt {o : Int} {t : Nat} {a b : Int32} {r : List Value} (hd : decode code pc = .ok (.if_icmp .gt o, 3)) (hj : jump pc o = some t) (k1 : b < a → Wp W ro F Lb y code ret t ls r M Q) (k2 : ¬ b < a → Wp W ro F Lb y code ret (pc + 3) ls r M Q) : Wp W ro F Lb y code ret pc ls (.int b :: .int a :: r) M Q :=
  Wp.icmp hd hj (fun h => k1 (Classical.byContradiction fun q => by rw [(flt (x := b) (y := a) (by exact q)).2.2.1] at h; cases h)) (fun h => k2 (Classical.byContradiction fun q => by rw [(tlt (x := b) (y := a) (by simpa using q)).2.2.1] at h; cases h))
theorem Wp.if_gt {o : Int} {t : Nat} {a : Int32} {r : List Value} (hd : decode code pc = .ok (.ifCond .gt o, 3)) (hj : jump pc o = some t) (k1 : 0 < a → Wp W ro F Lb y code ret t ls r M Q) (k2 : ¬ 0 < a → Wp W ro F Lb y code ret (pc + 3) ls r M Q) : Wp W ro F Lb y code ret pc ls (.int a :: r) M Q :=
  Wp.if0 hd hj (fun h => k1 (Classical.byContradiction fun q => by rw [(flt (x := 0) (y := a) (by exact q)).2.2.1] at h; cases h)) (fun h => k2 (Classical.byContradiction fun q => by rw [(tlt (x := 0) (y := a) (by simpa using q)).2.2.1] at h; cases h))
theorem Wp.icmp_le {o : Int} {t : Nat} {a b : Int32} {r : List Value} (hd : decode code pc = .ok (.if_icmp .le o, 3)) (hj : jump pc o = some t) (k1 : ¬ b < a → Wp W ro F Lb y code ret t ls r M Q) (k2 : b < a → Wp W ro F Lb y code ret (pc + 3) ls r M Q) : Wp W ro F Lb y code ret pc ls (.int b :: .int a :: r) M Q :=
  Wp.icmp hd hj (fun h => k1 (Classical.byContradiction fun q => by rw [(tlt (x := b) (y := a) (by simpa using q)).2.2.2] at h; cases h)) (fun h => k2 (Classical.byContradiction fun q => by rw [(flt (x := b) (y := a) (by exact q)).2.2.2] at h; cases h))
theorem Wp.if_le {o : Int} {t : Nat} {a : Int32} {r : List Value} (hd : decode code pc = .ok (.ifCond .le o, 3)) (hj : jump pc o = some t) (k1 : ¬ 0 < a → Wp W ro F Lb y code ret t ls r M Q) (k2 : 0 < a → Wp W ro F Lb y code ret (pc + 3) ls r M Q) : Wp W ro F Lb y code ret pc ls (.int a :: r) M Q :=
  Wp.if0 hd hj (fun h => k1 (Classical.byContradiction fun q => by rw [(tlt (x := 0) (y := a) (by simpa using q)).2.2.2] at h; cases h)) (fun h => k2 (Classical.byContradiction fun q => by rw [(flt (x := 0) (y := a) (by exact q)).2.2.2] at h; cases h))
theorem Wp.icmp_eq {o : Int} {t : Nat} {a b : Int32} {r : List Value} (hd : decode code pc = .ok (.if_icmp .eq o, 3)) (hj : jump pc o = some t) (k1 : a = b → Wp W ro F Lb y code ret t ls r M Q) (k2 : ¬ a = b → Wp W ro F Lb y code ret (pc + 3) ls r M Q) : Wp W ro F Lb y code ret pc ls (.int b :: .int a :: r) M Q :=
  Wp.icmp hd hj (fun h => k1 (Classical.byContradiction fun q => by rw [(feq (x := a) (y := b) (by exact q)).1] at h; cases h)) (fun h => k2 (Classical.byContradiction fun q => by rw [(teq (x := a) (y := b) (by simpa using q)).1] at h; cases h))
theorem Wp.if_eq {o : Int} {t : Nat} {a : Int32} {r : List Value} (hd : decode code pc = .ok (.ifCond .eq o, 3)) (hj : jump pc o = some t) (k1 : a = 0 → Wp W ro F Lb y code ret t ls r M Q) (k2 : ¬ a = 0 → Wp W ro F Lb y code ret (pc + 3) ls r M Q) : Wp W ro F Lb y code ret pc ls (.int a :: r) M Q :=
  Wp.if0 hd hj (fun h => k1 (Classical.byContradiction fun q => by rw [(feq (x := a) (y := 0) (by exact q)).1] at h; cases h)) (fun h => k2 (Classical.byContradiction fun q => by rw [(teq (x := a) (y := 0) (by simpa using q)).1] at h; cases h))
theorem Wp.icmp_ne {o : Int} {t : Nat} {a b : Int32} {r : List Value} (hd : decode code pc = .ok (.if_icmp .ne o, 3)) (hj : jump pc o = some t) (k1 : ¬ a = b → Wp W ro F Lb y code ret t ls r M Q) (k2 : a = b → Wp W ro F Lb y code ret (pc + 3) ls r M Q) : Wp W ro F Lb y code ret pc ls (.int b :: .int a :: r) M Q :=
  Wp.icmp hd hj (fun h => k1 (Classical.byContradiction fun q => by rw [(teq (x := a) (y := b) (by simpa using q)).2] at h; cases h)) (fun h => k2 (Classical.byContradiction fun q => by rw [(feq (x := a) (y := b) (by exact q)).2] at h; cases h))
theorem Wp.if_ne {o : Int} {t : Nat} {a : Int32} {r : List Value} (hd : decode code pc = .ok (.ifCond .ne o, 3)) (hj : jump pc o = some t) (k1 : ¬ a = 0 → Wp W ro F Lb y code ret t ls r M Q) (k2 : a = 0 → Wp W ro F Lb y code ret (pc + 3) ls r M Q) : Wp W ro F Lb y code ret pc ls (.int a :: r) M Q :=
  Wp.if0 hd hj (fun h => k1 (Classical.byContradiction fun q => by rw [(teq (x := a) (y := 0) (by simpa using q)).2] at h; cases h)) (fun h => k2 (Classical.byContradiction fun q => by rw [(feq (x := a) (y := 0) (by exact q)).2] at h; cases h))
variable {L : ELay} {mi : Nat → Nat → Int32} {ml : Nat → Nat → Int64} {mr : Nat → Nat → Value}
theorem Wp.iconst {i : Int} {r : List Value} (v : Int32) (hd : decode code pc = .ok (.iconst i, 1)) (hv : Int32.ofInt i = v) (k : Wp W ro F Lb y code ret (pc + 1) ls (.int v :: r) M Q) : Wp W ro F Lb y code ret pc ls r M Q := by
  subst hv; exact Wp.p hd rfl rfl k
theorem Wp.bipush {i : Int} {r : List Value} (v : Int32) (hd : decode code pc = .ok (.bipush i, 2)) (hv : (Int8.ofInt i).toInt32 = v) (k : Wp W ro F Lb y code ret (pc + 2) ls (.int v :: r) M Q) : Wp W ro F Lb y code ret pc ls r M Q := by
  subst hv; exact Wp.p hd rfl rfl k
theorem Wp.sipush {i : Int} {r : List Value} (v : Int32) (hd : decode code pc = .ok (.sipush i, 3)) (hv : (Int16.ofInt i).toInt32 = v) (k : Wp W ro F Lb y code ret (pc + 3) ls (.int v :: r) M Q) : Wp W ro F Lb y code ret pc ls r M Q := by
  subst hv; exact Wp.p hd rfl rfl k
theorem Wp.lconst {i : Fin 2} {r : List Value} (v : Int64) (hd : decode code pc = .ok (.lconst i, 1)) (hv : Int64.ofNat i = v) (k : Wp W ro F Lb y code ret (pc + 1) ls (.long v :: r) M Q) : Wp W ro F Lb y code ret pc ls r M Q := by
  subst hv; exact Wp.p hd rfl rfl k
theorem Wp.iinc {i : Nat} {d : Int} {x : Int32} {l' : List Slot} (v : Int32) (hd : decode code pc = .ok (.iinc i d, 3)) (hv : Int32.ofInt d = v) (hl : ls[i]? = some (.val (.int x))) (hs : storeL ls i (.int (x + v)) = some l') (k : Wp W ro F Lb y code ret (pc + 3) l' st M Q) : Wp W ro F Lb y code ret pc ls st M Q := by
  subst hv
  exact Wp.p hd rfl (by simp only [execP, hl, hs]) k
theorem Wp.ldc {i : Nat} {r : List Value} {v : Int32} (hd : decode code pc = .ok (.ldc i, 2)) (hv : intLk y.cls i W = some v) (k : Wp W ro F Lb y code ret (pc + 2) ls (.int v :: r) M Q) : Wp W ro F Lb y code ret pc ls r M Q :=
  Wp.p hd rfl (by simp only [execP, hv]) k
theorem Wp.ldcw {i : Nat} {r : List Value} {v : Int32} (hd : decode code pc = .ok (.ldc_w i, 3)) (hv : intLk y.cls i W = some v) (k : Wp W ro F Lb y code ret (pc + 3) ls (.int v :: r) M Q) : Wp W ro F Lb y code ret pc ls r M Q :=
  Wp.p hd rfl (by simp only [execP, hv]) k
theorem Wp.ldc2 {i : Nat} {r : List Value} {v : Int64} (hd : decode code pc = .ok (.ldc2_w i, 3)) (hv : longLk y.cls i W = some v) (k : Wp W ro F Lb y code ret (pc + 3) ls (.long v :: r) M Q) : Wp W ro F Lb y code ret pc ls r M Q :=
  Wp.p hd rfl (by simp only [execP, hv]) k
theorem Wp.getI {i a k n : Nat} {C : String} {fin : Bool} {r : List Value} (v : Int32) (hd : decode code pc = .ok (.getfield i, 3)) (hf : fieldAt W y.cls i = some (C, k, 1, fin)) (hc : L[a]? = some (0, C, n)) (hv : mi a k = v) (q : Wp W ro F Lb y code ret (pc + 3) ls (.int v :: r) (L, mi, ml, mr) Q) : Wp W ro F Lb y code ret pc ls (.ref a :: r) (L, mi, ml, mr) Q := by
  subst hv
  exact Wp.p hd rfl (by simp only [execP, hf, hc, getV, if_true]) q
theorem Wp.getZ {i a k n : Nat} {C : String} {fin : Bool} {r : List Value} (v : Int32) (hd : decode code pc = .ok (.getfield i, 3)) (hf : fieldAt W y.cls i = some (C, k, 2, fin)) (hc : L[a]? = some (0, C, n)) (hv : mi a k = v) (q : Wp W ro F Lb y code ret (pc + 3) ls (.int v :: r) (L, mi, ml, mr) Q) : Wp W ro F Lb y code ret pc ls (.ref a :: r) (L, mi, ml, mr) Q := by
  subst hv
  exact Wp.p hd rfl (by simp only [execP, hf, hc, getV, if_true]) q
theorem Wp.getJ {i a k n : Nat} {C : String} {fin : Bool} {r : List Value} (v : Int64) (hd : decode code pc = .ok (.getfield i, 3)) (hf : fieldAt W y.cls i = some (C, k, 3, fin)) (hc : L[a]? = some (0, C, n)) (hv : ml a k = v) (q : Wp W ro F Lb y code ret (pc + 3) ls (.long v :: r) (L, mi, ml, mr) Q) : Wp W ro F Lb y code ret pc ls (.ref a :: r) (L, mi, ml, mr) Q := by
  subst hv
  exact Wp.p hd rfl (by simp only [execP, hf, hc, getV, if_true]) q
theorem Wp.getR {i a k n b : Nat} {C : String} {fin : Bool} {r : List Value} (hd : decode code pc = .ok (.getfield i, 3)) (hf : fieldAt W y.cls i = some (C, k, 4, fin)) (hc : L[a]? = some (0, C, n)) (hr : mr a k = .ref b) (q : Wp W ro F Lb y code ret (pc + 3) ls (.ref b :: r) (L, mi, ml, mr) Q) : Wp W ro F Lb y code ret pc ls (.ref a :: r) (L, mi, ml, mr) Q :=
  Wp.p hd rfl (by simp only [execP, hf, hc, getV, if_true, hr]) q
theorem Wp.len {a n kd : Nat} {u : String} {r : List Value} (hd : decode code pc = .ok (.arraylength, 1)) (hc : L[a]? = some (kd, u, n)) (hk : kd = 1 ∨ kd = 2 ∨ kd = 3) (q : Wp W ro F Lb y code ret (pc + 1) ls (.int n.toInt32 :: r) (L, mi, ml, mr) Q) : Wp W ro F Lb y code ret pc ls (.ref a :: r) (L, mi, ml, mr) Q := by
  rcases hk with rfl | rfl | rfl <;> exact Wp.p hd rfl (by simp only [execP, hc]) q
theorem Wp.iaload {a n k : Nat} {u : String} {j : Int32} {r : List Value} (v : Int32) (hd : decode code pc = .ok (.iaload, 1)) (hc : L[a]? = some (1, u, n)) (hk : j.toNatClampNeg = k) (hj : inb j n = true) (hv : mi a k = v) (q : Wp W ro F Lb y code ret (pc + 1) ls (.int v :: r) (L, mi, ml, mr) Q) : Wp W ro F Lb y code ret pc ls (.int j :: .ref a :: r) (L, mi, ml, mr) Q := by
  subst hk hv
  exact Wp.p hd rfl (by simp only [execP, hc, hj, if_true]) q
theorem Wp.baload {a n k : Nat} {u : String} {j : Int32} {r : List Value} (v : Int32) (hd : decode code pc = .ok (.baload, 1)) (hc : L[a]? = some (3, u, n)) (hk : j.toNatClampNeg = k) (hj : inb j n = true) (hv : mi a k = v) (q : Wp W ro F Lb y code ret (pc + 1) ls (.int v :: r) (L, mi, ml, mr) Q) : Wp W ro F Lb y code ret pc ls (.int j :: .ref a :: r) (L, mi, ml, mr) Q := by
  subst hk hv
  exact Wp.p hd rfl (by simp only [execP, hc, hj, if_true]) q
theorem Wp.laload {a n k : Nat} {u : String} {j : Int32} {r : List Value} (v : Int64) (hd : decode code pc = .ok (.laload, 1)) (hc : L[a]? = some (2, u, n)) (hk : j.toNatClampNeg = k) (hj : inb j n = true) (hv : ml a k = v) (q : Wp W ro F Lb y code ret (pc + 1) ls (.long v :: r) (L, mi, ml, mr) Q) : Wp W ro F Lb y code ret pc ls (.int j :: .ref a :: r) (L, mi, ml, mr) Q := by
  subst hk hv
  exact Wp.p hd rfl (by simp only [execP, hc, hj, if_true]) q
theorem Wp.iastore {a n k : Nat} {u : String} {j x : Int32} {r : List Value} (hd : decode code pc = .ok (.iastore, 1)) (hc : L[a]? = some (1, u, n)) (hk : j.toNatClampNeg = k) (hj : inb j n = true) (ha : ro ≤ a) (q : Wp W ro F Lb y code ret (pc + 1) ls r (L, up mi a k x, ml, mr) Q) : Wp W ro F Lb y code ret pc ls (.int x :: .int j :: .ref a :: r) (L, mi, ml, mr) Q := by
  subst hk
  exact Wp.m hd rfl rfl (by simp only [execM, hc]; rw [if_pos ⟨hj, ha⟩]) q
theorem Wp.bastore {a n k : Nat} {u : String} {j x : Int32} {r : List Value} (v : Int32) (hd : decode code pc = .ok (.bastore, 1)) (hc : L[a]? = some (3, u, n)) (hk : j.toNatClampNeg = k) (hj : inb j n = true) (ha : ro ≤ a) (hv : x &&& 1 = v) (q : Wp W ro F Lb y code ret (pc + 1) ls r (L, up mi a k v, ml, mr) Q) : Wp W ro F Lb y code ret pc ls (.int x :: .int j :: .ref a :: r) (L, mi, ml, mr) Q := by
  subst hk hv
  exact Wp.m hd rfl rfl (by simp only [execM, hc]; rw [if_pos ⟨hj, ha⟩]) q
theorem Wp.lastore {a n k : Nat} {u : String} {j : Int32} {x : Int64} {r : List Value} (hd : decode code pc = .ok (.lastore, 1)) (hc : L[a]? = some (2, u, n)) (hk : j.toNatClampNeg = k) (hj : inb j n = true) (ha : ro ≤ a) (q : Wp W ro F Lb y code ret (pc + 1) ls r (L, mi, up ml a k x, mr) Q) : Wp W ro F Lb y code ret pc ls (.long x :: .int j :: .ref a :: r) (L, mi, ml, mr) Q := by
  subst hk
  exact Wp.m hd rfl rfl (by simp only [execM, hc]; rw [if_pos ⟨hj, ha⟩]) q
theorem Wp.putI {i a k n u : Nat} {C : String} {fin : Bool} {x : Int32} {r : List Value} (hd : decode code pc = .ok (.putfield i, 3)) (hf : fieldAt W y.cls i = some (C, k, 1, fin)) (hc : L[a]? = some (0, C, n)) (ha : ro ≤ a) (hi : instLk C W = some u) (hfin : fin = false ∨ (y.cls = C ∧ y.name = "<init>")) (q : Wp W ro F Lb y code ret (pc + 3) ls r (L, up mi a k x, ml, mr) Q) : Wp W ro F Lb y code ret pc ls (.int x :: .ref a :: r) (L, mi, ml, mr) Q :=
  Wp.m hd rfl rfl (by simp only [execM, hf, hc]; rw [if_pos ⟨trivial, ha, hfin, by rw [hi]; rfl⟩]) q
theorem Wp.putZ {i a k n u : Nat} {C : String} {fin : Bool} {x : Int32} {r : List Value} (v : Int32) (hd : decode code pc = .ok (.putfield i, 3)) (hf : fieldAt W y.cls i = some (C, k, 2, fin)) (hc : L[a]? = some (0, C, n)) (ha : ro ≤ a) (hi : instLk C W = some u) (hfin : fin = false ∨ (y.cls = C ∧ y.name = "<init>")) (hv : x &&& 1 = v) (q : Wp W ro F Lb y code ret (pc + 3) ls r (L, up mi a k v, ml, mr) Q) : Wp W ro F Lb y code ret pc ls (.int x :: .ref a :: r) (L, mi, ml, mr) Q := by
  subst hv
  exact Wp.m hd rfl rfl (by simp only [execM, hf, hc]; rw [if_pos ⟨trivial, ha, hfin, by rw [hi]; rfl⟩]) q
theorem Wp.putJ {i a k n u : Nat} {C : String} {fin : Bool} {x : Int64} {r : List Value} (hd : decode code pc = .ok (.putfield i, 3)) (hf : fieldAt W y.cls i = some (C, k, 3, fin)) (hc : L[a]? = some (0, C, n)) (ha : ro ≤ a) (hi : instLk C W = some u) (hfin : fin = false ∨ (y.cls = C ∧ y.name = "<init>")) (q : Wp W ro F Lb y code ret (pc + 3) ls r (L, mi, up ml a k x, mr) Q) : Wp W ro F Lb y code ret pc ls (.long x :: .ref a :: r) (L, mi, ml, mr) Q :=
  Wp.m hd rfl rfl (by simp only [execM, hf, hc]; rw [if_pos ⟨trivial, ha, hfin, by rw [hi]; rfl⟩]) q
theorem Wp.putR {i a k n u b : Nat} {C : String} {fin : Bool} {r : List Value} (hd : decode code pc = .ok (.putfield i, 3)) (hf : fieldAt W y.cls i = some (C, k, 4, fin)) (hc : L[a]? = some (0, C, n)) (ha : ro ≤ a) (hi : instLk C W = some u) (hfin : fin = false ∨ (y.cls = C ∧ y.name = "<init>")) (q : Wp W ro F Lb y code ret (pc + 3) ls r (L, mi, ml, up mr a k (.ref b)) Q) : Wp W ro F Lb y code ret pc ls (.ref b :: .ref a :: r) (L, mi, ml, mr) Q :=
  Wp.m hd rfl rfl (by simp only [execM, hf, hc]; rw [if_pos ⟨trivial, ha, hfin, by rw [hi]; rfl⟩]) q
theorem Wp.new {i n a : Nat} {L' : ELay} {C : String} {r : List Value} (hd : decode code pc = .ok (.new i, 3)) (hn : newAt W y.cls i = some (C, n)) (ha : L.length = a) (hL : L ++ [(0, C, n)] = L') (q : Wp W ro F Lb y code ret (pc + 3) ls (.ref a :: r) (L', mi, ml, mr) Q) : Wp W ro F Lb y code ret pc ls r (L, mi, ml, mr) Q := by
  subst ha hL
  exact Wp.m hd rfl rfl (by simp only [execM, hn]) q
theorem Wp.new_int {n : Int32} {a z : Nat} {L' : ELay} {r : List Value} (hd : decode code pc = .ok (.newarray .int, 2)) (ha : hasArr .int W = true) (hn : ¬ n < 0 ∧ n.toNatClampNeg * 8 ≤ 536870912) (hz : n.toNatClampNeg = z) (he : L.length = a) (hL : L ++ [(1, "", z)] = L') (q : Wp W ro F Lb y code ret (pc + 2) ls (.ref a :: r) (L', mi, ml, mr) Q) : Wp W ro F Lb y code ret pc ls (.int n :: r) (L, mi, ml, mr) Q := by
  subst hz he hL
  exact Wp.m hd rfl rfl (by simp only [execM]; rw [if_pos ⟨hn.1, hn.2, ha⟩]) q
theorem Wp.new_long {n : Int32} {a z : Nat} {L' : ELay} {r : List Value} (hd : decode code pc = .ok (.newarray .long, 2)) (ha : hasArr .long W = true) (hn : ¬ n < 0 ∧ n.toNatClampNeg * 8 ≤ 536870912) (hz : n.toNatClampNeg = z) (he : L.length = a) (hL : L ++ [(2, "", z)] = L') (q : Wp W ro F Lb y code ret (pc + 2) ls (.ref a :: r) (L', mi, ml, mr) Q) : Wp W ro F Lb y code ret pc ls (.int n :: r) (L, mi, ml, mr) Q := by
  subst hz he hL
  exact Wp.m hd rfl rfl (by simp only [execM]; rw [if_pos ⟨hn.1, hn.2, ha⟩]) q
theorem Wp.new_boolean {n : Int32} {a z : Nat} {L' : ELay} {r : List Value} (hd : decode code pc = .ok (.newarray .boolean, 2)) (ha : hasArr .boolean W = true) (hn : ¬ n < 0 ∧ n.toNatClampNeg * 8 ≤ 536870912) (hz : n.toNatClampNeg = z) (he : L.length = a) (hL : L ++ [(3, "", z)] = L') (q : Wp W ro F Lb y code ret (pc + 2) ls (.ref a :: r) (L', mi, ml, mr) Q) : Wp W ro F Lb y code ret pc ls (.int n :: r) (L, mi, ml, mr) Q := by
  subst hz he hL
  exact Wp.m hd rfl rfl (by simp only [execM]; rw [if_pos ⟨hn.1, hn.2, ha⟩]) q
theorem Wp.objInit {i a w : Nat} {r : List Value} (hd : decode code pc = .ok (.invokespecial i, 3)) (ho : objInitAt W y.cls i = true) (hw : wt r = w) (h1 : 1 ≤ F) (h2 : w + 12 ≤ Lb) (q : Wp W ro F Lb y code ret (pc + 3) ls r M Q) : Wp W ro F Lb y code ret pc ls (.ref a :: r) M Q :=
  Wp.p hd rfl (by simp only [execP]; rw [if_pos ⟨ho, h1, by rw [hw]; exact h2⟩]) q
/-- a private method -/
theorem Wp.callP {i na mx a n F' Lb' w : Nat} {z : MethodName} {b : ByteArray} {rt : Option FieldType} {as rest : List Value} (hd : decode code pc = .ok (.invokevirtual i, 3)) (hc : callAt W y.cls i 1 = some (z, na, b, mx, rt)) (hl : L[a]? = some (0, z.cls, n)) (hs : st = as.reverse ++ .ref a :: rest) (hna : as.length = na) (hw : wt rest = w) (h1 : F' + 1 ≤ F) (h2 : w + (mx + 11) + Lb' ≤ Lb) (h3 : (fillL (.ref a :: as)).length ≤ mx)
    (k : Wp W ro F' Lb' z b rt 0 (entryL (.ref a :: as) mx) [] (L, mi, ml, mr) fun v M' => Wp W ro F Lb y code ret (pc + 3) ls (v.toList ++ rest) M' Q) : Wp W ro F Lb y code ret pc ls st (L, mi, ml, mr) Q := by
  subst hs hna
  refine Wp.c hd rfl rfl rfl ?_ hw h1 h2 h3 k
  have e1 : (as.reverse ++ Value.ref a :: rest).drop as.length = .ref a :: rest := by rw [← List.length_reverse (as := as), List.drop_left]
  have e2 : (as.reverse ++ Value.ref a :: rest).take as.length = as.reverse := by rw [← List.length_reverse (as := as), List.take_left]
  simp only [callOf, if_true, hc, e1, e2, hl, List.length_reverse, and_self, List.reverse_reverse]
theorem Wp.callV {i na mx a n F' Lb' w : Nat} {z : MethodName} {b : ByteArray} {rt : Option FieldType} {as rest : List Value} (hd : decode code pc = .ok (.invokevirtual i, 3)) (hc0 : callAt W y.cls i 1 = none) (hc : callAt W y.cls i 0 = some (z, na, b, mx, rt)) (hl : L[a]? = some (0, z.cls, n)) (hs : st = as.reverse ++ .ref a :: rest) (hna : as.length = na) (hw : wt rest = w) (h1 : F' + 1 ≤ F) (h2 : w + (mx + 11) + Lb' ≤ Lb) (h3 : (fillL (.ref a :: as)).length ≤ mx)
    (k : Wp W ro F' Lb' z b rt 0 (entryL (.ref a :: as) mx) [] (L, mi, ml, mr) fun v M' => Wp W ro F Lb y code ret (pc + 3) ls (v.toList ++ rest) M' Q) : Wp W ro F Lb y code ret pc ls st (L, mi, ml, mr) Q := by
  subst hs hna
  refine Wp.c hd rfl rfl rfl ?_ hw h1 h2 h3 k
  have e1 : (as.reverse ++ Value.ref a :: rest).drop as.length = .ref a :: rest := by rw [← List.length_reverse (as := as), List.drop_left]
  have e2 : (as.reverse ++ Value.ref a :: rest).take as.length = as.reverse := by rw [← List.length_reverse (as := as), List.take_left]
  simp only [callOf, if_true, hc0, hc, e1, e2, hl, List.length_reverse, and_self, List.reverse_reverse]
theorem Wp.callI {i na mx a F' Lb' w : Nat} {z : MethodName} {b : ByteArray} {rt : Option FieldType} {as rest : List Value} (hd : decode code pc = .ok (.invokespecial i, 3)) (ho : objInitAt W y.cls i = false) (hc : callAt W y.cls i 2 = some (z, na, b, mx, rt)) (hs : st = as.reverse ++ .ref a :: rest) (hna : as.length = na) (hw : wt rest = w) (h1 : F' + 1 ≤ F) (h2 : w + (mx + 11) + Lb' ≤ Lb) (h3 : (fillL (.ref a :: as)).length ≤ mx)
    (k : Wp W ro F' Lb' z b rt 0 (entryL (.ref a :: as) mx) [] M fun v M' => Wp W ro F Lb y code ret (pc + 3) ls (v.toList ++ rest) M' Q) : Wp W ro F Lb y code ret pc ls st M Q := by
  subst hs hna
  refine Wp.c hd ?_ rfl rfl ?_ hw h1 h2 h3 k
  · have e : ∀ s' : List Value, execP W F Lb y (.invokespecial i) pc 3 ls s' M = none := fun s' => by
      simp only [execP, ho]
      split
      · rw [if_neg]; intro q; cases q.1
      · rfl
    exact e _
  have e1 : (as.reverse ++ Value.ref a :: rest).drop as.length = .ref a :: rest := by rw [← List.length_reverse (as := as), List.drop_left]
  have e2 : (as.reverse ++ Value.ref a :: rest).take as.length = as.reverse := by rw [← List.length_reverse (as := as), List.take_left]
  simp only [callOf, if_true, hc, e1, e2, List.length_reverse, List.reverse_reverse]
theorem Wp.callS {i na mx F' Lb' w : Nat} {z : MethodName} {b : ByteArray} {rt : Option FieldType} {as rest : List Value} (hd : decode code pc = .ok (.invokestatic i, 3)) (hc : callAt W y.cls i 3 = some (z, na, b, mx, rt)) (hs : st = as.reverse ++ rest) (hna : as.length = na) (hw : wt rest = w) (h1 : F' + 1 ≤ F) (h2 : w + (mx + 11) + Lb' ≤ Lb) (h3 : (fillL as).length ≤ mx)
    (k : Wp W ro F' Lb' z b rt 0 (entryL as mx) [] M fun v M' => Wp W ro F Lb y code ret (pc + 3) ls (v.toList ++ rest) M' Q) : Wp W ro F Lb y code ret pc ls st M Q := by
  subst hs hna
  refine Wp.c hd rfl rfl rfl ?_ hw h1 h2 h3 k
  have e1 : (as.reverse ++ rest).drop as.length = rest := by rw [← List.length_reverse (as := as), List.drop_left]
  have e2 : (as.reverse ++ rest).take as.length = as.reverse := by rw [← List.length_reverse (as := as), List.take_left]
  simp only [callOf, if_true, hc, e1, e2, List.length_reverse, List.reverse_reverse]
theorem Wp.top {a : Int32} {r : List Value} (v : Int32) (h : a = v) (k : Wp W ro F Lb y code ret pc ls (.int v :: r) M Q) : Wp W ro F Lb y code ret pc ls (.int a :: r) M Q := by subst h; exact k
theorem Wp.topJ {a : Int64} {r : List Value} (v : Int64) (h : a = v) (k : Wp W ro F Lb y code ret pc ls (.long v :: r) M Q) : Wp W ro F Lb y code ret pc ls (.long a :: r) M Q := by subst h; exact k
theorem Wp.icmpT {cd : ClassFile.Cond} {o : Int} {t : Nat} {a b : Int32} {r : List Value} (hd : decode code pc = .ok (.if_icmp cd o, 3)) (hj : jump pc o = some t) (h : if_icmp.holds cd a b = true) (k : Wp W ro F Lb y code ret t ls r M Q) : Wp W ro F Lb y code ret pc ls (.int b :: .int a :: r) M Q :=
  Wp.icmp hd hj (fun _ => k) (fun q => by rw [h] at q; cases q)
theorem Wp.icmpF {cd : ClassFile.Cond} {o : Int} {t : Nat} {a b : Int32} {r : List Value} (hd : decode code pc = .ok (.if_icmp cd o, 3)) (hj : jump pc o = some t) (h : if_icmp.holds cd a b = false) (k : Wp W ro F Lb y code ret (pc + 3) ls r M Q) : Wp W ro F Lb y code ret pc ls (.int b :: .int a :: r) M Q :=
  Wp.icmp hd hj (fun q => by rw [h] at q; cases q) (fun _ => k)
theorem Wp.ifT {cd : ClassFile.Cond} {o : Int} {t : Nat} {a : Int32} {r : List Value} (hd : decode code pc = .ok (.ifCond cd o, 3)) (hj : jump pc o = some t) (h : if_icmp.holds cd a 0 = true) (k : Wp W ro F Lb y code ret t ls r M Q) : Wp W ro F Lb y code ret pc ls (.int a :: r) M Q :=
  Wp.if0 hd hj (fun _ => k) (fun q => by rw [h] at q; cases q)
theorem Wp.ifF {cd : ClassFile.Cond} {o : Int} {t : Nat} {a : Int32} {r : List Value} (hd : decode code pc = .ok (.ifCond cd o, 3)) (hj : jump pc o = some t) (h : if_icmp.holds cd a 0 = false) (k : Wp W ro F Lb y code ret (pc + 3) ls r M Q) : Wp W ro F Lb y code ret pc ls (.int a :: r) M Q :=
  Wp.if0 hd hj (fun q => by rw [h] at q; cases q) (fun _ => k)
theorem Wp.idiv {a b : Int32} {r : List Value} (hd : decode code pc = .ok (.idiv, 1)) (hb : ¬ b = 0) (k : Wp W ro F Lb y code ret (pc + 1) ls (.int (a / b) :: r) M Q) : Wp W ro F Lb y code ret pc ls (.int b :: .int a :: r) M Q :=
  Wp.p hd rfl (by simp only [execP]; rw [if_neg hb]) k
theorem Wp.irem {a b : Int32} {r : List Value} (hd : decode code pc = .ok (.irem, 1)) (hb : ¬ b = 0) (k : Wp W ro F Lb y code ret (pc + 1) ls (.int (a - (a / b) * b) :: r) M Q) : Wp W ro F Lb y code ret pc ls (.int b :: .int a :: r) M Q :=
  Wp.p hd rfl (by simp only [execP]; rw [if_neg hb]) k
theorem Wp.ldiv {a b : Int64} {r : List Value} (hd : decode code pc = .ok (.ldiv, 1)) (hb : ¬ b = 0) (k : Wp W ro F Lb y code ret (pc + 1) ls (.long (a / b) :: r) M Q) : Wp W ro F Lb y code ret pc ls (.long b :: .long a :: r) M Q :=
  Wp.p hd rfl (by simp only [execP]; rw [if_neg hb]) k
theorem Wp.lrem {a b : Int64} {r : List Value} (hd : decode code pc = .ok (.lrem, 1)) (hb : ¬ b = 0) (k : Wp W ro F Lb y code ret (pc + 1) ls (.long (a - (a / b) * b) :: r) M Q) : Wp W ro F Lb y code ret pc ls (.long b :: .long a :: r) M Q :=
  Wp.p hd rfl (by simp only [execP]; rw [if_neg hb]) k
theorem storeL_one {l l' : List Slot} {i : Nat} {o : Slot} {v : Value} (h : l[i]? = some o) (ho : One o) (hv : v.category = 1) (hs : setL l i (.val v) = some l') : storeL l i v = some l' := by
  unfold storeL
  rw [h]
  have e : storeSelfL l i v = some l' := by
    unfold storeSelfL
    rw [hs]
    simp [hv]
  rcases ho with rfl | ⟨w, rfl, hw⟩
  · exact e
  · simp [hw, e]
theorem Wp.istoreO {ins : Instr} {i len : Nat} {o : Slot} {x : Int32} {l' : List Slot} {r : List Value} (hd : decode code pc = .ok (ins, len)) (hi : (ins = .istore i ∧ len = 2) ∨ (∃ n : Fin 4, ins = .istore_n n ∧ n.val = i ∧ len = 1)) (h : ls[i]? = some o) (ho : One o) (hs : setL ls i (.val (.int x)) = some l') (k : Wp W ro F Lb y code ret (pc + len) l' r M Q) : Wp W ro F Lb y code ret pc ls (.int x :: r) M Q := by
  rcases hi with ⟨rfl, rfl⟩ | ⟨n, rfl, rfl, rfl⟩
  · exact Wp.p hd rfl (by simp only [execP, storeL_one h ho (v := .int x) rfl hs]) k
  · exact Wp.p hd rfl (by simp only [execP, storeL_one h ho (v := .int x) rfl hs]) k
def OneJ (a b : Slot) : Prop := (a = .unset ∧ b = .unset) ∨ (∃ w, a = .val (.long w) ∧ b = .second)
theorem storeL_oneJ {l l1 l2 : List Slot} {i : Nat} {a b : Slot} {x : Int64} (h : l[i]? = some a) (h' : l[i + 1]? = some b) (ho : OneJ a b) (h1 : setL l i (.val (.long x)) = some l1) (h2 : setL l1 (i + 1) .second = some l2) : storeL l i (.long x) = some l2 := by
  obtain ⟨hi, rfl⟩ := setL_some h1
  obtain ⟨hi2, rfl⟩ := setL_some h2
  have hlen : i + 1 < l.length := by simpa using hi2
  have set_ok : ∀ (l : List Slot) (j : Nat) (y : Slot), j < l.length → setL l j y = some (l.set j y) := fun l => by
    induction l with
    | nil => intro j y hj; simp at hj
    | cons q t ih =>
      intro j y hj
      cases j with
      | zero => rfl
      | succ j => simp only [setL, ih j y (by simpa using hj), List.set_cons_succ]
  rcases ho with ⟨rfl, rfl⟩ | ⟨w, rfl, rfl⟩
  · have e : (l.set i (.val (.long x)))[i + 1]? = some .unset := by rw [List.getElem?_set_ne (by omega)]; exact h'
    simp only [storeL, h, storeSelfL, h1, Value.category, if_true, e]
    exact h2
  · have e0 : setL l (i + 1) .unset = some (l.set (i + 1) .unset) := set_ok _ _ _ hlen
    have e1 : setL (l.set (i + 1) .unset) i (.val (.long x)) = some ((l.set (i + 1) .unset).set i (.val (.long x))) := set_ok _ _ _ (by simpa using hi)
    have e2 : ((l.set (i + 1) .unset).set i (.val (.long x)))[i + 1]? = some .unset := by rw [List.getElem?_set_ne (by omega)]; simp [hlen]
    have e3 : setL ((l.set (i + 1) .unset).set i (.val (.long x))) (i + 1) .second = some (((l.set (i + 1) .unset).set i (.val (.long x))).set (i + 1) .second) := set_ok _ _ _ (by simpa using hlen)
    simp only [storeL, h, storeSelfL, Value.category, if_true, e0, e1, e2, e3]
    congr 1
    apply List.ext_getElem?
    intro j
    by_cases q1 : j = i + 1
    · subst q1; simp [hlen]
    · by_cases q2 : j = i
      · subst q2
        have z1 : (((l.set (j + 1) Slot.unset).set j (.val (.long x))).set (j + 1) .second)[j]? = some (.val (.long x)) := by
          rw [List.getElem?_set_ne (by omega)]; exact List.getElem?_set_self (by simpa using hi)
        have z2 : ((l.set j (Slot.val (.long x))).set (j + 1) .second)[j]? = some (.val (.long x)) := by
          rw [List.getElem?_set_ne (by omega)]; exact List.getElem?_set_self hi
        rw [z1, z2]
      · rw [List.getElem?_set_ne (by omega), List.getElem?_set_ne (by omega), List.getElem?_set_ne (by omega), List.getElem?_set_ne (by omega), List.getElem?_set_ne (by omega)]
theorem Wp.lstoreO {ins : Instr} {i len : Nat} {a b : Slot} {x : Int64} {l1 l2 : List Slot} {r : List Value} (hd : decode code pc = .ok (ins, len)) (hi : (ins = .lstore i ∧ len = 2) ∨ (∃ n : Fin 4, ins = .lstore_n n ∧ n.val = i ∧ len = 1)) (h : ls[i]? = some a) (h' : ls[i + 1]? = some b) (ho : OneJ a b) (h1 : setL ls i (.val (.long x)) = some l1) (h2 : setL l1 (i + 1) .second = some l2) (k : Wp W ro F Lb y code ret (pc + len) l2 r M Q) : Wp W ro F Lb y code ret pc ls (.long x :: r) M Q := by
  rcases hi with ⟨rfl, rfl⟩ | ⟨n, rfl, rfl, rfl⟩
  · exact Wp.p hd rfl (by simp only [execP, storeL_oneJ h h' ho h1 h2]) k
  · exact Wp.p hd rfl (by simp only [execP, storeL_oneJ h h' ho h1 h2]) k
theorem Wp.tswD {dflt low high : Int} {offs : Array Int} {len t : Nat} {i : Int32} {r : List Value} (hd : decode code pc = .ok (.tableswitch dflt low high offs, len)) (hout : i.toInt < low ∨ i.toInt > high) (hj : jump pc dflt = some t) (k : Wp W ro F Lb y code ret t ls r M Q) : Wp W ro F Lb y code ret pc ls (.int i :: r) M Q :=
  Wp.p hd rfl (by simp only [execP]; rw [if_pos hout, hj]) k
theorem Wp.retV (hd : decode code pc = .ok (.return_, 1)) (q : Q none M) : Wp W ro F Lb y code none pc ls [] M Q := Wp.r hd rfl rfl rfl q
theorem Wp.retI {x : Int32} (hd : decode code pc = .ok (.ireturn, 1)) (q : Q (some (.int x)) M) : Wp W ro F Lb y code (some .int) pc ls [.int x] M Q := Wp.r hd rfl rfl rfl q
theorem Wp.retJ {x : Int64} (hd : decode code pc = .ok (.lreturn, 1)) (q : Q (some (.long x)) M) : Wp W ro F Lb y code (some .long) pc ls [.long x] M Q := Wp.r hd rfl rfl rfl q
theorem Wp.retZ {x : Int32} (v : Int32) (hd : decode code pc = .ok (.ireturn, 1)) (hv : x &&& 1 = v) (q : Q (some (.int v)) M) : Wp W ro F Lb y code (some .boolean) pc ls [.int x] M Q := by
  subst hv; exact Wp.r hd rfl rfl rfl q
end Rules
end Jvm.OwnEv
namespace Jvm.OwnEv
open Sem ClassFile Op Lib Jvm.Stand Jvm.Free Jvm.LawKit Jvm.RoadKit
/-! PART 7: from a law's run to its claim -/
theorem law_run {l : Launch} {W : List Jvm.Cond} {x : MethodName} {code : ByteArray} {maxL : Nat} {ret : Option FieldType} {R : Room} {as : List Value} {s : State} {a0 : Array Value} (hw : ∀ d ∈ W, d.before a0 s = true) {ro : Nat} {M0 : EMem} {ρ : Nat → Addr} (hρ : ∀ a b, ρ a = ρ b → a = b) (hρn : ∀ a, ro ≤ a → ρ a = s.heap.size + (a - ro))
    (Rl : Rel s W ρ ro s.heap.size s.heap M0) (hp : plainName x.cls = true) (hfl : (fillL as).length ≤ maxL)
    (h : Wp W ro R.frames R.locals x code ret 0 (entryL as maxL) [] M0 fun v M' => v = some (.int 1) ∧ M'.1.length - M0.1.length ≤ R.cells ∧ szL M'.1 - szL M0.1 ≤ R.slots) (ws : List Jvm.Cond) :
    MetFree l x (head1 (Jvm.Cond.code x code maxL ret :: ws) R) (fun a U => a = (as.map (conc ρ)).toArray ∧ s.Warmed39 U.vm ∧ U.heap = s.heap) (fun _ _ _ _ _ => True)
      (fun _ U o U' => ∃ v' L, o = .returned v' ∧ (v' = some (.int 1) ∧ Fr s.heap.size L) ∧ FrameEnd U o U' L R.cells R.slots) := by
  obtain ⟨n, v, M', h1, rfl, h3, h4⟩ := h
  have M1 := met_of (run_good (l := l) hw hρ hρn n) h1 hfl hp Rl (R := R) (Nat.le_refl _) (Nat.le_refl _) h3 h4 ws
  intro p e ha hc hk s' m args below hf happ hP hK
  obtain ⟨n', o, q1, q2, q3, v', L, q4, ⟨q5, q6, q7⟩, q8⟩ := M1 p e ha hc hk s' m args below hf happ hP hK
  exact ⟨n', o, q1, q2, q3, v', L, q4, ⟨q5, q7⟩, q8.1, q8.2.1, q8.2.2.mono h3 h4⟩
/-- the memory ahead of a law of ints -/
abbrev mem0 : EMem := ([], fun _ _ => 0, fun _ _ => 0, fun _ _ => .null)
theorem rel0 (s : State) (W : List Jvm.Cond) : Rel s W (fun a => s.heap.size + a) 0 s.heap.size s.heap mem0 :=
  ⟨rfl, Nat.le_refl _, fun a c h => by simp at h, fun _ _ _ => ⟨rfl, rfl, rfl⟩⟩
/-- the memory ahead of a law that is handed an array of ints -/
abbrev mem1 (n : Nat) (f : Nat → Int32) : EMem := ([(1, "", n)], fun a k => if a = 0 then f k else 0, fun _ _ => 0, fun _ _ => .null)
def rho1 (sa n0 : Nat) : Nat → Nat := fun a => if a = 0 then sa else n0 + (a - 1)
theorem rho1_inj {sa n0 : Nat} (h : sa < n0) (a b : Nat) (e : rho1 sa n0 a = rho1 sa n0 b) : a = b := by
  unfold rho1 at e
  split at e <;> split at e <;> omega
theorem rho1_n {sa n0 : Nat} (a : Nat) (h : 1 ≤ a) : rho1 sa n0 a = n0 + (a - 1) := by
  unfold rho1
  rw [if_neg (by omega)]
theorem rel1 {s : State} (W : List Jvm.Cond) {sa : Addr} {c : Cell} {f : Nat → Int32} (A : Arr s s.heap sa c .int) (hf : ∀ k, k < c.slots.size → c.slots[k]? = some (.int (f k))) : Rel s W (rho1 sa s.heap.size) 1 s.heap.size s.heap (mem1 c.slots.size f) := by
  refine ⟨rfl, Nat.le_refl _, fun a cc h => ?_, fun a h k => ⟨?_, rfl, rfl⟩⟩
  · cases a with
    | zero =>
      simp at h
      subst h
      exact ⟨fun q => (by cases q), fun _ => ⟨c, A, rfl, fun k hk => by simpa using hf k hk⟩, fun q => (by cases q), fun q => (by cases q)⟩
    | succ a => simp at h
  · have h' : 1 ≤ a := h
    exact if_neg (by omega)
theorem script_start {s : State} {a : Addr} {c : Cell} (hf : Fit s) (A : Arr s s.heap a c .int) (hn : c.slots.size < 2 ^ 31) : ∃ f : Nat → Int32, ∀ k, k < c.slots.size → c.slots[k]? = some (.int (f k)) := by
  refine ⟨fun k => atv c k.toInt32, fun k hk => ?_⟩
  obtain ⟨n, -, S⟩ := Scr.start hf A hn
  have h1 := idx_in hk hn
  have e : k.toInt32.toNatClampNeg = k := by
    have q : k.toInt32.toInt = k := len_toInt (by omega)
    simp only [Int32.toNatClampNeg, q]; rfl
  have h2 := S.2.2.2 k.toInt32 h1
  rw [e] at h2
  exact h2
theorem script_len {s : State} {a : Addr} {c : Cell} (A : Arr s s.heap a c .int) (h : (Jvm.Cond.le (Term.length (Term.arg 0)) (Term.int 260)).value #[Value.ref a] s none s [] = some true) : c.slots.size ≤ 260 := by
  have e := A.fin (Vm.Alike.refl _)
  by_cases hn : c.slots.size < 2 ^ 31
  · have el : (Term.length (Term.arg 0)).eval #[Value.ref a] s none [] s = some (.int c.slots.size.toInt32) := by
      simp [Term.eval, e, hn]
    have q := gotT (Cond.le_ints el (Term.int_eval 260)) h
    rw [Int32.le_iff_toInt_le, len_toInt hn] at q
    simp at q
    omega
  · have el : (Term.length (Term.arg 0)).eval #[Value.ref a] s none [] s = none := by
      simp [Term.eval, e, hn]
    simp [Cond.value, el] at h
end Jvm.OwnEv
namespace Jvm.OwnEv
open Sem ClassFile Op Lib Jvm.Stand Jvm.Free Jvm.LawKit Jvm.RoadKit
/-! PART 8: small facts on words and ints -/
theorem codeLk_at {y : MethodName} {b : ByteArray} {n : Nat} {r : Option FieldType} : ∀ {W : List Jvm.Cond} {i : Nat}, W[i]? = some (.code y b n r) → codeLk y (W.take i) = none → codeLk y W = some (b, n, r)
  | [], i, h, _ => by simp at h
  | w :: t, 0, h, _ => by
    simp at h
    subst h
    have : meq y y = true := by simp [meq]
    simp [codeLk, this]
  | w :: t, i + 1, h, h2 => by
    rw [List.getElem?_cons_succ] at h
    rw [List.take_succ_cons] at h2
    have key : codeLk y (t.take i) = none ∧ codeLk y (w :: t) = codeLk y t := by
      unfold codeLk at h2
      split at h2
      · rename_i heq; cases heq
      · rename_i heq
        cases heq
        split at h2
        · cases h2
        · rename_i hm
          exact ⟨h2, by rw [codeLk, if_neg hm]⟩
      · rename_i hno heq
        cases heq
        refine ⟨h2, ?_⟩
        rw [codeLk]
        exact hno
    rw [key.2]
    exact codeLk_at h key.1
theorem callAt_of {W : List Jvm.Cond} {own : String} {idx kd : Nat} {z : MethodName} {b : ByteArray} {n na : Nat} {r : Option FieldType} {sig : MethodDescriptor} (hm : methodLk own idx W = some z) (hc : codeLk z W = some (b, n, r)) (hp : parseMethodDescriptor z.desc = some sig)
    (h : hasInit z.cls W = true ∧ plainName z.cls = true ∧ z.cls ≠ "java/lang/invoke/MethodHandle" ∧ z.cls ≠ "java/lang/invoke/VarHandle" ∧ ((kd = 0 ∧ hasDecl z W = true ∧ hasSel z W = true ∧ hasInst z W = true) ∨ (kd = 1 ∧ hasPriv z W = true ∧ hasInst z W = true ∧ (instLk z.cls W).isSome = true) ∨ (kd = 2 ∧ z.name = "<init>" ∧ hasInst z W = true ∧ r = none) ∨ (kd = 3 ∧ hasStat z W = true)))
    (hn : sig.parameters.length = na) : callAt W own idx kd = some (z, na, b, n, r) := by
  subst hn
  unfold callAt
  rw [hm]
  simp only
  rw [hc, hp]
  simp only
  rw [if_pos h]
theorem callAt_pub {W : List Jvm.Cond} {own : String} {idx : Nat} {z : MethodName} (hm : methodLk own idx W = some z) (hp : hasPriv z W = false) : callAt W own idx 1 = none := by
  unfold callAt
  rw [hm]
  simp only
  split
  · rw [if_neg]
    rintro ⟨-, -, -, -, h⟩
    rcases h with h | h | h | h
    · cases h.1
    · rw [hp] at h; cases h.2.1
    · cases h.1
    · cases h.1
  · rfl
theorem inb_iff {j : Int32} {n : Nat} : inb j n = true ↔ 0 ≤ j.toInt ∧ j.toInt < n := by
  simp only [inb, Bool.and_eq_true, decide_eq_true_eq, Int32.lt_iff_toInt_lt, Int32.toNatClampNeg, Int32.reduceToInt]
  omega
theorem inb_of {j : Int32} {n : Nat} (h : 0 ≤ j.toInt ∧ j.toInt < n) : inb j n = true := inb_iff.mpr h
theorem inb_lt {j : Int32} {n : Nat} (m : Int32) (h1 : ¬ j < 0) (h2 : j < m) (hm : m.toInt = n) : inb j n = true := by
  rw [inb_iff]
  rw [Int32.lt_iff_toInt_lt] at h1 h2
  simp at h1
  omega
theorem clamp_inj {a b : Int32} (ha : ¬ a < 0) (hb : ¬ b < 0) (h : a.toNatClampNeg = b.toNatClampNeg) : a = b := by
  rw [Int32.lt_iff_toInt_lt] at ha hb
  simp at ha hb
  simp only [Int32.toNatClampNeg] at h
  apply Int32.toInt_inj.mp
  omega
theorem clamp_lt {j : Int32} {n : Nat} (m : Int32) (h1 : ¬ j < 0) (h2 : j < m) (hm : m.toInt = n) : j.toNatClampNeg < n := by
  rw [Int32.lt_iff_toInt_lt] at h1 h2
  simp at h1
  simp only [Int32.toNatClampNeg]
  omega
theorem up_at {α : Type} (f : Nat → Nat → α) (a k : Nat) (v : α) (x y : Nat) : up f a k v x y = if x = a ∧ y = k then v else f x y := rfl
theorem succ_int {x n : Int32} (h : x < n) : (x + 1).toInt = x.toInt + 1 := by
  rw [Int32.lt_iff_toInt_lt] at h
  have h1 := c_iadd x 1
  have h2 := rng32 (x + 1)
  have h3 := rng32 x
  have h4 := rng32 n
  have h5 : (1 : Int32).toInt = 1 := by decide
  omega
theorem succ_nn {x n : Int32} (hx : ¬ x < 0) (h : x < n) : ¬ x + 1 < 0 := by
  have hs := succ_int h
  rw [Int32.lt_iff_toInt_lt] at hx ⊢
  have z : (0 : Int32).toInt = 0 := by decide
  rw [z] at hx ⊢
  omega
theorem succ_dec {x n : Int32} (h : x < n) : (n.toInt - (x + 1).toInt).toNat < (n.toInt - x.toInt).toNat := by
  have hs := succ_int h
  rw [Int32.lt_iff_toInt_lt] at h
  omega
theorem lt_of_succ {a x n : Int32} (h : x < n) (h2 : a < x + 1) (q : ¬ a = x) : a < x := by
  have hs := succ_int h
  rw [Int32.lt_iff_toInt_lt] at h2 ⊢
  have : a.toInt ≠ x.toInt := fun z => q (Int32.toInt_inj.mp z)
  omega
theorem pred_int {x : Int32} (hx : ¬ x < 0) : (x + -1).toInt = x.toInt - 1 := by
  have h1 := c_iadd x (-1)
  have h2 := rng32 (x + -1)
  have h3 := rng32 x
  have h5 : (-1 : Int32).toInt = -1 := by decide
  have z : (0 : Int32).toInt = 0 := by decide
  rw [Int32.lt_iff_toInt_lt, z] at hx
  omega
theorem mul_int {a b : Int32} (h1 : -2147483648 ≤ a.toInt * b.toInt) (h2 : a.toInt * b.toInt < 2147483648) : (a * b).toInt = a.toInt * b.toInt := by
  have h3 := c_imul a b
  have h4 := rng32 (a * b)
  generalize a.toInt * b.toInt = p at *
  omega
theorem add_int {a b : Int32} (h1 : -2147483648 ≤ a.toInt + b.toInt) (h2 : a.toInt + b.toInt < 2147483648) : (a + b).toInt = a.toInt + b.toInt := by
  have h3 := c_iadd a b
  have h4 := rng32 (a + b)
  omega
theorem sub_int {a b : Int32} (h1 : -2147483648 ≤ a.toInt - b.toInt) (h2 : a.toInt - b.toInt < 2147483648) : (a - b).toInt = a.toInt - b.toInt := by
  have h3 := c_isub a b
  have h4 := rng32 (a - b)
  omega
theorem nn_int {a : Int32} (h : ¬ a < 0) : 0 ≤ a.toInt := by
  rw [Int32.lt_iff_toInt_lt] at h
  have z : (0 : Int32).toInt = 0 := by decide
  rw [z] at h; omega
theorem lt_int {a b : Int32} (h : a < b) : a.toInt < b.toInt := Int32.lt_iff_toInt_lt.mp h
theorem ge_int {a b : Int32} (h : ¬ a < b) : b.toInt ≤ a.toInt := by rw [Int32.lt_iff_toInt_lt] at h; omega
/-- a place of a table of rows -/
theorem idx2 {x y w h : Int32} (hx : ¬ x < 0) (hxw : x < w) (hy : ¬ y < 0) (hyh : y < h) (hw : ¬ 16 < w) (hh : ¬ 16 < h) : (y * w + x).toInt = y.toInt * w.toInt + x.toInt ∧ 0 ≤ y.toInt * w.toInt + x.toInt ∧ y.toInt * w.toInt + x.toInt < 256 ∧ y.toInt * w.toInt + x.toInt < h.toInt * w.toInt := by
  have a1 := nn_int hx
  have a2 := nn_int hy
  have a3 := lt_int hxw
  have a4 := lt_int hyh
  have a5 := ge_int hw
  have a6 := ge_int hh
  have c16 : (16 : Int32).toInt = 16 := by decide
  rw [c16] at a5 a6
  have m1 : 0 ≤ y.toInt * w.toInt := Int.mul_nonneg a2 (by omega)
  have m2 : (y.toInt + 1) * w.toInt ≤ h.toInt * w.toInt := Int.mul_le_mul_of_nonneg_right (by omega) (by omega)
  have m3 : h.toInt * w.toInt ≤ 16 * w.toInt := Int.mul_le_mul_of_nonneg_right (by omega) (by omega)
  rw [Int.add_mul] at m2
  have e1 : (y * w).toInt = y.toInt * w.toInt := mul_int (by omega) (by omega)
  have e2 : (y * w + x).toInt = (y * w).toInt + x.toInt := add_int (by rw [e1]; omega) (by rw [e1]; omega)
  rw [e2, e1]
  exact ⟨rfl, by omega, by omega, by omega⟩
theorem and1 {z : Int32} (h : z = 0 ∨ z = 1) : z &&& 1 = z := by rcases h with rfl | rfl <;> decide
end Jvm.OwnEv
namespace Jvm.Pilot.@@N@@
open Jvm Jvm.ClassFile Sem Op Lib Jvm.Free Jvm.Stand Jvm.LawKit Jvm.RoadKit Jvm.OwnEv Bundle Jvm.Pilot.@@N@@.Jvm.D
abbrev RR1 : Nat → Nat → Value := (up (up (up (up (up (up (up (up (up (up (up (up (up (up (up (up (up (up (up (up (up (up (up (up (up (up (up (up (up (up (fun _ _ => Value.null) 0 17 (.ref 1)) 0 20 (.ref 2)) 0 22 (.ref 3)) 0 24 (.ref 4)) 0 26 (.ref 5)) 0 28 (.ref 6)) 0 30 (.ref 7)) 0 32 (.ref 8)) 0 34 (.ref 9)) 0 36 (.ref 10)) 0 38 (.ref 11)) 0 40 (.ref 12)) 0 42 (.ref 13)) 0 44 (.ref 14)) 0 46 (.ref 15)) 0 48 (.ref 16)) 0 50 (.ref 17)) 0 53 (.ref 18)) 0 55 (.ref 19)) 0 57 (.ref 20)) 0 59 (.ref 21)) 0 61 (.ref 22)) 0 63 (.ref 23)) 0 65 (.ref 24)) 0 67 (.ref 25)) 0 69 (.ref 26)) 0 71 (.ref 27)) 0 73 (.ref 28)) 0 75 (.ref 29)) 0 77 (.ref 30))
abbrev LL1 : ELay := [(0, "TreeSeqSim", 48), (2, "", 128), (1, "", 128), (1, "", 8), (1, "", 512), (1, "", 512), (1, "", 512), (1, "", 512), (1, "", 512), (1, "", 512), (1, "", 512), (1, "", 64), (1, "", 8), (1, "", 128), (1, "", 128), (1, "", 128), (1, "", 128), (1, "", 128), (3, "", 128), (3, "", 128), (3, "", 1024), (1, "", 1024), (1, "", 1024), (2, "", 128), (1, "", 512), (1, "", 512), (1, "", 512), (1, "", 512), (1, "", 512), (1, "", 512), (1, "", 512)]
abbrev QL : Option Value → EMem → Prop := fun v M' => v = some (.int 1) ∧ M'.1.length - 0 ≤ room_1.cells ∧ szL M'.1 - 0 ≤ room_1.slots
theorem ql1 {mi : Nat → Nat → Int32} {ml : Nat → Nat → Int64} {v : Int32} (h : v = 1) : QL (some (.int v)) (LL1, mi, ml, RR1) := ⟨by rw [h], by show LL1.length - 0 ≤ room_1.cells; decide, by show szL LL1 - 0 ≤ room_1.slots; decide⟩
theorem d_generation_0 : decode prog_1_method_7_code 0 = .ok (.aload_n 0, 1) := by decide +kernel
theorem d_generation_1 : decode prog_1_method_7_code 1 = .ok (.getfield 130, 3) := by decide +kernel
theorem fa_c130 : fieldAt tables_1 "TreeSeqSim" 130 = some ("TreeSeqSim", 91, 1, false) := by decide +kernel
theorem d_generation_4 : decode prog_1_method_7_code 4 = .ok (.ireturn, 1) := by decide +kernel
abbrev W_generation (pc : Nat) (ls : List Slot) (st : List Value) (M : EMem) (Q : Option Value → EMem → Prop) : Prop := Wp tables_1 0 0 0 (⟨"TreeSeqSim", "generation", "()I"⟩ : MethodName) prog_1_method_7_code (some .int) pc ls st M Q
theorem d_mutationCount_0 : decode prog_1_method_8_code 0 = .ok (.aload_n 0, 1) := by decide +kernel
theorem d_mutationCount_1 : decode prog_1_method_8_code 1 = .ok (.getfield 133, 3) := by decide +kernel
theorem fa_c133 : fieldAt tables_1 "TreeSeqSim" 133 = some ("TreeSeqSim", 93, 1, false) := by decide +kernel
theorem d_mutationCount_4 : decode prog_1_method_8_code 4 = .ok (.ireturn, 1) := by decide +kernel
abbrev W_mutationCount (pc : Nat) (ls : List Slot) (st : List Value) (M : EMem) (Q : Option Value → EMem → Prop) : Prop := Wp tables_1 0 0 0 (⟨"TreeSeqSim", "mutationCount", "()I"⟩ : MethodName) prog_1_method_8_code (some .int) pc ls st M Q
theorem d_init_0 : decode prog_1_method_1_code 0 = .ok (.aload_n 0, 1) := by decide +kernel
theorem d_init_1 : decode prog_1_method_1_code 1 = .ok (.invokespecial 1, 3) := by decide +kernel
theorem oi_c1 : objInitAt tables_1 "TreeSeqSim" 1 = true := by decide +kernel
theorem d_init_4 : decode prog_1_method_1_code 4 = .ok (.aload_n 0, 1) := by decide +kernel
theorem d_init_5 : decode prog_1_method_1_code 5 = .ok (.sipush 128, 3) := by decide +kernel
theorem d_init_8 : decode prog_1_method_1_code 8 = .ok (.putfield 7, 3) := by decide +kernel
theorem fa_c7 : fieldAt tables_1 "TreeSeqSim" 7 = some ("TreeSeqSim", 10, 1, false) := by decide +kernel
theorem in_TreeSeqSim : instLk "TreeSeqSim" tables_1 = some 48 := by decide +kernel
theorem d_init_11 : decode prog_1_method_1_code 11 = .ok (.aload_n 0, 1) := by decide +kernel
theorem d_init_12 : decode prog_1_method_1_code 12 = .ok (.sipush 512, 3) := by decide +kernel
theorem d_init_15 : decode prog_1_method_1_code 15 = .ok (.putfield 13, 3) := by decide +kernel
theorem fa_c13 : fieldAt tables_1 "TreeSeqSim" 13 = some ("TreeSeqSim", 12, 1, false) := by decide +kernel
theorem d_init_18 : decode prog_1_method_1_code 18 = .ok (.aload_n 0, 1) := by decide +kernel
theorem d_init_19 : decode prog_1_method_1_code 19 = .ok (.sipush 512, 3) := by decide +kernel
theorem d_init_22 : decode prog_1_method_1_code 22 = .ok (.putfield 16, 3) := by decide +kernel
theorem fa_c16 : fieldAt tables_1 "TreeSeqSim" 16 = some ("TreeSeqSim", 14, 1, false) := by decide +kernel
theorem d_init_25 : decode prog_1_method_1_code 25 = .ok (.aload_n 0, 1) := by decide +kernel
theorem d_init_26 : decode prog_1_method_1_code 26 = .ok (.sipush 128, 3) := by decide +kernel
theorem d_init_29 : decode prog_1_method_1_code 29 = .ok (.newarray .long, 2) := by decide +kernel
theorem ar_long : hasArr .long tables_1 = true := by decide +kernel
theorem d_init_31 : decode prog_1_method_1_code 31 = .ok (.putfield 19, 3) := by decide +kernel
theorem fa_c19 : fieldAt tables_1 "TreeSeqSim" 19 = some ("TreeSeqSim", 17, 4, false) := by decide +kernel
theorem d_init_34 : decode prog_1_method_1_code 34 = .ok (.aload_n 0, 1) := by decide +kernel
theorem d_init_35 : decode prog_1_method_1_code 35 = .ok (.sipush 128, 3) := by decide +kernel
theorem d_init_38 : decode prog_1_method_1_code 38 = .ok (.newarray .int, 2) := by decide +kernel
theorem ar_int : hasArr .int tables_1 = true := by decide +kernel
theorem d_init_40 : decode prog_1_method_1_code 40 = .ok (.putfield 23, 3) := by decide +kernel
theorem fa_c23 : fieldAt tables_1 "TreeSeqSim" 23 = some ("TreeSeqSim", 20, 4, false) := by decide +kernel
theorem d_init_43 : decode prog_1_method_1_code 43 = .ok (.aload_n 0, 1) := by decide +kernel
theorem d_init_44 : decode prog_1_method_1_code 44 = .ok (.bipush 8, 2) := by decide +kernel
theorem d_init_46 : decode prog_1_method_1_code 46 = .ok (.newarray .int, 2) := by decide +kernel
theorem d_init_48 : decode prog_1_method_1_code 48 = .ok (.putfield 27, 3) := by decide +kernel
theorem fa_c27 : fieldAt tables_1 "TreeSeqSim" 27 = some ("TreeSeqSim", 22, 4, false) := by decide +kernel
theorem d_init_51 : decode prog_1_method_1_code 51 = .ok (.aload_n 0, 1) := by decide +kernel
theorem d_init_52 : decode prog_1_method_1_code 52 = .ok (.sipush 512, 3) := by decide +kernel
theorem d_init_55 : decode prog_1_method_1_code 55 = .ok (.newarray .int, 2) := by decide +kernel
theorem d_init_57 : decode prog_1_method_1_code 57 = .ok (.putfield 30, 3) := by decide +kernel
theorem fa_c30 : fieldAt tables_1 "TreeSeqSim" 30 = some ("TreeSeqSim", 24, 4, false) := by decide +kernel
theorem d_init_60 : decode prog_1_method_1_code 60 = .ok (.aload_n 0, 1) := by decide +kernel
theorem d_init_61 : decode prog_1_method_1_code 61 = .ok (.sipush 512, 3) := by decide +kernel
theorem d_init_64 : decode prog_1_method_1_code 64 = .ok (.newarray .int, 2) := by decide +kernel
theorem d_init_66 : decode prog_1_method_1_code 66 = .ok (.putfield 33, 3) := by decide +kernel
theorem fa_c33 : fieldAt tables_1 "TreeSeqSim" 33 = some ("TreeSeqSim", 26, 4, false) := by decide +kernel
theorem d_init_69 : decode prog_1_method_1_code 69 = .ok (.aload_n 0, 1) := by decide +kernel
theorem d_init_70 : decode prog_1_method_1_code 70 = .ok (.sipush 512, 3) := by decide +kernel
theorem d_init_73 : decode prog_1_method_1_code 73 = .ok (.newarray .int, 2) := by decide +kernel
theorem d_init_75 : decode prog_1_method_1_code 75 = .ok (.putfield 36, 3) := by decide +kernel
theorem fa_c36 : fieldAt tables_1 "TreeSeqSim" 36 = some ("TreeSeqSim", 28, 4, false) := by decide +kernel
theorem d_init_78 : decode prog_1_method_1_code 78 = .ok (.aload_n 0, 1) := by decide +kernel
theorem d_init_79 : decode prog_1_method_1_code 79 = .ok (.sipush 512, 3) := by decide +kernel
theorem d_init_82 : decode prog_1_method_1_code 82 = .ok (.newarray .int, 2) := by decide +kernel
theorem d_init_84 : decode prog_1_method_1_code 84 = .ok (.putfield 39, 3) := by decide +kernel
theorem fa_c39 : fieldAt tables_1 "TreeSeqSim" 39 = some ("TreeSeqSim", 30, 4, false) := by decide +kernel
theorem d_init_87 : decode prog_1_method_1_code 87 = .ok (.aload_n 0, 1) := by decide +kernel
theorem d_init_88 : decode prog_1_method_1_code 88 = .ok (.sipush 512, 3) := by decide +kernel
theorem d_init_91 : decode prog_1_method_1_code 91 = .ok (.newarray .int, 2) := by decide +kernel
theorem d_init_93 : decode prog_1_method_1_code 93 = .ok (.putfield 42, 3) := by decide +kernel
theorem fa_c42 : fieldAt tables_1 "TreeSeqSim" 42 = some ("TreeSeqSim", 32, 4, false) := by decide +kernel
theorem d_init_96 : decode prog_1_method_1_code 96 = .ok (.aload_n 0, 1) := by decide +kernel
theorem d_init_97 : decode prog_1_method_1_code 97 = .ok (.sipush 512, 3) := by decide +kernel
theorem d_init_100 : decode prog_1_method_1_code 100 = .ok (.newarray .int, 2) := by decide +kernel
theorem d_init_102 : decode prog_1_method_1_code 102 = .ok (.putfield 45, 3) := by decide +kernel
theorem fa_c45 : fieldAt tables_1 "TreeSeqSim" 45 = some ("TreeSeqSim", 34, 4, false) := by decide +kernel
theorem d_init_105 : decode prog_1_method_1_code 105 = .ok (.aload_n 0, 1) := by decide +kernel
theorem d_init_106 : decode prog_1_method_1_code 106 = .ok (.sipush 512, 3) := by decide +kernel
theorem d_init_109 : decode prog_1_method_1_code 109 = .ok (.newarray .int, 2) := by decide +kernel
theorem d_init_111 : decode prog_1_method_1_code 111 = .ok (.putfield 48, 3) := by decide +kernel
theorem fa_c48 : fieldAt tables_1 "TreeSeqSim" 48 = some ("TreeSeqSim", 36, 4, false) := by decide +kernel
theorem d_init_114 : decode prog_1_method_1_code 114 = .ok (.aload_n 0, 1) := by decide +kernel
theorem d_init_115 : decode prog_1_method_1_code 115 = .ok (.bipush 64, 2) := by decide +kernel
theorem d_init_117 : decode prog_1_method_1_code 117 = .ok (.newarray .int, 2) := by decide +kernel
theorem d_init_119 : decode prog_1_method_1_code 119 = .ok (.putfield 51, 3) := by decide +kernel
theorem fa_c51 : fieldAt tables_1 "TreeSeqSim" 51 = some ("TreeSeqSim", 38, 4, false) := by decide +kernel
theorem d_init_122 : decode prog_1_method_1_code 122 = .ok (.aload_n 0, 1) := by decide +kernel
theorem d_init_123 : decode prog_1_method_1_code 123 = .ok (.bipush 8, 2) := by decide +kernel
theorem d_init_125 : decode prog_1_method_1_code 125 = .ok (.newarray .int, 2) := by decide +kernel
theorem d_init_127 : decode prog_1_method_1_code 127 = .ok (.putfield 54, 3) := by decide +kernel
theorem fa_c54 : fieldAt tables_1 "TreeSeqSim" 54 = some ("TreeSeqSim", 40, 4, false) := by decide +kernel
theorem d_init_130 : decode prog_1_method_1_code 130 = .ok (.aload_n 0, 1) := by decide +kernel
theorem d_init_131 : decode prog_1_method_1_code 131 = .ok (.sipush 128, 3) := by decide +kernel
theorem d_init_134 : decode prog_1_method_1_code 134 = .ok (.newarray .int, 2) := by decide +kernel
theorem d_init_136 : decode prog_1_method_1_code 136 = .ok (.putfield 57, 3) := by decide +kernel
theorem fa_c57 : fieldAt tables_1 "TreeSeqSim" 57 = some ("TreeSeqSim", 42, 4, false) := by decide +kernel
theorem d_init_139 : decode prog_1_method_1_code 139 = .ok (.aload_n 0, 1) := by decide +kernel
theorem d_init_140 : decode prog_1_method_1_code 140 = .ok (.sipush 128, 3) := by decide +kernel
theorem d_init_143 : decode prog_1_method_1_code 143 = .ok (.newarray .int, 2) := by decide +kernel
theorem d_init_145 : decode prog_1_method_1_code 145 = .ok (.putfield 60, 3) := by decide +kernel
theorem fa_c60 : fieldAt tables_1 "TreeSeqSim" 60 = some ("TreeSeqSim", 44, 4, false) := by decide +kernel
theorem d_init_148 : decode prog_1_method_1_code 148 = .ok (.aload_n 0, 1) := by decide +kernel
theorem d_init_149 : decode prog_1_method_1_code 149 = .ok (.sipush 128, 3) := by decide +kernel
theorem d_init_152 : decode prog_1_method_1_code 152 = .ok (.newarray .int, 2) := by decide +kernel
theorem d_init_154 : decode prog_1_method_1_code 154 = .ok (.putfield 63, 3) := by decide +kernel
theorem fa_c63 : fieldAt tables_1 "TreeSeqSim" 63 = some ("TreeSeqSim", 46, 4, false) := by decide +kernel
theorem d_init_157 : decode prog_1_method_1_code 157 = .ok (.aload_n 0, 1) := by decide +kernel
theorem d_init_158 : decode prog_1_method_1_code 158 = .ok (.sipush 128, 3) := by decide +kernel
theorem d_init_161 : decode prog_1_method_1_code 161 = .ok (.newarray .int, 2) := by decide +kernel
theorem d_init_163 : decode prog_1_method_1_code 163 = .ok (.putfield 66, 3) := by decide +kernel
theorem fa_c66 : fieldAt tables_1 "TreeSeqSim" 66 = some ("TreeSeqSim", 48, 4, false) := by decide +kernel
theorem d_init_166 : decode prog_1_method_1_code 166 = .ok (.aload_n 0, 1) := by decide +kernel
theorem d_init_167 : decode prog_1_method_1_code 167 = .ok (.sipush 128, 3) := by decide +kernel
theorem d_init_170 : decode prog_1_method_1_code 170 = .ok (.newarray .int, 2) := by decide +kernel
theorem d_init_172 : decode prog_1_method_1_code 172 = .ok (.putfield 69, 3) := by decide +kernel
theorem fa_c69 : fieldAt tables_1 "TreeSeqSim" 69 = some ("TreeSeqSim", 50, 4, false) := by decide +kernel
theorem d_init_175 : decode prog_1_method_1_code 175 = .ok (.aload_n 0, 1) := by decide +kernel
theorem d_init_176 : decode prog_1_method_1_code 176 = .ok (.sipush 128, 3) := by decide +kernel
theorem d_init_179 : decode prog_1_method_1_code 179 = .ok (.newarray .boolean, 2) := by decide +kernel
theorem ar_boolean : hasArr .boolean tables_1 = true := by decide +kernel
theorem d_init_181 : decode prog_1_method_1_code 181 = .ok (.putfield 72, 3) := by decide +kernel
theorem fa_c72 : fieldAt tables_1 "TreeSeqSim" 72 = some ("TreeSeqSim", 53, 4, false) := by decide +kernel
theorem d_init_184 : decode prog_1_method_1_code 184 = .ok (.aload_n 0, 1) := by decide +kernel
theorem d_init_185 : decode prog_1_method_1_code 185 = .ok (.sipush 128, 3) := by decide +kernel
theorem d_init_188 : decode prog_1_method_1_code 188 = .ok (.newarray .boolean, 2) := by decide +kernel
theorem d_init_190 : decode prog_1_method_1_code 190 = .ok (.putfield 76, 3) := by decide +kernel
theorem fa_c76 : fieldAt tables_1 "TreeSeqSim" 76 = some ("TreeSeqSim", 55, 4, false) := by decide +kernel
theorem d_init_193 : decode prog_1_method_1_code 193 = .ok (.aload_n 0, 1) := by decide +kernel
theorem d_init_194 : decode prog_1_method_1_code 194 = .ok (.sipush 1024, 3) := by decide +kernel
theorem d_init_197 : decode prog_1_method_1_code 197 = .ok (.newarray .boolean, 2) := by decide +kernel
theorem d_init_199 : decode prog_1_method_1_code 199 = .ok (.putfield 79, 3) := by decide +kernel
theorem fa_c79 : fieldAt tables_1 "TreeSeqSim" 79 = some ("TreeSeqSim", 57, 4, false) := by decide +kernel
theorem d_init_202 : decode prog_1_method_1_code 202 = .ok (.aload_n 0, 1) := by decide +kernel
theorem d_init_203 : decode prog_1_method_1_code 203 = .ok (.sipush 1024, 3) := by decide +kernel
theorem d_init_206 : decode prog_1_method_1_code 206 = .ok (.newarray .int, 2) := by decide +kernel
theorem d_init_208 : decode prog_1_method_1_code 208 = .ok (.putfield 82, 3) := by decide +kernel
theorem fa_c82 : fieldAt tables_1 "TreeSeqSim" 82 = some ("TreeSeqSim", 59, 4, false) := by decide +kernel
theorem d_init_211 : decode prog_1_method_1_code 211 = .ok (.aload_n 0, 1) := by decide +kernel
theorem d_init_212 : decode prog_1_method_1_code 212 = .ok (.sipush 1024, 3) := by decide +kernel
theorem d_init_215 : decode prog_1_method_1_code 215 = .ok (.newarray .int, 2) := by decide +kernel
theorem d_init_217 : decode prog_1_method_1_code 217 = .ok (.putfield 85, 3) := by decide +kernel
theorem fa_c85 : fieldAt tables_1 "TreeSeqSim" 85 = some ("TreeSeqSim", 61, 4, false) := by decide +kernel
theorem d_init_220 : decode prog_1_method_1_code 220 = .ok (.aload_n 0, 1) := by decide +kernel
theorem d_init_221 : decode prog_1_method_1_code 221 = .ok (.sipush 128, 3) := by decide +kernel
theorem d_init_224 : decode prog_1_method_1_code 224 = .ok (.newarray .long, 2) := by decide +kernel
theorem d_init_226 : decode prog_1_method_1_code 226 = .ok (.putfield 88, 3) := by decide +kernel
theorem fa_c88 : fieldAt tables_1 "TreeSeqSim" 88 = some ("TreeSeqSim", 63, 4, false) := by decide +kernel
theorem d_init_229 : decode prog_1_method_1_code 229 = .ok (.aload_n 0, 1) := by decide +kernel
theorem d_init_230 : decode prog_1_method_1_code 230 = .ok (.sipush 512, 3) := by decide +kernel
theorem d_init_233 : decode prog_1_method_1_code 233 = .ok (.newarray .int, 2) := by decide +kernel
theorem d_init_235 : decode prog_1_method_1_code 235 = .ok (.putfield 91, 3) := by decide +kernel
theorem fa_c91 : fieldAt tables_1 "TreeSeqSim" 91 = some ("TreeSeqSim", 65, 4, false) := by decide +kernel
theorem d_init_238 : decode prog_1_method_1_code 238 = .ok (.aload_n 0, 1) := by decide +kernel
theorem d_init_239 : decode prog_1_method_1_code 239 = .ok (.sipush 512, 3) := by decide +kernel
theorem d_init_242 : decode prog_1_method_1_code 242 = .ok (.newarray .int, 2) := by decide +kernel
theorem d_init_244 : decode prog_1_method_1_code 244 = .ok (.putfield 94, 3) := by decide +kernel
theorem fa_c94 : fieldAt tables_1 "TreeSeqSim" 94 = some ("TreeSeqSim", 67, 4, false) := by decide +kernel
theorem d_init_247 : decode prog_1_method_1_code 247 = .ok (.aload_n 0, 1) := by decide +kernel
theorem d_init_248 : decode prog_1_method_1_code 248 = .ok (.sipush 512, 3) := by decide +kernel
theorem d_init_251 : decode prog_1_method_1_code 251 = .ok (.newarray .int, 2) := by decide +kernel
theorem d_init_253 : decode prog_1_method_1_code 253 = .ok (.putfield 97, 3) := by decide +kernel
theorem fa_c97 : fieldAt tables_1 "TreeSeqSim" 97 = some ("TreeSeqSim", 69, 4, false) := by decide +kernel
theorem d_init_256 : decode prog_1_method_1_code 256 = .ok (.aload_n 0, 1) := by decide +kernel
theorem d_init_257 : decode prog_1_method_1_code 257 = .ok (.sipush 512, 3) := by decide +kernel
theorem d_init_260 : decode prog_1_method_1_code 260 = .ok (.newarray .int, 2) := by decide +kernel
theorem d_init_262 : decode prog_1_method_1_code 262 = .ok (.putfield 100, 3) := by decide +kernel
theorem fa_c100 : fieldAt tables_1 "TreeSeqSim" 100 = some ("TreeSeqSim", 71, 4, false) := by decide +kernel
theorem d_init_265 : decode prog_1_method_1_code 265 = .ok (.aload_n 0, 1) := by decide +kernel
theorem d_init_266 : decode prog_1_method_1_code 266 = .ok (.sipush 512, 3) := by decide +kernel
theorem d_init_269 : decode prog_1_method_1_code 269 = .ok (.newarray .int, 2) := by decide +kernel
theorem d_init_271 : decode prog_1_method_1_code 271 = .ok (.putfield 103, 3) := by decide +kernel
theorem fa_c103 : fieldAt tables_1 "TreeSeqSim" 103 = some ("TreeSeqSim", 73, 4, false) := by decide +kernel
theorem d_init_274 : decode prog_1_method_1_code 274 = .ok (.aload_n 0, 1) := by decide +kernel
theorem d_init_275 : decode prog_1_method_1_code 275 = .ok (.sipush 512, 3) := by decide +kernel
theorem d_init_278 : decode prog_1_method_1_code 278 = .ok (.newarray .int, 2) := by decide +kernel
theorem d_init_280 : decode prog_1_method_1_code 280 = .ok (.putfield 106, 3) := by decide +kernel
theorem fa_c106 : fieldAt tables_1 "TreeSeqSim" 106 = some ("TreeSeqSim", 75, 4, false) := by decide +kernel
theorem d_init_283 : decode prog_1_method_1_code 283 = .ok (.aload_n 0, 1) := by decide +kernel
theorem d_init_284 : decode prog_1_method_1_code 284 = .ok (.sipush 512, 3) := by decide +kernel
theorem d_init_287 : decode prog_1_method_1_code 287 = .ok (.newarray .int, 2) := by decide +kernel
theorem d_init_289 : decode prog_1_method_1_code 289 = .ok (.putfield 109, 3) := by decide +kernel
theorem fa_c109 : fieldAt tables_1 "TreeSeqSim" 109 = some ("TreeSeqSim", 77, 4, false) := by decide +kernel
theorem d_init_292 : decode prog_1_method_1_code 292 = .ok (.iload_n 1, 1) := by decide +kernel
theorem d_init_293 : decode prog_1_method_1_code 293 = .ok (.istore_n 3, 1) := by decide +kernel
theorem d_init_294 : decode prog_1_method_1_code 294 = .ok (.iload_n 3, 1) := by decide +kernel
theorem d_init_295 : decode prog_1_method_1_code 295 = .ok (.iconst 1, 1) := by decide +kernel
theorem d_init_296 : decode prog_1_method_1_code 296 = .ok (.if_icmp .ge 5, 3) := by decide +kernel
theorem d_init_299 : decode prog_1_method_1_code 299 = .ok (.iconst 1, 1) := by decide +kernel
theorem d_init_300 : decode prog_1_method_1_code 300 = .ok (.istore_n 3, 1) := by decide +kernel
abbrev W_init (pc : Nat) (ls : List Slot) (st : List Value) (M : EMem) (Q : Option Value → EMem → Prop) : Prop := Wp tables_1 0 1 12 (⟨"TreeSeqSim", "<init>", "(II)V"⟩ : MethodName) prog_1_method_1_code none pc ls st M Q
theorem d_init_301 : decode prog_1_method_1_code 301 = .ok (.iload_n 3, 1) := by decide +kernel
theorem d_init_302 : decode prog_1_method_1_code 302 = .ok (.iconst 4, 1) := by decide +kernel
theorem d_init_303 : decode prog_1_method_1_code 303 = .ok (.if_icmp .le 5, 3) := by decide +kernel
theorem d_init_306 : decode prog_1_method_1_code 306 = .ok (.iconst 4, 1) := by decide +kernel
theorem d_init_307 : decode prog_1_method_1_code 307 = .ok (.istore_n 3, 1) := by decide +kernel
theorem d_init_308 : decode prog_1_method_1_code 308 = .ok (.iload_n 2, 1) := by decide +kernel
theorem d_init_309 : decode prog_1_method_1_code 309 = .ok (.istore 4, 2) := by decide +kernel
theorem d_init_311 : decode prog_1_method_1_code 311 = .ok (.iload 4, 2) := by decide +kernel
theorem d_init_313 : decode prog_1_method_1_code 313 = .ok (.iconst 2, 1) := by decide +kernel
theorem d_init_314 : decode prog_1_method_1_code 314 = .ok (.if_icmp .ge 6, 3) := by decide +kernel
theorem d_init_317 : decode prog_1_method_1_code 317 = .ok (.iconst 2, 1) := by decide +kernel
theorem d_init_318 : decode prog_1_method_1_code 318 = .ok (.istore 4, 2) := by decide +kernel
theorem d_init_320 : decode prog_1_method_1_code 320 = .ok (.iload 4, 2) := by decide +kernel
theorem d_init_322 : decode prog_1_method_1_code 322 = .ok (.bipush 8, 2) := by decide +kernel
theorem d_init_324 : decode prog_1_method_1_code 324 = .ok (.if_icmp .le 7, 3) := by decide +kernel
theorem d_init_327 : decode prog_1_method_1_code 327 = .ok (.bipush 8, 2) := by decide +kernel
theorem d_init_329 : decode prog_1_method_1_code 329 = .ok (.istore 4, 2) := by decide +kernel
theorem d_init_331 : decode prog_1_method_1_code 331 = .ok (.aload_n 0, 1) := by decide +kernel
theorem d_init_332 : decode prog_1_method_1_code 332 = .ok (.iload_n 3, 1) := by decide +kernel
theorem d_init_333 : decode prog_1_method_1_code 333 = .ok (.putfield 112, 3) := by decide +kernel
theorem fa_c112 : fieldAt tables_1 "TreeSeqSim" 112 = some ("TreeSeqSim", 79, 1, false) := by decide +kernel
theorem d_init_336 : decode prog_1_method_1_code 336 = .ok (.aload_n 0, 1) := by decide +kernel
theorem d_init_337 : decode prog_1_method_1_code 337 = .ok (.iconst 2, 1) := by decide +kernel
theorem d_init_338 : decode prog_1_method_1_code 338 = .ok (.iload_n 3, 1) := by decide +kernel
theorem d_init_339 : decode prog_1_method_1_code 339 = .ok (.imul, 1) := by decide +kernel
theorem d_init_340 : decode prog_1_method_1_code 340 = .ok (.putfield 115, 3) := by decide +kernel
theorem fa_c115 : fieldAt tables_1 "TreeSeqSim" 115 = some ("TreeSeqSim", 81, 1, false) := by decide +kernel
theorem d_init_343 : decode prog_1_method_1_code 343 = .ok (.aload_n 0, 1) := by decide +kernel
theorem d_init_344 : decode prog_1_method_1_code 344 = .ok (.iload 4, 2) := by decide +kernel
theorem d_init_346 : decode prog_1_method_1_code 346 = .ok (.putfield 118, 3) := by decide +kernel
theorem fa_c118 : fieldAt tables_1 "TreeSeqSim" 118 = some ("TreeSeqSim", 83, 1, false) := by decide +kernel
theorem d_init_349 : decode prog_1_method_1_code 349 = .ok (.aload_n 0, 1) := by decide +kernel
theorem d_init_350 : decode prog_1_method_1_code 350 = .ok (.sipush 12345, 3) := by decide +kernel
theorem d_init_353 : decode prog_1_method_1_code 353 = .ok (.putfield 121, 3) := by decide +kernel
theorem fa_c121 : fieldAt tables_1 "TreeSeqSim" 121 = some ("TreeSeqSim", 85, 1, false) := by decide +kernel
theorem d_init_356 : decode prog_1_method_1_code 356 = .ok (.aload_n 0, 1) := by decide +kernel
theorem d_init_357 : decode prog_1_method_1_code 357 = .ok (.bipush 25, 2) := by decide +kernel
theorem d_init_359 : decode prog_1_method_1_code 359 = .ok (.putfield 124, 3) := by decide +kernel
theorem fa_c124 : fieldAt tables_1 "TreeSeqSim" 124 = some ("TreeSeqSim", 87, 1, false) := by decide +kernel
theorem d_init_362 : decode prog_1_method_1_code 362 = .ok (.aload_n 0, 1) := by decide +kernel
theorem d_init_363 : decode prog_1_method_1_code 363 = .ok (.bipush 25, 2) := by decide +kernel
theorem d_init_365 : decode prog_1_method_1_code 365 = .ok (.putfield 127, 3) := by decide +kernel
theorem fa_c127 : fieldAt tables_1 "TreeSeqSim" 127 = some ("TreeSeqSim", 89, 1, false) := by decide +kernel
theorem d_init_368 : decode prog_1_method_1_code 368 = .ok (.aload_n 0, 1) := by decide +kernel
theorem d_init_369 : decode prog_1_method_1_code 369 = .ok (.iconst 0, 1) := by decide +kernel
theorem d_init_370 : decode prog_1_method_1_code 370 = .ok (.putfield 130, 3) := by decide +kernel
theorem d_init_373 : decode prog_1_method_1_code 373 = .ok (.aload_n 0, 1) := by decide +kernel
theorem d_init_374 : decode prog_1_method_1_code 374 = .ok (.iconst 0, 1) := by decide +kernel
theorem d_init_375 : decode prog_1_method_1_code 375 = .ok (.putfield 133, 3) := by decide +kernel
theorem d_init_378 : decode prog_1_method_1_code 378 = .ok (.aload_n 0, 1) := by decide +kernel
theorem d_init_379 : decode prog_1_method_1_code 379 = .ok (.lconst 0, 1) := by decide +kernel
theorem d_init_380 : decode prog_1_method_1_code 380 = .ok (.putfield 136, 3) := by decide +kernel
theorem fa_c136 : fieldAt tables_1 "TreeSeqSim" 136 = some ("TreeSeqSim", 95, 3, false) := by decide +kernel
theorem d_init_383 : decode prog_1_method_1_code 383 = .ok (.aload_n 0, 1) := by decide +kernel
theorem d_init_384 : decode prog_1_method_1_code 384 = .ok (.aload_n 0, 1) := by decide +kernel
theorem d_init_385 : decode prog_1_method_1_code 385 = .ok (.getfield 115, 3) := by decide +kernel
theorem d_init_388 : decode prog_1_method_1_code 388 = .ok (.putfield 140, 3) := by decide +kernel
theorem fa_c140 : fieldAt tables_1 "TreeSeqSim" 140 = some ("TreeSeqSim", 97, 1, false) := by decide +kernel
theorem d_init_391 : decode prog_1_method_1_code 391 = .ok (.aload_n 0, 1) := by decide +kernel
theorem d_init_392 : decode prog_1_method_1_code 392 = .ok (.iconst 0, 1) := by decide +kernel
theorem d_init_393 : decode prog_1_method_1_code 393 = .ok (.putfield 143, 3) := by decide +kernel
theorem fa_c143 : fieldAt tables_1 "TreeSeqSim" 143 = some ("TreeSeqSim", 99, 1, false) := by decide +kernel
theorem d_init_396 : decode prog_1_method_1_code 396 = .ok (.aload_n 0, 1) := by decide +kernel
theorem d_init_397 : decode prog_1_method_1_code 397 = .ok (.iconst 0, 1) := by decide +kernel
theorem d_init_398 : decode prog_1_method_1_code 398 = .ok (.putfield 146, 3) := by decide +kernel
theorem fa_c146 : fieldAt tables_1 "TreeSeqSim" 146 = some ("TreeSeqSim", 101, 1, false) := by decide +kernel
theorem d_init_401 : decode prog_1_method_1_code 401 = .ok (.iconst 0, 1) := by decide +kernel
theorem d_init_402 : decode prog_1_method_1_code 402 = .ok (.istore 5, 2) := by decide +kernel
theorem d_init_404 : decode prog_1_method_1_code 404 = .ok (.iload 5, 2) := by decide +kernel
theorem d_init_406 : decode prog_1_method_1_code 406 = .ok (.aload_n 0, 1) := by decide +kernel
theorem d_init_407 : decode prog_1_method_1_code 407 = .ok (.getfield 115, 3) := by decide +kernel
theorem d_init_410 : decode prog_1_method_1_code 410 = .ok (.if_icmp .ge 43, 3) := by decide +kernel
theorem d_init_413 : decode prog_1_method_1_code 413 = .ok (.aload_n 0, 1) := by decide +kernel
theorem d_init_414 : decode prog_1_method_1_code 414 = .ok (.getfield 19, 3) := by decide +kernel
theorem d_init_417 : decode prog_1_method_1_code 417 = .ok (.iload 5, 2) := by decide +kernel
theorem d_init_419 : decode prog_1_method_1_code 419 = .ok (.lconst 0, 1) := by decide +kernel
theorem d_init_453 : decode prog_1_method_1_code 453 = .ok (.iconst 0, 1) := by decide +kernel
theorem d_init_454 : decode prog_1_method_1_code 454 = .ok (.istore 5, 2) := by decide +kernel
theorem d_init_420 : decode prog_1_method_1_code 420 = .ok (.lastore, 1) := by decide +kernel
theorem d_init_421 : decode prog_1_method_1_code 421 = .ok (.aload_n 0, 1) := by decide +kernel
theorem d_init_422 : decode prog_1_method_1_code 422 = .ok (.getfield 23, 3) := by decide +kernel
theorem d_init_425 : decode prog_1_method_1_code 425 = .ok (.iload 5, 2) := by decide +kernel
theorem d_init_427 : decode prog_1_method_1_code 427 = .ok (.iload 5, 2) := by decide +kernel
theorem d_init_429 : decode prog_1_method_1_code 429 = .ok (.iastore, 1) := by decide +kernel
theorem d_init_430 : decode prog_1_method_1_code 430 = .ok (.aload_n 0, 1) := by decide +kernel
theorem d_init_431 : decode prog_1_method_1_code 431 = .ok (.getfield 27, 3) := by decide +kernel
theorem d_init_434 : decode prog_1_method_1_code 434 = .ok (.iload 5, 2) := by decide +kernel
theorem d_init_436 : decode prog_1_method_1_code 436 = .ok (.iload 5, 2) := by decide +kernel
theorem d_init_438 : decode prog_1_method_1_code 438 = .ok (.iastore, 1) := by decide +kernel
theorem d_init_439 : decode prog_1_method_1_code 439 = .ok (.aload_n 0, 1) := by decide +kernel
theorem d_init_440 : decode prog_1_method_1_code 440 = .ok (.getfield 54, 3) := by decide +kernel
theorem d_init_443 : decode prog_1_method_1_code 443 = .ok (.iload 5, 2) := by decide +kernel
theorem d_init_445 : decode prog_1_method_1_code 445 = .ok (.iconst (-1), 1) := by decide +kernel
theorem d_init_446 : decode prog_1_method_1_code 446 = .ok (.iastore, 1) := by decide +kernel
theorem d_init_447 : decode prog_1_method_1_code 447 = .ok (.iinc 5 1, 3) := by decide +kernel
theorem d_init_450 : decode prog_1_method_1_code 450 = .ok (.goto (-46), 3) := by decide +kernel
theorem d_init_456 : decode prog_1_method_1_code 456 = .ok (.iload 5, 2) := by decide +kernel
theorem d_init_458 : decode prog_1_method_1_code 458 = .ok (.bipush 64, 2) := by decide +kernel
theorem d_init_460 : decode prog_1_method_1_code 460 = .ok (.if_icmp .ge 17, 3) := by decide +kernel
theorem d_init_463 : decode prog_1_method_1_code 463 = .ok (.aload_n 0, 1) := by decide +kernel
theorem d_init_464 : decode prog_1_method_1_code 464 = .ok (.getfield 51, 3) := by decide +kernel
theorem d_init_467 : decode prog_1_method_1_code 467 = .ok (.iload 5, 2) := by decide +kernel
theorem d_init_469 : decode prog_1_method_1_code 469 = .ok (.iconst (-1), 1) := by decide +kernel
theorem d_init_477 : decode prog_1_method_1_code 477 = .ok (.return_, 1) := by decide +kernel
theorem d_init_470 : decode prog_1_method_1_code 470 = .ok (.iastore, 1) := by decide +kernel
theorem d_init_471 : decode prog_1_method_1_code 471 = .ok (.iinc 5 1, 3) := by decide +kernel
theorem d_init_474 : decode prog_1_method_1_code 474 = .ok (.goto (-18), 3) := by decide +kernel
theorem d_addMutation_0 : decode prog_1_method_22_code 0 = .ok (.iconst 0, 1) := by decide +kernel
theorem d_addMutation_1 : decode prog_1_method_22_code 1 = .ok (.istore 4, 2) := by decide +kernel
abbrev W_addMutation (pc : Nat) (ls : List Slot) (st : List Value) (M : EMem) (Q : Option Value → EMem → Prop) : Prop := Wp tables_1 0 0 0 (⟨"TreeSeqSim", "addMutation", "(III)V"⟩ : MethodName) prog_1_method_22_code none pc ls st M Q
theorem d_addMutation_3 : decode prog_1_method_22_code 3 = .ok (.iload 4, 2) := by decide +kernel
theorem d_addMutation_5 : decode prog_1_method_22_code 5 = .ok (.aload_n 0, 1) := by decide +kernel
theorem d_addMutation_6 : decode prog_1_method_22_code 6 = .ok (.getfield 146, 3) := by decide +kernel
theorem d_addMutation_9 : decode prog_1_method_22_code 9 = .ok (.if_icmp .ge 40, 3) := by decide +kernel
theorem d_addMutation_49 : decode prog_1_method_22_code 49 = .ok (.aload_n 0, 1) := by decide +kernel
theorem d_addMutation_50 : decode prog_1_method_22_code 50 = .ok (.getfield 146, 3) := by decide +kernel
theorem d_addMutation_53 : decode prog_1_method_22_code 53 = .ok (.aload_n 0, 1) := by decide +kernel
theorem d_addMutation_54 : decode prog_1_method_22_code 54 = .ok (.getfield 16, 3) := by decide +kernel
theorem d_addMutation_61 : decode prog_1_method_22_code 61 = .ok (.aload_n 0, 1) := by decide +kernel
theorem d_addMutation_62 : decode prog_1_method_22_code 62 = .ok (.getfield 42, 3) := by decide +kernel
theorem d_addMutation_65 : decode prog_1_method_22_code 65 = .ok (.aload_n 0, 1) := by decide +kernel
theorem d_addMutation_66 : decode prog_1_method_22_code 66 = .ok (.getfield 146, 3) := by decide +kernel
theorem d_addMutation_69 : decode prog_1_method_22_code 69 = .ok (.iload_n 1, 1) := by decide +kernel
theorem d_addMutation_57 : decode prog_1_method_22_code 57 = .ok (.if_icmp .lt 4, 3) := by decide +kernel
theorem d_addMutation_70 : decode prog_1_method_22_code 70 = .ok (.iastore, 1) := by decide +kernel
theorem d_addMutation_71 : decode prog_1_method_22_code 71 = .ok (.aload_n 0, 1) := by decide +kernel
theorem d_addMutation_72 : decode prog_1_method_22_code 72 = .ok (.getfield 45, 3) := by decide +kernel
theorem d_addMutation_75 : decode prog_1_method_22_code 75 = .ok (.aload_n 0, 1) := by decide +kernel
theorem d_addMutation_76 : decode prog_1_method_22_code 76 = .ok (.getfield 146, 3) := by decide +kernel
theorem d_addMutation_79 : decode prog_1_method_22_code 79 = .ok (.iload_n 2, 1) := by decide +kernel
theorem d_addMutation_80 : decode prog_1_method_22_code 80 = .ok (.iastore, 1) := by decide +kernel
theorem d_addMutation_81 : decode prog_1_method_22_code 81 = .ok (.aload_n 0, 1) := by decide +kernel
theorem d_addMutation_82 : decode prog_1_method_22_code 82 = .ok (.getfield 48, 3) := by decide +kernel
theorem d_addMutation_85 : decode prog_1_method_22_code 85 = .ok (.aload_n 0, 1) := by decide +kernel
theorem d_addMutation_86 : decode prog_1_method_22_code 86 = .ok (.getfield 146, 3) := by decide +kernel
theorem d_addMutation_89 : decode prog_1_method_22_code 89 = .ok (.iload_n 3, 1) := by decide +kernel
theorem d_addMutation_90 : decode prog_1_method_22_code 90 = .ok (.iastore, 1) := by decide +kernel
theorem d_addMutation_91 : decode prog_1_method_22_code 91 = .ok (.aload_n 0, 1) := by decide +kernel
theorem d_addMutation_92 : decode prog_1_method_22_code 92 = .ok (.dup, 1) := by decide +kernel
theorem d_addMutation_93 : decode prog_1_method_22_code 93 = .ok (.getfield 146, 3) := by decide +kernel
theorem d_addMutation_96 : decode prog_1_method_22_code 96 = .ok (.iconst 1, 1) := by decide +kernel
theorem d_addMutation_97 : decode prog_1_method_22_code 97 = .ok (.iadd, 1) := by decide +kernel
theorem d_addMutation_98 : decode prog_1_method_22_code 98 = .ok (.putfield 146, 3) := by decide +kernel
theorem d_addMutation_101 : decode prog_1_method_22_code 101 = .ok (.return_, 1) := by decide +kernel
theorem d_addMutation_60 : decode prog_1_method_22_code 60 = .ok (.return_, 1) := by decide +kernel
theorem d_addMutation_12 : decode prog_1_method_22_code 12 = .ok (.aload_n 0, 1) := by decide +kernel
theorem d_addMutation_13 : decode prog_1_method_22_code 13 = .ok (.getfield 42, 3) := by decide +kernel
theorem d_addMutation_16 : decode prog_1_method_22_code 16 = .ok (.iload 4, 2) := by decide +kernel
theorem d_addMutation_18 : decode prog_1_method_22_code 18 = .ok (.iaload, 1) := by decide +kernel
theorem d_addMutation_19 : decode prog_1_method_22_code 19 = .ok (.iload_n 1, 1) := by decide +kernel
theorem d_addMutation_20 : decode prog_1_method_22_code 20 = .ok (.if_icmp .ne 23, 3) := by decide +kernel
theorem d_addMutation_43 : decode prog_1_method_22_code 43 = .ok (.iinc 4 1, 3) := by decide +kernel
theorem d_addMutation_46 : decode prog_1_method_22_code 46 = .ok (.goto (-43), 3) := by decide +kernel
theorem d_addMutation_23 : decode prog_1_method_22_code 23 = .ok (.aload_n 0, 1) := by decide +kernel
theorem d_addMutation_24 : decode prog_1_method_22_code 24 = .ok (.getfield 45, 3) := by decide +kernel
theorem d_addMutation_27 : decode prog_1_method_22_code 27 = .ok (.iload 4, 2) := by decide +kernel
theorem d_addMutation_29 : decode prog_1_method_22_code 29 = .ok (.iaload, 1) := by decide +kernel
theorem d_addMutation_30 : decode prog_1_method_22_code 30 = .ok (.iload_n 2, 1) := by decide +kernel
theorem d_addMutation_31 : decode prog_1_method_22_code 31 = .ok (.if_icmp .ne 12, 3) := by decide +kernel
theorem d_addMutation_34 : decode prog_1_method_22_code 34 = .ok (.aload_n 0, 1) := by decide +kernel
theorem d_addMutation_35 : decode prog_1_method_22_code 35 = .ok (.getfield 48, 3) := by decide +kernel
theorem d_addMutation_38 : decode prog_1_method_22_code 38 = .ok (.iload 4, 2) := by decide +kernel
theorem d_addMutation_40 : decode prog_1_method_22_code 40 = .ok (.iload_n 3, 1) := by decide +kernel
theorem d_addMutation_41 : decode prog_1_method_22_code 41 = .ok (.iastore, 1) := by decide +kernel
theorem d_addMutation_42 : decode prog_1_method_22_code 42 = .ok (.return_, 1) := by decide +kernel
theorem d_mutate_0 : decode prog_1_method_6_code 0 = .ok (.iload_n 1, 1) := by decide +kernel
theorem d_mutate_1 : decode prog_1_method_6_code 1 = .ok (.ifCond .lt 11, 3) := by decide +kernel
theorem d_mutate_12 : decode prog_1_method_6_code 12 = .ok (.iconst (-1), 1) := by decide +kernel
theorem d_mutate_13 : decode prog_1_method_6_code 13 = .ok (.ireturn, 1) := by decide +kernel
theorem d_mutate_4 : decode prog_1_method_6_code 4 = .ok (.iload_n 1, 1) := by decide +kernel
theorem d_mutate_5 : decode prog_1_method_6_code 5 = .ok (.aload_n 0, 1) := by decide +kernel
theorem d_mutate_6 : decode prog_1_method_6_code 6 = .ok (.getfield 115, 3) := by decide +kernel
theorem d_mutate_14 : decode prog_1_method_6_code 14 = .ok (.iload_n 2, 1) := by decide +kernel
theorem d_mutate_26 : decode prog_1_method_6_code 26 = .ok (.iconst (-1), 1) := by decide +kernel
theorem d_mutate_27 : decode prog_1_method_6_code 27 = .ok (.ireturn, 1) := by decide +kernel
theorem d_mutate_18 : decode prog_1_method_6_code 18 = .ok (.iload_n 2, 1) := by decide +kernel
theorem d_mutate_19 : decode prog_1_method_6_code 19 = .ok (.aload_n 0, 1) := by decide +kernel
theorem d_mutate_20 : decode prog_1_method_6_code 20 = .ok (.getfield 118, 3) := by decide +kernel
theorem d_mutate_28 : decode prog_1_method_6_code 28 = .ok (.aload_n 0, 1) := by decide +kernel
theorem d_mutate_29 : decode prog_1_method_6_code 29 = .ok (.aload_n 0, 1) := by decide +kernel
theorem d_mutate_30 : decode prog_1_method_6_code 30 = .ok (.getfield 133, 3) := by decide +kernel
theorem d_mutate_33 : decode prog_1_method_6_code 33 = .ok (.iconst 1, 1) := by decide +kernel
theorem d_mutate_34 : decode prog_1_method_6_code 34 = .ok (.iadd, 1) := by decide +kernel
theorem d_mutate_9 : decode prog_1_method_6_code 9 = .ok (.if_icmp .lt 5, 3) := by decide +kernel
theorem d_mutate_15 : decode prog_1_method_6_code 15 = .ok (.ifCond .lt 11, 3) := by decide +kernel
theorem d_mutate_23 : decode prog_1_method_6_code 23 = .ok (.if_icmp .lt 5, 3) := by decide +kernel
theorem d_mutate_35 : decode prog_1_method_6_code 35 = .ok (.putfield 133, 3) := by decide +kernel
theorem d_mutate_38 : decode prog_1_method_6_code 38 = .ok (.aload_n 0, 1) := by decide +kernel
theorem d_mutate_39 : decode prog_1_method_6_code 39 = .ok (.aload_n 0, 1) := by decide +kernel
theorem d_mutate_40 : decode prog_1_method_6_code 40 = .ok (.getfield 27, 3) := by decide +kernel
theorem d_mutate_43 : decode prog_1_method_6_code 43 = .ok (.iload_n 1, 1) := by decide +kernel
theorem d_mutate_44 : decode prog_1_method_6_code 44 = .ok (.iaload, 1) := by decide +kernel
theorem d_mutate_45 : decode prog_1_method_6_code 45 = .ok (.iload_n 2, 1) := by decide +kernel
theorem d_mutate_46 : decode prog_1_method_6_code 46 = .ok (.aload_n 0, 1) := by decide +kernel
theorem d_mutate_47 : decode prog_1_method_6_code 47 = .ok (.getfield 133, 3) := by decide +kernel
theorem d_mutate_50 : decode prog_1_method_6_code 50 = .ok (.invokevirtual 155, 3) := by decide +kernel
theorem ml_c155 : methodLk "TreeSeqSim" 155 tables_1 = some (⟨"TreeSeqSim", "addMutation", "(III)V"⟩ : MethodName) := by decide +kernel
theorem cl_addMutation : codeLk (⟨"TreeSeqSim", "addMutation", "(III)V"⟩ : MethodName) tables_1 = some (prog_1_method_22_code, 5, none) := codeLk_at (i := 160) rfl (by decide +kernel)
theorem pd_addMutation : parseMethodDescriptor "(III)V" = some ⟨[.int, .int, .int], none⟩ := by decide +kernel
theorem cc_addMutation_1 : hasInit (⟨"TreeSeqSim", "addMutation", "(III)V"⟩ : MethodName).cls tables_1 = true ∧ plainName (⟨"TreeSeqSim", "addMutation", "(III)V"⟩ : MethodName).cls = true ∧ (⟨"TreeSeqSim", "addMutation", "(III)V"⟩ : MethodName).cls ≠ "java/lang/invoke/MethodHandle" ∧ (⟨"TreeSeqSim", "addMutation", "(III)V"⟩ : MethodName).cls ≠ "java/lang/invoke/VarHandle" ∧ (((1 : Nat) = 0 ∧ hasDecl (⟨"TreeSeqSim", "addMutation", "(III)V"⟩ : MethodName) tables_1 = true ∧ hasSel (⟨"TreeSeqSim", "addMutation", "(III)V"⟩ : MethodName) tables_1 = true ∧ hasInst (⟨"TreeSeqSim", "addMutation", "(III)V"⟩ : MethodName) tables_1 = true) ∨ ((1 : Nat) = 1 ∧ hasPriv (⟨"TreeSeqSim", "addMutation", "(III)V"⟩ : MethodName) tables_1 = true ∧ hasInst (⟨"TreeSeqSim", "addMutation", "(III)V"⟩ : MethodName) tables_1 = true ∧ (instLk (⟨"TreeSeqSim", "addMutation", "(III)V"⟩ : MethodName).cls tables_1).isSome = true) ∨ ((1 : Nat) = 2 ∧ (⟨"TreeSeqSim", "addMutation", "(III)V"⟩ : MethodName).name = "<init>" ∧ hasInst (⟨"TreeSeqSim", "addMutation", "(III)V"⟩ : MethodName) tables_1 = true ∧ (none : Option FieldType) = none) ∨ ((1 : Nat) = 3 ∧ hasStat (⟨"TreeSeqSim", "addMutation", "(III)V"⟩ : MethodName) tables_1 = true)) := by decide +kernel
theorem ca_c155_1 : callAt tables_1 "TreeSeqSim" 155 1 = some ((⟨"TreeSeqSim", "addMutation", "(III)V"⟩ : MethodName), 3, prog_1_method_22_code, 5, none) := callAt_of ml_c155 cl_addMutation pd_addMutation cc_addMutation_1 rfl
abbrev W_mutate (pc : Nat) (ls : List Slot) (st : List Value) (M : EMem) (Q : Option Value → EMem → Prop) : Prop := Wp tables_1 0 1 16 (⟨"TreeSeqSim", "mutate", "(II)I"⟩ : MethodName) prog_1_method_6_code (some .int) pc ls st M Q
theorem d_mutate_53 : decode prog_1_method_6_code 53 = .ok (.aload_n 0, 1) := by decide +kernel
theorem d_mutate_54 : decode prog_1_method_6_code 54 = .ok (.getfield 133, 3) := by decide +kernel
theorem d_mutate_57 : decode prog_1_method_6_code 57 = .ok (.ireturn, 1) := by decide +kernel
theorem d_mutationSite_0 : decode prog_1_method_11_code 0 = .ok (.iload_n 1, 1) := by decide +kernel
theorem d_mutationSite_1 : decode prog_1_method_11_code 1 = .ok (.ifCond .lt 11, 3) := by decide +kernel
theorem d_mutationSite_12 : decode prog_1_method_11_code 12 = .ok (.iconst (-1), 1) := by decide +kernel
theorem d_mutationSite_13 : decode prog_1_method_11_code 13 = .ok (.ireturn, 1) := by decide +kernel
theorem d_mutationSite_4 : decode prog_1_method_11_code 4 = .ok (.iload_n 1, 1) := by decide +kernel
theorem d_mutationSite_5 : decode prog_1_method_11_code 5 = .ok (.aload_n 0, 1) := by decide +kernel
theorem d_mutationSite_6 : decode prog_1_method_11_code 6 = .ok (.getfield 115, 3) := by decide +kernel
theorem d_mutationSite_14 : decode prog_1_method_11_code 14 = .ok (.aload_n 0, 1) := by decide +kernel
theorem d_mutationSite_15 : decode prog_1_method_11_code 15 = .ok (.getfield 130, 3) := by decide +kernel
theorem d_mutationSite_23 : decode prog_1_method_11_code 23 = .ok (.aload_n 0, 1) := by decide +kernel
theorem d_mutationSite_24 : decode prog_1_method_11_code 24 = .ok (.getfield 54, 3) := by decide +kernel
theorem d_mutationSite_27 : decode prog_1_method_11_code 27 = .ok (.iload_n 1, 1) := by decide +kernel
theorem d_mutationSite_28 : decode prog_1_method_11_code 28 = .ok (.iaload, 1) := by decide +kernel
theorem d_mutationSite_29 : decode prog_1_method_11_code 29 = .ok (.ireturn, 1) := by decide +kernel
theorem d_mutationSite_21 : decode prog_1_method_11_code 21 = .ok (.iconst (-1), 1) := by decide +kernel
theorem d_mutationSite_22 : decode prog_1_method_11_code 22 = .ok (.ireturn, 1) := by decide +kernel
theorem d_mutationSite_18 : decode prog_1_method_11_code 18 = .ok (.ifCond .ne 5, 3) := by decide +kernel
theorem d_mutationSite_9 : decode prog_1_method_11_code 9 = .ok (.if_icmp .lt 5, 3) := by decide +kernel
abbrev W_mutationSite (pc : Nat) (ls : List Slot) (st : List Value) (M : EMem) (Q : Option Value → EMem → Prop) : Prop := Wp tables_1 0 0 0 (⟨"TreeSeqSim", "mutationSite", "(I)I"⟩ : MethodName) prog_1_method_11_code (some .int) pc ls st M Q
theorem d_fillParentsAt_0 : decode prog_1_method_24_code 0 = .ok (.iconst 0, 1) := by decide +kernel
theorem d_fillParentsAt_1 : decode prog_1_method_24_code 1 = .ok (.istore_n 2, 1) := by decide +kernel
abbrev W_fillParentsAt (pc : Nat) (ls : List Slot) (st : List Value) (M : EMem) (Q : Option Value → EMem → Prop) : Prop := Wp tables_1 0 0 0 (⟨"TreeSeqSim", "fillParentsAt", "(I)V"⟩ : MethodName) prog_1_method_24_code none pc ls st M Q
theorem d_fillParentsAt_2 : decode prog_1_method_24_code 2 = .ok (.iload_n 2, 1) := by decide +kernel
theorem d_fillParentsAt_3 : decode prog_1_method_24_code 3 = .ok (.aload_n 0, 1) := by decide +kernel
theorem d_fillParentsAt_4 : decode prog_1_method_24_code 4 = .ok (.getfield 140, 3) := by decide +kernel
theorem d_fillParentsAt_7 : decode prog_1_method_24_code 7 = .ok (.if_icmp .ge 16, 3) := by decide +kernel
theorem d_fillParentsAt_10 : decode prog_1_method_24_code 10 = .ok (.aload_n 0, 1) := by decide +kernel
theorem d_fillParentsAt_11 : decode prog_1_method_24_code 11 = .ok (.getfield 57, 3) := by decide +kernel
theorem d_fillParentsAt_14 : decode prog_1_method_24_code 14 = .ok (.iload_n 2, 1) := by decide +kernel
theorem d_fillParentsAt_15 : decode prog_1_method_24_code 15 = .ok (.iconst (-1), 1) := by decide +kernel
theorem d_fillParentsAt_23 : decode prog_1_method_24_code 23 = .ok (.iconst 0, 1) := by decide +kernel
theorem d_fillParentsAt_24 : decode prog_1_method_24_code 24 = .ok (.istore_n 2, 1) := by decide +kernel
theorem d_fillParentsAt_16 : decode prog_1_method_24_code 16 = .ok (.iastore, 1) := by decide +kernel
theorem d_fillParentsAt_17 : decode prog_1_method_24_code 17 = .ok (.iinc 2 1, 3) := by decide +kernel
theorem d_fillParentsAt_20 : decode prog_1_method_24_code 20 = .ok (.goto (-18), 3) := by decide +kernel
theorem d_fillParentsAt_25 : decode prog_1_method_24_code 25 = .ok (.iload_n 2, 1) := by decide +kernel
theorem d_fillParentsAt_26 : decode prog_1_method_24_code 26 = .ok (.aload_n 0, 1) := by decide +kernel
theorem d_fillParentsAt_27 : decode prog_1_method_24_code 27 = .ok (.getfield 143, 3) := by decide +kernel
theorem d_fillParentsAt_30 : decode prog_1_method_24_code 30 = .ok (.if_icmp .ge 78, 3) := by decide +kernel
theorem d_fillParentsAt_33 : decode prog_1_method_24_code 33 = .ok (.aload_n 0, 1) := by decide +kernel
theorem d_fillParentsAt_34 : decode prog_1_method_24_code 34 = .ok (.getfield 36, 3) := by decide +kernel
theorem d_fillParentsAt_37 : decode prog_1_method_24_code 37 = .ok (.iload_n 2, 1) := by decide +kernel
theorem d_fillParentsAt_38 : decode prog_1_method_24_code 38 = .ok (.iaload, 1) := by decide +kernel
theorem d_fillParentsAt_39 : decode prog_1_method_24_code 39 = .ok (.iload_n 1, 1) := by decide +kernel
theorem d_fillParentsAt_102 : decode prog_1_method_24_code 102 = .ok (.iinc 2 1, 3) := by decide +kernel
theorem d_fillParentsAt_105 : decode prog_1_method_24_code 105 = .ok (.goto (-80), 3) := by decide +kernel
theorem d_fillParentsAt_108 : decode prog_1_method_24_code 108 = .ok (.return_, 1) := by decide +kernel
theorem d_fillParentsAt_40 : decode prog_1_method_24_code 40 = .ok (.if_icmp .gt 62, 3) := by decide +kernel
theorem d_fillParentsAt_43 : decode prog_1_method_24_code 43 = .ok (.iload_n 1, 1) := by decide +kernel
theorem d_fillParentsAt_44 : decode prog_1_method_24_code 44 = .ok (.aload_n 0, 1) := by decide +kernel
theorem d_fillParentsAt_45 : decode prog_1_method_24_code 45 = .ok (.getfield 39, 3) := by decide +kernel
theorem d_fillParentsAt_48 : decode prog_1_method_24_code 48 = .ok (.iload_n 2, 1) := by decide +kernel
theorem d_fillParentsAt_49 : decode prog_1_method_24_code 49 = .ok (.iaload, 1) := by decide +kernel
theorem d_fillParentsAt_53 : decode prog_1_method_24_code 53 = .ok (.aload_n 0, 1) := by decide +kernel
theorem d_fillParentsAt_54 : decode prog_1_method_24_code 54 = .ok (.getfield 33, 3) := by decide +kernel
theorem d_fillParentsAt_57 : decode prog_1_method_24_code 57 = .ok (.iload_n 2, 1) := by decide +kernel
theorem d_fillParentsAt_58 : decode prog_1_method_24_code 58 = .ok (.iaload, 1) := by decide +kernel
theorem d_fillParentsAt_59 : decode prog_1_method_24_code 59 = .ok (.istore_n 3, 1) := by decide +kernel
theorem d_fillParentsAt_60 : decode prog_1_method_24_code 60 = .ok (.aload_n 0, 1) := by decide +kernel
theorem d_fillParentsAt_61 : decode prog_1_method_24_code 61 = .ok (.getfield 30, 3) := by decide +kernel
theorem d_fillParentsAt_64 : decode prog_1_method_24_code 64 = .ok (.iload_n 2, 1) := by decide +kernel
theorem d_fillParentsAt_65 : decode prog_1_method_24_code 65 = .ok (.iaload, 1) := by decide +kernel
theorem d_fillParentsAt_66 : decode prog_1_method_24_code 66 = .ok (.istore 4, 2) := by decide +kernel
theorem d_fillParentsAt_68 : decode prog_1_method_24_code 68 = .ok (.iload_n 3, 1) := by decide +kernel
theorem d_fillParentsAt_72 : decode prog_1_method_24_code 72 = .ok (.iload_n 3, 1) := by decide +kernel
theorem d_fillParentsAt_73 : decode prog_1_method_24_code 73 = .ok (.aload_n 0, 1) := by decide +kernel
theorem d_fillParentsAt_74 : decode prog_1_method_24_code 74 = .ok (.getfield 140, 3) := by decide +kernel
theorem d_fillParentsAt_80 : decode prog_1_method_24_code 80 = .ok (.iload 4, 2) := by decide +kernel
theorem d_fillParentsAt_85 : decode prog_1_method_24_code 85 = .ok (.iload 4, 2) := by decide +kernel
theorem d_fillParentsAt_87 : decode prog_1_method_24_code 87 = .ok (.aload_n 0, 1) := by decide +kernel
theorem d_fillParentsAt_88 : decode prog_1_method_24_code 88 = .ok (.getfield 140, 3) := by decide +kernel
theorem d_fillParentsAt_94 : decode prog_1_method_24_code 94 = .ok (.aload_n 0, 1) := by decide +kernel
theorem d_fillParentsAt_95 : decode prog_1_method_24_code 95 = .ok (.getfield 57, 3) := by decide +kernel
theorem d_fillParentsAt_98 : decode prog_1_method_24_code 98 = .ok (.iload_n 3, 1) := by decide +kernel
theorem d_fillParentsAt_99 : decode prog_1_method_24_code 99 = .ok (.iload 4, 2) := by decide +kernel
theorem d_fillParentsAt_50 : decode prog_1_method_24_code 50 = .ok (.if_icmp .ge 52, 3) := by decide +kernel
theorem d_fillParentsAt_69 : decode prog_1_method_24_code 69 = .ok (.ifCond .lt 33, 3) := by decide +kernel
theorem d_fillParentsAt_77 : decode prog_1_method_24_code 77 = .ok (.if_icmp .ge 25, 3) := by decide +kernel
theorem d_fillParentsAt_82 : decode prog_1_method_24_code 82 = .ok (.ifCond .lt 20, 3) := by decide +kernel
theorem d_fillParentsAt_91 : decode prog_1_method_24_code 91 = .ok (.if_icmp .ge 11, 3) := by decide +kernel
theorem d_fillParentsAt_101 : decode prog_1_method_24_code 101 = .ok (.iastore, 1) := by decide +kernel
theorem d_fillMutsAt_0 : decode prog_1_method_25_code 0 = .ok (.iconst 0, 1) := by decide +kernel
theorem d_fillMutsAt_1 : decode prog_1_method_25_code 1 = .ok (.istore_n 2, 1) := by decide +kernel
abbrev W_fillMutsAt (pc : Nat) (ls : List Slot) (st : List Value) (M : EMem) (Q : Option Value → EMem → Prop) : Prop := Wp tables_1 0 0 0 (⟨"TreeSeqSim", "fillMutsAt", "(I)V"⟩ : MethodName) prog_1_method_25_code none pc ls st M Q
theorem d_fillMutsAt_2 : decode prog_1_method_25_code 2 = .ok (.iload_n 2, 1) := by decide +kernel
theorem d_fillMutsAt_3 : decode prog_1_method_25_code 3 = .ok (.aload_n 0, 1) := by decide +kernel
theorem d_fillMutsAt_4 : decode prog_1_method_25_code 4 = .ok (.getfield 140, 3) := by decide +kernel
theorem d_fillMutsAt_7 : decode prog_1_method_25_code 7 = .ok (.if_icmp .ge 16, 3) := by decide +kernel
theorem d_fillMutsAt_10 : decode prog_1_method_25_code 10 = .ok (.aload_n 0, 1) := by decide +kernel
theorem d_fillMutsAt_11 : decode prog_1_method_25_code 11 = .ok (.getfield 60, 3) := by decide +kernel
theorem d_fillMutsAt_14 : decode prog_1_method_25_code 14 = .ok (.iload_n 2, 1) := by decide +kernel
theorem d_fillMutsAt_15 : decode prog_1_method_25_code 15 = .ok (.iconst (-1), 1) := by decide +kernel
theorem d_fillMutsAt_23 : decode prog_1_method_25_code 23 = .ok (.iconst 0, 1) := by decide +kernel
theorem d_fillMutsAt_24 : decode prog_1_method_25_code 24 = .ok (.istore_n 2, 1) := by decide +kernel
theorem d_fillMutsAt_16 : decode prog_1_method_25_code 16 = .ok (.iastore, 1) := by decide +kernel
theorem d_fillMutsAt_17 : decode prog_1_method_25_code 17 = .ok (.iinc 2 1, 3) := by decide +kernel
theorem d_fillMutsAt_20 : decode prog_1_method_25_code 20 = .ok (.goto (-18), 3) := by decide +kernel
theorem d_fillMutsAt_25 : decode prog_1_method_25_code 25 = .ok (.iload_n 2, 1) := by decide +kernel
theorem d_fillMutsAt_26 : decode prog_1_method_25_code 26 = .ok (.aload_n 0, 1) := by decide +kernel
theorem d_fillMutsAt_27 : decode prog_1_method_25_code 27 = .ok (.getfield 146, 3) := by decide +kernel
theorem d_fillMutsAt_30 : decode prog_1_method_25_code 30 = .ok (.if_icmp .ge 45, 3) := by decide +kernel
theorem d_fillMutsAt_33 : decode prog_1_method_25_code 33 = .ok (.aload_n 0, 1) := by decide +kernel
theorem d_fillMutsAt_34 : decode prog_1_method_25_code 34 = .ok (.getfield 45, 3) := by decide +kernel
theorem d_fillMutsAt_37 : decode prog_1_method_25_code 37 = .ok (.iload_n 2, 1) := by decide +kernel
theorem d_fillMutsAt_38 : decode prog_1_method_25_code 38 = .ok (.iaload, 1) := by decide +kernel
theorem d_fillMutsAt_39 : decode prog_1_method_25_code 39 = .ok (.iload_n 1, 1) := by decide +kernel
theorem d_fillMutsAt_69 : decode prog_1_method_25_code 69 = .ok (.iinc 2 1, 3) := by decide +kernel
theorem d_fillMutsAt_72 : decode prog_1_method_25_code 72 = .ok (.goto (-47), 3) := by decide +kernel
theorem d_fillMutsAt_75 : decode prog_1_method_25_code 75 = .ok (.return_, 1) := by decide +kernel
theorem d_fillMutsAt_40 : decode prog_1_method_25_code 40 = .ok (.if_icmp .ne 29, 3) := by decide +kernel
theorem d_fillMutsAt_43 : decode prog_1_method_25_code 43 = .ok (.aload_n 0, 1) := by decide +kernel
theorem d_fillMutsAt_44 : decode prog_1_method_25_code 44 = .ok (.getfield 42, 3) := by decide +kernel
theorem d_fillMutsAt_47 : decode prog_1_method_25_code 47 = .ok (.iload_n 2, 1) := by decide +kernel
theorem d_fillMutsAt_48 : decode prog_1_method_25_code 48 = .ok (.iaload, 1) := by decide +kernel
theorem d_fillMutsAt_49 : decode prog_1_method_25_code 49 = .ok (.istore_n 3, 1) := by decide +kernel
theorem d_fillMutsAt_50 : decode prog_1_method_25_code 50 = .ok (.iload_n 3, 1) := by decide +kernel
theorem d_fillMutsAt_54 : decode prog_1_method_25_code 54 = .ok (.iload_n 3, 1) := by decide +kernel
theorem d_fillMutsAt_55 : decode prog_1_method_25_code 55 = .ok (.aload_n 0, 1) := by decide +kernel
theorem d_fillMutsAt_56 : decode prog_1_method_25_code 56 = .ok (.getfield 140, 3) := by decide +kernel
theorem d_fillMutsAt_62 : decode prog_1_method_25_code 62 = .ok (.aload_n 0, 1) := by decide +kernel
theorem d_fillMutsAt_63 : decode prog_1_method_25_code 63 = .ok (.getfield 60, 3) := by decide +kernel
theorem d_fillMutsAt_66 : decode prog_1_method_25_code 66 = .ok (.iload_n 3, 1) := by decide +kernel
theorem d_fillMutsAt_67 : decode prog_1_method_25_code 67 = .ok (.iload_n 2, 1) := by decide +kernel
theorem d_fillMutsAt_51 : decode prog_1_method_25_code 51 = .ok (.ifCond .lt 18, 3) := by decide +kernel
theorem d_fillMutsAt_59 : decode prog_1_method_25_code 59 = .ok (.if_icmp .ge 10, 3) := by decide +kernel
theorem d_fillMutsAt_68 : decode prog_1_method_25_code 68 = .ok (.iastore, 1) := by decide +kernel
theorem d_decodeValues_0 : decode prog_1_method_26_code 0 = .ok (.aload_n 0, 1) := by decide +kernel
theorem d_decodeValues_1 : decode prog_1_method_26_code 1 = .ok (.getfield 140, 3) := by decide +kernel
theorem d_decodeValues_4 : decode prog_1_method_26_code 4 = .ok (.iconst 1, 1) := by decide +kernel
theorem d_decodeValues_5 : decode prog_1_method_26_code 5 = .ok (.isub, 1) := by decide +kernel
theorem d_decodeValues_6 : decode prog_1_method_26_code 6 = .ok (.istore_n 1, 1) := by decide +kernel
abbrev W_decodeValues (pc : Nat) (ls : List Slot) (st : List Value) (M : EMem) (Q : Option Value → EMem → Prop) : Prop := Wp tables_1 0 0 0 (⟨"TreeSeqSim", "decodeValues", "()V"⟩ : MethodName) prog_1_method_26_code none pc ls st M Q
theorem d_decodeValues_7 : decode prog_1_method_26_code 7 = .ok (.iload_n 1, 1) := by decide +kernel
theorem d_decodeValues_8 : decode prog_1_method_26_code 8 = .ok (.ifCond .lt 87, 3) := by decide +kernel
theorem d_decodeValues_11 : decode prog_1_method_26_code 11 = .ok (.aload_n 0, 1) := by decide +kernel
theorem d_decodeValues_12 : decode prog_1_method_26_code 12 = .ok (.getfield 23, 3) := by decide +kernel
theorem d_decodeValues_15 : decode prog_1_method_26_code 15 = .ok (.iload_n 1, 1) := by decide +kernel
theorem d_decodeValues_16 : decode prog_1_method_26_code 16 = .ok (.iaload, 1) := by decide +kernel
theorem d_decodeValues_17 : decode prog_1_method_26_code 17 = .ok (.istore_n 2, 1) := by decide +kernel
theorem d_decodeValues_18 : decode prog_1_method_26_code 18 = .ok (.iload_n 2, 1) := by decide +kernel
theorem d_decodeValues_89 : decode prog_1_method_26_code 89 = .ok (.iinc 1 (-1), 3) := by decide +kernel
theorem d_decodeValues_92 : decode prog_1_method_26_code 92 = .ok (.goto (-85), 3) := by decide +kernel
theorem d_decodeValues_95 : decode prog_1_method_26_code 95 = .ok (.return_, 1) := by decide +kernel
theorem d_decodeValues_19 : decode prog_1_method_26_code 19 = .ok (.ifCond .lt 70, 3) := by decide +kernel
theorem d_decodeValues_22 : decode prog_1_method_26_code 22 = .ok (.iload_n 2, 1) := by decide +kernel
theorem d_decodeValues_23 : decode prog_1_method_26_code 23 = .ok (.aload_n 0, 1) := by decide +kernel
theorem d_decodeValues_24 : decode prog_1_method_26_code 24 = .ok (.getfield 140, 3) := by decide +kernel
theorem d_decodeValues_33 : decode prog_1_method_26_code 33 = .ok (.aload_n 0, 1) := by decide +kernel
theorem d_decodeValues_34 : decode prog_1_method_26_code 34 = .ok (.getfield 60, 3) := by decide +kernel
theorem d_decodeValues_37 : decode prog_1_method_26_code 37 = .ok (.iload_n 2, 1) := by decide +kernel
theorem d_decodeValues_38 : decode prog_1_method_26_code 38 = .ok (.iaload, 1) := by decide +kernel
theorem d_decodeValues_39 : decode prog_1_method_26_code 39 = .ok (.istore_n 3, 1) := by decide +kernel
theorem d_decodeValues_40 : decode prog_1_method_26_code 40 = .ok (.iload_n 3, 1) := by decide +kernel
theorem d_decodeValues_59 : decode prog_1_method_26_code 59 = .ok (.aload_n 0, 1) := by decide +kernel
theorem d_decodeValues_60 : decode prog_1_method_26_code 60 = .ok (.getfield 57, 3) := by decide +kernel
theorem d_decodeValues_63 : decode prog_1_method_26_code 63 = .ok (.iload_n 2, 1) := by decide +kernel
theorem d_decodeValues_64 : decode prog_1_method_26_code 64 = .ok (.iaload, 1) := by decide +kernel
theorem d_decodeValues_65 : decode prog_1_method_26_code 65 = .ok (.istore 4, 2) := by decide +kernel
theorem d_decodeValues_67 : decode prog_1_method_26_code 67 = .ok (.aload_n 0, 1) := by decide +kernel
theorem d_decodeValues_68 : decode prog_1_method_26_code 68 = .ok (.getfield 63, 3) := by decide +kernel
theorem d_decodeValues_71 : decode prog_1_method_26_code 71 = .ok (.iload_n 2, 1) := by decide +kernel
theorem d_decodeValues_72 : decode prog_1_method_26_code 72 = .ok (.iload 4, 2) := by decide +kernel
theorem d_decodeValues_87 : decode prog_1_method_26_code 87 = .ok (.iconst 0, 1) := by decide +kernel
theorem d_decodeValues_27 : decode prog_1_method_26_code 27 = .ok (.if_icmp .lt 6, 3) := by decide +kernel
theorem d_decodeValues_41 : decode prog_1_method_26_code 41 = .ok (.ifCond .lt 18, 3) := by decide +kernel
theorem d_decodeValues_74 : decode prog_1_method_26_code 74 = .ok (.ifCond .lt 13, 3) := by decide +kernel
theorem d_decodeValues_77 : decode prog_1_method_26_code 77 = .ok (.aload_n 0, 1) := by decide +kernel
theorem d_decodeValues_78 : decode prog_1_method_26_code 78 = .ok (.getfield 63, 3) := by decide +kernel
theorem d_decodeValues_81 : decode prog_1_method_26_code 81 = .ok (.iload 4, 2) := by decide +kernel
theorem d_decodeValues_83 : decode prog_1_method_26_code 83 = .ok (.iaload, 1) := by decide +kernel
theorem d_decodeValues_84 : decode prog_1_method_26_code 84 = .ok (.goto 4, 3) := by decide +kernel
theorem d_decodeValues_88 : decode prog_1_method_26_code 88 = .ok (.iastore, 1) := by decide +kernel
theorem d_decodeValues_44 : decode prog_1_method_26_code 44 = .ok (.aload_n 0, 1) := by decide +kernel
theorem d_decodeValues_45 : decode prog_1_method_26_code 45 = .ok (.getfield 63, 3) := by decide +kernel
theorem d_decodeValues_48 : decode prog_1_method_26_code 48 = .ok (.iload_n 2, 1) := by decide +kernel
theorem d_decodeValues_49 : decode prog_1_method_26_code 49 = .ok (.aload_n 0, 1) := by decide +kernel
theorem d_decodeValues_50 : decode prog_1_method_26_code 50 = .ok (.getfield 48, 3) := by decide +kernel
theorem d_decodeValues_53 : decode prog_1_method_26_code 53 = .ok (.iload_n 3, 1) := by decide +kernel
theorem d_decodeValues_54 : decode prog_1_method_26_code 54 = .ok (.iaload, 1) := by decide +kernel
theorem d_decodeValues_55 : decode prog_1_method_26_code 55 = .ok (.iastore, 1) := by decide +kernel
theorem d_decodeValues_56 : decode prog_1_method_26_code 56 = .ok (.goto 33, 3) := by decide +kernel
theorem d_decodeValues_30 : decode prog_1_method_26_code 30 = .ok (.goto 59, 3) := by decide +kernel
theorem d_decode_0 : decode prog_1_method_23_code 0 = .ok (.aload_n 0, 1) := by decide +kernel
theorem d_decode_1 : decode prog_1_method_23_code 1 = .ok (.iload_n 1, 1) := by decide +kernel
theorem d_decode_2 : decode prog_1_method_23_code 2 = .ok (.invokevirtual 184, 3) := by decide +kernel
theorem ml_c184 : methodLk "TreeSeqSim" 184 tables_1 = some (⟨"TreeSeqSim", "fillParentsAt", "(I)V"⟩ : MethodName) := by decide +kernel
theorem cl_fillParentsAt : codeLk (⟨"TreeSeqSim", "fillParentsAt", "(I)V"⟩ : MethodName) tables_1 = some (prog_1_method_24_code, 5, none) := codeLk_at (i := 143) rfl (by decide +kernel)
theorem pd_fillParentsAt : parseMethodDescriptor "(I)V" = some ⟨[.int], none⟩ := by decide +kernel
theorem cc_fillParentsAt_1 : hasInit (⟨"TreeSeqSim", "fillParentsAt", "(I)V"⟩ : MethodName).cls tables_1 = true ∧ plainName (⟨"TreeSeqSim", "fillParentsAt", "(I)V"⟩ : MethodName).cls = true ∧ (⟨"TreeSeqSim", "fillParentsAt", "(I)V"⟩ : MethodName).cls ≠ "java/lang/invoke/MethodHandle" ∧ (⟨"TreeSeqSim", "fillParentsAt", "(I)V"⟩ : MethodName).cls ≠ "java/lang/invoke/VarHandle" ∧ (((1 : Nat) = 0 ∧ hasDecl (⟨"TreeSeqSim", "fillParentsAt", "(I)V"⟩ : MethodName) tables_1 = true ∧ hasSel (⟨"TreeSeqSim", "fillParentsAt", "(I)V"⟩ : MethodName) tables_1 = true ∧ hasInst (⟨"TreeSeqSim", "fillParentsAt", "(I)V"⟩ : MethodName) tables_1 = true) ∨ ((1 : Nat) = 1 ∧ hasPriv (⟨"TreeSeqSim", "fillParentsAt", "(I)V"⟩ : MethodName) tables_1 = true ∧ hasInst (⟨"TreeSeqSim", "fillParentsAt", "(I)V"⟩ : MethodName) tables_1 = true ∧ (instLk (⟨"TreeSeqSim", "fillParentsAt", "(I)V"⟩ : MethodName).cls tables_1).isSome = true) ∨ ((1 : Nat) = 2 ∧ (⟨"TreeSeqSim", "fillParentsAt", "(I)V"⟩ : MethodName).name = "<init>" ∧ hasInst (⟨"TreeSeqSim", "fillParentsAt", "(I)V"⟩ : MethodName) tables_1 = true ∧ (none : Option FieldType) = none) ∨ ((1 : Nat) = 3 ∧ hasStat (⟨"TreeSeqSim", "fillParentsAt", "(I)V"⟩ : MethodName) tables_1 = true)) := by decide +kernel
theorem ca_c184_1 : callAt tables_1 "TreeSeqSim" 184 1 = some ((⟨"TreeSeqSim", "fillParentsAt", "(I)V"⟩ : MethodName), 1, prog_1_method_24_code, 5, none) := callAt_of ml_c184 cl_fillParentsAt pd_fillParentsAt cc_fillParentsAt_1 rfl
abbrev W_decode (pc : Nat) (ls : List Slot) (st : List Value) (M : EMem) (Q : Option Value → EMem → Prop) : Prop := Wp tables_1 0 1 16 (⟨"TreeSeqSim", "decode", "(I)V"⟩ : MethodName) prog_1_method_23_code none pc ls st M Q
theorem d_decode_5 : decode prog_1_method_23_code 5 = .ok (.aload_n 0, 1) := by decide +kernel
theorem d_decode_6 : decode prog_1_method_23_code 6 = .ok (.iload_n 1, 1) := by decide +kernel
theorem d_decode_7 : decode prog_1_method_23_code 7 = .ok (.invokevirtual 187, 3) := by decide +kernel
theorem ml_c187 : methodLk "TreeSeqSim" 187 tables_1 = some (⟨"TreeSeqSim", "fillMutsAt", "(I)V"⟩ : MethodName) := by decide +kernel
theorem cl_fillMutsAt : codeLk (⟨"TreeSeqSim", "fillMutsAt", "(I)V"⟩ : MethodName) tables_1 = some (prog_1_method_25_code, 4, none) := codeLk_at (i := 147) rfl (by decide +kernel)
theorem pd_fillMutsAt : parseMethodDescriptor "(I)V" = some ⟨[.int], none⟩ := by decide +kernel
theorem cc_fillMutsAt_1 : hasInit (⟨"TreeSeqSim", "fillMutsAt", "(I)V"⟩ : MethodName).cls tables_1 = true ∧ plainName (⟨"TreeSeqSim", "fillMutsAt", "(I)V"⟩ : MethodName).cls = true ∧ (⟨"TreeSeqSim", "fillMutsAt", "(I)V"⟩ : MethodName).cls ≠ "java/lang/invoke/MethodHandle" ∧ (⟨"TreeSeqSim", "fillMutsAt", "(I)V"⟩ : MethodName).cls ≠ "java/lang/invoke/VarHandle" ∧ (((1 : Nat) = 0 ∧ hasDecl (⟨"TreeSeqSim", "fillMutsAt", "(I)V"⟩ : MethodName) tables_1 = true ∧ hasSel (⟨"TreeSeqSim", "fillMutsAt", "(I)V"⟩ : MethodName) tables_1 = true ∧ hasInst (⟨"TreeSeqSim", "fillMutsAt", "(I)V"⟩ : MethodName) tables_1 = true) ∨ ((1 : Nat) = 1 ∧ hasPriv (⟨"TreeSeqSim", "fillMutsAt", "(I)V"⟩ : MethodName) tables_1 = true ∧ hasInst (⟨"TreeSeqSim", "fillMutsAt", "(I)V"⟩ : MethodName) tables_1 = true ∧ (instLk (⟨"TreeSeqSim", "fillMutsAt", "(I)V"⟩ : MethodName).cls tables_1).isSome = true) ∨ ((1 : Nat) = 2 ∧ (⟨"TreeSeqSim", "fillMutsAt", "(I)V"⟩ : MethodName).name = "<init>" ∧ hasInst (⟨"TreeSeqSim", "fillMutsAt", "(I)V"⟩ : MethodName) tables_1 = true ∧ (none : Option FieldType) = none) ∨ ((1 : Nat) = 3 ∧ hasStat (⟨"TreeSeqSim", "fillMutsAt", "(I)V"⟩ : MethodName) tables_1 = true)) := by decide +kernel
theorem ca_c187_1 : callAt tables_1 "TreeSeqSim" 187 1 = some ((⟨"TreeSeqSim", "fillMutsAt", "(I)V"⟩ : MethodName), 1, prog_1_method_25_code, 4, none) := callAt_of ml_c187 cl_fillMutsAt pd_fillMutsAt cc_fillMutsAt_1 rfl
theorem d_decode_10 : decode prog_1_method_23_code 10 = .ok (.aload_n 0, 1) := by decide +kernel
theorem d_decode_11 : decode prog_1_method_23_code 11 = .ok (.invokevirtual 190, 3) := by decide +kernel
theorem ml_c190 : methodLk "TreeSeqSim" 190 tables_1 = some (⟨"TreeSeqSim", "decodeValues", "()V"⟩ : MethodName) := by decide +kernel
theorem cl_decodeValues : codeLk (⟨"TreeSeqSim", "decodeValues", "()V"⟩ : MethodName) tables_1 = some (prog_1_method_26_code, 5, none) := codeLk_at (i := 151) rfl (by decide +kernel)
theorem pd_decodeValues : parseMethodDescriptor "()V" = some ⟨[], none⟩ := by decide +kernel
theorem cc_decodeValues_1 : hasInit (⟨"TreeSeqSim", "decodeValues", "()V"⟩ : MethodName).cls tables_1 = true ∧ plainName (⟨"TreeSeqSim", "decodeValues", "()V"⟩ : MethodName).cls = true ∧ (⟨"TreeSeqSim", "decodeValues", "()V"⟩ : MethodName).cls ≠ "java/lang/invoke/MethodHandle" ∧ (⟨"TreeSeqSim", "decodeValues", "()V"⟩ : MethodName).cls ≠ "java/lang/invoke/VarHandle" ∧ (((1 : Nat) = 0 ∧ hasDecl (⟨"TreeSeqSim", "decodeValues", "()V"⟩ : MethodName) tables_1 = true ∧ hasSel (⟨"TreeSeqSim", "decodeValues", "()V"⟩ : MethodName) tables_1 = true ∧ hasInst (⟨"TreeSeqSim", "decodeValues", "()V"⟩ : MethodName) tables_1 = true) ∨ ((1 : Nat) = 1 ∧ hasPriv (⟨"TreeSeqSim", "decodeValues", "()V"⟩ : MethodName) tables_1 = true ∧ hasInst (⟨"TreeSeqSim", "decodeValues", "()V"⟩ : MethodName) tables_1 = true ∧ (instLk (⟨"TreeSeqSim", "decodeValues", "()V"⟩ : MethodName).cls tables_1).isSome = true) ∨ ((1 : Nat) = 2 ∧ (⟨"TreeSeqSim", "decodeValues", "()V"⟩ : MethodName).name = "<init>" ∧ hasInst (⟨"TreeSeqSim", "decodeValues", "()V"⟩ : MethodName) tables_1 = true ∧ (none : Option FieldType) = none) ∨ ((1 : Nat) = 3 ∧ hasStat (⟨"TreeSeqSim", "decodeValues", "()V"⟩ : MethodName) tables_1 = true)) := by decide +kernel
theorem ca_c190_1 : callAt tables_1 "TreeSeqSim" 190 1 = some ((⟨"TreeSeqSim", "decodeValues", "()V"⟩ : MethodName), 0, prog_1_method_26_code, 5, none) := callAt_of ml_c190 cl_decodeValues pd_decodeValues cc_decodeValues_1 rfl
theorem d_decode_14 : decode prog_1_method_23_code 14 = .ok (.return_, 1) := by decide +kernel
theorem d_genotype_0 : decode prog_1_method_9_code 0 = .ok (.iload_n 1, 1) := by decide +kernel
theorem d_genotype_1 : decode prog_1_method_9_code 1 = .ok (.ifCond .lt 23, 3) := by decide +kernel
theorem d_genotype_24 : decode prog_1_method_9_code 24 = .ok (.iconst (-1), 1) := by decide +kernel
theorem d_genotype_25 : decode prog_1_method_9_code 25 = .ok (.ireturn, 1) := by decide +kernel
theorem d_genotype_4 : decode prog_1_method_9_code 4 = .ok (.iload_n 1, 1) := by decide +kernel
theorem d_genotype_5 : decode prog_1_method_9_code 5 = .ok (.aload_n 0, 1) := by decide +kernel
theorem d_genotype_6 : decode prog_1_method_9_code 6 = .ok (.getfield 115, 3) := by decide +kernel
theorem d_genotype_12 : decode prog_1_method_9_code 12 = .ok (.iload_n 2, 1) := by decide +kernel
theorem d_genotype_16 : decode prog_1_method_9_code 16 = .ok (.iload_n 2, 1) := by decide +kernel
theorem d_genotype_17 : decode prog_1_method_9_code 17 = .ok (.aload_n 0, 1) := by decide +kernel
theorem d_genotype_18 : decode prog_1_method_9_code 18 = .ok (.getfield 118, 3) := by decide +kernel
theorem d_genotype_26 : decode prog_1_method_9_code 26 = .ok (.aload_n 0, 1) := by decide +kernel
theorem d_genotype_27 : decode prog_1_method_9_code 27 = .ok (.iload_n 2, 1) := by decide +kernel
theorem d_genotype_9 : decode prog_1_method_9_code 9 = .ok (.if_icmp .ge 15, 3) := by decide +kernel
theorem d_genotype_13 : decode prog_1_method_9_code 13 = .ok (.ifCond .lt 11, 3) := by decide +kernel
theorem d_genotype_21 : decode prog_1_method_9_code 21 = .ok (.if_icmp .lt 5, 3) := by decide +kernel
theorem d_genotype_28 : decode prog_1_method_9_code 28 = .ok (.invokevirtual 159, 3) := by decide +kernel
theorem ml_c159 : methodLk "TreeSeqSim" 159 tables_1 = some (⟨"TreeSeqSim", "decode", "(I)V"⟩ : MethodName) := by decide +kernel
theorem cl_decode : codeLk (⟨"TreeSeqSim", "decode", "(I)V"⟩ : MethodName) tables_1 = some (prog_1_method_23_code, 2, none) := codeLk_at (i := 139) rfl (by decide +kernel)
theorem pd_decode : parseMethodDescriptor "(I)V" = some ⟨[.int], none⟩ := by decide +kernel
theorem cc_decode_1 : hasInit (⟨"TreeSeqSim", "decode", "(I)V"⟩ : MethodName).cls tables_1 = true ∧ plainName (⟨"TreeSeqSim", "decode", "(I)V"⟩ : MethodName).cls = true ∧ (⟨"TreeSeqSim", "decode", "(I)V"⟩ : MethodName).cls ≠ "java/lang/invoke/MethodHandle" ∧ (⟨"TreeSeqSim", "decode", "(I)V"⟩ : MethodName).cls ≠ "java/lang/invoke/VarHandle" ∧ (((1 : Nat) = 0 ∧ hasDecl (⟨"TreeSeqSim", "decode", "(I)V"⟩ : MethodName) tables_1 = true ∧ hasSel (⟨"TreeSeqSim", "decode", "(I)V"⟩ : MethodName) tables_1 = true ∧ hasInst (⟨"TreeSeqSim", "decode", "(I)V"⟩ : MethodName) tables_1 = true) ∨ ((1 : Nat) = 1 ∧ hasPriv (⟨"TreeSeqSim", "decode", "(I)V"⟩ : MethodName) tables_1 = true ∧ hasInst (⟨"TreeSeqSim", "decode", "(I)V"⟩ : MethodName) tables_1 = true ∧ (instLk (⟨"TreeSeqSim", "decode", "(I)V"⟩ : MethodName).cls tables_1).isSome = true) ∨ ((1 : Nat) = 2 ∧ (⟨"TreeSeqSim", "decode", "(I)V"⟩ : MethodName).name = "<init>" ∧ hasInst (⟨"TreeSeqSim", "decode", "(I)V"⟩ : MethodName) tables_1 = true ∧ (none : Option FieldType) = none) ∨ ((1 : Nat) = 3 ∧ hasStat (⟨"TreeSeqSim", "decode", "(I)V"⟩ : MethodName) tables_1 = true)) := by decide +kernel
theorem ca_c159_1 : callAt tables_1 "TreeSeqSim" 159 1 = some ((⟨"TreeSeqSim", "decode", "(I)V"⟩ : MethodName), 1, prog_1_method_23_code, 2, none) := callAt_of ml_c159 cl_decode pd_decode cc_decode_1 rfl
abbrev W_genotype (pc : Nat) (ls : List Slot) (st : List Value) (M : EMem) (Q : Option Value → EMem → Prop) : Prop := Wp tables_1 0 2 29 (⟨"TreeSeqSim", "genotype", "(II)I"⟩ : MethodName) prog_1_method_9_code (some .int) pc ls st M Q
theorem d_genotype_31 : decode prog_1_method_9_code 31 = .ok (.aload_n 0, 1) := by decide +kernel
theorem d_genotype_32 : decode prog_1_method_9_code 32 = .ok (.getfield 63, 3) := by decide +kernel
theorem d_genotype_35 : decode prog_1_method_9_code 35 = .ok (.aload_n 0, 1) := by decide +kernel
theorem d_genotype_36 : decode prog_1_method_9_code 36 = .ok (.getfield 27, 3) := by decide +kernel
theorem d_genotype_39 : decode prog_1_method_9_code 39 = .ok (.iload_n 1, 1) := by decide +kernel
theorem d_genotype_40 : decode prog_1_method_9_code 40 = .ok (.iaload, 1) := by decide +kernel
theorem d_genotype_41 : decode prog_1_method_9_code 41 = .ok (.iaload, 1) := by decide +kernel
theorem d_genotype_42 : decode prog_1_method_9_code 42 = .ok (.ireturn, 1) := by decide +kernel
theorem d_siteSegregates_0 : decode prog_1_method_27_code 0 = .ok (.aload_n 0, 1) := by decide +kernel
theorem d_siteSegregates_1 : decode prog_1_method_27_code 1 = .ok (.iload_n 1, 1) := by decide +kernel
theorem d_siteSegregates_2 : decode prog_1_method_27_code 2 = .ok (.invokevirtual 159, 3) := by decide +kernel
abbrev W_siteSegregates (pc : Nat) (ls : List Slot) (st : List Value) (M : EMem) (Q : Option Value → EMem → Prop) : Prop := Wp tables_1 0 2 29 (⟨"TreeSeqSim", "siteSegregates", "(I)Z"⟩ : MethodName) prog_1_method_27_code (some .boolean) pc ls st M Q
theorem d_siteSegregates_5 : decode prog_1_method_27_code 5 = .ok (.aload_n 0, 1) := by decide +kernel
theorem d_siteSegregates_6 : decode prog_1_method_27_code 6 = .ok (.getfield 63, 3) := by decide +kernel
theorem d_siteSegregates_9 : decode prog_1_method_27_code 9 = .ok (.aload_n 0, 1) := by decide +kernel
theorem d_siteSegregates_10 : decode prog_1_method_27_code 10 = .ok (.getfield 27, 3) := by decide +kernel
theorem d_siteSegregates_13 : decode prog_1_method_27_code 13 = .ok (.iconst 0, 1) := by decide +kernel
theorem d_siteSegregates_14 : decode prog_1_method_27_code 14 = .ok (.iaload, 1) := by decide +kernel
theorem d_siteSegregates_15 : decode prog_1_method_27_code 15 = .ok (.iaload, 1) := by decide +kernel
theorem d_siteSegregates_16 : decode prog_1_method_27_code 16 = .ok (.istore_n 2, 1) := by decide +kernel
theorem d_siteSegregates_17 : decode prog_1_method_27_code 17 = .ok (.iconst 1, 1) := by decide +kernel
theorem d_siteSegregates_18 : decode prog_1_method_27_code 18 = .ok (.istore_n 3, 1) := by decide +kernel
theorem d_siteSegregates_19 : decode prog_1_method_27_code 19 = .ok (.iload_n 3, 1) := by decide +kernel
theorem d_siteSegregates_20 : decode prog_1_method_27_code 20 = .ok (.aload_n 0, 1) := by decide +kernel
theorem d_siteSegregates_21 : decode prog_1_method_27_code 21 = .ok (.getfield 115, 3) := by decide +kernel
theorem d_siteSegregates_24 : decode prog_1_method_27_code 24 = .ok (.if_icmp .ge 26, 3) := by decide +kernel
theorem d_siteSegregates_50 : decode prog_1_method_27_code 50 = .ok (.iconst 0, 1) := by decide +kernel
theorem d_siteSegregates_51 : decode prog_1_method_27_code 51 = .ok (.ireturn, 1) := by decide +kernel
theorem d_siteSegregates_27 : decode prog_1_method_27_code 27 = .ok (.aload_n 0, 1) := by decide +kernel
theorem d_siteSegregates_28 : decode prog_1_method_27_code 28 = .ok (.getfield 63, 3) := by decide +kernel
theorem d_siteSegregates_31 : decode prog_1_method_27_code 31 = .ok (.aload_n 0, 1) := by decide +kernel
theorem d_siteSegregates_32 : decode prog_1_method_27_code 32 = .ok (.getfield 27, 3) := by decide +kernel
theorem d_siteSegregates_35 : decode prog_1_method_27_code 35 = .ok (.iload_n 3, 1) := by decide +kernel
theorem d_siteSegregates_36 : decode prog_1_method_27_code 36 = .ok (.iaload, 1) := by decide +kernel
theorem d_siteSegregates_37 : decode prog_1_method_27_code 37 = .ok (.iaload, 1) := by decide +kernel
theorem d_siteSegregates_38 : decode prog_1_method_27_code 38 = .ok (.iload_n 2, 1) := by decide +kernel
theorem d_siteSegregates_44 : decode prog_1_method_27_code 44 = .ok (.iinc 3 1, 3) := by decide +kernel
theorem d_siteSegregates_47 : decode prog_1_method_27_code 47 = .ok (.goto (-28), 3) := by decide +kernel
theorem d_siteSegregates_39 : decode prog_1_method_27_code 39 = .ok (.if_icmp .eq 5, 3) := by decide +kernel
theorem d_siteSegregates_42 : decode prog_1_method_27_code 42 = .ok (.iconst 1, 1) := by decide +kernel
theorem d_siteSegregates_43 : decode prog_1_method_27_code 43 = .ok (.ireturn, 1) := by decide +kernel
theorem d_segregatingSites_0 : decode prog_1_method_13_code 0 = .ok (.iconst 0, 1) := by decide +kernel
theorem d_segregatingSites_1 : decode prog_1_method_13_code 1 = .ok (.istore_n 1, 1) := by decide +kernel
theorem d_segregatingSites_2 : decode prog_1_method_13_code 2 = .ok (.iconst 0, 1) := by decide +kernel
theorem d_segregatingSites_3 : decode prog_1_method_13_code 3 = .ok (.istore_n 2, 1) := by decide +kernel
abbrev W_segregatingSites (pc : Nat) (ls : List Slot) (st : List Value) (M : EMem) (Q : Option Value → EMem → Prop) : Prop := Wp tables_1 0 3 44 (⟨"TreeSeqSim", "segregatingSites", "()I"⟩ : MethodName) prog_1_method_13_code (some .int) pc ls st M Q
theorem d_segregatingSites_4 : decode prog_1_method_13_code 4 = .ok (.iload_n 2, 1) := by decide +kernel
theorem d_segregatingSites_5 : decode prog_1_method_13_code 5 = .ok (.aload_n 0, 1) := by decide +kernel
theorem d_segregatingSites_6 : decode prog_1_method_13_code 6 = .ok (.getfield 118, 3) := by decide +kernel
theorem d_segregatingSites_9 : decode prog_1_method_13_code 9 = .ok (.if_icmp .ge 20, 3) := by decide +kernel
theorem d_segregatingSites_12 : decode prog_1_method_13_code 12 = .ok (.aload_n 0, 1) := by decide +kernel
theorem d_segregatingSites_13 : decode prog_1_method_13_code 13 = .ok (.iload_n 2, 1) := by decide +kernel
theorem d_segregatingSites_29 : decode prog_1_method_13_code 29 = .ok (.iload_n 1, 1) := by decide +kernel
theorem d_segregatingSites_30 : decode prog_1_method_13_code 30 = .ok (.ireturn, 1) := by decide +kernel
theorem d_segregatingSites_14 : decode prog_1_method_13_code 14 = .ok (.invokevirtual 163, 3) := by decide +kernel
theorem ml_c163 : methodLk "TreeSeqSim" 163 tables_1 = some (⟨"TreeSeqSim", "siteSegregates", "(I)Z"⟩ : MethodName) := by decide +kernel
theorem cl_siteSegregates : codeLk (⟨"TreeSeqSim", "siteSegregates", "(I)Z"⟩ : MethodName) tables_1 = some (prog_1_method_27_code, 4, (some .boolean)) := codeLk_at (i := 135) rfl (by decide +kernel)
theorem pd_siteSegregates : parseMethodDescriptor "(I)Z" = some ⟨[.int], some .boolean⟩ := by decide +kernel
theorem cc_siteSegregates_1 : hasInit (⟨"TreeSeqSim", "siteSegregates", "(I)Z"⟩ : MethodName).cls tables_1 = true ∧ plainName (⟨"TreeSeqSim", "siteSegregates", "(I)Z"⟩ : MethodName).cls = true ∧ (⟨"TreeSeqSim", "siteSegregates", "(I)Z"⟩ : MethodName).cls ≠ "java/lang/invoke/MethodHandle" ∧ (⟨"TreeSeqSim", "siteSegregates", "(I)Z"⟩ : MethodName).cls ≠ "java/lang/invoke/VarHandle" ∧ (((1 : Nat) = 0 ∧ hasDecl (⟨"TreeSeqSim", "siteSegregates", "(I)Z"⟩ : MethodName) tables_1 = true ∧ hasSel (⟨"TreeSeqSim", "siteSegregates", "(I)Z"⟩ : MethodName) tables_1 = true ∧ hasInst (⟨"TreeSeqSim", "siteSegregates", "(I)Z"⟩ : MethodName) tables_1 = true) ∨ ((1 : Nat) = 1 ∧ hasPriv (⟨"TreeSeqSim", "siteSegregates", "(I)Z"⟩ : MethodName) tables_1 = true ∧ hasInst (⟨"TreeSeqSim", "siteSegregates", "(I)Z"⟩ : MethodName) tables_1 = true ∧ (instLk (⟨"TreeSeqSim", "siteSegregates", "(I)Z"⟩ : MethodName).cls tables_1).isSome = true) ∨ ((1 : Nat) = 2 ∧ (⟨"TreeSeqSim", "siteSegregates", "(I)Z"⟩ : MethodName).name = "<init>" ∧ hasInst (⟨"TreeSeqSim", "siteSegregates", "(I)Z"⟩ : MethodName) tables_1 = true ∧ ((some .boolean) : Option FieldType) = none) ∨ ((1 : Nat) = 3 ∧ hasStat (⟨"TreeSeqSim", "siteSegregates", "(I)Z"⟩ : MethodName) tables_1 = true)) := by decide +kernel
theorem ca_c163_1 : callAt tables_1 "TreeSeqSim" 163 1 = some ((⟨"TreeSeqSim", "siteSegregates", "(I)Z"⟩ : MethodName), 1, prog_1_method_27_code, 4, (some .boolean)) := callAt_of ml_c163 cl_siteSegregates pd_siteSegregates cc_siteSegregates_1 rfl
theorem d_segregatingSites_17 : decode prog_1_method_13_code 17 = .ok (.ifCond .eq 6, 3) := by decide +kernel
theorem d_segregatingSites_20 : decode prog_1_method_13_code 20 = .ok (.iinc 1 1, 3) := by decide +kernel
theorem d_segregatingSites_23 : decode prog_1_method_13_code 23 = .ok (.iinc 2 1, 3) := by decide +kernel
theorem d_segregatingSites_26 : decode prog_1_method_13_code 26 = .ok (.goto (-22), 3) := by decide +kernel
theorem d_alleleCount_0 : decode prog_1_method_12_code 0 = .ok (.iload_n 1, 1) := by decide +kernel
theorem d_alleleCount_1 : decode prog_1_method_12_code 1 = .ok (.ifCond .lt 11, 3) := by decide +kernel
theorem d_alleleCount_12 : decode prog_1_method_12_code 12 = .ok (.iconst (-1), 1) := by decide +kernel
theorem d_alleleCount_13 : decode prog_1_method_12_code 13 = .ok (.ireturn, 1) := by decide +kernel
theorem d_alleleCount_4 : decode prog_1_method_12_code 4 = .ok (.iload_n 1, 1) := by decide +kernel
theorem d_alleleCount_5 : decode prog_1_method_12_code 5 = .ok (.aload_n 0, 1) := by decide +kernel
theorem d_alleleCount_6 : decode prog_1_method_12_code 6 = .ok (.getfield 118, 3) := by decide +kernel
theorem d_alleleCount_14 : decode prog_1_method_12_code 14 = .ok (.aload_n 0, 1) := by decide +kernel
theorem d_alleleCount_15 : decode prog_1_method_12_code 15 = .ok (.iload_n 1, 1) := by decide +kernel
theorem d_alleleCount_9 : decode prog_1_method_12_code 9 = .ok (.if_icmp .lt 5, 3) := by decide +kernel
theorem d_alleleCount_16 : decode prog_1_method_12_code 16 = .ok (.invokevirtual 159, 3) := by decide +kernel
abbrev W_alleleCount (pc : Nat) (ls : List Slot) (st : List Value) (M : EMem) (Q : Option Value → EMem → Prop) : Prop := Wp tables_1 0 2 29 (⟨"TreeSeqSim", "alleleCount", "(II)I"⟩ : MethodName) prog_1_method_12_code (some .int) pc ls st M Q
theorem d_alleleCount_19 : decode prog_1_method_12_code 19 = .ok (.iconst 0, 1) := by decide +kernel
theorem d_alleleCount_20 : decode prog_1_method_12_code 20 = .ok (.istore_n 3, 1) := by decide +kernel
theorem d_alleleCount_21 : decode prog_1_method_12_code 21 = .ok (.iconst 0, 1) := by decide +kernel
theorem d_alleleCount_22 : decode prog_1_method_12_code 22 = .ok (.istore 4, 2) := by decide +kernel
theorem d_alleleCount_24 : decode prog_1_method_12_code 24 = .ok (.iload 4, 2) := by decide +kernel
theorem d_alleleCount_26 : decode prog_1_method_12_code 26 = .ok (.aload_n 0, 1) := by decide +kernel
theorem d_alleleCount_27 : decode prog_1_method_12_code 27 = .ok (.getfield 115, 3) := by decide +kernel
theorem d_alleleCount_30 : decode prog_1_method_12_code 30 = .ok (.if_icmp .ge 28, 3) := by decide +kernel
theorem d_alleleCount_33 : decode prog_1_method_12_code 33 = .ok (.aload_n 0, 1) := by decide +kernel
theorem d_alleleCount_34 : decode prog_1_method_12_code 34 = .ok (.getfield 63, 3) := by decide +kernel
theorem d_alleleCount_37 : decode prog_1_method_12_code 37 = .ok (.aload_n 0, 1) := by decide +kernel
theorem d_alleleCount_38 : decode prog_1_method_12_code 38 = .ok (.getfield 27, 3) := by decide +kernel
theorem d_alleleCount_41 : decode prog_1_method_12_code 41 = .ok (.iload 4, 2) := by decide +kernel
theorem d_alleleCount_43 : decode prog_1_method_12_code 43 = .ok (.iaload, 1) := by decide +kernel
theorem d_alleleCount_44 : decode prog_1_method_12_code 44 = .ok (.iaload, 1) := by decide +kernel
theorem d_alleleCount_45 : decode prog_1_method_12_code 45 = .ok (.iload_n 2, 1) := by decide +kernel
theorem d_alleleCount_52 : decode prog_1_method_12_code 52 = .ok (.iinc 4 1, 3) := by decide +kernel
theorem d_alleleCount_55 : decode prog_1_method_12_code 55 = .ok (.goto (-31), 3) := by decide +kernel
theorem d_alleleCount_58 : decode prog_1_method_12_code 58 = .ok (.iload_n 3, 1) := by decide +kernel
theorem d_alleleCount_59 : decode prog_1_method_12_code 59 = .ok (.ireturn, 1) := by decide +kernel
theorem d_alleleCount_46 : decode prog_1_method_12_code 46 = .ok (.if_icmp .ne 6, 3) := by decide +kernel
theorem d_alleleCount_49 : decode prog_1_method_12_code 49 = .ok (.iinc 3 1, 3) := by decide +kernel
theorem d_law_0 : decode code 0 = .ok (.new 7, 3) := by decide +kernel
theorem na_w7 : newAt tables_1 "TreeSeqSimL2" 7 = some ("TreeSeqSim", 48) := by decide +kernel
theorem d_law_3 : decode code 3 = .ok (.dup, 1) := by decide +kernel
theorem d_law_4 : decode code 4 = .ok (.iload_n 0, 1) := by decide +kernel
theorem d_law_5 : decode code 5 = .ok (.iload_n 1, 1) := by decide +kernel
theorem d_law_6 : decode code 6 = .ok (.invokespecial 9, 3) := by decide +kernel
theorem ml_w9 : methodLk "TreeSeqSimL2" 9 tables_1 = some (⟨"TreeSeqSim", "<init>", "(II)V"⟩ : MethodName) := by decide +kernel
theorem cl_init : codeLk (⟨"TreeSeqSim", "<init>", "(II)V"⟩ : MethodName) tables_1 = some (prog_1_method_1_code, 6, none) := codeLk_at (i := 5) rfl (by decide +kernel)
theorem pd_init : parseMethodDescriptor "(II)V" = some ⟨[.int, .int], none⟩ := by decide +kernel
theorem cc_init_2 : hasInit (⟨"TreeSeqSim", "<init>", "(II)V"⟩ : MethodName).cls tables_1 = true ∧ plainName (⟨"TreeSeqSim", "<init>", "(II)V"⟩ : MethodName).cls = true ∧ (⟨"TreeSeqSim", "<init>", "(II)V"⟩ : MethodName).cls ≠ "java/lang/invoke/MethodHandle" ∧ (⟨"TreeSeqSim", "<init>", "(II)V"⟩ : MethodName).cls ≠ "java/lang/invoke/VarHandle" ∧ (((2 : Nat) = 0 ∧ hasDecl (⟨"TreeSeqSim", "<init>", "(II)V"⟩ : MethodName) tables_1 = true ∧ hasSel (⟨"TreeSeqSim", "<init>", "(II)V"⟩ : MethodName) tables_1 = true ∧ hasInst (⟨"TreeSeqSim", "<init>", "(II)V"⟩ : MethodName) tables_1 = true) ∨ ((2 : Nat) = 1 ∧ hasPriv (⟨"TreeSeqSim", "<init>", "(II)V"⟩ : MethodName) tables_1 = true ∧ hasInst (⟨"TreeSeqSim", "<init>", "(II)V"⟩ : MethodName) tables_1 = true ∧ (instLk (⟨"TreeSeqSim", "<init>", "(II)V"⟩ : MethodName).cls tables_1).isSome = true) ∨ ((2 : Nat) = 2 ∧ (⟨"TreeSeqSim", "<init>", "(II)V"⟩ : MethodName).name = "<init>" ∧ hasInst (⟨"TreeSeqSim", "<init>", "(II)V"⟩ : MethodName) tables_1 = true ∧ (none : Option FieldType) = none) ∨ ((2 : Nat) = 3 ∧ hasStat (⟨"TreeSeqSim", "<init>", "(II)V"⟩ : MethodName) tables_1 = true)) := by decide +kernel
theorem ca_w9_2 : callAt tables_1 "TreeSeqSimL2" 9 2 = some ((⟨"TreeSeqSim", "<init>", "(II)V"⟩ : MethodName), 2, prog_1_method_1_code, 6, none) := callAt_of ml_w9 cl_init pd_init cc_init_2 rfl
theorem on_w9 : objInitAt tables_1 "TreeSeqSimL2" 9 = false := by decide +kernel
abbrev W_law (pc : Nat) (ls : List Slot) (st : List Value) (M : EMem) (Q : Option Value → EMem → Prop) : Prop := Wp tables_1 0 7 160 x code (some .boolean) pc ls st M Q
theorem d_law_9 : decode code 9 = .ok (.astore 6, 2) := by decide +kernel
theorem d_law_11 : decode code 11 = .ok (.iload_n 0, 1) := by decide +kernel
theorem d_law_12 : decode code 12 = .ok (.iconst 1, 1) := by decide +kernel
theorem d_law_13 : decode code 13 = .ok (.if_icmp .ge 7, 3) := by decide +kernel
theorem d_law_20 : decode code 20 = .ok (.iload_n 0, 1) := by decide +kernel
theorem d_law_21 : decode code 21 = .ok (.iconst 4, 1) := by decide +kernel
theorem d_law_29 : decode code 29 = .ok (.iload_n 0, 1) := by decide +kernel
theorem d_law_25 : decode code 25 = .ok (.iconst 4, 1) := by decide +kernel
theorem d_law_26 : decode code 26 = .ok (.goto 4, 3) := by decide +kernel
theorem d_law_22 : decode code 22 = .ok (.if_icmp .le 7, 3) := by decide +kernel
theorem d_law_16 : decode code 16 = .ok (.iconst 1, 1) := by decide +kernel
theorem d_law_17 : decode code 17 = .ok (.goto 13, 3) := by decide +kernel
theorem d_law_30 : decode code 30 = .ok (.istore 7, 2) := by decide +kernel
theorem d_law_32 : decode code 32 = .ok (.iload_n 1, 1) := by decide +kernel
theorem d_law_33 : decode code 33 = .ok (.iconst 2, 1) := by decide +kernel
theorem d_law_34 : decode code 34 = .ok (.if_icmp .ge 7, 3) := by decide +kernel
theorem d_law_41 : decode code 41 = .ok (.iload_n 1, 1) := by decide +kernel
theorem d_law_42 : decode code 42 = .ok (.bipush 8, 2) := by decide +kernel
theorem d_law_52 : decode code 52 = .ok (.iload_n 1, 1) := by decide +kernel
theorem d_law_47 : decode code 47 = .ok (.bipush 8, 2) := by decide +kernel
theorem d_law_49 : decode code 49 = .ok (.goto 4, 3) := by decide +kernel
theorem d_law_44 : decode code 44 = .ok (.if_icmp .le 8, 3) := by decide +kernel
theorem d_law_37 : decode code 37 = .ok (.iconst 2, 1) := by decide +kernel
theorem d_law_38 : decode code 38 = .ok (.goto 15, 3) := by decide +kernel
theorem d_law_53 : decode code 53 = .ok (.istore 8, 2) := by decide +kernel
theorem d_law_55 : decode code 55 = .ok (.iconst 2, 1) := by decide +kernel
theorem d_law_56 : decode code 56 = .ok (.iload 7, 2) := by decide +kernel
theorem d_law_58 : decode code 58 = .ok (.imul, 1) := by decide +kernel
theorem d_law_59 : decode code 59 = .ok (.istore 9, 2) := by decide +kernel
theorem d_law_61 : decode code 61 = .ok (.iload_n 2, 1) := by decide +kernel
theorem d_law_62 : decode code 62 = .ok (.ifCond .lt 23, 3) := by decide +kernel
theorem d_law_85 : decode code 85 = .ok (.iconst 0, 1) := by decide +kernel
theorem d_law_65 : decode code 65 = .ok (.iload_n 2, 1) := by decide +kernel
theorem d_law_66 : decode code 66 = .ok (.iload 9, 2) := by decide +kernel
theorem d_law_71 : decode code 71 = .ok (.iload_n 3, 1) := by decide +kernel
theorem d_law_75 : decode code 75 = .ok (.iload_n 3, 1) := by decide +kernel
theorem d_law_76 : decode code 76 = .ok (.iload 8, 2) := by decide +kernel
theorem d_law_81 : decode code 81 = .ok (.iconst 1, 1) := by decide +kernel
theorem d_law_82 : decode code 82 = .ok (.goto 4, 3) := by decide +kernel
theorem d_law_78 : decode code 78 = .ok (.if_icmp .ge 7, 3) := by decide +kernel
theorem d_law_72 : decode code 72 = .ok (.ifCond .lt 13, 3) := by decide +kernel
theorem d_law_68 : decode code 68 = .ok (.if_icmp .ge 17, 3) := by decide +kernel
theorem d_law_86 : decode code 86 = .ok (.istore 10, 2) := by decide +kernel
theorem d_law_88 : decode code 88 = .ok (.iload 4, 2) := by decide +kernel
theorem d_law_90 : decode code 90 = .ok (.ifCond .lt 26, 3) := by decide +kernel
theorem d_law_116 : decode code 116 = .ok (.iconst 0, 1) := by decide +kernel
theorem d_law_93 : decode code 93 = .ok (.iload 4, 2) := by decide +kernel
theorem d_law_95 : decode code 95 = .ok (.iload 9, 2) := by decide +kernel
theorem d_law_100 : decode code 100 = .ok (.iload 5, 2) := by decide +kernel
theorem d_law_105 : decode code 105 = .ok (.iload 5, 2) := by decide +kernel
theorem d_law_107 : decode code 107 = .ok (.iload 8, 2) := by decide +kernel
theorem d_law_112 : decode code 112 = .ok (.iconst 1, 1) := by decide +kernel
theorem d_law_113 : decode code 113 = .ok (.goto 4, 3) := by decide +kernel
theorem d_law_109 : decode code 109 = .ok (.if_icmp .ge 7, 3) := by decide +kernel
theorem d_law_102 : decode code 102 = .ok (.ifCond .lt 14, 3) := by decide +kernel
theorem d_law_97 : decode code 97 = .ok (.if_icmp .ge 19, 3) := by decide +kernel
theorem d_law_117 : decode code 117 = .ok (.istore 11, 2) := by decide +kernel
theorem d_law_119 : decode code 119 = .ok (.aload 6, 2) := by decide +kernel
theorem d_law_121 : decode code 121 = .ok (.iload_n 2, 1) := by decide +kernel
theorem d_law_122 : decode code 122 = .ok (.iload_n 3, 1) := by decide +kernel
theorem d_law_123 : decode code 123 = .ok (.invokevirtual 12, 3) := by decide +kernel
theorem ml_w12 : methodLk "TreeSeqSimL2" 12 tables_1 = some (⟨"TreeSeqSim", "mutate", "(II)I"⟩ : MethodName) := by decide +kernel
theorem cl_mutate : codeLk (⟨"TreeSeqSim", "mutate", "(II)I"⟩ : MethodName) tables_1 = some (prog_1_method_6_code, 3, (some .int)) := codeLk_at (i := 106) rfl (by decide +kernel)
theorem pd_mutate : parseMethodDescriptor "(II)I" = some ⟨[.int, .int], some .int⟩ := by decide +kernel
theorem cc_mutate_0 : hasInit (⟨"TreeSeqSim", "mutate", "(II)I"⟩ : MethodName).cls tables_1 = true ∧ plainName (⟨"TreeSeqSim", "mutate", "(II)I"⟩ : MethodName).cls = true ∧ (⟨"TreeSeqSim", "mutate", "(II)I"⟩ : MethodName).cls ≠ "java/lang/invoke/MethodHandle" ∧ (⟨"TreeSeqSim", "mutate", "(II)I"⟩ : MethodName).cls ≠ "java/lang/invoke/VarHandle" ∧ (((0 : Nat) = 0 ∧ hasDecl (⟨"TreeSeqSim", "mutate", "(II)I"⟩ : MethodName) tables_1 = true ∧ hasSel (⟨"TreeSeqSim", "mutate", "(II)I"⟩ : MethodName) tables_1 = true ∧ hasInst (⟨"TreeSeqSim", "mutate", "(II)I"⟩ : MethodName) tables_1 = true) ∨ ((0 : Nat) = 1 ∧ hasPriv (⟨"TreeSeqSim", "mutate", "(II)I"⟩ : MethodName) tables_1 = true ∧ hasInst (⟨"TreeSeqSim", "mutate", "(II)I"⟩ : MethodName) tables_1 = true ∧ (instLk (⟨"TreeSeqSim", "mutate", "(II)I"⟩ : MethodName).cls tables_1).isSome = true) ∨ ((0 : Nat) = 2 ∧ (⟨"TreeSeqSim", "mutate", "(II)I"⟩ : MethodName).name = "<init>" ∧ hasInst (⟨"TreeSeqSim", "mutate", "(II)I"⟩ : MethodName) tables_1 = true ∧ ((some .int) : Option FieldType) = none) ∨ ((0 : Nat) = 3 ∧ hasStat (⟨"TreeSeqSim", "mutate", "(II)I"⟩ : MethodName) tables_1 = true)) := by decide +kernel
theorem ca_w12_0 : callAt tables_1 "TreeSeqSimL2" 12 0 = some ((⟨"TreeSeqSim", "mutate", "(II)I"⟩ : MethodName), 2, prog_1_method_6_code, 3, (some .int)) := callAt_of ml_w12 cl_mutate pd_mutate cc_mutate_0 rfl
theorem np_mutate : hasPriv (⟨"TreeSeqSim", "mutate", "(II)I"⟩ : MethodName) tables_1 = false := by decide +kernel
theorem ca_w12_0n : callAt tables_1 "TreeSeqSimL2" 12 1 = none := callAt_pub ml_w12 np_mutate
theorem d_law_126 : decode code 126 = .ok (.istore 12, 2) := by decide +kernel
theorem d_law_128 : decode code 128 = .ok (.iload 12, 2) := by decide +kernel
theorem d_law_130 : decode code 130 = .ok (.iload 10, 2) := by decide +kernel
theorem d_law_132 : decode code 132 = .ok (.ifCond .eq 7, 3) := by decide +kernel
theorem d_law_139 : decode code 139 = .ok (.iconst (-1), 1) := by decide +kernel
theorem d_law_135 : decode code 135 = .ok (.iconst 1, 1) := by decide +kernel
theorem d_law_136 : decode code 136 = .ok (.goto 4, 3) := by decide +kernel
theorem d_law_140 : decode code 140 = .ok (.if_icmp .eq 5, 3) := by decide +kernel
theorem d_law_145 : decode code 145 = .ok (.aload 6, 2) := by decide +kernel
theorem d_law_147 : decode code 147 = .ok (.invokevirtual 16, 3) := by decide +kernel
theorem ml_w16 : methodLk "TreeSeqSimL2" 16 tables_1 = some (⟨"TreeSeqSim", "mutationCount", "()I"⟩ : MethodName) := by decide +kernel
theorem cl_mutationCount : codeLk (⟨"TreeSeqSim", "mutationCount", "()I"⟩ : MethodName) tables_1 = some (prog_1_method_8_code, 1, (some .int)) := codeLk_at (i := 111) rfl (by decide +kernel)
theorem pd_mutationCount : parseMethodDescriptor "()I" = some ⟨[], some .int⟩ := by decide +kernel
theorem cc_mutationCount_0 : hasInit (⟨"TreeSeqSim", "mutationCount", "()I"⟩ : MethodName).cls tables_1 = true ∧ plainName (⟨"TreeSeqSim", "mutationCount", "()I"⟩ : MethodName).cls = true ∧ (⟨"TreeSeqSim", "mutationCount", "()I"⟩ : MethodName).cls ≠ "java/lang/invoke/MethodHandle" ∧ (⟨"TreeSeqSim", "mutationCount", "()I"⟩ : MethodName).cls ≠ "java/lang/invoke/VarHandle" ∧ (((0 : Nat) = 0 ∧ hasDecl (⟨"TreeSeqSim", "mutationCount", "()I"⟩ : MethodName) tables_1 = true ∧ hasSel (⟨"TreeSeqSim", "mutationCount", "()I"⟩ : MethodName) tables_1 = true ∧ hasInst (⟨"TreeSeqSim", "mutationCount", "()I"⟩ : MethodName) tables_1 = true) ∨ ((0 : Nat) = 1 ∧ hasPriv (⟨"TreeSeqSim", "mutationCount", "()I"⟩ : MethodName) tables_1 = true ∧ hasInst (⟨"TreeSeqSim", "mutationCount", "()I"⟩ : MethodName) tables_1 = true ∧ (instLk (⟨"TreeSeqSim", "mutationCount", "()I"⟩ : MethodName).cls tables_1).isSome = true) ∨ ((0 : Nat) = 2 ∧ (⟨"TreeSeqSim", "mutationCount", "()I"⟩ : MethodName).name = "<init>" ∧ hasInst (⟨"TreeSeqSim", "mutationCount", "()I"⟩ : MethodName) tables_1 = true ∧ ((some .int) : Option FieldType) = none) ∨ ((0 : Nat) = 3 ∧ hasStat (⟨"TreeSeqSim", "mutationCount", "()I"⟩ : MethodName) tables_1 = true)) := by decide +kernel
theorem ca_w16_0 : callAt tables_1 "TreeSeqSimL2" 16 0 = some ((⟨"TreeSeqSim", "mutationCount", "()I"⟩ : MethodName), 0, prog_1_method_8_code, 1, (some .int)) := callAt_of ml_w16 cl_mutationCount pd_mutationCount cc_mutationCount_0 rfl
theorem np_mutationCount : hasPriv (⟨"TreeSeqSim", "mutationCount", "()I"⟩ : MethodName) tables_1 = false := by decide +kernel
theorem ca_w16_0n : callAt tables_1 "TreeSeqSimL2" 16 1 = none := callAt_pub ml_w16 np_mutationCount
theorem d_law_150 : decode code 150 = .ok (.iload 10, 2) := by decide +kernel
theorem d_law_152 : decode code 152 = .ok (.ifCond .eq 7, 3) := by decide +kernel
theorem d_law_159 : decode code 159 = .ok (.iconst 0, 1) := by decide +kernel
theorem d_law_155 : decode code 155 = .ok (.iconst 1, 1) := by decide +kernel
theorem d_law_156 : decode code 156 = .ok (.goto 4, 3) := by decide +kernel
theorem d_law_160 : decode code 160 = .ok (.if_icmp .eq 5, 3) := by decide +kernel
theorem d_law_165 : decode code 165 = .ok (.aload 6, 2) := by decide +kernel
theorem d_law_167 : decode code 167 = .ok (.invokevirtual 20, 3) := by decide +kernel
theorem ml_w20 : methodLk "TreeSeqSimL2" 20 tables_1 = some (⟨"TreeSeqSim", "generation", "()I"⟩ : MethodName) := by decide +kernel
theorem cl_generation : codeLk (⟨"TreeSeqSim", "generation", "()I"⟩ : MethodName) tables_1 = some (prog_1_method_7_code, 1, (some .int)) := codeLk_at (i := 116) rfl (by decide +kernel)
theorem pd_generation : parseMethodDescriptor "()I" = some ⟨[], some .int⟩ := by decide +kernel
theorem cc_generation_0 : hasInit (⟨"TreeSeqSim", "generation", "()I"⟩ : MethodName).cls tables_1 = true ∧ plainName (⟨"TreeSeqSim", "generation", "()I"⟩ : MethodName).cls = true ∧ (⟨"TreeSeqSim", "generation", "()I"⟩ : MethodName).cls ≠ "java/lang/invoke/MethodHandle" ∧ (⟨"TreeSeqSim", "generation", "()I"⟩ : MethodName).cls ≠ "java/lang/invoke/VarHandle" ∧ (((0 : Nat) = 0 ∧ hasDecl (⟨"TreeSeqSim", "generation", "()I"⟩ : MethodName) tables_1 = true ∧ hasSel (⟨"TreeSeqSim", "generation", "()I"⟩ : MethodName) tables_1 = true ∧ hasInst (⟨"TreeSeqSim", "generation", "()I"⟩ : MethodName) tables_1 = true) ∨ ((0 : Nat) = 1 ∧ hasPriv (⟨"TreeSeqSim", "generation", "()I"⟩ : MethodName) tables_1 = true ∧ hasInst (⟨"TreeSeqSim", "generation", "()I"⟩ : MethodName) tables_1 = true ∧ (instLk (⟨"TreeSeqSim", "generation", "()I"⟩ : MethodName).cls tables_1).isSome = true) ∨ ((0 : Nat) = 2 ∧ (⟨"TreeSeqSim", "generation", "()I"⟩ : MethodName).name = "<init>" ∧ hasInst (⟨"TreeSeqSim", "generation", "()I"⟩ : MethodName) tables_1 = true ∧ ((some .int) : Option FieldType) = none) ∨ ((0 : Nat) = 3 ∧ hasStat (⟨"TreeSeqSim", "generation", "()I"⟩ : MethodName) tables_1 = true)) := by decide +kernel
theorem ca_w20_0 : callAt tables_1 "TreeSeqSimL2" 20 0 = some ((⟨"TreeSeqSim", "generation", "()I"⟩ : MethodName), 0, prog_1_method_7_code, 1, (some .int)) := callAt_of ml_w20 cl_generation pd_generation cc_generation_0 rfl
theorem np_generation : hasPriv (⟨"TreeSeqSim", "generation", "()I"⟩ : MethodName) tables_1 = false := by decide +kernel
theorem ca_w20_0n : callAt tables_1 "TreeSeqSimL2" 20 1 = none := callAt_pub ml_w20 np_generation
theorem d_law_170 : decode code 170 = .ok (.ifCond .eq 5, 3) := by decide +kernel
theorem d_law_175 : decode code 175 = .ok (.aload 6, 2) := by decide +kernel
theorem d_law_177 : decode code 177 = .ok (.iload_n 2, 1) := by decide +kernel
theorem d_law_178 : decode code 178 = .ok (.invokevirtual 23, 3) := by decide +kernel
theorem ml_w23 : methodLk "TreeSeqSimL2" 23 tables_1 = some (⟨"TreeSeqSim", "mutationSite", "(I)I"⟩ : MethodName) := by decide +kernel
theorem cl_mutationSite : codeLk (⟨"TreeSeqSim", "mutationSite", "(I)I"⟩ : MethodName) tables_1 = some (prog_1_method_11_code, 2, (some .int)) := codeLk_at (i := 121) rfl (by decide +kernel)
theorem pd_mutationSite : parseMethodDescriptor "(I)I" = some ⟨[.int], some .int⟩ := by decide +kernel
theorem cc_mutationSite_0 : hasInit (⟨"TreeSeqSim", "mutationSite", "(I)I"⟩ : MethodName).cls tables_1 = true ∧ plainName (⟨"TreeSeqSim", "mutationSite", "(I)I"⟩ : MethodName).cls = true ∧ (⟨"TreeSeqSim", "mutationSite", "(I)I"⟩ : MethodName).cls ≠ "java/lang/invoke/MethodHandle" ∧ (⟨"TreeSeqSim", "mutationSite", "(I)I"⟩ : MethodName).cls ≠ "java/lang/invoke/VarHandle" ∧ (((0 : Nat) = 0 ∧ hasDecl (⟨"TreeSeqSim", "mutationSite", "(I)I"⟩ : MethodName) tables_1 = true ∧ hasSel (⟨"TreeSeqSim", "mutationSite", "(I)I"⟩ : MethodName) tables_1 = true ∧ hasInst (⟨"TreeSeqSim", "mutationSite", "(I)I"⟩ : MethodName) tables_1 = true) ∨ ((0 : Nat) = 1 ∧ hasPriv (⟨"TreeSeqSim", "mutationSite", "(I)I"⟩ : MethodName) tables_1 = true ∧ hasInst (⟨"TreeSeqSim", "mutationSite", "(I)I"⟩ : MethodName) tables_1 = true ∧ (instLk (⟨"TreeSeqSim", "mutationSite", "(I)I"⟩ : MethodName).cls tables_1).isSome = true) ∨ ((0 : Nat) = 2 ∧ (⟨"TreeSeqSim", "mutationSite", "(I)I"⟩ : MethodName).name = "<init>" ∧ hasInst (⟨"TreeSeqSim", "mutationSite", "(I)I"⟩ : MethodName) tables_1 = true ∧ ((some .int) : Option FieldType) = none) ∨ ((0 : Nat) = 3 ∧ hasStat (⟨"TreeSeqSim", "mutationSite", "(I)I"⟩ : MethodName) tables_1 = true)) := by decide +kernel
theorem ca_w23_0 : callAt tables_1 "TreeSeqSimL2" 23 0 = some ((⟨"TreeSeqSim", "mutationSite", "(I)I"⟩ : MethodName), 1, prog_1_method_11_code, 2, (some .int)) := callAt_of ml_w23 cl_mutationSite pd_mutationSite cc_mutationSite_0 rfl
theorem np_mutationSite : hasPriv (⟨"TreeSeqSim", "mutationSite", "(I)I"⟩ : MethodName) tables_1 = false := by decide +kernel
theorem ca_w23_0n : callAt tables_1 "TreeSeqSimL2" 23 1 = none := callAt_pub ml_w23 np_mutationSite
theorem d_law_173 : decode code 173 = .ok (.iconst 0, 1) := by decide +kernel
theorem d_law_174 : decode code 174 = .ok (.ireturn, 1) := by decide +kernel
theorem d_law_163 : decode code 163 = .ok (.iconst 0, 1) := by decide +kernel
theorem d_law_164 : decode code 164 = .ok (.ireturn, 1) := by decide +kernel
theorem d_law_143 : decode code 143 = .ok (.iconst 0, 1) := by decide +kernel
theorem d_law_144 : decode code 144 = .ok (.ireturn, 1) := by decide +kernel
theorem d_law_181 : decode code 181 = .ok (.iconst (-1), 1) := by decide +kernel
theorem d_law_182 : decode code 182 = .ok (.if_icmp .eq 5, 3) := by decide +kernel
theorem d_law_187 : decode code 187 = .ok (.aload 6, 2) := by decide +kernel
theorem d_law_189 : decode code 189 = .ok (.iload_n 2, 1) := by decide +kernel
theorem d_law_190 : decode code 190 = .ok (.iload_n 3, 1) := by decide +kernel
theorem d_law_191 : decode code 191 = .ok (.invokevirtual 27, 3) := by decide +kernel
theorem ml_w27 : methodLk "TreeSeqSimL2" 27 tables_1 = some (⟨"TreeSeqSim", "genotype", "(II)I"⟩ : MethodName) := by decide +kernel
theorem cl_genotype : codeLk (⟨"TreeSeqSim", "genotype", "(II)I"⟩ : MethodName) tables_1 = some (prog_1_method_9_code, 3, (some .int)) := codeLk_at (i := 126) rfl (by decide +kernel)
theorem pd_genotype : parseMethodDescriptor "(II)I" = some ⟨[.int, .int], some .int⟩ := by decide +kernel
theorem cc_genotype_0 : hasInit (⟨"TreeSeqSim", "genotype", "(II)I"⟩ : MethodName).cls tables_1 = true ∧ plainName (⟨"TreeSeqSim", "genotype", "(II)I"⟩ : MethodName).cls = true ∧ (⟨"TreeSeqSim", "genotype", "(II)I"⟩ : MethodName).cls ≠ "java/lang/invoke/MethodHandle" ∧ (⟨"TreeSeqSim", "genotype", "(II)I"⟩ : MethodName).cls ≠ "java/lang/invoke/VarHandle" ∧ (((0 : Nat) = 0 ∧ hasDecl (⟨"TreeSeqSim", "genotype", "(II)I"⟩ : MethodName) tables_1 = true ∧ hasSel (⟨"TreeSeqSim", "genotype", "(II)I"⟩ : MethodName) tables_1 = true ∧ hasInst (⟨"TreeSeqSim", "genotype", "(II)I"⟩ : MethodName) tables_1 = true) ∨ ((0 : Nat) = 1 ∧ hasPriv (⟨"TreeSeqSim", "genotype", "(II)I"⟩ : MethodName) tables_1 = true ∧ hasInst (⟨"TreeSeqSim", "genotype", "(II)I"⟩ : MethodName) tables_1 = true ∧ (instLk (⟨"TreeSeqSim", "genotype", "(II)I"⟩ : MethodName).cls tables_1).isSome = true) ∨ ((0 : Nat) = 2 ∧ (⟨"TreeSeqSim", "genotype", "(II)I"⟩ : MethodName).name = "<init>" ∧ hasInst (⟨"TreeSeqSim", "genotype", "(II)I"⟩ : MethodName) tables_1 = true ∧ ((some .int) : Option FieldType) = none) ∨ ((0 : Nat) = 3 ∧ hasStat (⟨"TreeSeqSim", "genotype", "(II)I"⟩ : MethodName) tables_1 = true)) := by decide +kernel
theorem ca_w27_0 : callAt tables_1 "TreeSeqSimL2" 27 0 = some ((⟨"TreeSeqSim", "genotype", "(II)I"⟩ : MethodName), 2, prog_1_method_9_code, 3, (some .int)) := callAt_of ml_w27 cl_genotype pd_genotype cc_genotype_0 rfl
theorem np_genotype : hasPriv (⟨"TreeSeqSim", "genotype", "(II)I"⟩ : MethodName) tables_1 = false := by decide +kernel
theorem ca_w27_0n : callAt tables_1 "TreeSeqSimL2" 27 1 = none := callAt_pub ml_w27 np_genotype
theorem d_law_185 : decode code 185 = .ok (.iconst 0, 1) := by decide +kernel
theorem d_law_186 : decode code 186 = .ok (.ireturn, 1) := by decide +kernel
theorem d_law_194 : decode code 194 = .ok (.iload 10, 2) := by decide +kernel
theorem d_law_196 : decode code 196 = .ok (.ifCond .eq 7, 3) := by decide +kernel
theorem d_law_203 : decode code 203 = .ok (.iconst (-1), 1) := by decide +kernel
theorem d_law_199 : decode code 199 = .ok (.iconst 1, 1) := by decide +kernel
theorem d_law_200 : decode code 200 = .ok (.goto 4, 3) := by decide +kernel
theorem d_law_204 : decode code 204 = .ok (.if_icmp .eq 5, 3) := by decide +kernel
theorem d_law_209 : decode code 209 = .ok (.iload 11, 2) := by decide +kernel
theorem d_law_218 : decode code 218 = .ok (.iload 10, 2) := by decide +kernel
theorem d_law_239 : decode code 239 = .ok (.iconst 0, 1) := by decide +kernel
theorem d_law_240 : decode code 240 = .ok (.istore 13, 2) := by decide +kernel
theorem d_law_242 : decode code 242 = .ok (.aload 6, 2) := by decide +kernel
theorem d_law_244 : decode code 244 = .ok (.iload 4, 2) := by decide +kernel
theorem d_law_246 : decode code 246 = .ok (.iload 5, 2) := by decide +kernel
theorem d_law_211 : decode code 211 = .ok (.ifCond .ne 7, 3) := by decide +kernel
theorem d_law_223 : decode code 223 = .ok (.iload 4, 2) := by decide +kernel
theorem d_law_225 : decode code 225 = .ok (.iload_n 2, 1) := by decide +kernel
theorem d_law_229 : decode code 229 = .ok (.iload 5, 2) := by decide +kernel
theorem d_law_231 : decode code 231 = .ok (.iload_n 3, 1) := by decide +kernel
theorem d_law_235 : decode code 235 = .ok (.iconst 1, 1) := by decide +kernel
theorem d_law_236 : decode code 236 = .ok (.goto 4, 3) := by decide +kernel
theorem d_law_232 : decode code 232 = .ok (.if_icmp .ne 7, 3) := by decide +kernel
theorem d_law_226 : decode code 226 = .ok (.if_icmp .ne 13, 3) := by decide +kernel
theorem d_law_220 : decode code 220 = .ok (.ifCond .eq 19, 3) := by decide +kernel
theorem d_law_214 : decode code 214 = .ok (.iconst (-1), 1) := by decide +kernel
theorem d_law_215 : decode code 215 = .ok (.goto 25, 3) := by decide +kernel
theorem d_law_248 : decode code 248 = .ok (.invokevirtual 27, 3) := by decide +kernel
theorem d_law_207 : decode code 207 = .ok (.iconst 0, 1) := by decide +kernel
theorem d_law_208 : decode code 208 = .ok (.ireturn, 1) := by decide +kernel
theorem d_law_251 : decode code 251 = .ok (.iload 13, 2) := by decide +kernel
theorem d_law_253 : decode code 253 = .ok (.if_icmp .eq 5, 3) := by decide +kernel
theorem d_law_258 : decode code 258 = .ok (.aload 6, 2) := by decide +kernel
theorem d_law_260 : decode code 260 = .ok (.invokevirtual 30, 3) := by decide +kernel
theorem ml_w30 : methodLk "TreeSeqSimL2" 30 tables_1 = some (⟨"TreeSeqSim", "segregatingSites", "()I"⟩ : MethodName) := by decide +kernel
theorem cl_segregatingSites : codeLk (⟨"TreeSeqSim", "segregatingSites", "()I"⟩ : MethodName) tables_1 = some (prog_1_method_13_code, 3, (some .int)) := codeLk_at (i := 131) rfl (by decide +kernel)
theorem pd_segregatingSites : parseMethodDescriptor "()I" = some ⟨[], some .int⟩ := by decide +kernel
theorem cc_segregatingSites_0 : hasInit (⟨"TreeSeqSim", "segregatingSites", "()I"⟩ : MethodName).cls tables_1 = true ∧ plainName (⟨"TreeSeqSim", "segregatingSites", "()I"⟩ : MethodName).cls = true ∧ (⟨"TreeSeqSim", "segregatingSites", "()I"⟩ : MethodName).cls ≠ "java/lang/invoke/MethodHandle" ∧ (⟨"TreeSeqSim", "segregatingSites", "()I"⟩ : MethodName).cls ≠ "java/lang/invoke/VarHandle" ∧ (((0 : Nat) = 0 ∧ hasDecl (⟨"TreeSeqSim", "segregatingSites", "()I"⟩ : MethodName) tables_1 = true ∧ hasSel (⟨"TreeSeqSim", "segregatingSites", "()I"⟩ : MethodName) tables_1 = true ∧ hasInst (⟨"TreeSeqSim", "segregatingSites", "()I"⟩ : MethodName) tables_1 = true) ∨ ((0 : Nat) = 1 ∧ hasPriv (⟨"TreeSeqSim", "segregatingSites", "()I"⟩ : MethodName) tables_1 = true ∧ hasInst (⟨"TreeSeqSim", "segregatingSites", "()I"⟩ : MethodName) tables_1 = true ∧ (instLk (⟨"TreeSeqSim", "segregatingSites", "()I"⟩ : MethodName).cls tables_1).isSome = true) ∨ ((0 : Nat) = 2 ∧ (⟨"TreeSeqSim", "segregatingSites", "()I"⟩ : MethodName).name = "<init>" ∧ hasInst (⟨"TreeSeqSim", "segregatingSites", "()I"⟩ : MethodName) tables_1 = true ∧ ((some .int) : Option FieldType) = none) ∨ ((0 : Nat) = 3 ∧ hasStat (⟨"TreeSeqSim", "segregatingSites", "()I"⟩ : MethodName) tables_1 = true)) := by decide +kernel
theorem ca_w30_0 : callAt tables_1 "TreeSeqSimL2" 30 0 = some ((⟨"TreeSeqSim", "segregatingSites", "()I"⟩ : MethodName), 0, prog_1_method_13_code, 3, (some .int)) := callAt_of ml_w30 cl_segregatingSites pd_segregatingSites cc_segregatingSites_0 rfl
theorem np_segregatingSites : hasPriv (⟨"TreeSeqSim", "segregatingSites", "()I"⟩ : MethodName) tables_1 = false := by decide +kernel
theorem ca_w30_0n : callAt tables_1 "TreeSeqSimL2" 30 1 = none := callAt_pub ml_w30 np_segregatingSites
theorem d_law_256 : decode code 256 = .ok (.iconst 0, 1) := by decide +kernel
theorem d_law_257 : decode code 257 = .ok (.ireturn, 1) := by decide +kernel
theorem d_law_263 : decode code 263 = .ok (.iload 10, 2) := by decide +kernel
theorem d_law_265 : decode code 265 = .ok (.ifCond .eq 7, 3) := by decide +kernel
theorem d_law_272 : decode code 272 = .ok (.iconst 0, 1) := by decide +kernel
theorem d_law_268 : decode code 268 = .ok (.iconst 1, 1) := by decide +kernel
theorem d_law_269 : decode code 269 = .ok (.goto 4, 3) := by decide +kernel
theorem d_law_273 : decode code 273 = .ok (.if_icmp .eq 5, 3) := by decide +kernel
theorem d_law_278 : decode code 278 = .ok (.iload_n 3, 1) := by decide +kernel
theorem d_law_288 : decode code 288 = .ok (.iconst (-1), 1) := by decide +kernel
theorem d_law_289 : decode code 289 = .ok (.goto 13, 3) := by decide +kernel
theorem d_law_302 : decode code 302 = .ok (.istore 14, 2) := by decide +kernel
theorem d_law_304 : decode code 304 = .ok (.aload 6, 2) := by decide +kernel
theorem d_law_306 : decode code 306 = .ok (.iload_n 3, 1) := by decide +kernel
theorem d_law_307 : decode code 307 = .ok (.iconst 1, 1) := by decide +kernel
theorem d_law_279 : decode code 279 = .ok (.ifCond .lt 9, 3) := by decide +kernel
theorem d_law_282 : decode code 282 = .ok (.iload_n 3, 1) := by decide +kernel
theorem d_law_283 : decode code 283 = .ok (.iload 8, 2) := by decide +kernel
theorem d_law_292 : decode code 292 = .ok (.iload 10, 2) := by decide +kernel
theorem d_law_301 : decode code 301 = .ok (.iconst 0, 1) := by decide +kernel
theorem d_law_297 : decode code 297 = .ok (.iconst 1, 1) := by decide +kernel
theorem d_law_298 : decode code 298 = .ok (.goto 4, 3) := by decide +kernel
theorem d_law_294 : decode code 294 = .ok (.ifCond .eq 7, 3) := by decide +kernel
theorem d_law_285 : decode code 285 = .ok (.if_icmp .lt 7, 3) := by decide +kernel
theorem d_law_308 : decode code 308 = .ok (.invokevirtual 33, 3) := by decide +kernel
theorem ml_w33 : methodLk "TreeSeqSimL2" 33 tables_1 = some (⟨"TreeSeqSim", "alleleCount", "(II)I"⟩ : MethodName) := by decide +kernel
theorem cl_alleleCount : codeLk (⟨"TreeSeqSim", "alleleCount", "(II)I"⟩ : MethodName) tables_1 = some (prog_1_method_12_code, 5, (some .int)) := codeLk_at (i := 156) rfl (by decide +kernel)
theorem pd_alleleCount : parseMethodDescriptor "(II)I" = some ⟨[.int, .int], some .int⟩ := by decide +kernel
theorem cc_alleleCount_0 : hasInit (⟨"TreeSeqSim", "alleleCount", "(II)I"⟩ : MethodName).cls tables_1 = true ∧ plainName (⟨"TreeSeqSim", "alleleCount", "(II)I"⟩ : MethodName).cls = true ∧ (⟨"TreeSeqSim", "alleleCount", "(II)I"⟩ : MethodName).cls ≠ "java/lang/invoke/MethodHandle" ∧ (⟨"TreeSeqSim", "alleleCount", "(II)I"⟩ : MethodName).cls ≠ "java/lang/invoke/VarHandle" ∧ (((0 : Nat) = 0 ∧ hasDecl (⟨"TreeSeqSim", "alleleCount", "(II)I"⟩ : MethodName) tables_1 = true ∧ hasSel (⟨"TreeSeqSim", "alleleCount", "(II)I"⟩ : MethodName) tables_1 = true ∧ hasInst (⟨"TreeSeqSim", "alleleCount", "(II)I"⟩ : MethodName) tables_1 = true) ∨ ((0 : Nat) = 1 ∧ hasPriv (⟨"TreeSeqSim", "alleleCount", "(II)I"⟩ : MethodName) tables_1 = true ∧ hasInst (⟨"TreeSeqSim", "alleleCount", "(II)I"⟩ : MethodName) tables_1 = true ∧ (instLk (⟨"TreeSeqSim", "alleleCount", "(II)I"⟩ : MethodName).cls tables_1).isSome = true) ∨ ((0 : Nat) = 2 ∧ (⟨"TreeSeqSim", "alleleCount", "(II)I"⟩ : MethodName).name = "<init>" ∧ hasInst (⟨"TreeSeqSim", "alleleCount", "(II)I"⟩ : MethodName) tables_1 = true ∧ ((some .int) : Option FieldType) = none) ∨ ((0 : Nat) = 3 ∧ hasStat (⟨"TreeSeqSim", "alleleCount", "(II)I"⟩ : MethodName) tables_1 = true)) := by decide +kernel
theorem ca_w33_0 : callAt tables_1 "TreeSeqSimL2" 33 0 = some ((⟨"TreeSeqSim", "alleleCount", "(II)I"⟩ : MethodName), 2, prog_1_method_12_code, 5, (some .int)) := callAt_of ml_w33 cl_alleleCount pd_alleleCount cc_alleleCount_0 rfl
theorem np_alleleCount : hasPriv (⟨"TreeSeqSim", "alleleCount", "(II)I"⟩ : MethodName) tables_1 = false := by decide +kernel
theorem ca_w33_0n : callAt tables_1 "TreeSeqSimL2" 33 1 = none := callAt_pub ml_w33 np_alleleCount
theorem d_law_276 : decode code 276 = .ok (.iconst 0, 1) := by decide +kernel
theorem d_law_277 : decode code 277 = .ok (.ireturn, 1) := by decide +kernel
theorem d_law_311 : decode code 311 = .ok (.iload 14, 2) := by decide +kernel
theorem d_law_313 : decode code 313 = .ok (.if_icmp .ne 7, 3) := by decide +kernel
theorem d_law_320 : decode code 320 = .ok (.iconst 0, 1) := by decide +kernel
theorem d_law_316 : decode code 316 = .ok (.iconst 1, 1) := by decide +kernel
theorem d_law_317 : decode code 317 = .ok (.goto 4, 3) := by decide +kernel
theorem d_law_321 : decode code 321 = .ok (.ireturn, 1) := by decide +kernel
set_option maxRecDepth 65536 in
set_option maxHeartbeats 4000000 in
theorem L_generation_0 {mi : Nat → Nat → Int32} {ml : Nat → Nat → Int64} {Q : Option Value → EMem → Prop}
    (h1 : Q (some (.int (mi 0 91))) (LL1, mi, ml, RR1)) :
    W_generation 0 [.val (.ref 0)] [] (LL1, mi, ml, RR1) Q := by
  refine Wp.p (pc' := 1) d_generation_0 rfl rfl ?_
  refine Wp.getI (mi 0 91) d_generation_1 fa_c130 rfl rfl ?_
  refine Wp.retI d_generation_4 ?_
  exact h1
set_option maxRecDepth 65536 in
set_option maxHeartbeats 4000000 in
theorem L_mutationCount_0 {mi : Nat → Nat → Int32} {ml : Nat → Nat → Int64} {Q : Option Value → EMem → Prop}
    (h1 : Q (some (.int (mi 0 93))) (LL1, mi, ml, RR1)) :
    W_mutationCount 0 [.val (.ref 0)] [] (LL1, mi, ml, RR1) Q := by
  refine Wp.p (pc' := 1) d_mutationCount_0 rfl rfl ?_
  refine Wp.getI (mi 0 93) d_mutationCount_1 fa_c133 rfl rfl ?_
  refine Wp.retI d_mutationCount_4 ?_
  exact h1
set_option maxRecDepth 65536 in
set_option maxHeartbeats 4000000 in
theorem L_init_0 {x1 x2 : Int32} {mi : Nat → Nat → Int32} {ml : Nat → Nat → Int64} {Q : Option Value → EMem → Prop}
    (h1 : ∀ v1 : Int32, v1 = (if x1 < (1 : Int32) then (1 : Int32) else x1) → ∀ v2 : Int32, v2 = (if (4 : Int32) < v1 then (4 : Int32) else v1) → ∀ v3 : Int32, v3 = (if x2 < (2 : Int32) then (2 : Int32) else x2) → ∀ v4 : Int32, v4 = (if (8 : Int32) < v3 then (8 : Int32) else v3) → W_init 404 [.val (.ref 0), .val (.int x1), .val (.int x2), .val (.int v2), .val (.int v4), .val (.int (0 : Int32))] [] (LL1, (up (up (up (up (up (up (up (up (up (up (up (up (up (up mi 0 10 (128 : Int32)) 0 12 (512 : Int32)) 0 14 (512 : Int32)) 0 79 v2) 0 81 ((2 : Int32) * v2)) 0 83 v4) 0 85 (12345 : Int32)) 0 87 (25 : Int32)) 0 89 (25 : Int32)) 0 91 (0 : Int32)) 0 93 (0 : Int32)) 0 97 ((2 : Int32) * v2)) 0 99 (0 : Int32)) 0 101 (0 : Int32)), (up ml 0 95 (0 : Int64)), RR1) Q) :
    W_init 0 [.val (.ref 0), .val (.int x1), .val (.int x2), .unset, .unset, .unset] [] ([(0, "TreeSeqSim", 48)], mi, ml, (fun _ _ => Value.null)) Q := by
  refine Wp.p (pc' := 1) d_init_0 rfl rfl ?_
  refine Wp.objInit (w := 0) d_init_1 oi_c1 rfl (by decide) (by decide) ?_
  refine Wp.p (pc' := 5) d_init_4 rfl rfl ?_
  refine Wp.sipush (128 : Int32) d_init_5 (by decide) ?_
  refine Wp.putI d_init_8 fa_c7 rfl (by decide) in_TreeSeqSim (Or.inl rfl) ?_
  refine Wp.p (pc' := 12) d_init_11 rfl rfl ?_
  refine Wp.sipush (512 : Int32) d_init_12 (by decide) ?_
  refine Wp.putI d_init_15 fa_c13 rfl (by decide) in_TreeSeqSim (Or.inl rfl) ?_
  refine Wp.p (pc' := 19) d_init_18 rfl rfl ?_
  refine Wp.sipush (512 : Int32) d_init_19 (by decide) ?_
  refine Wp.putI d_init_22 fa_c16 rfl (by decide) in_TreeSeqSim (Or.inl rfl) ?_
  refine Wp.p (pc' := 26) d_init_25 rfl rfl ?_
  refine Wp.sipush (128 : Int32) d_init_26 (by decide) ?_
  refine Wp.new_long (a := 1) (z := 128) (L' := [(0, "TreeSeqSim", 48), (2, "", 128)]) d_init_29 ar_long (by decide) (by decide) rfl rfl ?_
  refine Wp.putR d_init_31 fa_c19 rfl (by decide) in_TreeSeqSim (Or.inl rfl) ?_
  refine Wp.p (pc' := 35) d_init_34 rfl rfl ?_
  refine Wp.sipush (128 : Int32) d_init_35 (by decide) ?_
  refine Wp.new_int (a := 2) (z := 128) (L' := [(0, "TreeSeqSim", 48), (2, "", 128), (1, "", 128)]) d_init_38 ar_int (by decide) (by decide) rfl rfl ?_
  refine Wp.putR d_init_40 fa_c23 rfl (by decide) in_TreeSeqSim (Or.inl rfl) ?_
  refine Wp.p (pc' := 44) d_init_43 rfl rfl ?_
  refine Wp.bipush (8 : Int32) d_init_44 (by decide) ?_
  refine Wp.new_int (a := 3) (z := 8) (L' := [(0, "TreeSeqSim", 48), (2, "", 128), (1, "", 128), (1, "", 8)]) d_init_46 ar_int (by decide) (by decide) rfl rfl ?_
  refine Wp.putR d_init_48 fa_c27 rfl (by decide) in_TreeSeqSim (Or.inl rfl) ?_
  refine Wp.p (pc' := 52) d_init_51 rfl rfl ?_
  refine Wp.sipush (512 : Int32) d_init_52 (by decide) ?_
  refine Wp.new_int (a := 4) (z := 512) (L' := [(0, "TreeSeqSim", 48), (2, "", 128), (1, "", 128), (1, "", 8), (1, "", 512)]) d_init_55 ar_int (by decide) (by decide) rfl rfl ?_
  refine Wp.putR d_init_57 fa_c30 rfl (by decide) in_TreeSeqSim (Or.inl rfl) ?_
  refine Wp.p (pc' := 61) d_init_60 rfl rfl ?_
  refine Wp.sipush (512 : Int32) d_init_61 (by decide) ?_
  refine Wp.new_int (a := 5) (z := 512) (L' := [(0, "TreeSeqSim", 48), (2, "", 128), (1, "", 128), (1, "", 8), (1, "", 512), (1, "", 512)]) d_init_64 ar_int (by decide) (by decide) rfl rfl ?_
  refine Wp.putR d_init_66 fa_c33 rfl (by decide) in_TreeSeqSim (Or.inl rfl) ?_
  refine Wp.p (pc' := 70) d_init_69 rfl rfl ?_
  refine Wp.sipush (512 : Int32) d_init_70 (by decide) ?_
  refine Wp.new_int (a := 6) (z := 512) (L' := [(0, "TreeSeqSim", 48), (2, "", 128), (1, "", 128), (1, "", 8), (1, "", 512), (1, "", 512), (1, "", 512)]) d_init_73 ar_int (by decide) (by decide) rfl rfl ?_
  refine Wp.putR d_init_75 fa_c36 rfl (by decide) in_TreeSeqSim (Or.inl rfl) ?_
  refine Wp.p (pc' := 79) d_init_78 rfl rfl ?_
  refine Wp.sipush (512 : Int32) d_init_79 (by decide) ?_
  refine Wp.new_int (a := 7) (z := 512) (L' := [(0, "TreeSeqSim", 48), (2, "", 128), (1, "", 128), (1, "", 8), (1, "", 512), (1, "", 512), (1, "", 512), (1, "", 512)]) d_init_82 ar_int (by decide) (by decide) rfl rfl ?_
  refine Wp.putR d_init_84 fa_c39 rfl (by decide) in_TreeSeqSim (Or.inl rfl) ?_
  refine Wp.p (pc' := 88) d_init_87 rfl rfl ?_
  refine Wp.sipush (512 : Int32) d_init_88 (by decide) ?_
  refine Wp.new_int (a := 8) (z := 512) (L' := [(0, "TreeSeqSim", 48), (2, "", 128), (1, "", 128), (1, "", 8), (1, "", 512), (1, "", 512), (1, "", 512), (1, "", 512), (1, "", 512)]) d_init_91 ar_int (by decide) (by decide) rfl rfl ?_
  refine Wp.putR d_init_93 fa_c42 rfl (by decide) in_TreeSeqSim (Or.inl rfl) ?_
  refine Wp.p (pc' := 97) d_init_96 rfl rfl ?_
  refine Wp.sipush (512 : Int32) d_init_97 (by decide) ?_
  refine Wp.new_int (a := 9) (z := 512) (L' := [(0, "TreeSeqSim", 48), (2, "", 128), (1, "", 128), (1, "", 8), (1, "", 512), (1, "", 512), (1, "", 512), (1, "", 512), (1, "", 512), (1, "", 512)]) d_init_100 ar_int (by decide) (by decide) rfl rfl ?_
  refine Wp.putR d_init_102 fa_c45 rfl (by decide) in_TreeSeqSim (Or.inl rfl) ?_
  refine Wp.p (pc' := 106) d_init_105 rfl rfl ?_
  refine Wp.sipush (512 : Int32) d_init_106 (by decide) ?_
  refine Wp.new_int (a := 10) (z := 512) (L' := [(0, "TreeSeqSim", 48), (2, "", 128), (1, "", 128), (1, "", 8), (1, "", 512), (1, "", 512), (1, "", 512), (1, "", 512), (1, "", 512), (1, "", 512), (1, "", 512)]) d_init_109 ar_int (by decide) (by decide) rfl rfl ?_
  refine Wp.putR d_init_111 fa_c48 rfl (by decide) in_TreeSeqSim (Or.inl rfl) ?_
  refine Wp.p (pc' := 115) d_init_114 rfl rfl ?_
  refine Wp.bipush (64 : Int32) d_init_115 (by decide) ?_
  refine Wp.new_int (a := 11) (z := 64) (L' := [(0, "TreeSeqSim", 48), (2, "", 128), (1, "", 128), (1, "", 8), (1, "", 512), (1, "", 512), (1, "", 512), (1, "", 512), (1, "", 512), (1, "", 512), (1, "", 512), (1, "", 64)]) d_init_117 ar_int (by decide) (by decide) rfl rfl ?_
  refine Wp.putR d_init_119 fa_c51 rfl (by decide) in_TreeSeqSim (Or.inl rfl) ?_
  refine Wp.p (pc' := 123) d_init_122 rfl rfl ?_
  refine Wp.bipush (8 : Int32) d_init_123 (by decide) ?_
  refine Wp.new_int (a := 12) (z := 8) (L' := [(0, "TreeSeqSim", 48), (2, "", 128), (1, "", 128), (1, "", 8), (1, "", 512), (1, "", 512), (1, "", 512), (1, "", 512), (1, "", 512), (1, "", 512), (1, "", 512), (1, "", 64), (1, "", 8)]) d_init_125 ar_int (by decide) (by decide) rfl rfl ?_
  refine Wp.putR d_init_127 fa_c54 rfl (by decide) in_TreeSeqSim (Or.inl rfl) ?_
  refine Wp.p (pc' := 131) d_init_130 rfl rfl ?_
  refine Wp.sipush (128 : Int32) d_init_131 (by decide) ?_
  refine Wp.new_int (a := 13) (z := 128) (L' := [(0, "TreeSeqSim", 48), (2, "", 128), (1, "", 128), (1, "", 8), (1, "", 512), (1, "", 512), (1, "", 512), (1, "", 512), (1, "", 512), (1, "", 512), (1, "", 512), (1, "", 64), (1, "", 8), (1, "", 128)]) d_init_134 ar_int (by decide) (by decide) rfl rfl ?_
  refine Wp.putR d_init_136 fa_c57 rfl (by decide) in_TreeSeqSim (Or.inl rfl) ?_
  refine Wp.p (pc' := 140) d_init_139 rfl rfl ?_
  refine Wp.sipush (128 : Int32) d_init_140 (by decide) ?_
  refine Wp.new_int (a := 14) (z := 128) (L' := [(0, "TreeSeqSim", 48), (2, "", 128), (1, "", 128), (1, "", 8), (1, "", 512), (1, "", 512), (1, "", 512), (1, "", 512), (1, "", 512), (1, "", 512), (1, "", 512), (1, "", 64), (1, "", 8), (1, "", 128), (1, "", 128)]) d_init_143 ar_int (by decide) (by decide) rfl rfl ?_
  refine Wp.putR d_init_145 fa_c60 rfl (by decide) in_TreeSeqSim (Or.inl rfl) ?_
  refine Wp.p (pc' := 149) d_init_148 rfl rfl ?_
  refine Wp.sipush (128 : Int32) d_init_149 (by decide) ?_
  refine Wp.new_int (a := 15) (z := 128) (L' := [(0, "TreeSeqSim", 48), (2, "", 128), (1, "", 128), (1, "", 8), (1, "", 512), (1, "", 512), (1, "", 512), (1, "", 512), (1, "", 512), (1, "", 512), (1, "", 512), (1, "", 64), (1, "", 8), (1, "", 128), (1, "", 128), (1, "", 128)]) d_init_152 ar_int (by decide) (by decide) rfl rfl ?_
  refine Wp.putR d_init_154 fa_c63 rfl (by decide) in_TreeSeqSim (Or.inl rfl) ?_
  refine Wp.p (pc' := 158) d_init_157 rfl rfl ?_
  refine Wp.sipush (128 : Int32) d_init_158 (by decide) ?_
  refine Wp.new_int (a := 16) (z := 128) (L' := [(0, "TreeSeqSim", 48), (2, "", 128), (1, "", 128), (1, "", 8), (1, "", 512), (1, "", 512), (1, "", 512), (1, "", 512), (1, "", 512), (1, "", 512), (1, "", 512), (1, "", 64), (1, "", 8), (1, "", 128), (1, "", 128), (1, "", 128), (1, "", 128)]) d_init_161 ar_int (by decide) (by decide) rfl rfl ?_
  refine Wp.putR d_init_163 fa_c66 rfl (by decide) in_TreeSeqSim (Or.inl rfl) ?_
  refine Wp.p (pc' := 167) d_init_166 rfl rfl ?_
  refine Wp.sipush (128 : Int32) d_init_167 (by decide) ?_
  refine Wp.new_int (a := 17) (z := 128) (L' := [(0, "TreeSeqSim", 48), (2, "", 128), (1, "", 128), (1, "", 8), (1, "", 512), (1, "", 512), (1, "", 512), (1, "", 512), (1, "", 512), (1, "", 512), (1, "", 512), (1, "", 64), (1, "", 8), (1, "", 128), (1, "", 128), (1, "", 128), (1, "", 128), (1, "", 128)]) d_init_170 ar_int (by decide) (by decide) rfl rfl ?_
  refine Wp.putR d_init_172 fa_c69 rfl (by decide) in_TreeSeqSim (Or.inl rfl) ?_
  refine Wp.p (pc' := 176) d_init_175 rfl rfl ?_
  refine Wp.sipush (128 : Int32) d_init_176 (by decide) ?_
  refine Wp.new_boolean (a := 18) (z := 128) (L' := [(0, "TreeSeqSim", 48), (2, "", 128), (1, "", 128), (1, "", 8), (1, "", 512), (1, "", 512), (1, "", 512), (1, "", 512), (1, "", 512), (1, "", 512), (1, "", 512), (1, "", 64), (1, "", 8), (1, "", 128), (1, "", 128), (1, "", 128), (1, "", 128), (1, "", 128), (3, "", 128)]) d_init_179 ar_boolean (by decide) (by decide) rfl rfl ?_
  refine Wp.putR d_init_181 fa_c72 rfl (by decide) in_TreeSeqSim (Or.inl rfl) ?_
  refine Wp.p (pc' := 185) d_init_184 rfl rfl ?_
  refine Wp.sipush (128 : Int32) d_init_185 (by decide) ?_
  refine Wp.new_boolean (a := 19) (z := 128) (L' := [(0, "TreeSeqSim", 48), (2, "", 128), (1, "", 128), (1, "", 8), (1, "", 512), (1, "", 512), (1, "", 512), (1, "", 512), (1, "", 512), (1, "", 512), (1, "", 512), (1, "", 64), (1, "", 8), (1, "", 128), (1, "", 128), (1, "", 128), (1, "", 128), (1, "", 128), (3, "", 128), (3, "", 128)]) d_init_188 ar_boolean (by decide) (by decide) rfl rfl ?_
  refine Wp.putR d_init_190 fa_c76 rfl (by decide) in_TreeSeqSim (Or.inl rfl) ?_
  refine Wp.p (pc' := 194) d_init_193 rfl rfl ?_
  refine Wp.sipush (1024 : Int32) d_init_194 (by decide) ?_
  refine Wp.new_boolean (a := 20) (z := 1024) (L' := [(0, "TreeSeqSim", 48), (2, "", 128), (1, "", 128), (1, "", 8), (1, "", 512), (1, "", 512), (1, "", 512), (1, "", 512), (1, "", 512), (1, "", 512), (1, "", 512), (1, "", 64), (1, "", 8), (1, "", 128), (1, "", 128), (1, "", 128), (1, "", 128), (1, "", 128), (3, "", 128), (3, "", 128), (3, "", 1024)]) d_init_197 ar_boolean (by decide) (by decide) rfl rfl ?_
  refine Wp.putR d_init_199 fa_c79 rfl (by decide) in_TreeSeqSim (Or.inl rfl) ?_
  refine Wp.p (pc' := 203) d_init_202 rfl rfl ?_
  refine Wp.sipush (1024 : Int32) d_init_203 (by decide) ?_
  refine Wp.new_int (a := 21) (z := 1024) (L' := [(0, "TreeSeqSim", 48), (2, "", 128), (1, "", 128), (1, "", 8), (1, "", 512), (1, "", 512), (1, "", 512), (1, "", 512), (1, "", 512), (1, "", 512), (1, "", 512), (1, "", 64), (1, "", 8), (1, "", 128), (1, "", 128), (1, "", 128), (1, "", 128), (1, "", 128), (3, "", 128), (3, "", 128), (3, "", 1024), (1, "", 1024)]) d_init_206 ar_int (by decide) (by decide) rfl rfl ?_
  refine Wp.putR d_init_208 fa_c82 rfl (by decide) in_TreeSeqSim (Or.inl rfl) ?_
  refine Wp.p (pc' := 212) d_init_211 rfl rfl ?_
  refine Wp.sipush (1024 : Int32) d_init_212 (by decide) ?_
  refine Wp.new_int (a := 22) (z := 1024) (L' := [(0, "TreeSeqSim", 48), (2, "", 128), (1, "", 128), (1, "", 8), (1, "", 512), (1, "", 512), (1, "", 512), (1, "", 512), (1, "", 512), (1, "", 512), (1, "", 512), (1, "", 64), (1, "", 8), (1, "", 128), (1, "", 128), (1, "", 128), (1, "", 128), (1, "", 128), (3, "", 128), (3, "", 128), (3, "", 1024), (1, "", 1024), (1, "", 1024)]) d_init_215 ar_int (by decide) (by decide) rfl rfl ?_
  refine Wp.putR d_init_217 fa_c85 rfl (by decide) in_TreeSeqSim (Or.inl rfl) ?_
  refine Wp.p (pc' := 221) d_init_220 rfl rfl ?_
  refine Wp.sipush (128 : Int32) d_init_221 (by decide) ?_
  refine Wp.new_long (a := 23) (z := 128) (L' := [(0, "TreeSeqSim", 48), (2, "", 128), (1, "", 128), (1, "", 8), (1, "", 512), (1, "", 512), (1, "", 512), (1, "", 512), (1, "", 512), (1, "", 512), (1, "", 512), (1, "", 64), (1, "", 8), (1, "", 128), (1, "", 128), (1, "", 128), (1, "", 128), (1, "", 128), (3, "", 128), (3, "", 128), (3, "", 1024), (1, "", 1024), (1, "", 1024), (2, "", 128)]) d_init_224 ar_long (by decide) (by decide) rfl rfl ?_
  refine Wp.putR d_init_226 fa_c88 rfl (by decide) in_TreeSeqSim (Or.inl rfl) ?_
  refine Wp.p (pc' := 230) d_init_229 rfl rfl ?_
  refine Wp.sipush (512 : Int32) d_init_230 (by decide) ?_
  refine Wp.new_int (a := 24) (z := 512) (L' := [(0, "TreeSeqSim", 48), (2, "", 128), (1, "", 128), (1, "", 8), (1, "", 512), (1, "", 512), (1, "", 512), (1, "", 512), (1, "", 512), (1, "", 512), (1, "", 512), (1, "", 64), (1, "", 8), (1, "", 128), (1, "", 128), (1, "", 128), (1, "", 128), (1, "", 128), (3, "", 128), (3, "", 128), (3, "", 1024), (1, "", 1024), (1, "", 1024), (2, "", 128), (1, "", 512)]) d_init_233 ar_int (by decide) (by decide) rfl rfl ?_
  refine Wp.putR d_init_235 fa_c91 rfl (by decide) in_TreeSeqSim (Or.inl rfl) ?_
  refine Wp.p (pc' := 239) d_init_238 rfl rfl ?_
  refine Wp.sipush (512 : Int32) d_init_239 (by decide) ?_
  refine Wp.new_int (a := 25) (z := 512) (L' := [(0, "TreeSeqSim", 48), (2, "", 128), (1, "", 128), (1, "", 8), (1, "", 512), (1, "", 512), (1, "", 512), (1, "", 512), (1, "", 512), (1, "", 512), (1, "", 512), (1, "", 64), (1, "", 8), (1, "", 128), (1, "", 128), (1, "", 128), (1, "", 128), (1, "", 128), (3, "", 128), (3, "", 128), (3, "", 1024), (1, "", 1024), (1, "", 1024), (2, "", 128), (1, "", 512), (1, "", 512)]) d_init_242 ar_int (by decide) (by decide) rfl rfl ?_
  refine Wp.putR d_init_244 fa_c94 rfl (by decide) in_TreeSeqSim (Or.inl rfl) ?_
  refine Wp.p (pc' := 248) d_init_247 rfl rfl ?_
  refine Wp.sipush (512 : Int32) d_init_248 (by decide) ?_
  refine Wp.new_int (a := 26) (z := 512) (L' := [(0, "TreeSeqSim", 48), (2, "", 128), (1, "", 128), (1, "", 8), (1, "", 512), (1, "", 512), (1, "", 512), (1, "", 512), (1, "", 512), (1, "", 512), (1, "", 512), (1, "", 64), (1, "", 8), (1, "", 128), (1, "", 128), (1, "", 128), (1, "", 128), (1, "", 128), (3, "", 128), (3, "", 128), (3, "", 1024), (1, "", 1024), (1, "", 1024), (2, "", 128), (1, "", 512), (1, "", 512), (1, "", 512)]) d_init_251 ar_int (by decide) (by decide) rfl rfl ?_
  refine Wp.putR d_init_253 fa_c97 rfl (by decide) in_TreeSeqSim (Or.inl rfl) ?_
  refine Wp.p (pc' := 257) d_init_256 rfl rfl ?_
  refine Wp.sipush (512 : Int32) d_init_257 (by decide) ?_
  refine Wp.new_int (a := 27) (z := 512) (L' := [(0, "TreeSeqSim", 48), (2, "", 128), (1, "", 128), (1, "", 8), (1, "", 512), (1, "", 512), (1, "", 512), (1, "", 512), (1, "", 512), (1, "", 512), (1, "", 512), (1, "", 64), (1, "", 8), (1, "", 128), (1, "", 128), (1, "", 128), (1, "", 128), (1, "", 128), (3, "", 128), (3, "", 128), (3, "", 1024), (1, "", 1024), (1, "", 1024), (2, "", 128), (1, "", 512), (1, "", 512), (1, "", 512), (1, "", 512)]) d_init_260 ar_int (by decide) (by decide) rfl rfl ?_
  refine Wp.putR d_init_262 fa_c100 rfl (by decide) in_TreeSeqSim (Or.inl rfl) ?_
  refine Wp.p (pc' := 266) d_init_265 rfl rfl ?_
  refine Wp.sipush (512 : Int32) d_init_266 (by decide) ?_
  refine Wp.new_int (a := 28) (z := 512) (L' := [(0, "TreeSeqSim", 48), (2, "", 128), (1, "", 128), (1, "", 8), (1, "", 512), (1, "", 512), (1, "", 512), (1, "", 512), (1, "", 512), (1, "", 512), (1, "", 512), (1, "", 64), (1, "", 8), (1, "", 128), (1, "", 128), (1, "", 128), (1, "", 128), (1, "", 128), (3, "", 128), (3, "", 128), (3, "", 1024), (1, "", 1024), (1, "", 1024), (2, "", 128), (1, "", 512), (1, "", 512), (1, "", 512), (1, "", 512), (1, "", 512)]) d_init_269 ar_int (by decide) (by decide) rfl rfl ?_
  refine Wp.putR d_init_271 fa_c103 rfl (by decide) in_TreeSeqSim (Or.inl rfl) ?_
  refine Wp.p (pc' := 275) d_init_274 rfl rfl ?_
  refine Wp.sipush (512 : Int32) d_init_275 (by decide) ?_
  refine Wp.new_int (a := 29) (z := 512) (L' := [(0, "TreeSeqSim", 48), (2, "", 128), (1, "", 128), (1, "", 8), (1, "", 512), (1, "", 512), (1, "", 512), (1, "", 512), (1, "", 512), (1, "", 512), (1, "", 512), (1, "", 64), (1, "", 8), (1, "", 128), (1, "", 128), (1, "", 128), (1, "", 128), (1, "", 128), (3, "", 128), (3, "", 128), (3, "", 1024), (1, "", 1024), (1, "", 1024), (2, "", 128), (1, "", 512), (1, "", 512), (1, "", 512), (1, "", 512), (1, "", 512), (1, "", 512)]) d_init_278 ar_int (by decide) (by decide) rfl rfl ?_
  refine Wp.putR d_init_280 fa_c106 rfl (by decide) in_TreeSeqSim (Or.inl rfl) ?_
  refine Wp.p (pc' := 284) d_init_283 rfl rfl ?_
  refine Wp.sipush (512 : Int32) d_init_284 (by decide) ?_
  refine Wp.new_int (a := 30) (z := 512) (L' := [(0, "TreeSeqSim", 48), (2, "", 128), (1, "", 128), (1, "", 8), (1, "", 512), (1, "", 512), (1, "", 512), (1, "", 512), (1, "", 512), (1, "", 512), (1, "", 512), (1, "", 64), (1, "", 8), (1, "", 128), (1, "", 128), (1, "", 128), (1, "", 128), (1, "", 128), (3, "", 128), (3, "", 128), (3, "", 1024), (1, "", 1024), (1, "", 1024), (2, "", 128), (1, "", 512), (1, "", 512), (1, "", 512), (1, "", 512), (1, "", 512), (1, "", 512), (1, "", 512)]) d_init_287 ar_int (by decide) (by decide) rfl rfl ?_
  refine Wp.putR d_init_289 fa_c109 rfl (by decide) in_TreeSeqSim (Or.inl rfl) ?_
  refine Wp.p (pc' := 293) d_init_292 rfl rfl ?_
  refine Wp.p (pc' := 294) d_init_293 rfl rfl ?_
  refine Wp.p (pc' := 295) d_init_294 rfl rfl ?_
  refine Wp.iconst (1 : Int32) d_init_295 (by decide) ?_
  obtain ⟨v1, e1⟩ : ∃ z : Int32, z = (if x1 < (1 : Int32) then (1 : Int32) else x1) := ⟨_, rfl⟩
  suffices K : W_init 301 [.val (.ref 0), .val (.int x1), .val (.int x2), .val (.int v1), .unset, .unset] [] (LL1, (up (up (up mi 0 10 (128 : Int32)) 0 12 (512 : Int32)) 0 14 (512 : Int32)), ml, RR1) Q by
    refine Wp.icmp_ge d_init_296 rfl (fun q0 => ?_) (fun q0 => ?_)
    ·
      rw [if_neg q0] at e1; subst e1
      exact K
    ·
      refine Wp.iconst (1 : Int32) d_init_299 (by decide) ?_
      refine Wp.p (pc' := 301) d_init_300 rfl rfl ?_
      rw [if_pos q0] at e1; subst e1
      exact K
  refine Wp.p (pc' := 302) d_init_301 rfl rfl ?_
  refine Wp.iconst (4 : Int32) d_init_302 (by decide) ?_
  obtain ⟨v2, e2⟩ : ∃ z : Int32, z = (if (4 : Int32) < v1 then (4 : Int32) else v1) := ⟨_, rfl⟩
  suffices K : W_init 308 [.val (.ref 0), .val (.int x1), .val (.int x2), .val (.int v2), .unset, .unset] [] (LL1, (up (up (up mi 0 10 (128 : Int32)) 0 12 (512 : Int32)) 0 14 (512 : Int32)), ml, RR1) Q by
    refine Wp.icmp_le d_init_303 rfl (fun q0 => ?_) (fun q0 => ?_)
    ·
      rw [if_neg q0] at e2; subst e2
      exact K
    ·
      refine Wp.iconst (4 : Int32) d_init_306 (by decide) ?_
      refine Wp.p (pc' := 308) d_init_307 rfl rfl ?_
      rw [if_pos q0] at e2; subst e2
      exact K
  refine Wp.p (pc' := 309) d_init_308 rfl rfl ?_
  refine Wp.p (pc' := 311) d_init_309 rfl rfl ?_
  refine Wp.p (pc' := 313) d_init_311 rfl rfl ?_
  refine Wp.iconst (2 : Int32) d_init_313 (by decide) ?_
  obtain ⟨v3, e3⟩ : ∃ z : Int32, z = (if x2 < (2 : Int32) then (2 : Int32) else x2) := ⟨_, rfl⟩
  suffices K : W_init 320 [.val (.ref 0), .val (.int x1), .val (.int x2), .val (.int v2), .val (.int v3), .unset] [] (LL1, (up (up (up mi 0 10 (128 : Int32)) 0 12 (512 : Int32)) 0 14 (512 : Int32)), ml, RR1) Q by
    refine Wp.icmp_ge d_init_314 rfl (fun q0 => ?_) (fun q0 => ?_)
    ·
      rw [if_neg q0] at e3; subst e3
      exact K
    ·
      refine Wp.iconst (2 : Int32) d_init_317 (by decide) ?_
      refine Wp.p (pc' := 320) d_init_318 rfl rfl ?_
      rw [if_pos q0] at e3; subst e3
      exact K
  refine Wp.p (pc' := 322) d_init_320 rfl rfl ?_
  refine Wp.bipush (8 : Int32) d_init_322 (by decide) ?_
  obtain ⟨v4, e4⟩ : ∃ z : Int32, z = (if (8 : Int32) < v3 then (8 : Int32) else v3) := ⟨_, rfl⟩
  suffices K : W_init 331 [.val (.ref 0), .val (.int x1), .val (.int x2), .val (.int v2), .val (.int v4), .unset] [] (LL1, (up (up (up mi 0 10 (128 : Int32)) 0 12 (512 : Int32)) 0 14 (512 : Int32)), ml, RR1) Q by
    refine Wp.icmp_le d_init_324 rfl (fun q0 => ?_) (fun q0 => ?_)
    ·
      rw [if_neg q0] at e4; subst e4
      exact K
    ·
      refine Wp.bipush (8 : Int32) d_init_327 (by decide) ?_
      refine Wp.p (pc' := 331) d_init_329 rfl rfl ?_
      rw [if_pos q0] at e4; subst e4
      exact K
  refine Wp.p (pc' := 332) d_init_331 rfl rfl ?_
  refine Wp.p (pc' := 333) d_init_332 rfl rfl ?_
  refine Wp.putI d_init_333 fa_c112 rfl (by decide) in_TreeSeqSim (Or.inl rfl) ?_
  refine Wp.p (pc' := 337) d_init_336 rfl rfl ?_
  refine Wp.iconst (2 : Int32) d_init_337 (by decide) ?_
  refine Wp.p (pc' := 339) d_init_338 rfl rfl ?_
  refine Wp.p (pc' := 340) d_init_339 rfl rfl ?_
  refine Wp.putI d_init_340 fa_c115 rfl (by decide) in_TreeSeqSim (Or.inl rfl) ?_
  refine Wp.p (pc' := 344) d_init_343 rfl rfl ?_
  refine Wp.p (pc' := 346) d_init_344 rfl rfl ?_
  refine Wp.putI d_init_346 fa_c118 rfl (by decide) in_TreeSeqSim (Or.inl rfl) ?_
  refine Wp.p (pc' := 350) d_init_349 rfl rfl ?_
  refine Wp.sipush (12345 : Int32) d_init_350 (by decide) ?_
  refine Wp.putI d_init_353 fa_c121 rfl (by decide) in_TreeSeqSim (Or.inl rfl) ?_
  refine Wp.p (pc' := 357) d_init_356 rfl rfl ?_
  refine Wp.bipush (25 : Int32) d_init_357 (by decide) ?_
  refine Wp.putI d_init_359 fa_c124 rfl (by decide) in_TreeSeqSim (Or.inl rfl) ?_
  refine Wp.p (pc' := 363) d_init_362 rfl rfl ?_
  refine Wp.bipush (25 : Int32) d_init_363 (by decide) ?_
  refine Wp.putI d_init_365 fa_c127 rfl (by decide) in_TreeSeqSim (Or.inl rfl) ?_
  refine Wp.p (pc' := 369) d_init_368 rfl rfl ?_
  refine Wp.iconst (0 : Int32) d_init_369 (by decide) ?_
  refine Wp.putI d_init_370 fa_c130 rfl (by decide) in_TreeSeqSim (Or.inl rfl) ?_
  refine Wp.p (pc' := 374) d_init_373 rfl rfl ?_
  refine Wp.iconst (0 : Int32) d_init_374 (by decide) ?_
  refine Wp.putI d_init_375 fa_c133 rfl (by decide) in_TreeSeqSim (Or.inl rfl) ?_
  refine Wp.p (pc' := 379) d_init_378 rfl rfl ?_
  refine Wp.lconst (0 : Int64) d_init_379 (by decide) ?_
  refine Wp.putJ d_init_380 fa_c136 rfl (by decide) in_TreeSeqSim (Or.inl rfl) ?_
  refine Wp.p (pc' := 384) d_init_383 rfl rfl ?_
  refine Wp.p (pc' := 385) d_init_384 rfl rfl ?_
  refine Wp.getI ((2 : Int32) * v2) d_init_385 fa_c115 rfl rfl ?_
  refine Wp.putI d_init_388 fa_c140 rfl (by decide) in_TreeSeqSim (Or.inl rfl) ?_
  refine Wp.p (pc' := 392) d_init_391 rfl rfl ?_
  refine Wp.iconst (0 : Int32) d_init_392 (by decide) ?_
  refine Wp.putI d_init_393 fa_c143 rfl (by decide) in_TreeSeqSim (Or.inl rfl) ?_
  refine Wp.p (pc' := 397) d_init_396 rfl rfl ?_
  refine Wp.iconst (0 : Int32) d_init_397 (by decide) ?_
  refine Wp.putI d_init_398 fa_c146 rfl (by decide) in_TreeSeqSim (Or.inl rfl) ?_
  refine Wp.iconst (0 : Int32) d_init_401 (by decide) ?_
  refine Wp.p (pc' := 404) d_init_402 rfl rfl ?_
  exact (h1 v1 e1 v2 e2 v3 e3 v4 e4)
set_option maxRecDepth 65536 in
set_option maxHeartbeats 4000000 in
theorem L_init_404 {x1 x2 x3 x4 x5 : Int32} {mi : Nat → Nat → Int32} {ml : Nat → Nat → Int64} {Q : Option Value → EMem → Prop}
    (h1 : ¬ x5 < (mi 0 81) → W_init 456 [.val (.ref 0), .val (.int x1), .val (.int x2), .val (.int x3), .val (.int x4), .val (.int (0 : Int32))] [] (LL1, mi, ml, RR1) Q)
    (b1 : x5 < (mi 0 81) → inb x5 128 = true)
    (b2 : x5 < (mi 0 81) → inb x5 8 = true)
    (h2 : x5 < (mi 0 81) → W_init 404 [.val (.ref 0), .val (.int x1), .val (.int x2), .val (.int x3), .val (.int x4), .val (.int (x5 + (1 : Int32)))] [] (LL1, (up (up (up mi 2 (Int32.toNatClampNeg x5) x5) 3 (Int32.toNatClampNeg x5) x5) 12 (Int32.toNatClampNeg x5) (-1 : Int32)), (up ml 1 (Int32.toNatClampNeg x5) (0 : Int64)), RR1) Q) :
    W_init 404 [.val (.ref 0), .val (.int x1), .val (.int x2), .val (.int x3), .val (.int x4), .val (.int x5)] [] (LL1, mi, ml, RR1) Q := by
  refine Wp.p (pc' := 406) d_init_404 rfl rfl ?_
  refine Wp.p (pc' := 407) d_init_406 rfl rfl ?_
  refine Wp.getI (mi 0 81) d_init_407 fa_c115 rfl rfl ?_
  refine Wp.icmp_ge d_init_410 rfl (fun c1 => ?_) (fun c1 => ?_)
  ·
    refine Wp.iconst (0 : Int32) d_init_453 (by decide) ?_
    refine Wp.p (pc' := 456) d_init_454 rfl rfl ?_
    exact (h1 c1)
  ·
    refine Wp.p (pc' := 414) d_init_413 rfl rfl ?_
    refine Wp.getR (b := 1) d_init_414 fa_c19 rfl rfl ?_
    refine Wp.p (pc' := 419) d_init_417 rfl rfl ?_
    refine Wp.lconst (0 : Int64) d_init_419 (by decide) ?_
    refine Wp.lastore d_init_420 rfl (k := (Int32.toNatClampNeg x5)) rfl (b1 c1) (by decide) ?_
    refine Wp.p (pc' := 422) d_init_421 rfl rfl ?_
    refine Wp.getR (b := 2) d_init_422 fa_c23 rfl rfl ?_
    refine Wp.p (pc' := 427) d_init_425 rfl rfl ?_
    refine Wp.p (pc' := 429) d_init_427 rfl rfl ?_
    refine Wp.iastore d_init_429 rfl (k := (Int32.toNatClampNeg x5)) rfl (b1 c1) (by decide) ?_
    refine Wp.p (pc' := 431) d_init_430 rfl rfl ?_
    refine Wp.getR (b := 3) d_init_431 fa_c27 rfl rfl ?_
    refine Wp.p (pc' := 436) d_init_434 rfl rfl ?_
    refine Wp.p (pc' := 438) d_init_436 rfl rfl ?_
    refine Wp.iastore d_init_438 rfl (k := (Int32.toNatClampNeg x5)) rfl (b2 c1) (by decide) ?_
    refine Wp.p (pc' := 440) d_init_439 rfl rfl ?_
    refine Wp.getR (b := 12) d_init_440 fa_c54 rfl rfl ?_
    refine Wp.p (pc' := 445) d_init_443 rfl rfl ?_
    refine Wp.iconst (-1 : Int32) d_init_445 (by decide) ?_
    refine Wp.iastore d_init_446 rfl (k := (Int32.toNatClampNeg x5)) rfl (b2 c1) (by decide) ?_
    refine Wp.iinc (1 : Int32) d_init_447 (by decide) rfl rfl ?_
    refine Wp.p (pc' := 404) d_init_450 rfl rfl ?_
    exact (h2 c1)
set_option maxRecDepth 65536 in
set_option maxHeartbeats 4000000 in
theorem L_init_456 {x1 x2 x3 x4 x5 : Int32} {mi : Nat → Nat → Int32} {ml : Nat → Nat → Int64} {Q : Option Value → EMem → Prop}
    (h1 : ¬ x5 < (64 : Int32) → Q none (LL1, mi, ml, RR1))
    (b1 : x5 < (64 : Int32) → inb x5 64 = true)
    (h2 : x5 < (64 : Int32) → W_init 456 [.val (.ref 0), .val (.int x1), .val (.int x2), .val (.int x3), .val (.int x4), .val (.int (x5 + (1 : Int32)))] [] (LL1, (up mi 11 (Int32.toNatClampNeg x5) (-1 : Int32)), ml, RR1) Q) :
    W_init 456 [.val (.ref 0), .val (.int x1), .val (.int x2), .val (.int x3), .val (.int x4), .val (.int x5)] [] (LL1, mi, ml, RR1) Q := by
  refine Wp.p (pc' := 458) d_init_456 rfl rfl ?_
  refine Wp.bipush (64 : Int32) d_init_458 (by decide) ?_
  refine Wp.icmp_ge d_init_460 rfl (fun c1 => ?_) (fun c1 => ?_)
  ·
    refine Wp.retV d_init_477 ?_
    exact (h1 c1)
  ·
    refine Wp.p (pc' := 464) d_init_463 rfl rfl ?_
    refine Wp.getR (b := 11) d_init_464 fa_c51 rfl rfl ?_
    refine Wp.p (pc' := 469) d_init_467 rfl rfl ?_
    refine Wp.iconst (-1 : Int32) d_init_469 (by decide) ?_
    refine Wp.iastore d_init_470 rfl (k := (Int32.toNatClampNeg x5)) rfl (b1 c1) (by decide) ?_
    refine Wp.iinc (1 : Int32) d_init_471 (by decide) rfl rfl ?_
    refine Wp.p (pc' := 456) d_init_474 rfl rfl ?_
    exact (h2 c1)
set_option maxRecDepth 65536 in
set_option maxHeartbeats 4000000 in
theorem L_addMutation_0 {x1 x2 x3 : Int32} {mi : Nat → Nat → Int32} {ml : Nat → Nat → Int64} {Q : Option Value → EMem → Prop}
    (h1 : W_addMutation 3 [.val (.ref 0), .val (.int x1), .val (.int x2), .val (.int x3), .val (.int (0 : Int32))] [] (LL1, mi, ml, RR1) Q) :
    W_addMutation 0 [.val (.ref 0), .val (.int x1), .val (.int x2), .val (.int x3), .unset] [] (LL1, mi, ml, RR1) Q := by
  refine Wp.iconst (0 : Int32) d_addMutation_0 (by decide) ?_
  refine Wp.p (pc' := 3) d_addMutation_1 rfl rfl ?_
  exact h1
set_option maxRecDepth 65536 in
set_option maxHeartbeats 4000000 in
theorem L_addMutation_3 {x1 x2 x3 x4 : Int32} {mi : Nat → Nat → Int32} {ml : Nat → Nat → Int64} {Q : Option Value → EMem → Prop}
    (b1 : ¬ x4 < (mi 0 101) → (mi 0 101) < (mi 0 14) → inb (mi 0 101) 512 = true)
    (h1 : ¬ x4 < (mi 0 101) → (mi 0 101) < (mi 0 14) → Q none (LL1, (up (up (up (up mi 8 (Int32.toNatClampNeg (mi 0 101)) x1) 9 (Int32.toNatClampNeg (mi 0 101)) x2) 10 (Int32.toNatClampNeg (mi 0 101)) x3) 0 101 ((mi 0 101) + (1 : Int32))), ml, RR1))
    (h2 : ¬ x4 < (mi 0 101) → ¬ (mi 0 101) < (mi 0 14) → Q none (LL1, mi, ml, RR1))
    (b2 : x4 < (mi 0 101) → inb x4 512 = true)
    (h3 : x4 < (mi 0 101) → ¬ (mi 8 (Int32.toNatClampNeg x4)) = x1 → W_addMutation 43 [.val (.ref 0), .val (.int x1), .val (.int x2), .val (.int x3), .val (.int x4)] [] (LL1, mi, ml, RR1) Q)
    (b3 : x4 < (mi 0 101) → (mi 8 (Int32.toNatClampNeg x4)) = x1 → inb x4 512 = true)
    (h4 : x4 < (mi 0 101) → (mi 8 (Int32.toNatClampNeg x4)) = x1 → ¬ (mi 9 (Int32.toNatClampNeg x4)) = x2 → W_addMutation 43 [.val (.ref 0), .val (.int x1), .val (.int x2), .val (.int x3), .val (.int x4)] [] (LL1, mi, ml, RR1) Q)
    (b4 : x4 < (mi 0 101) → (mi 8 (Int32.toNatClampNeg x4)) = x1 → (mi 9 (Int32.toNatClampNeg x4)) = x2 → inb x4 512 = true)
    (h5 : x4 < (mi 0 101) → (mi 8 (Int32.toNatClampNeg x4)) = x1 → (mi 9 (Int32.toNatClampNeg x4)) = x2 → Q none (LL1, (up mi 10 (Int32.toNatClampNeg x4) x3), ml, RR1)) :
    W_addMutation 3 [.val (.ref 0), .val (.int x1), .val (.int x2), .val (.int x3), .val (.int x4)] [] (LL1, mi, ml, RR1) Q := by
  refine Wp.p (pc' := 5) d_addMutation_3 rfl rfl ?_
  refine Wp.p (pc' := 6) d_addMutation_5 rfl rfl ?_
  refine Wp.getI (mi 0 101) d_addMutation_6 fa_c146 rfl rfl ?_
  refine Wp.icmp_ge d_addMutation_9 rfl (fun c1 => ?_) (fun c1 => ?_)
  ·
    refine Wp.p (pc' := 50) d_addMutation_49 rfl rfl ?_
    refine Wp.getI (mi 0 101) d_addMutation_50 fa_c146 rfl rfl ?_
    refine Wp.p (pc' := 54) d_addMutation_53 rfl rfl ?_
    refine Wp.getI (mi 0 14) d_addMutation_54 fa_c16 rfl rfl ?_
    refine Wp.icmp_lt d_addMutation_57 rfl (fun c2 => ?_) (fun c2 => ?_)
    ·
      refine Wp.p (pc' := 62) d_addMutation_61 rfl rfl ?_
      refine Wp.getR (b := 8) d_addMutation_62 fa_c42 rfl rfl ?_
      refine Wp.p (pc' := 66) d_addMutation_65 rfl rfl ?_
      refine Wp.getI (mi 0 101) d_addMutation_66 fa_c146 rfl rfl ?_
      refine Wp.p (pc' := 70) d_addMutation_69 rfl rfl ?_
      refine Wp.iastore d_addMutation_70 rfl (k := (Int32.toNatClampNeg (mi 0 101))) rfl (b1 c1 c2) (by decide) ?_
      refine Wp.p (pc' := 72) d_addMutation_71 rfl rfl ?_
      refine Wp.getR (b := 9) d_addMutation_72 fa_c45 rfl rfl ?_
      refine Wp.p (pc' := 76) d_addMutation_75 rfl rfl ?_
      refine Wp.getI (mi 0 101) d_addMutation_76 fa_c146 rfl rfl ?_
      refine Wp.p (pc' := 80) d_addMutation_79 rfl rfl ?_
      refine Wp.iastore d_addMutation_80 rfl (k := (Int32.toNatClampNeg (mi 0 101))) rfl (b1 c1 c2) (by decide) ?_
      refine Wp.p (pc' := 82) d_addMutation_81 rfl rfl ?_
      refine Wp.getR (b := 10) d_addMutation_82 fa_c48 rfl rfl ?_
      refine Wp.p (pc' := 86) d_addMutation_85 rfl rfl ?_
      refine Wp.getI (mi 0 101) d_addMutation_86 fa_c146 rfl rfl ?_
      refine Wp.p (pc' := 90) d_addMutation_89 rfl rfl ?_
      refine Wp.iastore d_addMutation_90 rfl (k := (Int32.toNatClampNeg (mi 0 101))) rfl (b1 c1 c2) (by decide) ?_
      refine Wp.p (pc' := 92) d_addMutation_91 rfl rfl ?_
      refine Wp.p (pc' := 93) d_addMutation_92 rfl rfl ?_
      refine Wp.getI (mi 0 101) d_addMutation_93 fa_c146 rfl rfl ?_
      refine Wp.iconst (1 : Int32) d_addMutation_96 (by decide) ?_
      refine Wp.p (pc' := 98) d_addMutation_97 rfl rfl ?_
      refine Wp.putI d_addMutation_98 fa_c146 rfl (by decide) in_TreeSeqSim (Or.inl rfl) ?_
      refine Wp.retV d_addMutation_101 ?_
      exact (h1 c1 c2)
    ·
      refine Wp.retV d_addMutation_60 ?_
      exact (h2 c1 c2)
  ·
    refine Wp.p (pc' := 13) d_addMutation_12 rfl rfl ?_
    refine Wp.getR (b := 8) d_addMutation_13 fa_c42 rfl rfl ?_
    refine Wp.p (pc' := 18) d_addMutation_16 rfl rfl ?_
    refine Wp.iaload (mi 8 (Int32.toNatClampNeg x4)) d_addMutation_18 rfl (k := (Int32.toNatClampNeg x4)) rfl (b2 c1) rfl ?_
    refine Wp.p (pc' := 20) d_addMutation_19 rfl rfl ?_
    refine Wp.icmp_ne d_addMutation_20 rfl (fun c3 => ?_) (fun c3 => ?_)
    ·
      exact (h3 c1 c3)
    ·
      refine Wp.p (pc' := 24) d_addMutation_23 rfl rfl ?_
      refine Wp.getR (b := 9) d_addMutation_24 fa_c45 rfl rfl ?_
      refine Wp.p (pc' := 29) d_addMutation_27 rfl rfl ?_
      refine Wp.iaload (mi 9 (Int32.toNatClampNeg x4)) d_addMutation_29 rfl (k := (Int32.toNatClampNeg x4)) rfl (b3 c1 c3) rfl ?_
      refine Wp.p (pc' := 31) d_addMutation_30 rfl rfl ?_
      refine Wp.icmp_ne d_addMutation_31 rfl (fun c4 => ?_) (fun c4 => ?_)
      ·
        exact (h4 c1 c3 c4)
      ·
        refine Wp.p (pc' := 35) d_addMutation_34 rfl rfl ?_
        refine Wp.getR (b := 10) d_addMutation_35 fa_c48 rfl rfl ?_
        refine Wp.p (pc' := 40) d_addMutation_38 rfl rfl ?_
        refine Wp.p (pc' := 41) d_addMutation_40 rfl rfl ?_
        refine Wp.iastore d_addMutation_41 rfl (k := (Int32.toNatClampNeg x4)) rfl (b4 c1 c3 c4) (by decide) ?_
        refine Wp.retV d_addMutation_42 ?_
        exact (h5 c1 c3 c4)
set_option maxRecDepth 65536 in
set_option maxHeartbeats 4000000 in
theorem L_addMutation_43 {x1 x2 x3 x4 : Int32} {mi : Nat → Nat → Int32} {ml : Nat → Nat → Int64} {Q : Option Value → EMem → Prop}
    (h1 : W_addMutation 3 [.val (.ref 0), .val (.int x1), .val (.int x2), .val (.int x3), .val (.int (x4 + (1 : Int32)))] [] (LL1, mi, ml, RR1) Q) :
    W_addMutation 43 [.val (.ref 0), .val (.int x1), .val (.int x2), .val (.int x3), .val (.int x4)] [] (LL1, mi, ml, RR1) Q := by
  refine Wp.iinc (1 : Int32) d_addMutation_43 (by decide) rfl rfl ?_
  refine Wp.p (pc' := 3) d_addMutation_46 rfl rfl ?_
  exact h1
set_option maxRecDepth 65536 in
set_option maxHeartbeats 4000000 in
theorem L_mutate_0 {x1 x2 : Int32} {mi : Nat → Nat → Int32} {ml : Nat → Nat → Int64} {Q : Option Value → EMem → Prop}
    (h1 : x1 < (0 : Int32) → Q (some (.int (-1 : Int32))) (LL1, mi, ml, RR1))
    (h2 : ¬ x1 < (0 : Int32) → x1 < (mi 0 81) → x2 < (0 : Int32) → Q (some (.int (-1 : Int32))) (LL1, mi, ml, RR1))
    (b1 : ¬ x1 < (0 : Int32) → x1 < (mi 0 81) → ¬ x2 < (0 : Int32) → x2 < (mi 0 83) → inb x1 8 = true)
    (h3 : ¬ x1 < (0 : Int32) → x1 < (mi 0 81) → ¬ x2 < (0 : Int32) → x2 < (mi 0 83) → W_addMutation 0 [.val (.ref 0), .val (.int (mi 3 (Int32.toNatClampNeg x1))), .val (.int x2), .val (.int ((mi 0 93) + (1 : Int32))), .unset] [] (LL1, (up mi 0 93 ((mi 0 93) + (1 : Int32))), ml, RR1) (fun v M' => W_mutate 53 [.val (.ref 0), .val (.int x1), .val (.int x2)] (v.toList ++ []) M' Q))
    (h4 : ¬ x1 < (0 : Int32) → x1 < (mi 0 81) → ¬ x2 < (0 : Int32) → ¬ x2 < (mi 0 83) → Q (some (.int (-1 : Int32))) (LL1, mi, ml, RR1))
    (h5 : ¬ x1 < (0 : Int32) → ¬ x1 < (mi 0 81) → Q (some (.int (-1 : Int32))) (LL1, mi, ml, RR1)) :
    W_mutate 0 [.val (.ref 0), .val (.int x1), .val (.int x2)] [] (LL1, mi, ml, RR1) Q := by
  refine Wp.p (pc' := 1) d_mutate_0 rfl rfl ?_
  refine Wp.if_lt d_mutate_1 rfl (fun c1 => ?_) (fun c1 => ?_)
  ·
    refine Wp.iconst (-1 : Int32) d_mutate_12 (by decide) ?_
    refine Wp.retI d_mutate_13 ?_
    exact (h1 c1)
  ·
    refine Wp.p (pc' := 5) d_mutate_4 rfl rfl ?_
    refine Wp.p (pc' := 6) d_mutate_5 rfl rfl ?_
    refine Wp.getI (mi 0 81) d_mutate_6 fa_c115 rfl rfl ?_
    refine Wp.icmp_lt d_mutate_9 rfl (fun c2 => ?_) (fun c2 => ?_)
    ·
      refine Wp.p (pc' := 15) d_mutate_14 rfl rfl ?_
      refine Wp.if_lt d_mutate_15 rfl (fun c3 => ?_) (fun c3 => ?_)
      ·
        refine Wp.iconst (-1 : Int32) d_mutate_26 (by decide) ?_
        refine Wp.retI d_mutate_27 ?_
        exact (h2 c1 c2 c3)
      ·
        refine Wp.p (pc' := 19) d_mutate_18 rfl rfl ?_
        refine Wp.p (pc' := 20) d_mutate_19 rfl rfl ?_
        refine Wp.getI (mi 0 83) d_mutate_20 fa_c118 rfl rfl ?_
        refine Wp.icmp_lt d_mutate_23 rfl (fun c4 => ?_) (fun c4 => ?_)
        ·
          refine Wp.p (pc' := 29) d_mutate_28 rfl rfl ?_
          refine Wp.p (pc' := 30) d_mutate_29 rfl rfl ?_
          refine Wp.getI (mi 0 93) d_mutate_30 fa_c133 rfl rfl ?_
          refine Wp.iconst (1 : Int32) d_mutate_33 (by decide) ?_
          refine Wp.p (pc' := 35) d_mutate_34 rfl rfl ?_
          refine Wp.putI d_mutate_35 fa_c133 rfl (by decide) in_TreeSeqSim (Or.inl rfl) ?_
          refine Wp.p (pc' := 39) d_mutate_38 rfl rfl ?_
          refine Wp.p (pc' := 40) d_mutate_39 rfl rfl ?_
          refine Wp.getR (b := 3) d_mutate_40 fa_c27 rfl rfl ?_
          refine Wp.p (pc' := 44) d_mutate_43 rfl rfl ?_
          refine Wp.iaload (mi 3 (Int32.toNatClampNeg x1)) d_mutate_44 rfl (k := (Int32.toNatClampNeg x1)) rfl (b1 c1 c2 c3 c4) rfl ?_
          refine Wp.p (pc' := 46) d_mutate_45 rfl rfl ?_
          refine Wp.p (pc' := 47) d_mutate_46 rfl rfl ?_
          refine Wp.getI ((mi 0 93) + (1 : Int32)) d_mutate_47 fa_c133 rfl rfl ?_
          refine Wp.callP (a := 0) (as := [.int (mi 3 (Int32.toNatClampNeg x1)), .int x2, .int ((mi 0 93) + (1 : Int32))]) (rest := []) (w := 0) (F' := 0) (Lb' := 0) d_mutate_50 ca_c155_1 rfl rfl rfl rfl (by decide) (by decide) (Nat.le_of_ble_eq_true rfl) ?_
          exact (h3 c1 c2 c3 c4)
        ·
          refine Wp.iconst (-1 : Int32) d_mutate_26 (by decide) ?_
          refine Wp.retI d_mutate_27 ?_
          exact (h4 c1 c2 c3 c4)
    ·
      refine Wp.iconst (-1 : Int32) d_mutate_12 (by decide) ?_
      refine Wp.retI d_mutate_13 ?_
      exact (h5 c1 c2)
set_option maxRecDepth 65536 in
set_option maxHeartbeats 4000000 in
theorem L_mutate_53 {x1 x2 : Int32} {mi : Nat → Nat → Int32} {ml : Nat → Nat → Int64} {Q : Option Value → EMem → Prop}
    (h1 : Q (some (.int (mi 0 93))) (LL1, mi, ml, RR1)) :
    W_mutate 53 [.val (.ref 0), .val (.int x1), .val (.int x2)] [] (LL1, mi, ml, RR1) Q := by
  refine Wp.p (pc' := 54) d_mutate_53 rfl rfl ?_
  refine Wp.getI (mi 0 93) d_mutate_54 fa_c133 rfl rfl ?_
  refine Wp.retI d_mutate_57 ?_
  exact h1
set_option maxRecDepth 65536 in
set_option maxHeartbeats 4000000 in
theorem L_mutationSite_0 {x1 : Int32} {mi : Nat → Nat → Int32} {ml : Nat → Nat → Int64} {Q : Option Value → EMem → Prop}
    (b1 : ¬ x1 < (0 : Int32) → x1 < (mi 0 81) → ¬ (mi 0 91) = (0 : Int32) → inb x1 8 = true)
    (h1 : ∀ v1 : Int32, v1 = (if x1 < (0 : Int32) then (-1 : Int32) else (if x1 < (mi 0 81) then (if (mi 0 91) = (0 : Int32) then (-1 : Int32) else (mi 12 (Int32.toNatClampNeg x1))) else (-1 : Int32))) → Q (some (.int v1)) (LL1, mi, ml, RR1)) :
    W_mutationSite 0 [.val (.ref 0), .val (.int x1)] [] (LL1, mi, ml, RR1) Q := by
  refine Wp.p (pc' := 1) d_mutationSite_0 rfl rfl ?_
  obtain ⟨v1, e1⟩ : ∃ z : Int32, z = (if x1 < (0 : Int32) then (-1 : Int32) else (if x1 < (mi 0 81) then (if (mi 0 91) = (0 : Int32) then (-1 : Int32) else (mi 12 (Int32.toNatClampNeg x1))) else (-1 : Int32))) := ⟨_, rfl⟩
  suffices K : Q (some (.int v1)) (LL1, mi, ml, RR1) by
    refine Wp.if_lt d_mutationSite_1 rfl (fun q0 => ?_) (fun q0 => ?_)
    ·
      refine Wp.iconst (-1 : Int32) d_mutationSite_12 (by decide) ?_
      refine Wp.retI d_mutationSite_13 ?_
      rw [if_pos q0] at e1; subst e1
      exact K
    ·
      refine Wp.p (pc' := 5) d_mutationSite_4 rfl rfl ?_
      refine Wp.p (pc' := 6) d_mutationSite_5 rfl rfl ?_
      refine Wp.getI (mi 0 81) d_mutationSite_6 fa_c115 rfl rfl ?_
      refine Wp.icmp_lt d_mutationSite_9 rfl (fun q1 => ?_) (fun q1 => ?_)
      ·
        refine Wp.p (pc' := 15) d_mutationSite_14 rfl rfl ?_
        refine Wp.getI (mi 0 91) d_mutationSite_15 fa_c130 rfl rfl ?_
        refine Wp.if_ne d_mutationSite_18 rfl (fun q2 => ?_) (fun q2 => ?_)
        ·
          refine Wp.p (pc' := 24) d_mutationSite_23 rfl rfl ?_
          refine Wp.getR (b := 12) d_mutationSite_24 fa_c54 rfl rfl ?_
          refine Wp.p (pc' := 28) d_mutationSite_27 rfl rfl ?_
          refine Wp.iaload (mi 12 (Int32.toNatClampNeg x1)) d_mutationSite_28 rfl (k := (Int32.toNatClampNeg x1)) rfl (b1 q0 q1 q2) rfl ?_
          refine Wp.retI d_mutationSite_29 ?_
          rw [if_neg q0, if_pos q1, if_neg q2] at e1; subst e1
          exact K
        ·
          refine Wp.iconst (-1 : Int32) d_mutationSite_21 (by decide) ?_
          refine Wp.retI d_mutationSite_22 ?_
          rw [if_neg q0, if_pos q1, if_pos q2] at e1; subst e1
          exact K
      ·
        refine Wp.iconst (-1 : Int32) d_mutationSite_12 (by decide) ?_
        refine Wp.retI d_mutationSite_13 ?_
        rw [if_neg q0, if_neg q1] at e1; subst e1
        exact K
  exact (h1 v1 e1)
set_option maxRecDepth 65536 in
set_option maxHeartbeats 4000000 in
theorem L_fillParentsAt_0 {x1 : Int32} {mi : Nat → Nat → Int32} {ml : Nat → Nat → Int64} {Q : Option Value → EMem → Prop}
    (h1 : W_fillParentsAt 2 [.val (.ref 0), .val (.int x1), .val (.int (0 : Int32)), .unset, .unset] [] (LL1, mi, ml, RR1) Q) :
    W_fillParentsAt 0 [.val (.ref 0), .val (.int x1), .unset, .unset, .unset] [] (LL1, mi, ml, RR1) Q := by
  refine Wp.iconst (0 : Int32) d_fillParentsAt_0 (by decide) ?_
  refine Wp.p (pc' := 2) d_fillParentsAt_1 rfl rfl ?_
  exact h1
set_option maxRecDepth 65536 in
set_option maxHeartbeats 4000000 in
theorem L_fillParentsAt_2 {x1 x2 : Int32} {mi : Nat → Nat → Int32} {ml : Nat → Nat → Int64} {Q : Option Value → EMem → Prop}
    (h1 : ¬ x2 < (mi 0 97) → W_fillParentsAt 25 [.val (.ref 0), .val (.int x1), .val (.int (0 : Int32)), .unset, .unset] [] (LL1, mi, ml, RR1) Q)
    (b1 : x2 < (mi 0 97) → inb x2 128 = true)
    (h2 : x2 < (mi 0 97) → W_fillParentsAt 2 [.val (.ref 0), .val (.int x1), .val (.int (x2 + (1 : Int32))), .unset, .unset] [] (LL1, (up mi 13 (Int32.toNatClampNeg x2) (-1 : Int32)), ml, RR1) Q) :
    W_fillParentsAt 2 [.val (.ref 0), .val (.int x1), .val (.int x2), .unset, .unset] [] (LL1, mi, ml, RR1) Q := by
  refine Wp.p (pc' := 3) d_fillParentsAt_2 rfl rfl ?_
  refine Wp.p (pc' := 4) d_fillParentsAt_3 rfl rfl ?_
  refine Wp.getI (mi 0 97) d_fillParentsAt_4 fa_c140 rfl rfl ?_
  refine Wp.icmp_ge d_fillParentsAt_7 rfl (fun c1 => ?_) (fun c1 => ?_)
  ·
    refine Wp.iconst (0 : Int32) d_fillParentsAt_23 (by decide) ?_
    refine Wp.p (pc' := 25) d_fillParentsAt_24 rfl rfl ?_
    exact (h1 c1)
  ·
    refine Wp.p (pc' := 11) d_fillParentsAt_10 rfl rfl ?_
    refine Wp.getR (b := 13) d_fillParentsAt_11 fa_c57 rfl rfl ?_
    refine Wp.p (pc' := 15) d_fillParentsAt_14 rfl rfl ?_
    refine Wp.iconst (-1 : Int32) d_fillParentsAt_15 (by decide) ?_
    refine Wp.iastore d_fillParentsAt_16 rfl (k := (Int32.toNatClampNeg x2)) rfl (b1 c1) (by decide) ?_
    refine Wp.iinc (1 : Int32) d_fillParentsAt_17 (by decide) rfl rfl ?_
    refine Wp.p (pc' := 2) d_fillParentsAt_20 rfl rfl ?_
    exact (h2 c1)
set_option maxRecDepth 65536 in
set_option maxHeartbeats 4000000 in
theorem L_fillParentsAt_25 {x1 x2 : Int32} {s3 s4 : Slot} {mi : Nat → Nat → Int32} {ml : Nat → Nat → Int64} {Q : Option Value → EMem → Prop} (o3 : One s3) (o4 : One s4)
    (h1 : ¬ x2 < (mi 0 99) → Q none (LL1, mi, ml, RR1))
    (b1 : x2 < (mi 0 99) → inb x2 512 = true)
    (h2 : x2 < (mi 0 99) → x1 < (mi 6 (Int32.toNatClampNeg x2)) → W_fillParentsAt 102 [.val (.ref 0), .val (.int x1), .val (.int x2), s3, s4] [] (LL1, mi, ml, RR1) Q)
    (b2 : x2 < (mi 0 99) → ¬ x1 < (mi 6 (Int32.toNatClampNeg x2)) → inb x2 512 = true)
    (h3 : x2 < (mi 0 99) → ¬ x1 < (mi 6 (Int32.toNatClampNeg x2)) → ¬ x1 < (mi 7 (Int32.toNatClampNeg x2)) → W_fillParentsAt 102 [.val (.ref 0), .val (.int x1), .val (.int x2), s3, s4] [] (LL1, mi, ml, RR1) Q)
    (b3 : x2 < (mi 0 99) → ¬ x1 < (mi 6 (Int32.toNatClampNeg x2)) → x1 < (mi 7 (Int32.toNatClampNeg x2)) → inb x2 512 = true)
    (h4 : x2 < (mi 0 99) → ¬ x1 < (mi 6 (Int32.toNatClampNeg x2)) → x1 < (mi 7 (Int32.toNatClampNeg x2)) → (mi 5 (Int32.toNatClampNeg x2)) < (0 : Int32) → W_fillParentsAt 102 [.val (.ref 0), .val (.int x1), .val (.int x2), .val (.int (mi 5 (Int32.toNatClampNeg x2))), .val (.int (mi 4 (Int32.toNatClampNeg x2)))] [] (LL1, mi, ml, RR1) Q)
    (h5 : x2 < (mi 0 99) → ¬ x1 < (mi 6 (Int32.toNatClampNeg x2)) → x1 < (mi 7 (Int32.toNatClampNeg x2)) → ¬ (mi 5 (Int32.toNatClampNeg x2)) < (0 : Int32) → ¬ (mi 5 (Int32.toNatClampNeg x2)) < (mi 0 97) → W_fillParentsAt 102 [.val (.ref 0), .val (.int x1), .val (.int x2), .val (.int (mi 5 (Int32.toNatClampNeg x2))), .val (.int (mi 4 (Int32.toNatClampNeg x2)))] [] (LL1, mi, ml, RR1) Q)
    (h6 : x2 < (mi 0 99) → ¬ x1 < (mi 6 (Int32.toNatClampNeg x2)) → x1 < (mi 7 (Int32.toNatClampNeg x2)) → ¬ (mi 5 (Int32.toNatClampNeg x2)) < (0 : Int32) → (mi 5 (Int32.toNatClampNeg x2)) < (mi 0 97) → (mi 4 (Int32.toNatClampNeg x2)) < (0 : Int32) → W_fillParentsAt 102 [.val (.ref 0), .val (.int x1), .val (.int x2), .val (.int (mi 5 (Int32.toNatClampNeg x2))), .val (.int (mi 4 (Int32.toNatClampNeg x2)))] [] (LL1, mi, ml, RR1) Q)
    (h7 : x2 < (mi 0 99) → ¬ x1 < (mi 6 (Int32.toNatClampNeg x2)) → x1 < (mi 7 (Int32.toNatClampNeg x2)) → ¬ (mi 5 (Int32.toNatClampNeg x2)) < (0 : Int32) → (mi 5 (Int32.toNatClampNeg x2)) < (mi 0 97) → ¬ (mi 4 (Int32.toNatClampNeg x2)) < (0 : Int32) → ¬ (mi 4 (Int32.toNatClampNeg x2)) < (mi 0 97) → W_fillParentsAt 102 [.val (.ref 0), .val (.int x1), .val (.int x2), .val (.int (mi 5 (Int32.toNatClampNeg x2))), .val (.int (mi 4 (Int32.toNatClampNeg x2)))] [] (LL1, mi, ml, RR1) Q)
    (b4 : x2 < (mi 0 99) → ¬ x1 < (mi 6 (Int32.toNatClampNeg x2)) → x1 < (mi 7 (Int32.toNatClampNeg x2)) → ¬ (mi 5 (Int32.toNatClampNeg x2)) < (0 : Int32) → (mi 5 (Int32.toNatClampNeg x2)) < (mi 0 97) → ¬ (mi 4 (Int32.toNatClampNeg x2)) < (0 : Int32) → (mi 4 (Int32.toNatClampNeg x2)) < (mi 0 97) → inb (mi 5 (Int32.toNatClampNeg x2)) 128 = true)
    (h8 : x2 < (mi 0 99) → ¬ x1 < (mi 6 (Int32.toNatClampNeg x2)) → x1 < (mi 7 (Int32.toNatClampNeg x2)) → ¬ (mi 5 (Int32.toNatClampNeg x2)) < (0 : Int32) → (mi 5 (Int32.toNatClampNeg x2)) < (mi 0 97) → ¬ (mi 4 (Int32.toNatClampNeg x2)) < (0 : Int32) → (mi 4 (Int32.toNatClampNeg x2)) < (mi 0 97) → W_fillParentsAt 102 [.val (.ref 0), .val (.int x1), .val (.int x2), .val (.int (mi 5 (Int32.toNatClampNeg x2))), .val (.int (mi 4 (Int32.toNatClampNeg x2)))] [] (LL1, (up mi 13 (Int32.toNatClampNeg (mi 5 (Int32.toNatClampNeg x2))) (mi 4 (Int32.toNatClampNeg x2))), ml, RR1) Q) :
    W_fillParentsAt 25 [.val (.ref 0), .val (.int x1), .val (.int x2), s3, s4] [] (LL1, mi, ml, RR1) Q := by
  refine Wp.p (pc' := 26) d_fillParentsAt_25 rfl rfl ?_
  refine Wp.p (pc' := 27) d_fillParentsAt_26 rfl rfl ?_
  refine Wp.getI (mi 0 99) d_fillParentsAt_27 fa_c143 rfl rfl ?_
  refine Wp.icmp_ge d_fillParentsAt_30 rfl (fun c1 => ?_) (fun c1 => ?_)
  ·
    refine Wp.retV d_fillParentsAt_108 ?_
    exact (h1 c1)
  ·
    refine Wp.p (pc' := 34) d_fillParentsAt_33 rfl rfl ?_
    refine Wp.getR (b := 6) d_fillParentsAt_34 fa_c36 rfl rfl ?_
    refine Wp.p (pc' := 38) d_fillParentsAt_37 rfl rfl ?_
    refine Wp.iaload (mi 6 (Int32.toNatClampNeg x2)) d_fillParentsAt_38 rfl (k := (Int32.toNatClampNeg x2)) rfl (b1 c1) rfl ?_
    refine Wp.p (pc' := 40) d_fillParentsAt_39 rfl rfl ?_
    refine Wp.icmp_gt d_fillParentsAt_40 rfl (fun c2 => ?_) (fun c2 => ?_)
    ·
      exact (h2 c1 c2)
    ·
      refine Wp.p (pc' := 44) d_fillParentsAt_43 rfl rfl ?_
      refine Wp.p (pc' := 45) d_fillParentsAt_44 rfl rfl ?_
      refine Wp.getR (b := 7) d_fillParentsAt_45 fa_c39 rfl rfl ?_
      refine Wp.p (pc' := 49) d_fillParentsAt_48 rfl rfl ?_
      refine Wp.iaload (mi 7 (Int32.toNatClampNeg x2)) d_fillParentsAt_49 rfl (k := (Int32.toNatClampNeg x2)) rfl (b2 c1 c2) rfl ?_
      refine Wp.icmp_ge d_fillParentsAt_50 rfl (fun c3 => ?_) (fun c3 => ?_)
      ·
        exact (h3 c1 c2 c3)
      ·
        refine Wp.p (pc' := 54) d_fillParentsAt_53 rfl rfl ?_
        refine Wp.getR (b := 5) d_fillParentsAt_54 fa_c33 rfl rfl ?_
        refine Wp.p (pc' := 58) d_fillParentsAt_57 rfl rfl ?_
        refine Wp.iaload (mi 5 (Int32.toNatClampNeg x2)) d_fillParentsAt_58 rfl (k := (Int32.toNatClampNeg x2)) rfl (b3 c1 c2 c3) rfl ?_
        refine Wp.istoreO (i := 3) d_fillParentsAt_59 (Or.inr ⟨3, rfl, rfl, rfl⟩) rfl o3 rfl ?_
        show Wp _ _ _ _ _ _ _ 60 _ _ _ _
        refine Wp.p (pc' := 61) d_fillParentsAt_60 rfl rfl ?_
        refine Wp.getR (b := 4) d_fillParentsAt_61 fa_c30 rfl rfl ?_
        refine Wp.p (pc' := 65) d_fillParentsAt_64 rfl rfl ?_
        refine Wp.iaload (mi 4 (Int32.toNatClampNeg x2)) d_fillParentsAt_65 rfl (k := (Int32.toNatClampNeg x2)) rfl (b3 c1 c2 c3) rfl ?_
        refine Wp.istoreO (i := 4) d_fillParentsAt_66 (Or.inl ⟨rfl, rfl⟩) rfl o4 rfl ?_
        show Wp _ _ _ _ _ _ _ 68 _ _ _ _
        refine Wp.p (pc' := 69) d_fillParentsAt_68 rfl rfl ?_
        refine Wp.if_lt d_fillParentsAt_69 rfl (fun c4 => ?_) (fun c4 => ?_)
        ·
          exact (h4 c1 c2 c3 c4)
        ·
          refine Wp.p (pc' := 73) d_fillParentsAt_72 rfl rfl ?_
          refine Wp.p (pc' := 74) d_fillParentsAt_73 rfl rfl ?_
          refine Wp.getI (mi 0 97) d_fillParentsAt_74 fa_c140 rfl rfl ?_
          refine Wp.icmp_ge d_fillParentsAt_77 rfl (fun c5 => ?_) (fun c5 => ?_)
          ·
            exact (h5 c1 c2 c3 c4 c5)
          ·
            refine Wp.p (pc' := 82) d_fillParentsAt_80 rfl rfl ?_
            refine Wp.if_lt d_fillParentsAt_82 rfl (fun c6 => ?_) (fun c6 => ?_)
            ·
              exact (h6 c1 c2 c3 c4 c5 c6)
            ·
              refine Wp.p (pc' := 87) d_fillParentsAt_85 rfl rfl ?_
              refine Wp.p (pc' := 88) d_fillParentsAt_87 rfl rfl ?_
              refine Wp.getI (mi 0 97) d_fillParentsAt_88 fa_c140 rfl rfl ?_
              refine Wp.icmp_ge d_fillParentsAt_91 rfl (fun c7 => ?_) (fun c7 => ?_)
              ·
                exact (h7 c1 c2 c3 c4 c5 c6 c7)
              ·
                refine Wp.p (pc' := 95) d_fillParentsAt_94 rfl rfl ?_
                refine Wp.getR (b := 13) d_fillParentsAt_95 fa_c57 rfl rfl ?_
                refine Wp.p (pc' := 99) d_fillParentsAt_98 rfl rfl ?_
                refine Wp.p (pc' := 101) d_fillParentsAt_99 rfl rfl ?_
                refine Wp.iastore d_fillParentsAt_101 rfl (k := (Int32.toNatClampNeg (mi 5 (Int32.toNatClampNeg x2)))) rfl (b4 c1 c2 c3 c4 c5 c6 c7) (by decide) ?_
                exact (h8 c1 c2 c3 c4 c5 c6 c7)
set_option maxRecDepth 65536 in
set_option maxHeartbeats 4000000 in
theorem L_fillParentsAt_102 {x1 x2 : Int32} {s3 s4 : Slot} {mi : Nat → Nat → Int32} {ml : Nat → Nat → Int64} {Q : Option Value → EMem → Prop} (o3 : One s3) (o4 : One s4)
    (h1 : W_fillParentsAt 25 [.val (.ref 0), .val (.int x1), .val (.int (x2 + (1 : Int32))), s3, s4] [] (LL1, mi, ml, RR1) Q) :
    W_fillParentsAt 102 [.val (.ref 0), .val (.int x1), .val (.int x2), s3, s4] [] (LL1, mi, ml, RR1) Q := by
  refine Wp.iinc (1 : Int32) d_fillParentsAt_102 (by decide) rfl rfl ?_
  refine Wp.p (pc' := 25) d_fillParentsAt_105 rfl rfl ?_
  exact h1
set_option maxRecDepth 65536 in
set_option maxHeartbeats 4000000 in
theorem L_fillMutsAt_0 {x1 : Int32} {mi : Nat → Nat → Int32} {ml : Nat → Nat → Int64} {Q : Option Value → EMem → Prop}
    (h1 : W_fillMutsAt 2 [.val (.ref 0), .val (.int x1), .val (.int (0 : Int32)), .unset] [] (LL1, mi, ml, RR1) Q) :
    W_fillMutsAt 0 [.val (.ref 0), .val (.int x1), .unset, .unset] [] (LL1, mi, ml, RR1) Q := by
  refine Wp.iconst (0 : Int32) d_fillMutsAt_0 (by decide) ?_
  refine Wp.p (pc' := 2) d_fillMutsAt_1 rfl rfl ?_
  exact h1
set_option maxRecDepth 65536 in
set_option maxHeartbeats 4000000 in
theorem L_fillMutsAt_2 {x1 x2 : Int32} {mi : Nat → Nat → Int32} {ml : Nat → Nat → Int64} {Q : Option Value → EMem → Prop}
    (h1 : ¬ x2 < (mi 0 97) → W_fillMutsAt 25 [.val (.ref 0), .val (.int x1), .val (.int (0 : Int32)), .unset] [] (LL1, mi, ml, RR1) Q)
    (b1 : x2 < (mi 0 97) → inb x2 128 = true)
    (h2 : x2 < (mi 0 97) → W_fillMutsAt 2 [.val (.ref 0), .val (.int x1), .val (.int (x2 + (1 : Int32))), .unset] [] (LL1, (up mi 14 (Int32.toNatClampNeg x2) (-1 : Int32)), ml, RR1) Q) :
    W_fillMutsAt 2 [.val (.ref 0), .val (.int x1), .val (.int x2), .unset] [] (LL1, mi, ml, RR1) Q := by
  refine Wp.p (pc' := 3) d_fillMutsAt_2 rfl rfl ?_
  refine Wp.p (pc' := 4) d_fillMutsAt_3 rfl rfl ?_
  refine Wp.getI (mi 0 97) d_fillMutsAt_4 fa_c140 rfl rfl ?_
  refine Wp.icmp_ge d_fillMutsAt_7 rfl (fun c1 => ?_) (fun c1 => ?_)
  ·
    refine Wp.iconst (0 : Int32) d_fillMutsAt_23 (by decide) ?_
    refine Wp.p (pc' := 25) d_fillMutsAt_24 rfl rfl ?_
    exact (h1 c1)
  ·
    refine Wp.p (pc' := 11) d_fillMutsAt_10 rfl rfl ?_
    refine Wp.getR (b := 14) d_fillMutsAt_11 fa_c60 rfl rfl ?_
    refine Wp.p (pc' := 15) d_fillMutsAt_14 rfl rfl ?_
    refine Wp.iconst (-1 : Int32) d_fillMutsAt_15 (by decide) ?_
    refine Wp.iastore d_fillMutsAt_16 rfl (k := (Int32.toNatClampNeg x2)) rfl (b1 c1) (by decide) ?_
    refine Wp.iinc (1 : Int32) d_fillMutsAt_17 (by decide) rfl rfl ?_
    refine Wp.p (pc' := 2) d_fillMutsAt_20 rfl rfl ?_
    exact (h2 c1)
set_option maxRecDepth 65536 in
set_option maxHeartbeats 4000000 in
theorem L_fillMutsAt_25 {x1 x2 : Int32} {s3 : Slot} {mi : Nat → Nat → Int32} {ml : Nat → Nat → Int64} {Q : Option Value → EMem → Prop} (o3 : One s3)
    (h1 : ¬ x2 < (mi 0 101) → Q none (LL1, mi, ml, RR1))
    (b1 : x2 < (mi 0 101) → inb x2 512 = true)
    (h2 : x2 < (mi 0 101) → ¬ (mi 9 (Int32.toNatClampNeg x2)) = x1 → W_fillMutsAt 69 [.val (.ref 0), .val (.int x1), .val (.int x2), s3] [] (LL1, mi, ml, RR1) Q)
    (b2 : x2 < (mi 0 101) → (mi 9 (Int32.toNatClampNeg x2)) = x1 → inb x2 512 = true)
    (h3 : x2 < (mi 0 101) → (mi 9 (Int32.toNatClampNeg x2)) = x1 → (mi 8 (Int32.toNatClampNeg x2)) < (0 : Int32) → W_fillMutsAt 69 [.val (.ref 0), .val (.int x1), .val (.int x2), .val (.int (mi 8 (Int32.toNatClampNeg x2)))] [] (LL1, mi, ml, RR1) Q)
    (h4 : x2 < (mi 0 101) → (mi 9 (Int32.toNatClampNeg x2)) = x1 → ¬ (mi 8 (Int32.toNatClampNeg x2)) < (0 : Int32) → ¬ (mi 8 (Int32.toNatClampNeg x2)) < (mi 0 97) → W_fillMutsAt 69 [.val (.ref 0), .val (.int x1), .val (.int x2), .val (.int (mi 8 (Int32.toNatClampNeg x2)))] [] (LL1, mi, ml, RR1) Q)
    (b3 : x2 < (mi 0 101) → (mi 9 (Int32.toNatClampNeg x2)) = x1 → ¬ (mi 8 (Int32.toNatClampNeg x2)) < (0 : Int32) → (mi 8 (Int32.toNatClampNeg x2)) < (mi 0 97) → inb (mi 8 (Int32.toNatClampNeg x2)) 128 = true)
    (h5 : x2 < (mi 0 101) → (mi 9 (Int32.toNatClampNeg x2)) = x1 → ¬ (mi 8 (Int32.toNatClampNeg x2)) < (0 : Int32) → (mi 8 (Int32.toNatClampNeg x2)) < (mi 0 97) → W_fillMutsAt 69 [.val (.ref 0), .val (.int x1), .val (.int x2), .val (.int (mi 8 (Int32.toNatClampNeg x2)))] [] (LL1, (up mi 14 (Int32.toNatClampNeg (mi 8 (Int32.toNatClampNeg x2))) x2), ml, RR1) Q) :
    W_fillMutsAt 25 [.val (.ref 0), .val (.int x1), .val (.int x2), s3] [] (LL1, mi, ml, RR1) Q := by
  refine Wp.p (pc' := 26) d_fillMutsAt_25 rfl rfl ?_
  refine Wp.p (pc' := 27) d_fillMutsAt_26 rfl rfl ?_
  refine Wp.getI (mi 0 101) d_fillMutsAt_27 fa_c146 rfl rfl ?_
  refine Wp.icmp_ge d_fillMutsAt_30 rfl (fun c1 => ?_) (fun c1 => ?_)
  ·
    refine Wp.retV d_fillMutsAt_75 ?_
    exact (h1 c1)
  ·
    refine Wp.p (pc' := 34) d_fillMutsAt_33 rfl rfl ?_
    refine Wp.getR (b := 9) d_fillMutsAt_34 fa_c45 rfl rfl ?_
    refine Wp.p (pc' := 38) d_fillMutsAt_37 rfl rfl ?_
    refine Wp.iaload (mi 9 (Int32.toNatClampNeg x2)) d_fillMutsAt_38 rfl (k := (Int32.toNatClampNeg x2)) rfl (b1 c1) rfl ?_
    refine Wp.p (pc' := 40) d_fillMutsAt_39 rfl rfl ?_
    refine Wp.icmp_ne d_fillMutsAt_40 rfl (fun c2 => ?_) (fun c2 => ?_)
    ·
      exact (h2 c1 c2)
    ·
      refine Wp.p (pc' := 44) d_fillMutsAt_43 rfl rfl ?_
      refine Wp.getR (b := 8) d_fillMutsAt_44 fa_c42 rfl rfl ?_
      refine Wp.p (pc' := 48) d_fillMutsAt_47 rfl rfl ?_
      refine Wp.iaload (mi 8 (Int32.toNatClampNeg x2)) d_fillMutsAt_48 rfl (k := (Int32.toNatClampNeg x2)) rfl (b2 c1 c2) rfl ?_
      refine Wp.istoreO (i := 3) d_fillMutsAt_49 (Or.inr ⟨3, rfl, rfl, rfl⟩) rfl o3 rfl ?_
      show Wp _ _ _ _ _ _ _ 50 _ _ _ _
      refine Wp.p (pc' := 51) d_fillMutsAt_50 rfl rfl ?_
      refine Wp.if_lt d_fillMutsAt_51 rfl (fun c3 => ?_) (fun c3 => ?_)
      ·
        exact (h3 c1 c2 c3)
      ·
        refine Wp.p (pc' := 55) d_fillMutsAt_54 rfl rfl ?_
        refine Wp.p (pc' := 56) d_fillMutsAt_55 rfl rfl ?_
        refine Wp.getI (mi 0 97) d_fillMutsAt_56 fa_c140 rfl rfl ?_
        refine Wp.icmp_ge d_fillMutsAt_59 rfl (fun c4 => ?_) (fun c4 => ?_)
        ·
          exact (h4 c1 c2 c3 c4)
        ·
          refine Wp.p (pc' := 63) d_fillMutsAt_62 rfl rfl ?_
          refine Wp.getR (b := 14) d_fillMutsAt_63 fa_c60 rfl rfl ?_
          refine Wp.p (pc' := 67) d_fillMutsAt_66 rfl rfl ?_
          refine Wp.p (pc' := 68) d_fillMutsAt_67 rfl rfl ?_
          refine Wp.iastore d_fillMutsAt_68 rfl (k := (Int32.toNatClampNeg (mi 8 (Int32.toNatClampNeg x2)))) rfl (b3 c1 c2 c3 c4) (by decide) ?_
          exact (h5 c1 c2 c3 c4)
set_option maxRecDepth 65536 in
set_option maxHeartbeats 4000000 in
theorem L_fillMutsAt_69 {x1 x2 : Int32} {s3 : Slot} {mi : Nat → Nat → Int32} {ml : Nat → Nat → Int64} {Q : Option Value → EMem → Prop} (o3 : One s3)
    (h1 : W_fillMutsAt 25 [.val (.ref 0), .val (.int x1), .val (.int (x2 + (1 : Int32))), s3] [] (LL1, mi, ml, RR1) Q) :
    W_fillMutsAt 69 [.val (.ref 0), .val (.int x1), .val (.int x2), s3] [] (LL1, mi, ml, RR1) Q := by
  refine Wp.iinc (1 : Int32) d_fillMutsAt_69 (by decide) rfl rfl ?_
  refine Wp.p (pc' := 25) d_fillMutsAt_72 rfl rfl ?_
  exact h1
set_option maxRecDepth 65536 in
set_option maxHeartbeats 4000000 in
theorem L_decodeValues_0 {mi : Nat → Nat → Int32} {ml : Nat → Nat → Int64} {Q : Option Value → EMem → Prop}
    (h1 : W_decodeValues 7 [.val (.ref 0), .val (.int ((mi 0 97) - (1 : Int32))), .unset, .unset, .unset] [] (LL1, mi, ml, RR1) Q) :
    W_decodeValues 0 [.val (.ref 0), .unset, .unset, .unset, .unset] [] (LL1, mi, ml, RR1) Q := by
  refine Wp.p (pc' := 1) d_decodeValues_0 rfl rfl ?_
  refine Wp.getI (mi 0 97) d_decodeValues_1 fa_c140 rfl rfl ?_
  refine Wp.iconst (1 : Int32) d_decodeValues_4 (by decide) ?_
  refine Wp.p (pc' := 6) d_decodeValues_5 rfl rfl ?_
  refine Wp.p (pc' := 7) d_decodeValues_6 rfl rfl ?_
  exact h1
set_option maxRecDepth 65536 in
set_option maxHeartbeats 4000000 in
theorem L_decodeValues_7 {x1 : Int32} {s2 s3 s4 : Slot} {mi : Nat → Nat → Int32} {ml : Nat → Nat → Int64} {Q : Option Value → EMem → Prop} (o2 : One s2) (o3 : One s3) (o4 : One s4)
    (h1 : x1 < (0 : Int32) → Q none (LL1, mi, ml, RR1))
    (b1 : ¬ x1 < (0 : Int32) → inb x1 128 = true)
    (h2 : ¬ x1 < (0 : Int32) → (mi 2 (Int32.toNatClampNeg x1)) < (0 : Int32) → W_decodeValues 89 [.val (.ref 0), .val (.int x1), .val (.int (mi 2 (Int32.toNatClampNeg x1))), s3, s4] [] (LL1, mi, ml, RR1) Q)
    (b2 : ¬ x1 < (0 : Int32) → ¬ (mi 2 (Int32.toNatClampNeg x1)) < (0 : Int32) → (mi 2 (Int32.toNatClampNeg x1)) < (mi 0 97) → inb (mi 2 (Int32.toNatClampNeg x1)) 128 = true)
    (b3 : ¬ x1 < (0 : Int32) → ¬ (mi 2 (Int32.toNatClampNeg x1)) < (0 : Int32) → (mi 2 (Int32.toNatClampNeg x1)) < (mi 0 97) → (mi 14 (Int32.toNatClampNeg (mi 2 (Int32.toNatClampNeg x1)))) < (0 : Int32) → inb (mi 2 (Int32.toNatClampNeg x1)) 128 = true)
    (b4 : ¬ x1 < (0 : Int32) → ¬ (mi 2 (Int32.toNatClampNeg x1)) < (0 : Int32) → (mi 2 (Int32.toNatClampNeg x1)) < (mi 0 97) → (mi 14 (Int32.toNatClampNeg (mi 2 (Int32.toNatClampNeg x1)))) < (0 : Int32) → ¬ (mi 13 (Int32.toNatClampNeg (mi 2 (Int32.toNatClampNeg x1)))) < (0 : Int32) → inb (mi 13 (Int32.toNatClampNeg (mi 2 (Int32.toNatClampNeg x1)))) 128 = true)
    (b5 : ¬ x1 < (0 : Int32) → ¬ (mi 2 (Int32.toNatClampNeg x1)) < (0 : Int32) → (mi 2 (Int32.toNatClampNeg x1)) < (mi 0 97) → (mi 14 (Int32.toNatClampNeg (mi 2 (Int32.toNatClampNeg x1)))) < (0 : Int32) → ∀ v5 : Int32, v5 = (if (mi 13 (Int32.toNatClampNeg (mi 2 (Int32.toNatClampNeg x1)))) < (0 : Int32) then (0 : Int32) else (mi 15 (Int32.toNatClampNeg (mi 13 (Int32.toNatClampNeg (mi 2 (Int32.toNatClampNeg x1))))))) → inb (mi 2 (Int32.toNatClampNeg x1)) 128 = true)
    (h3 : ¬ x1 < (0 : Int32) → ¬ (mi 2 (Int32.toNatClampNeg x1)) < (0 : Int32) → (mi 2 (Int32.toNatClampNeg x1)) < (mi 0 97) → (mi 14 (Int32.toNatClampNeg (mi 2 (Int32.toNatClampNeg x1)))) < (0 : Int32) → ∀ v5 : Int32, v5 = (if (mi 13 (Int32.toNatClampNeg (mi 2 (Int32.toNatClampNeg x1)))) < (0 : Int32) then (0 : Int32) else (mi 15 (Int32.toNatClampNeg (mi 13 (Int32.toNatClampNeg (mi 2 (Int32.toNatClampNeg x1))))))) → W_decodeValues 89 [.val (.ref 0), .val (.int x1), .val (.int (mi 2 (Int32.toNatClampNeg x1))), .val (.int (mi 14 (Int32.toNatClampNeg (mi 2 (Int32.toNatClampNeg x1))))), .val (.int (mi 13 (Int32.toNatClampNeg (mi 2 (Int32.toNatClampNeg x1)))))] [] (LL1, (up mi 15 (Int32.toNatClampNeg (mi 2 (Int32.toNatClampNeg x1))) v5), ml, RR1) Q)
    (b6 : ¬ x1 < (0 : Int32) → ¬ (mi 2 (Int32.toNatClampNeg x1)) < (0 : Int32) → (mi 2 (Int32.toNatClampNeg x1)) < (mi 0 97) → ¬ (mi 14 (Int32.toNatClampNeg (mi 2 (Int32.toNatClampNeg x1)))) < (0 : Int32) → inb (mi 14 (Int32.toNatClampNeg (mi 2 (Int32.toNatClampNeg x1)))) 512 = true)
    (b7 : ¬ x1 < (0 : Int32) → ¬ (mi 2 (Int32.toNatClampNeg x1)) < (0 : Int32) → (mi 2 (Int32.toNatClampNeg x1)) < (mi 0 97) → ¬ (mi 14 (Int32.toNatClampNeg (mi 2 (Int32.toNatClampNeg x1)))) < (0 : Int32) → inb (mi 2 (Int32.toNatClampNeg x1)) 128 = true)
    (h4 : ¬ x1 < (0 : Int32) → ¬ (mi 2 (Int32.toNatClampNeg x1)) < (0 : Int32) → (mi 2 (Int32.toNatClampNeg x1)) < (mi 0 97) → ¬ (mi 14 (Int32.toNatClampNeg (mi 2 (Int32.toNatClampNeg x1)))) < (0 : Int32) → W_decodeValues 89 [.val (.ref 0), .val (.int x1), .val (.int (mi 2 (Int32.toNatClampNeg x1))), .val (.int (mi 14 (Int32.toNatClampNeg (mi 2 (Int32.toNatClampNeg x1))))), s4] [] (LL1, (up mi 15 (Int32.toNatClampNeg (mi 2 (Int32.toNatClampNeg x1))) (mi 10 (Int32.toNatClampNeg (mi 14 (Int32.toNatClampNeg (mi 2 (Int32.toNatClampNeg x1))))))), ml, RR1) Q)
    (h5 : ¬ x1 < (0 : Int32) → ¬ (mi 2 (Int32.toNatClampNeg x1)) < (0 : Int32) → ¬ (mi 2 (Int32.toNatClampNeg x1)) < (mi 0 97) → W_decodeValues 89 [.val (.ref 0), .val (.int x1), .val (.int (mi 2 (Int32.toNatClampNeg x1))), s3, s4] [] (LL1, mi, ml, RR1) Q) :
    W_decodeValues 7 [.val (.ref 0), .val (.int x1), s2, s3, s4] [] (LL1, mi, ml, RR1) Q := by
  refine Wp.p (pc' := 8) d_decodeValues_7 rfl rfl ?_
  refine Wp.if_lt d_decodeValues_8 rfl (fun c1 => ?_) (fun c1 => ?_)
  ·
    refine Wp.retV d_decodeValues_95 ?_
    exact (h1 c1)
  ·
    refine Wp.p (pc' := 12) d_decodeValues_11 rfl rfl ?_
    refine Wp.getR (b := 2) d_decodeValues_12 fa_c23 rfl rfl ?_
    refine Wp.p (pc' := 16) d_decodeValues_15 rfl rfl ?_
    refine Wp.iaload (mi 2 (Int32.toNatClampNeg x1)) d_decodeValues_16 rfl (k := (Int32.toNatClampNeg x1)) rfl (b1 c1) rfl ?_
    refine Wp.istoreO (i := 2) d_decodeValues_17 (Or.inr ⟨2, rfl, rfl, rfl⟩) rfl o2 rfl ?_
    show Wp _ _ _ _ _ _ _ 18 _ _ _ _
    refine Wp.p (pc' := 19) d_decodeValues_18 rfl rfl ?_
    refine Wp.if_lt d_decodeValues_19 rfl (fun c2 => ?_) (fun c2 => ?_)
    ·
      exact (h2 c1 c2)
    ·
      refine Wp.p (pc' := 23) d_decodeValues_22 rfl rfl ?_
      refine Wp.p (pc' := 24) d_decodeValues_23 rfl rfl ?_
      refine Wp.getI (mi 0 97) d_decodeValues_24 fa_c140 rfl rfl ?_
      refine Wp.icmp_lt d_decodeValues_27 rfl (fun c3 => ?_) (fun c3 => ?_)
      ·
        refine Wp.p (pc' := 34) d_decodeValues_33 rfl rfl ?_
        refine Wp.getR (b := 14) d_decodeValues_34 fa_c60 rfl rfl ?_
        refine Wp.p (pc' := 38) d_decodeValues_37 rfl rfl ?_
        refine Wp.iaload (mi 14 (Int32.toNatClampNeg (mi 2 (Int32.toNatClampNeg x1)))) d_decodeValues_38 rfl (k := (Int32.toNatClampNeg (mi 2 (Int32.toNatClampNeg x1)))) rfl (b2 c1 c2 c3) rfl ?_
        refine Wp.istoreO (i := 3) d_decodeValues_39 (Or.inr ⟨3, rfl, rfl, rfl⟩) rfl o3 rfl ?_
        show Wp _ _ _ _ _ _ _ 40 _ _ _ _
        refine Wp.p (pc' := 41) d_decodeValues_40 rfl rfl ?_
        refine Wp.if_lt d_decodeValues_41 rfl (fun c4 => ?_) (fun c4 => ?_)
        ·
          refine Wp.p (pc' := 60) d_decodeValues_59 rfl rfl ?_
          refine Wp.getR (b := 13) d_decodeValues_60 fa_c57 rfl rfl ?_
          refine Wp.p (pc' := 64) d_decodeValues_63 rfl rfl ?_
          refine Wp.iaload (mi 13 (Int32.toNatClampNeg (mi 2 (Int32.toNatClampNeg x1)))) d_decodeValues_64 rfl (k := (Int32.toNatClampNeg (mi 2 (Int32.toNatClampNeg x1)))) rfl (b3 c1 c2 c3 c4) rfl ?_
          refine Wp.istoreO (i := 4) d_decodeValues_65 (Or.inl ⟨rfl, rfl⟩) rfl o4 rfl ?_
          show Wp _ _ _ _ _ _ _ 67 _ _ _ _
          refine Wp.p (pc' := 68) d_decodeValues_67 rfl rfl ?_
          refine Wp.getR (b := 15) d_decodeValues_68 fa_c63 rfl rfl ?_
          refine Wp.p (pc' := 72) d_decodeValues_71 rfl rfl ?_
          refine Wp.p (pc' := 74) d_decodeValues_72 rfl rfl ?_
          obtain ⟨v5, e5⟩ : ∃ z : Int32, z = (if (mi 13 (Int32.toNatClampNeg (mi 2 (Int32.toNatClampNeg x1)))) < (0 : Int32) then (0 : Int32) else (mi 15 (Int32.toNatClampNeg (mi 13 (Int32.toNatClampNeg (mi 2 (Int32.toNatClampNeg x1))))))) := ⟨_, rfl⟩
          suffices K : W_decodeValues 88 [.val (.ref 0), .val (.int x1), .val (.int (mi 2 (Int32.toNatClampNeg x1))), .val (.int (mi 14 (Int32.toNatClampNeg (mi 2 (Int32.toNatClampNeg x1))))), .val (.int (mi 13 (Int32.toNatClampNeg (mi 2 (Int32.toNatClampNeg x1)))))] [.int v5, .int (mi 2 (Int32.toNatClampNeg x1)), .ref 15] (LL1, mi, ml, RR1) Q by
            refine Wp.if_lt d_decodeValues_74 rfl (fun q0 => ?_) (fun q0 => ?_)
            ·
              refine Wp.iconst (0 : Int32) d_decodeValues_87 (by decide) ?_
              rw [if_pos q0] at e5; subst e5
              exact K
            ·
              refine Wp.p (pc' := 78) d_decodeValues_77 rfl rfl ?_
              refine Wp.getR (b := 15) d_decodeValues_78 fa_c63 rfl rfl ?_
              refine Wp.p (pc' := 83) d_decodeValues_81 rfl rfl ?_
              refine Wp.iaload (mi 15 (Int32.toNatClampNeg (mi 13 (Int32.toNatClampNeg (mi 2 (Int32.toNatClampNeg x1)))))) d_decodeValues_83 rfl (k := (Int32.toNatClampNeg (mi 13 (Int32.toNatClampNeg (mi 2 (Int32.toNatClampNeg x1)))))) rfl (b4 c1 c2 c3 c4 q0) rfl ?_
              refine Wp.p (pc' := 88) d_decodeValues_84 rfl rfl ?_
              rw [if_neg q0] at e5; subst e5
              exact K
          refine Wp.iastore d_decodeValues_88 rfl (k := (Int32.toNatClampNeg (mi 2 (Int32.toNatClampNeg x1)))) rfl (b5 c1 c2 c3 c4 v5 e5) (by decide) ?_
          exact (h3 c1 c2 c3 c4 v5 e5)
        ·
          refine Wp.p (pc' := 45) d_decodeValues_44 rfl rfl ?_
          refine Wp.getR (b := 15) d_decodeValues_45 fa_c63 rfl rfl ?_
          refine Wp.p (pc' := 49) d_decodeValues_48 rfl rfl ?_
          refine Wp.p (pc' := 50) d_decodeValues_49 rfl rfl ?_
          refine Wp.getR (b := 10) d_decodeValues_50 fa_c48 rfl rfl ?_
          refine Wp.p (pc' := 54) d_decodeValues_53 rfl rfl ?_
          refine Wp.iaload (mi 10 (Int32.toNatClampNeg (mi 14 (Int32.toNatClampNeg (mi 2 (Int32.toNatClampNeg x1)))))) d_decodeValues_54 rfl (k := (Int32.toNatClampNeg (mi 14 (Int32.toNatClampNeg (mi 2 (Int32.toNatClampNeg x1)))))) rfl (b6 c1 c2 c3 c4) rfl ?_
          refine Wp.iastore d_decodeValues_55 rfl (k := (Int32.toNatClampNeg (mi 2 (Int32.toNatClampNeg x1)))) rfl (b7 c1 c2 c3 c4) (by decide) ?_
          refine Wp.p (pc' := 89) d_decodeValues_56 rfl rfl ?_
          exact (h4 c1 c2 c3 c4)
      ·
        refine Wp.p (pc' := 89) d_decodeValues_30 rfl rfl ?_
        exact (h5 c1 c2 c3)
set_option maxRecDepth 65536 in
set_option maxHeartbeats 4000000 in
theorem L_decodeValues_89 {x1 x2 : Int32} {s3 s4 : Slot} {mi : Nat → Nat → Int32} {ml : Nat → Nat → Int64} {Q : Option Value → EMem → Prop} (o3 : One s3) (o4 : One s4)
    (h1 : W_decodeValues 7 [.val (.ref 0), .val (.int (x1 + (-1 : Int32))), .val (.int x2), s3, s4] [] (LL1, mi, ml, RR1) Q) :
    W_decodeValues 89 [.val (.ref 0), .val (.int x1), .val (.int x2), s3, s4] [] (LL1, mi, ml, RR1) Q := by
  refine Wp.iinc (-1 : Int32) d_decodeValues_89 (by decide) rfl rfl ?_
  refine Wp.p (pc' := 7) d_decodeValues_92 rfl rfl ?_
  exact h1
set_option maxRecDepth 65536 in
set_option maxHeartbeats 4000000 in
theorem L_decode_0 {x1 : Int32} {mi : Nat → Nat → Int32} {ml : Nat → Nat → Int64} {Q : Option Value → EMem → Prop}
    (h1 : W_fillParentsAt 0 [.val (.ref 0), .val (.int x1), .unset, .unset, .unset] [] (LL1, mi, ml, RR1) (fun v M' => W_decode 5 [.val (.ref 0), .val (.int x1)] (v.toList ++ []) M' Q)) :
    W_decode 0 [.val (.ref 0), .val (.int x1)] [] (LL1, mi, ml, RR1) Q := by
  refine Wp.p (pc' := 1) d_decode_0 rfl rfl ?_
  refine Wp.p (pc' := 2) d_decode_1 rfl rfl ?_
  refine Wp.callP (a := 0) (as := [.int x1]) (rest := []) (w := 0) (F' := 0) (Lb' := 0) d_decode_2 ca_c184_1 rfl rfl rfl rfl (by decide) (by decide) (Nat.le_of_ble_eq_true rfl) ?_
  exact h1
set_option maxRecDepth 65536 in
set_option maxHeartbeats 4000000 in
theorem L_decode_5 {x1 : Int32} {mi : Nat → Nat → Int32} {ml : Nat → Nat → Int64} {Q : Option Value → EMem → Prop}
    (h1 : W_fillMutsAt 0 [.val (.ref 0), .val (.int x1), .unset, .unset] [] (LL1, mi, ml, RR1) (fun v M' => W_decode 10 [.val (.ref 0), .val (.int x1)] (v.toList ++ []) M' Q)) :
    W_decode 5 [.val (.ref 0), .val (.int x1)] [] (LL1, mi, ml, RR1) Q := by
  refine Wp.p (pc' := 6) d_decode_5 rfl rfl ?_
  refine Wp.p (pc' := 7) d_decode_6 rfl rfl ?_
  refine Wp.callP (a := 0) (as := [.int x1]) (rest := []) (w := 0) (F' := 0) (Lb' := 0) d_decode_7 ca_c187_1 rfl rfl rfl rfl (by decide) (by decide) (Nat.le_of_ble_eq_true rfl) ?_
  exact h1
set_option maxRecDepth 65536 in
set_option maxHeartbeats 4000000 in
theorem L_decode_10 {x1 : Int32} {mi : Nat → Nat → Int32} {ml : Nat → Nat → Int64} {Q : Option Value → EMem → Prop}
    (h1 : W_decodeValues 0 [.val (.ref 0), .unset, .unset, .unset, .unset] [] (LL1, mi, ml, RR1) (fun v M' => W_decode 14 [.val (.ref 0), .val (.int x1)] (v.toList ++ []) M' Q)) :
    W_decode 10 [.val (.ref 0), .val (.int x1)] [] (LL1, mi, ml, RR1) Q := by
  refine Wp.p (pc' := 11) d_decode_10 rfl rfl ?_
  refine Wp.callP (a := 0) (as := []) (rest := []) (w := 0) (F' := 0) (Lb' := 0) d_decode_11 ca_c190_1 rfl rfl rfl rfl (by decide) (by decide) (Nat.le_of_ble_eq_true rfl) ?_
  exact h1
set_option maxRecDepth 65536 in
set_option maxHeartbeats 4000000 in
theorem L_decode_14 {x1 : Int32} {mi : Nat → Nat → Int32} {ml : Nat → Nat → Int64} {Q : Option Value → EMem → Prop}
    (h1 : Q none (LL1, mi, ml, RR1)) :
    W_decode 14 [.val (.ref 0), .val (.int x1)] [] (LL1, mi, ml, RR1) Q := by
  refine Wp.retV d_decode_14 ?_
  exact h1
set_option maxRecDepth 65536 in
set_option maxHeartbeats 4000000 in
theorem L_genotype_0 {x1 x2 : Int32} {mi : Nat → Nat → Int32} {ml : Nat → Nat → Int64} {Q : Option Value → EMem → Prop}
    (h1 : x1 < (0 : Int32) → Q (some (.int (-1 : Int32))) (LL1, mi, ml, RR1))
    (h2 : ¬ x1 < (0 : Int32) → ¬ x1 < (mi 0 81) → Q (some (.int (-1 : Int32))) (LL1, mi, ml, RR1))
    (h3 : ¬ x1 < (0 : Int32) → x1 < (mi 0 81) → x2 < (0 : Int32) → Q (some (.int (-1 : Int32))) (LL1, mi, ml, RR1))
    (h4 : ¬ x1 < (0 : Int32) → x1 < (mi 0 81) → ¬ x2 < (0 : Int32) → x2 < (mi 0 83) → W_decode 0 [.val (.ref 0), .val (.int x2)] [] (LL1, mi, ml, RR1) (fun v M' => W_genotype 31 [.val (.ref 0), .val (.int x1), .val (.int x2)] (v.toList ++ []) M' Q))
    (h5 : ¬ x1 < (0 : Int32) → x1 < (mi 0 81) → ¬ x2 < (0 : Int32) → ¬ x2 < (mi 0 83) → Q (some (.int (-1 : Int32))) (LL1, mi, ml, RR1)) :
    W_genotype 0 [.val (.ref 0), .val (.int x1), .val (.int x2)] [] (LL1, mi, ml, RR1) Q := by
  refine Wp.p (pc' := 1) d_genotype_0 rfl rfl ?_
  refine Wp.if_lt d_genotype_1 rfl (fun c1 => ?_) (fun c1 => ?_)
  ·
    refine Wp.iconst (-1 : Int32) d_genotype_24 (by decide) ?_
    refine Wp.retI d_genotype_25 ?_
    exact (h1 c1)
  ·
    refine Wp.p (pc' := 5) d_genotype_4 rfl rfl ?_
    refine Wp.p (pc' := 6) d_genotype_5 rfl rfl ?_
    refine Wp.getI (mi 0 81) d_genotype_6 fa_c115 rfl rfl ?_
    refine Wp.icmp_ge d_genotype_9 rfl (fun c2 => ?_) (fun c2 => ?_)
    ·
      refine Wp.iconst (-1 : Int32) d_genotype_24 (by decide) ?_
      refine Wp.retI d_genotype_25 ?_
      exact (h2 c1 c2)
    ·
      refine Wp.p (pc' := 13) d_genotype_12 rfl rfl ?_
      refine Wp.if_lt d_genotype_13 rfl (fun c3 => ?_) (fun c3 => ?_)
      ·
        refine Wp.iconst (-1 : Int32) d_genotype_24 (by decide) ?_
        refine Wp.retI d_genotype_25 ?_
        exact (h3 c1 c2 c3)
      ·
        refine Wp.p (pc' := 17) d_genotype_16 rfl rfl ?_
        refine Wp.p (pc' := 18) d_genotype_17 rfl rfl ?_
        refine Wp.getI (mi 0 83) d_genotype_18 fa_c118 rfl rfl ?_
        refine Wp.icmp_lt d_genotype_21 rfl (fun c4 => ?_) (fun c4 => ?_)
        ·
          refine Wp.p (pc' := 27) d_genotype_26 rfl rfl ?_
          refine Wp.p (pc' := 28) d_genotype_27 rfl rfl ?_
          refine Wp.callP (a := 0) (as := [.int x2]) (rest := []) (w := 0) (F' := 1) (Lb' := 16) d_genotype_28 ca_c159_1 rfl rfl rfl rfl (by decide) (by decide) (Nat.le_of_ble_eq_true rfl) ?_
          exact (h4 c1 c2 c3 c4)
        ·
          refine Wp.iconst (-1 : Int32) d_genotype_24 (by decide) ?_
          refine Wp.retI d_genotype_25 ?_
          exact (h5 c1 c2 c3 c4)
set_option maxRecDepth 65536 in
set_option maxHeartbeats 4000000 in
theorem L_genotype_31 {x1 x2 : Int32} {mi : Nat → Nat → Int32} {ml : Nat → Nat → Int64} {Q : Option Value → EMem → Prop}
    (b1 : inb x1 8 = true)
    (b2 : inb (mi 3 (Int32.toNatClampNeg x1)) 128 = true)
    (h1 : Q (some (.int (mi 15 (Int32.toNatClampNeg (mi 3 (Int32.toNatClampNeg x1)))))) (LL1, mi, ml, RR1)) :
    W_genotype 31 [.val (.ref 0), .val (.int x1), .val (.int x2)] [] (LL1, mi, ml, RR1) Q := by
  refine Wp.p (pc' := 32) d_genotype_31 rfl rfl ?_
  refine Wp.getR (b := 15) d_genotype_32 fa_c63 rfl rfl ?_
  refine Wp.p (pc' := 36) d_genotype_35 rfl rfl ?_
  refine Wp.getR (b := 3) d_genotype_36 fa_c27 rfl rfl ?_
  refine Wp.p (pc' := 40) d_genotype_39 rfl rfl ?_
  refine Wp.iaload (mi 3 (Int32.toNatClampNeg x1)) d_genotype_40 rfl (k := (Int32.toNatClampNeg x1)) rfl b1 rfl ?_
  refine Wp.iaload (mi 15 (Int32.toNatClampNeg (mi 3 (Int32.toNatClampNeg x1)))) d_genotype_41 rfl (k := (Int32.toNatClampNeg (mi 3 (Int32.toNatClampNeg x1)))) rfl b2 rfl ?_
  refine Wp.retI d_genotype_42 ?_
  exact h1
set_option maxRecDepth 65536 in
set_option maxHeartbeats 4000000 in
theorem L_siteSegregates_0 {x1 : Int32} {mi : Nat → Nat → Int32} {ml : Nat → Nat → Int64} {Q : Option Value → EMem → Prop}
    (h1 : W_decode 0 [.val (.ref 0), .val (.int x1)] [] (LL1, mi, ml, RR1) (fun v M' => W_siteSegregates 5 [.val (.ref 0), .val (.int x1), .unset, .unset] (v.toList ++ []) M' Q)) :
    W_siteSegregates 0 [.val (.ref 0), .val (.int x1), .unset, .unset] [] (LL1, mi, ml, RR1) Q := by
  refine Wp.p (pc' := 1) d_siteSegregates_0 rfl rfl ?_
  refine Wp.p (pc' := 2) d_siteSegregates_1 rfl rfl ?_
  refine Wp.callP (a := 0) (as := [.int x1]) (rest := []) (w := 0) (F' := 1) (Lb' := 16) d_siteSegregates_2 ca_c159_1 rfl rfl rfl rfl (by decide) (by decide) (Nat.le_of_ble_eq_true rfl) ?_
  exact h1
set_option maxRecDepth 65536 in
set_option maxHeartbeats 4000000 in
theorem L_siteSegregates_5 {x1 : Int32} {mi : Nat → Nat → Int32} {ml : Nat → Nat → Int64} {Q : Option Value → EMem → Prop}
    (b1 : inb (mi 3 0) 128 = true)
    (h1 : W_siteSegregates 19 [.val (.ref 0), .val (.int x1), .val (.int (mi 15 (Int32.toNatClampNeg (mi 3 0)))), .val (.int (1 : Int32))] [] (LL1, mi, ml, RR1) Q) :
    W_siteSegregates 5 [.val (.ref 0), .val (.int x1), .unset, .unset] [] (LL1, mi, ml, RR1) Q := by
  refine Wp.p (pc' := 6) d_siteSegregates_5 rfl rfl ?_
  refine Wp.getR (b := 15) d_siteSegregates_6 fa_c63 rfl rfl ?_
  refine Wp.p (pc' := 10) d_siteSegregates_9 rfl rfl ?_
  refine Wp.getR (b := 3) d_siteSegregates_10 fa_c27 rfl rfl ?_
  refine Wp.iconst (0 : Int32) d_siteSegregates_13 (by decide) ?_
  refine Wp.iaload (mi 3 0) d_siteSegregates_14 rfl (k := 0) (by decide) (by decide) rfl ?_
  refine Wp.iaload (mi 15 (Int32.toNatClampNeg (mi 3 0))) d_siteSegregates_15 rfl (k := (Int32.toNatClampNeg (mi 3 0))) rfl b1 rfl ?_
  refine Wp.p (pc' := 17) d_siteSegregates_16 rfl rfl ?_
  refine Wp.iconst (1 : Int32) d_siteSegregates_17 (by decide) ?_
  refine Wp.p (pc' := 19) d_siteSegregates_18 rfl rfl ?_
  exact h1
set_option maxRecDepth 65536 in
set_option maxHeartbeats 4000000 in
theorem L_siteSegregates_19 {x1 x2 x3 : Int32} {mi : Nat → Nat → Int32} {ml : Nat → Nat → Int64} {Q : Option Value → EMem → Prop}
    (h1 : ¬ x3 < (mi 0 81) → Q (some (.int (0 : Int32))) (LL1, mi, ml, RR1))
    (b1 : x3 < (mi 0 81) → inb x3 8 = true)
    (b2 : x3 < (mi 0 81) → inb (mi 3 (Int32.toNatClampNeg x3)) 128 = true)
    (h2 : x3 < (mi 0 81) → (mi 15 (Int32.toNatClampNeg (mi 3 (Int32.toNatClampNeg x3)))) = x2 → W_siteSegregates 19 [.val (.ref 0), .val (.int x1), .val (.int x2), .val (.int (x3 + (1 : Int32)))] [] (LL1, mi, ml, RR1) Q)
    (h3 : x3 < (mi 0 81) → ¬ (mi 15 (Int32.toNatClampNeg (mi 3 (Int32.toNatClampNeg x3)))) = x2 → Q (some (.int (1 : Int32))) (LL1, mi, ml, RR1)) :
    W_siteSegregates 19 [.val (.ref 0), .val (.int x1), .val (.int x2), .val (.int x3)] [] (LL1, mi, ml, RR1) Q := by
  refine Wp.p (pc' := 20) d_siteSegregates_19 rfl rfl ?_
  refine Wp.p (pc' := 21) d_siteSegregates_20 rfl rfl ?_
  refine Wp.getI (mi 0 81) d_siteSegregates_21 fa_c115 rfl rfl ?_
  refine Wp.icmp_ge d_siteSegregates_24 rfl (fun c1 => ?_) (fun c1 => ?_)
  ·
    refine Wp.iconst (0 : Int32) d_siteSegregates_50 (by decide) ?_
    refine Wp.retZ (0 : Int32) d_siteSegregates_51 (by decide) ?_
    exact (h1 c1)
  ·
    refine Wp.p (pc' := 28) d_siteSegregates_27 rfl rfl ?_
    refine Wp.getR (b := 15) d_siteSegregates_28 fa_c63 rfl rfl ?_
    refine Wp.p (pc' := 32) d_siteSegregates_31 rfl rfl ?_
    refine Wp.getR (b := 3) d_siteSegregates_32 fa_c27 rfl rfl ?_
    refine Wp.p (pc' := 36) d_siteSegregates_35 rfl rfl ?_
    refine Wp.iaload (mi 3 (Int32.toNatClampNeg x3)) d_siteSegregates_36 rfl (k := (Int32.toNatClampNeg x3)) rfl (b1 c1) rfl ?_
    refine Wp.iaload (mi 15 (Int32.toNatClampNeg (mi 3 (Int32.toNatClampNeg x3)))) d_siteSegregates_37 rfl (k := (Int32.toNatClampNeg (mi 3 (Int32.toNatClampNeg x3)))) rfl (b2 c1) rfl ?_
    refine Wp.p (pc' := 39) d_siteSegregates_38 rfl rfl ?_
    refine Wp.icmp_eq d_siteSegregates_39 rfl (fun c2 => ?_) (fun c2 => ?_)
    ·
      refine Wp.iinc (1 : Int32) d_siteSegregates_44 (by decide) rfl rfl ?_
      refine Wp.p (pc' := 19) d_siteSegregates_47 rfl rfl ?_
      exact (h2 c1 c2)
    ·
      refine Wp.iconst (1 : Int32) d_siteSegregates_42 (by decide) ?_
      refine Wp.retZ (1 : Int32) d_siteSegregates_43 (by decide) ?_
      exact (h3 c1 c2)
set_option maxRecDepth 65536 in
set_option maxHeartbeats 4000000 in
theorem L_segregatingSites_0 {mi : Nat → Nat → Int32} {ml : Nat → Nat → Int64} {Q : Option Value → EMem → Prop}
    (h1 : W_segregatingSites 4 [.val (.ref 0), .val (.int (0 : Int32)), .val (.int (0 : Int32))] [] (LL1, mi, ml, RR1) Q) :
    W_segregatingSites 0 [.val (.ref 0), .unset, .unset] [] (LL1, mi, ml, RR1) Q := by
  refine Wp.iconst (0 : Int32) d_segregatingSites_0 (by decide) ?_
  refine Wp.p (pc' := 2) d_segregatingSites_1 rfl rfl ?_
  refine Wp.iconst (0 : Int32) d_segregatingSites_2 (by decide) ?_
  refine Wp.p (pc' := 4) d_segregatingSites_3 rfl rfl ?_
  exact h1
set_option maxRecDepth 65536 in
set_option maxHeartbeats 4000000 in
theorem L_segregatingSites_4 {x1 x2 : Int32} {mi : Nat → Nat → Int32} {ml : Nat → Nat → Int64} {Q : Option Value → EMem → Prop}
    (h1 : ¬ x2 < (mi 0 83) → Q (some (.int x1)) (LL1, mi, ml, RR1))
    (h2 : x2 < (mi 0 83) → W_siteSegregates 0 [.val (.ref 0), .val (.int x2), .unset, .unset] [] (LL1, mi, ml, RR1) (fun v M' => W_segregatingSites 17 [.val (.ref 0), .val (.int x1), .val (.int x2)] (v.toList ++ []) M' Q)) :
    W_segregatingSites 4 [.val (.ref 0), .val (.int x1), .val (.int x2)] [] (LL1, mi, ml, RR1) Q := by
  refine Wp.p (pc' := 5) d_segregatingSites_4 rfl rfl ?_
  refine Wp.p (pc' := 6) d_segregatingSites_5 rfl rfl ?_
  refine Wp.getI (mi 0 83) d_segregatingSites_6 fa_c118 rfl rfl ?_
  refine Wp.icmp_ge d_segregatingSites_9 rfl (fun c1 => ?_) (fun c1 => ?_)
  ·
    refine Wp.p (pc' := 30) d_segregatingSites_29 rfl rfl ?_
    refine Wp.retI d_segregatingSites_30 ?_
    exact (h1 c1)
  ·
    refine Wp.p (pc' := 13) d_segregatingSites_12 rfl rfl ?_
    refine Wp.p (pc' := 14) d_segregatingSites_13 rfl rfl ?_
    refine Wp.callP (a := 0) (as := [.int x2]) (rest := []) (w := 0) (F' := 2) (Lb' := 29) d_segregatingSites_14 ca_c163_1 rfl rfl rfl rfl (by decide) (by decide) (Nat.le_of_ble_eq_true rfl) ?_
    exact (h2 c1)
set_option maxRecDepth 65536 in
set_option maxHeartbeats 4000000 in
theorem L_segregatingSites_17 {x1 x2 y0 : Int32} {mi : Nat → Nat → Int32} {ml : Nat → Nat → Int64} {Q : Option Value → EMem → Prop}
    (h1 : y0 = (0 : Int32) → W_segregatingSites 23 [.val (.ref 0), .val (.int x1), .val (.int x2)] [] (LL1, mi, ml, RR1) Q)
    (h2 : ¬ y0 = (0 : Int32) → W_segregatingSites 23 [.val (.ref 0), .val (.int (x1 + (1 : Int32))), .val (.int x2)] [] (LL1, mi, ml, RR1) Q) :
    W_segregatingSites 17 [.val (.ref 0), .val (.int x1), .val (.int x2)] [.int y0] (LL1, mi, ml, RR1) Q := by
  refine Wp.if_eq d_segregatingSites_17 rfl (fun c1 => ?_) (fun c1 => ?_)
  ·
    exact (h1 c1)
  ·
    refine Wp.iinc (1 : Int32) d_segregatingSites_20 (by decide) rfl rfl ?_
    exact (h2 c1)
set_option maxRecDepth 65536 in
set_option maxHeartbeats 4000000 in
theorem L_segregatingSites_23 {x1 x2 : Int32} {mi : Nat → Nat → Int32} {ml : Nat → Nat → Int64} {Q : Option Value → EMem → Prop}
    (h1 : W_segregatingSites 4 [.val (.ref 0), .val (.int x1), .val (.int (x2 + (1 : Int32)))] [] (LL1, mi, ml, RR1) Q) :
    W_segregatingSites 23 [.val (.ref 0), .val (.int x1), .val (.int x2)] [] (LL1, mi, ml, RR1) Q := by
  refine Wp.iinc (1 : Int32) d_segregatingSites_23 (by decide) rfl rfl ?_
  refine Wp.p (pc' := 4) d_segregatingSites_26 rfl rfl ?_
  exact h1
set_option maxRecDepth 65536 in
set_option maxHeartbeats 4000000 in
theorem L_alleleCount_0 {x1 x2 : Int32} {mi : Nat → Nat → Int32} {ml : Nat → Nat → Int64} {Q : Option Value → EMem → Prop}
    (h1 : x1 < (0 : Int32) → Q (some (.int (-1 : Int32))) (LL1, mi, ml, RR1))
    (h2 : ¬ x1 < (0 : Int32) → x1 < (mi 0 83) → W_decode 0 [.val (.ref 0), .val (.int x1)] [] (LL1, mi, ml, RR1) (fun v M' => W_alleleCount 19 [.val (.ref 0), .val (.int x1), .val (.int x2), .unset, .unset] (v.toList ++ []) M' Q))
    (h3 : ¬ x1 < (0 : Int32) → ¬ x1 < (mi 0 83) → Q (some (.int (-1 : Int32))) (LL1, mi, ml, RR1)) :
    W_alleleCount 0 [.val (.ref 0), .val (.int x1), .val (.int x2), .unset, .unset] [] (LL1, mi, ml, RR1) Q := by
  refine Wp.p (pc' := 1) d_alleleCount_0 rfl rfl ?_
  refine Wp.if_lt d_alleleCount_1 rfl (fun c1 => ?_) (fun c1 => ?_)
  ·
    refine Wp.iconst (-1 : Int32) d_alleleCount_12 (by decide) ?_
    refine Wp.retI d_alleleCount_13 ?_
    exact (h1 c1)
  ·
    refine Wp.p (pc' := 5) d_alleleCount_4 rfl rfl ?_
    refine Wp.p (pc' := 6) d_alleleCount_5 rfl rfl ?_
    refine Wp.getI (mi 0 83) d_alleleCount_6 fa_c118 rfl rfl ?_
    refine Wp.icmp_lt d_alleleCount_9 rfl (fun c2 => ?_) (fun c2 => ?_)
    ·
      refine Wp.p (pc' := 15) d_alleleCount_14 rfl rfl ?_
      refine Wp.p (pc' := 16) d_alleleCount_15 rfl rfl ?_
      refine Wp.callP (a := 0) (as := [.int x1]) (rest := []) (w := 0) (F' := 1) (Lb' := 16) d_alleleCount_16 ca_c159_1 rfl rfl rfl rfl (by decide) (by decide) (Nat.le_of_ble_eq_true rfl) ?_
      exact (h2 c1 c2)
    ·
      refine Wp.iconst (-1 : Int32) d_alleleCount_12 (by decide) ?_
      refine Wp.retI d_alleleCount_13 ?_
      exact (h3 c1 c2)
set_option maxRecDepth 65536 in
set_option maxHeartbeats 4000000 in
theorem L_alleleCount_19 {x1 x2 : Int32} {mi : Nat → Nat → Int32} {ml : Nat → Nat → Int64} {Q : Option Value → EMem → Prop}
    (h1 : W_alleleCount 24 [.val (.ref 0), .val (.int x1), .val (.int x2), .val (.int (0 : Int32)), .val (.int (0 : Int32))] [] (LL1, mi, ml, RR1) Q) :
    W_alleleCount 19 [.val (.ref 0), .val (.int x1), .val (.int x2), .unset, .unset] [] (LL1, mi, ml, RR1) Q := by
  refine Wp.iconst (0 : Int32) d_alleleCount_19 (by decide) ?_
  refine Wp.p (pc' := 21) d_alleleCount_20 rfl rfl ?_
  refine Wp.iconst (0 : Int32) d_alleleCount_21 (by decide) ?_
  refine Wp.p (pc' := 24) d_alleleCount_22 rfl rfl ?_
  exact h1
set_option maxRecDepth 65536 in
set_option maxHeartbeats 4000000 in
theorem L_alleleCount_24 {x1 x2 x3 x4 : Int32} {mi : Nat → Nat → Int32} {ml : Nat → Nat → Int64} {Q : Option Value → EMem → Prop}
    (h1 : ¬ x4 < (mi 0 81) → Q (some (.int x3)) (LL1, mi, ml, RR1))
    (b1 : x4 < (mi 0 81) → inb x4 8 = true)
    (b2 : x4 < (mi 0 81) → inb (mi 3 (Int32.toNatClampNeg x4)) 128 = true)
    (h2 : x4 < (mi 0 81) → ∀ v2 : Int32, v2 = (if (mi 15 (Int32.toNatClampNeg (mi 3 (Int32.toNatClampNeg x4)))) = x2 then (x3 + (1 : Int32)) else x3) → W_alleleCount 24 [.val (.ref 0), .val (.int x1), .val (.int x2), .val (.int v2), .val (.int (x4 + (1 : Int32)))] [] (LL1, mi, ml, RR1) Q) :
    W_alleleCount 24 [.val (.ref 0), .val (.int x1), .val (.int x2), .val (.int x3), .val (.int x4)] [] (LL1, mi, ml, RR1) Q := by
  refine Wp.p (pc' := 26) d_alleleCount_24 rfl rfl ?_
  refine Wp.p (pc' := 27) d_alleleCount_26 rfl rfl ?_
  refine Wp.getI (mi 0 81) d_alleleCount_27 fa_c115 rfl rfl ?_
  refine Wp.icmp_ge d_alleleCount_30 rfl (fun c1 => ?_) (fun c1 => ?_)
  ·
    refine Wp.p (pc' := 59) d_alleleCount_58 rfl rfl ?_
    refine Wp.retI d_alleleCount_59 ?_
    exact (h1 c1)
  ·
    refine Wp.p (pc' := 34) d_alleleCount_33 rfl rfl ?_
    refine Wp.getR (b := 15) d_alleleCount_34 fa_c63 rfl rfl ?_
    refine Wp.p (pc' := 38) d_alleleCount_37 rfl rfl ?_
    refine Wp.getR (b := 3) d_alleleCount_38 fa_c27 rfl rfl ?_
    refine Wp.p (pc' := 43) d_alleleCount_41 rfl rfl ?_
    refine Wp.iaload (mi 3 (Int32.toNatClampNeg x4)) d_alleleCount_43 rfl (k := (Int32.toNatClampNeg x4)) rfl (b1 c1) rfl ?_
    refine Wp.iaload (mi 15 (Int32.toNatClampNeg (mi 3 (Int32.toNatClampNeg x4)))) d_alleleCount_44 rfl (k := (Int32.toNatClampNeg (mi 3 (Int32.toNatClampNeg x4)))) rfl (b2 c1) rfl ?_
    refine Wp.p (pc' := 46) d_alleleCount_45 rfl rfl ?_
    obtain ⟨v2, e2⟩ : ∃ z : Int32, z = (if (mi 15 (Int32.toNatClampNeg (mi 3 (Int32.toNatClampNeg x4)))) = x2 then (x3 + (1 : Int32)) else x3) := ⟨_, rfl⟩
    suffices K : W_alleleCount 52 [.val (.ref 0), .val (.int x1), .val (.int x2), .val (.int v2), .val (.int x4)] [] (LL1, mi, ml, RR1) Q by
      refine Wp.icmp_ne d_alleleCount_46 rfl (fun q0 => ?_) (fun q0 => ?_)
      ·
        rw [if_neg q0] at e2; subst e2
        exact K
      ·
        refine Wp.iinc (1 : Int32) d_alleleCount_49 (by decide) rfl rfl ?_
        rw [if_pos q0] at e2; subst e2
        exact K
    refine Wp.iinc (1 : Int32) d_alleleCount_52 (by decide) rfl rfl ?_
    refine Wp.p (pc' := 24) d_alleleCount_55 rfl rfl ?_
    exact (h2 c1 v2 e2)
set_option maxRecDepth 65536 in
set_option maxHeartbeats 4000000 in
theorem L_law_0 {x0 x1 x2 x3 x4 x5 : Int32} {mi : Nat → Nat → Int32} {ml : Nat → Nat → Int64} {Q : Option Value → EMem → Prop}
    (h1 : W_init 0 [.val (.ref 0), .val (.int x0), .val (.int x1), .unset, .unset, .unset] [] ([(0, "TreeSeqSim", 48)], mi, ml, (fun _ _ => Value.null)) (fun v M' => W_law 9 [.val (.int x0), .val (.int x1), .val (.int x2), .val (.int x3), .val (.int x4), .val (.int x5), .unset, .unset, .unset, .unset, .unset, .unset, .unset, .unset, .unset] (v.toList ++ [.ref 0]) M' Q)) :
    W_law 0 [.val (.int x0), .val (.int x1), .val (.int x2), .val (.int x3), .val (.int x4), .val (.int x5), .unset, .unset, .unset, .unset, .unset, .unset, .unset, .unset, .unset] [] ([], mi, ml, (fun _ _ => Value.null)) Q := by
  refine Wp.new (a := 0) (L' := [(0, "TreeSeqSim", 48)]) d_law_0 na_w7 rfl rfl ?_
  refine Wp.p (pc' := 4) d_law_3 rfl rfl ?_
  refine Wp.p (pc' := 5) d_law_4 rfl rfl ?_
  refine Wp.p (pc' := 6) d_law_5 rfl rfl ?_
  refine Wp.callI (a := 0) (as := [.int x0, .int x1]) (rest := [.ref 0]) (w := 1) (F' := 1) (Lb' := 12) d_law_6 on_w9 ca_w9_2 rfl rfl rfl (by decide) (by decide) (Nat.le_of_ble_eq_true rfl) ?_
  exact h1
set_option maxRecDepth 65536 in
set_option maxHeartbeats 4000000 in
theorem L_law_9 {x0 x1 x2 x3 x4 x5 : Int32} {mi : Nat → Nat → Int32} {ml : Nat → Nat → Int64} {Q : Option Value → EMem → Prop}
    (h1 : ∀ v1 : Int32, v1 = (if x0 < (1 : Int32) then (1 : Int32) else (if (4 : Int32) < x0 then (4 : Int32) else x0)) → ∀ v2 : Int32, v2 = (if x1 < (2 : Int32) then (2 : Int32) else (if (8 : Int32) < x1 then (8 : Int32) else x1)) → ∀ v3 : Int32, v3 = (if x2 < (0 : Int32) then (0 : Int32) else (if x2 < ((2 : Int32) * v1) then (if x3 < (0 : Int32) then (0 : Int32) else (if x3 < v2 then (1 : Int32) else (0 : Int32))) else (0 : Int32))) → ∀ v4 : Int32, v4 = (if x4 < (0 : Int32) then (0 : Int32) else (if x4 < ((2 : Int32) * v1) then (if x5 < (0 : Int32) then (0 : Int32) else (if x5 < v2 then (1 : Int32) else (0 : Int32))) else (0 : Int32))) → W_mutate 0 [.val (.ref 0), .val (.int x2), .val (.int x3)] [] (LL1, mi, ml, RR1) (fun v M' => W_law 126 [.val (.int x0), .val (.int x1), .val (.int x2), .val (.int x3), .val (.int x4), .val (.int x5), .val (.ref 0), .val (.int v1), .val (.int v2), .val (.int ((2 : Int32) * v1)), .val (.int v3), .val (.int v4), .unset, .unset, .unset] (v.toList ++ []) M' Q)) :
    W_law 9 [.val (.int x0), .val (.int x1), .val (.int x2), .val (.int x3), .val (.int x4), .val (.int x5), .unset, .unset, .unset, .unset, .unset, .unset, .unset, .unset, .unset] [.ref 0] (LL1, mi, ml, RR1) Q := by
  refine Wp.p (pc' := 11) d_law_9 rfl rfl ?_
  refine Wp.p (pc' := 12) d_law_11 rfl rfl ?_
  refine Wp.iconst (1 : Int32) d_law_12 (by decide) ?_
  obtain ⟨v1, e1⟩ : ∃ z : Int32, z = (if x0 < (1 : Int32) then (1 : Int32) else (if (4 : Int32) < x0 then (4 : Int32) else x0)) := ⟨_, rfl⟩
  suffices K : W_law 30 [.val (.int x0), .val (.int x1), .val (.int x2), .val (.int x3), .val (.int x4), .val (.int x5), .val (.ref 0), .unset, .unset, .unset, .unset, .unset, .unset, .unset, .unset] [.int v1] (LL1, mi, ml, RR1) Q by
    refine Wp.icmp_ge d_law_13 rfl (fun q0 => ?_) (fun q0 => ?_)
    ·
      refine Wp.p (pc' := 21) d_law_20 rfl rfl ?_
      refine Wp.iconst (4 : Int32) d_law_21 (by decide) ?_
      refine Wp.icmp_le d_law_22 rfl (fun q1 => ?_) (fun q1 => ?_)
      ·
        refine Wp.p (pc' := 30) d_law_29 rfl rfl ?_
        rw [if_neg q0, if_neg q1] at e1; subst e1
        exact K
      ·
        refine Wp.iconst (4 : Int32) d_law_25 (by decide) ?_
        refine Wp.p (pc' := 30) d_law_26 rfl rfl ?_
        rw [if_neg q0, if_pos q1] at e1; subst e1
        exact K
    ·
      refine Wp.iconst (1 : Int32) d_law_16 (by decide) ?_
      refine Wp.p (pc' := 30) d_law_17 rfl rfl ?_
      rw [if_pos q0] at e1; subst e1
      exact K
  refine Wp.p (pc' := 32) d_law_30 rfl rfl ?_
  refine Wp.p (pc' := 33) d_law_32 rfl rfl ?_
  refine Wp.iconst (2 : Int32) d_law_33 (by decide) ?_
  obtain ⟨v2, e2⟩ : ∃ z : Int32, z = (if x1 < (2 : Int32) then (2 : Int32) else (if (8 : Int32) < x1 then (8 : Int32) else x1)) := ⟨_, rfl⟩
  suffices K : W_law 53 [.val (.int x0), .val (.int x1), .val (.int x2), .val (.int x3), .val (.int x4), .val (.int x5), .val (.ref 0), .val (.int v1), .unset, .unset, .unset, .unset, .unset, .unset, .unset] [.int v2] (LL1, mi, ml, RR1) Q by
    refine Wp.icmp_ge d_law_34 rfl (fun q0 => ?_) (fun q0 => ?_)
    ·
      refine Wp.p (pc' := 42) d_law_41 rfl rfl ?_
      refine Wp.bipush (8 : Int32) d_law_42 (by decide) ?_
      refine Wp.icmp_le d_law_44 rfl (fun q1 => ?_) (fun q1 => ?_)
      ·
        refine Wp.p (pc' := 53) d_law_52 rfl rfl ?_
        rw [if_neg q0, if_neg q1] at e2; subst e2
        exact K
      ·
        refine Wp.bipush (8 : Int32) d_law_47 (by decide) ?_
        refine Wp.p (pc' := 53) d_law_49 rfl rfl ?_
        rw [if_neg q0, if_pos q1] at e2; subst e2
        exact K
    ·
      refine Wp.iconst (2 : Int32) d_law_37 (by decide) ?_
      refine Wp.p (pc' := 53) d_law_38 rfl rfl ?_
      rw [if_pos q0] at e2; subst e2
      exact K
  refine Wp.p (pc' := 55) d_law_53 rfl rfl ?_
  refine Wp.iconst (2 : Int32) d_law_55 (by decide) ?_
  refine Wp.p (pc' := 58) d_law_56 rfl rfl ?_
  refine Wp.p (pc' := 59) d_law_58 rfl rfl ?_
  refine Wp.p (pc' := 61) d_law_59 rfl rfl ?_
  refine Wp.p (pc' := 62) d_law_61 rfl rfl ?_
  obtain ⟨v3, e3⟩ : ∃ z : Int32, z = (if x2 < (0 : Int32) then (0 : Int32) else (if x2 < ((2 : Int32) * v1) then (if x3 < (0 : Int32) then (0 : Int32) else (if x3 < v2 then (1 : Int32) else (0 : Int32))) else (0 : Int32))) := ⟨_, rfl⟩
  suffices K : W_law 86 [.val (.int x0), .val (.int x1), .val (.int x2), .val (.int x3), .val (.int x4), .val (.int x5), .val (.ref 0), .val (.int v1), .val (.int v2), .val (.int ((2 : Int32) * v1)), .unset, .unset, .unset, .unset, .unset] [.int v3] (LL1, mi, ml, RR1) Q by
    refine Wp.if_lt d_law_62 rfl (fun q0 => ?_) (fun q0 => ?_)
    ·
      refine Wp.iconst (0 : Int32) d_law_85 (by decide) ?_
      rw [if_pos q0] at e3; subst e3
      exact K
    ·
      refine Wp.p (pc' := 66) d_law_65 rfl rfl ?_
      refine Wp.p (pc' := 68) d_law_66 rfl rfl ?_
      refine Wp.icmp_ge d_law_68 rfl (fun q1 => ?_) (fun q1 => ?_)
      ·
        refine Wp.iconst (0 : Int32) d_law_85 (by decide) ?_
        rw [if_neg q0, if_neg q1] at e3; subst e3
        exact K
      ·
        refine Wp.p (pc' := 72) d_law_71 rfl rfl ?_
        refine Wp.if_lt d_law_72 rfl (fun q2 => ?_) (fun q2 => ?_)
        ·
          refine Wp.iconst (0 : Int32) d_law_85 (by decide) ?_
          rw [if_neg q0, if_pos q1, if_pos q2] at e3; subst e3
          exact K
        ·
          refine Wp.p (pc' := 76) d_law_75 rfl rfl ?_
          refine Wp.p (pc' := 78) d_law_76 rfl rfl ?_
          refine Wp.icmp_ge d_law_78 rfl (fun q3 => ?_) (fun q3 => ?_)
          ·
            refine Wp.iconst (0 : Int32) d_law_85 (by decide) ?_
            rw [if_neg q0, if_pos q1, if_neg q2, if_neg q3] at e3; subst e3
            exact K
          ·
            refine Wp.iconst (1 : Int32) d_law_81 (by decide) ?_
            refine Wp.p (pc' := 86) d_law_82 rfl rfl ?_
            rw [if_neg q0, if_pos q1, if_neg q2, if_pos q3] at e3; subst e3
            exact K
  refine Wp.p (pc' := 88) d_law_86 rfl rfl ?_
  refine Wp.p (pc' := 90) d_law_88 rfl rfl ?_
  obtain ⟨v4, e4⟩ : ∃ z : Int32, z = (if x4 < (0 : Int32) then (0 : Int32) else (if x4 < ((2 : Int32) * v1) then (if x5 < (0 : Int32) then (0 : Int32) else (if x5 < v2 then (1 : Int32) else (0 : Int32))) else (0 : Int32))) := ⟨_, rfl⟩
  suffices K : W_law 117 [.val (.int x0), .val (.int x1), .val (.int x2), .val (.int x3), .val (.int x4), .val (.int x5), .val (.ref 0), .val (.int v1), .val (.int v2), .val (.int ((2 : Int32) * v1)), .val (.int v3), .unset, .unset, .unset, .unset] [.int v4] (LL1, mi, ml, RR1) Q by
    refine Wp.if_lt d_law_90 rfl (fun q0 => ?_) (fun q0 => ?_)
    ·
      refine Wp.iconst (0 : Int32) d_law_116 (by decide) ?_
      rw [if_pos q0] at e4; subst e4
      exact K
    ·
      refine Wp.p (pc' := 95) d_law_93 rfl rfl ?_
      refine Wp.p (pc' := 97) d_law_95 rfl rfl ?_
      refine Wp.icmp_ge d_law_97 rfl (fun q1 => ?_) (fun q1 => ?_)
      ·
        refine Wp.iconst (0 : Int32) d_law_116 (by decide) ?_
        rw [if_neg q0, if_neg q1] at e4; subst e4
        exact K
      ·
        refine Wp.p (pc' := 102) d_law_100 rfl rfl ?_
        refine Wp.if_lt d_law_102 rfl (fun q2 => ?_) (fun q2 => ?_)
        ·
          refine Wp.iconst (0 : Int32) d_law_116 (by decide) ?_
          rw [if_neg q0, if_pos q1, if_pos q2] at e4; subst e4
          exact K
        ·
          refine Wp.p (pc' := 107) d_law_105 rfl rfl ?_
          refine Wp.p (pc' := 109) d_law_107 rfl rfl ?_
          refine Wp.icmp_ge d_law_109 rfl (fun q3 => ?_) (fun q3 => ?_)
          ·
            refine Wp.iconst (0 : Int32) d_law_116 (by decide) ?_
            rw [if_neg q0, if_pos q1, if_neg q2, if_neg q3] at e4; subst e4
            exact K
          ·
            refine Wp.iconst (1 : Int32) d_law_112 (by decide) ?_
            refine Wp.p (pc' := 117) d_law_113 rfl rfl ?_
            rw [if_neg q0, if_pos q1, if_neg q2, if_pos q3] at e4; subst e4
            exact K
  refine Wp.p (pc' := 119) d_law_117 rfl rfl ?_
  refine Wp.p (pc' := 121) d_law_119 rfl rfl ?_
  refine Wp.p (pc' := 122) d_law_121 rfl rfl ?_
  refine Wp.p (pc' := 123) d_law_122 rfl rfl ?_
  refine Wp.callV (a := 0) (as := [.int x2, .int x3]) (rest := []) (w := 0) (F' := 1) (Lb' := 16) d_law_123 ca_w12_0n ca_w12_0 rfl rfl rfl rfl (by decide) (by decide) (Nat.le_of_ble_eq_true rfl) ?_
  exact (h1 v1 e1 v2 e2 v3 e3 v4 e4)
set_option maxRecDepth 65536 in
set_option maxHeartbeats 4000000 in
theorem L_law_126 {x0 x1 x2 x3 x4 x5 x7 x8 x9 x10 x11 y0 : Int32} {mi : Nat → Nat → Int32} {ml : Nat → Nat → Int64} {Q : Option Value → EMem → Prop}
    (h1 : ∀ v1 : Int32, v1 = (if x10 = (0 : Int32) then (-1 : Int32) else (1 : Int32)) → y0 = v1 → ∀ v3 : Int32, v3 = (if x10 = (0 : Int32) then (0 : Int32) else (1 : Int32)) → (mi 0 93) = v3 → (mi 0 91) = (0 : Int32) → W_mutationSite 0 [.val (.ref 0), .val (.int x2)] [] (LL1, mi, ml, RR1) (fun v M' => W_law 181 [.val (.int x0), .val (.int x1), .val (.int x2), .val (.int x3), .val (.int x4), .val (.int x5), .val (.ref 0), .val (.int x7), .val (.int x8), .val (.int x9), .val (.int x10), .val (.int x11), .val (.int y0), .unset, .unset] (v.toList ++ []) M' Q))
    (h2 : ∀ v1 : Int32, v1 = (if x10 = (0 : Int32) then (-1 : Int32) else (1 : Int32)) → y0 = v1 → ∀ v3 : Int32, v3 = (if x10 = (0 : Int32) then (0 : Int32) else (1 : Int32)) → (mi 0 93) = v3 → ¬ (mi 0 91) = (0 : Int32) → Q (some (.int (0 : Int32))) (LL1, mi, ml, RR1))
    (h3 : ∀ v1 : Int32, v1 = (if x10 = (0 : Int32) then (-1 : Int32) else (1 : Int32)) → y0 = v1 → ∀ v3 : Int32, v3 = (if x10 = (0 : Int32) then (0 : Int32) else (1 : Int32)) → ¬ (mi 0 93) = v3 → Q (some (.int (0 : Int32))) (LL1, mi, ml, RR1))
    (h4 : ∀ v1 : Int32, v1 = (if x10 = (0 : Int32) then (-1 : Int32) else (1 : Int32)) → ¬ y0 = v1 → Q (some (.int (0 : Int32))) (LL1, mi, ml, RR1)) :
    W_law 126 [.val (.int x0), .val (.int x1), .val (.int x2), .val (.int x3), .val (.int x4), .val (.int x5), .val (.ref 0), .val (.int x7), .val (.int x8), .val (.int x9), .val (.int x10), .val (.int x11), .unset, .unset, .unset] [.int y0] (LL1, mi, ml, RR1) Q := by
  refine Wp.p (pc' := 128) d_law_126 rfl rfl ?_
  refine Wp.p (pc' := 130) d_law_128 rfl rfl ?_
  refine Wp.p (pc' := 132) d_law_130 rfl rfl ?_
  obtain ⟨v1, e1⟩ : ∃ z : Int32, z = (if x10 = (0 : Int32) then (-1 : Int32) else (1 : Int32)) := ⟨_, rfl⟩
  suffices K : W_law 140 [.val (.int x0), .val (.int x1), .val (.int x2), .val (.int x3), .val (.int x4), .val (.int x5), .val (.ref 0), .val (.int x7), .val (.int x8), .val (.int x9), .val (.int x10), .val (.int x11), .val (.int y0), .unset, .unset] [.int v1, .int y0] (LL1, mi, ml, RR1) Q by
    refine Wp.if_eq d_law_132 rfl (fun q0 => ?_) (fun q0 => ?_)
    ·
      refine Wp.iconst (-1 : Int32) d_law_139 (by decide) ?_
      rw [if_pos q0] at e1; subst e1
      exact K
    ·
      refine Wp.iconst (1 : Int32) d_law_135 (by decide) ?_
      refine Wp.p (pc' := 140) d_law_136 rfl rfl ?_
      rw [if_neg q0] at e1; subst e1
      exact K
  refine Wp.icmp_eq d_law_140 rfl (fun c2 => ?_) (fun c2 => ?_)
  ·
    refine Wp.p (pc' := 147) d_law_145 rfl rfl ?_
    refine Wp.callV (a := 0) (as := []) (rest := []) (w := 0) (F' := 0) (Lb' := 0) d_law_147 ca_w16_0n ca_w16_0 rfl rfl rfl rfl (by decide) (by decide) (Nat.le_of_ble_eq_true rfl) ?_
    refine L_mutationCount_0 ?_
    show W_law 150 [.val (.int x0), .val (.int x1), .val (.int x2), .val (.int x3), .val (.int x4), .val (.int x5), .val (.ref 0), .val (.int x7), .val (.int x8), .val (.int x9), .val (.int x10), .val (.int x11), .val (.int y0), .unset, .unset] [.int (mi 0 93)] (LL1, mi, ml, RR1) Q
    refine Wp.p (pc' := 152) d_law_150 rfl rfl ?_
    obtain ⟨v3, e3⟩ : ∃ z : Int32, z = (if x10 = (0 : Int32) then (0 : Int32) else (1 : Int32)) := ⟨_, rfl⟩
    suffices K : W_law 160 [.val (.int x0), .val (.int x1), .val (.int x2), .val (.int x3), .val (.int x4), .val (.int x5), .val (.ref 0), .val (.int x7), .val (.int x8), .val (.int x9), .val (.int x10), .val (.int x11), .val (.int y0), .unset, .unset] [.int v3, .int (mi 0 93)] (LL1, mi, ml, RR1) Q by
      refine Wp.if_eq d_law_152 rfl (fun q0 => ?_) (fun q0 => ?_)
      ·
        refine Wp.iconst (0 : Int32) d_law_159 (by decide) ?_
        rw [if_pos q0] at e3; subst e3
        exact K
      ·
        refine Wp.iconst (1 : Int32) d_law_155 (by decide) ?_
        refine Wp.p (pc' := 160) d_law_156 rfl rfl ?_
        rw [if_neg q0] at e3; subst e3
        exact K
    refine Wp.icmp_eq d_law_160 rfl (fun c4 => ?_) (fun c4 => ?_)
    ·
      refine Wp.p (pc' := 167) d_law_165 rfl rfl ?_
      refine Wp.callV (a := 0) (as := []) (rest := []) (w := 0) (F' := 0) (Lb' := 0) d_law_167 ca_w20_0n ca_w20_0 rfl rfl rfl rfl (by decide) (by decide) (Nat.le_of_ble_eq_true rfl) ?_
      refine L_generation_0 ?_
      show W_law 170 [.val (.int x0), .val (.int x1), .val (.int x2), .val (.int x3), .val (.int x4), .val (.int x5), .val (.ref 0), .val (.int x7), .val (.int x8), .val (.int x9), .val (.int x10), .val (.int x11), .val (.int y0), .unset, .unset] [.int (mi 0 91)] (LL1, mi, ml, RR1) Q
      refine Wp.if_eq d_law_170 rfl (fun c5 => ?_) (fun c5 => ?_)
      ·
        refine Wp.p (pc' := 177) d_law_175 rfl rfl ?_
        refine Wp.p (pc' := 178) d_law_177 rfl rfl ?_
        refine Wp.callV (a := 0) (as := [.int x2]) (rest := []) (w := 0) (F' := 0) (Lb' := 0) d_law_178 ca_w23_0n ca_w23_0 rfl rfl rfl rfl (by decide) (by decide) (Nat.le_of_ble_eq_true rfl) ?_
        exact (h1 v1 e1 c2 v3 e3 c4 c5)
      ·
        refine Wp.iconst (0 : Int32) d_law_173 (by decide) ?_
        refine Wp.retZ (0 : Int32) d_law_174 (by decide) ?_
        exact (h2 v1 e1 c2 v3 e3 c4 c5)
    ·
      refine Wp.iconst (0 : Int32) d_law_163 (by decide) ?_
      refine Wp.retZ (0 : Int32) d_law_164 (by decide) ?_
      exact (h3 v1 e1 c2 v3 e3 c4)
  ·
    refine Wp.iconst (0 : Int32) d_law_143 (by decide) ?_
    refine Wp.retZ (0 : Int32) d_law_144 (by decide) ?_
    exact (h4 v1 e1 c2)
set_option maxRecDepth 65536 in
set_option maxHeartbeats 4000000 in
theorem L_law_181 {x0 x1 x2 x3 x4 x5 x7 x8 x9 x10 x11 x12 y0 : Int32} {mi : Nat → Nat → Int32} {ml : Nat → Nat → Int64} {Q : Option Value → EMem → Prop}
    (h1 : y0 = (-1 : Int32) → W_genotype 0 [.val (.ref 0), .val (.int x2), .val (.int x3)] [] (LL1, mi, ml, RR1) (fun v M' => W_law 194 [.val (.int x0), .val (.int x1), .val (.int x2), .val (.int x3), .val (.int x4), .val (.int x5), .val (.ref 0), .val (.int x7), .val (.int x8), .val (.int x9), .val (.int x10), .val (.int x11), .val (.int x12), .unset, .unset] (v.toList ++ []) M' Q))
    (h2 : ¬ y0 = (-1 : Int32) → Q (some (.int (0 : Int32))) (LL1, mi, ml, RR1)) :
    W_law 181 [.val (.int x0), .val (.int x1), .val (.int x2), .val (.int x3), .val (.int x4), .val (.int x5), .val (.ref 0), .val (.int x7), .val (.int x8), .val (.int x9), .val (.int x10), .val (.int x11), .val (.int x12), .unset, .unset] [.int y0] (LL1, mi, ml, RR1) Q := by
  refine Wp.iconst (-1 : Int32) d_law_181 (by decide) ?_
  refine Wp.icmp_eq d_law_182 rfl (fun c1 => ?_) (fun c1 => ?_)
  ·
    refine Wp.p (pc' := 189) d_law_187 rfl rfl ?_
    refine Wp.p (pc' := 190) d_law_189 rfl rfl ?_
    refine Wp.p (pc' := 191) d_law_190 rfl rfl ?_
    refine Wp.callV (a := 0) (as := [.int x2, .int x3]) (rest := []) (w := 0) (F' := 2) (Lb' := 29) d_law_191 ca_w27_0n ca_w27_0 rfl rfl rfl rfl (by decide) (by decide) (Nat.le_of_ble_eq_true rfl) ?_
    exact (h1 c1)
  ·
    refine Wp.iconst (0 : Int32) d_law_185 (by decide) ?_
    refine Wp.retZ (0 : Int32) d_law_186 (by decide) ?_
    exact (h2 c1)
set_option maxRecDepth 65536 in
set_option maxHeartbeats 4000000 in
theorem L_law_194 {x0 x1 x2 x3 x4 x5 x7 x8 x9 x10 x11 x12 y0 : Int32} {mi : Nat → Nat → Int32} {ml : Nat → Nat → Int64} {Q : Option Value → EMem → Prop}
    (h1 : ∀ v1 : Int32, v1 = (if x10 = (0 : Int32) then (-1 : Int32) else (1 : Int32)) → y0 = v1 → ∀ v3 : Int32, v3 = (if x11 = (0 : Int32) then (-1 : Int32) else (if x10 = (0 : Int32) then (0 : Int32) else (if x4 = x2 then (if x5 = x3 then (1 : Int32) else (0 : Int32)) else (0 : Int32)))) → W_genotype 0 [.val (.ref 0), .val (.int x4), .val (.int x5)] [] (LL1, mi, ml, RR1) (fun v M' => W_law 251 [.val (.int x0), .val (.int x1), .val (.int x2), .val (.int x3), .val (.int x4), .val (.int x5), .val (.ref 0), .val (.int x7), .val (.int x8), .val (.int x9), .val (.int x10), .val (.int x11), .val (.int x12), .val (.int v3), .unset] (v.toList ++ []) M' Q))
    (h2 : ∀ v1 : Int32, v1 = (if x10 = (0 : Int32) then (-1 : Int32) else (1 : Int32)) → ¬ y0 = v1 → Q (some (.int (0 : Int32))) (LL1, mi, ml, RR1)) :
    W_law 194 [.val (.int x0), .val (.int x1), .val (.int x2), .val (.int x3), .val (.int x4), .val (.int x5), .val (.ref 0), .val (.int x7), .val (.int x8), .val (.int x9), .val (.int x10), .val (.int x11), .val (.int x12), .unset, .unset] [.int y0] (LL1, mi, ml, RR1) Q := by
  refine Wp.p (pc' := 196) d_law_194 rfl rfl ?_
  obtain ⟨v1, e1⟩ : ∃ z : Int32, z = (if x10 = (0 : Int32) then (-1 : Int32) else (1 : Int32)) := ⟨_, rfl⟩
  suffices K : W_law 204 [.val (.int x0), .val (.int x1), .val (.int x2), .val (.int x3), .val (.int x4), .val (.int x5), .val (.ref 0), .val (.int x7), .val (.int x8), .val (.int x9), .val (.int x10), .val (.int x11), .val (.int x12), .unset, .unset] [.int v1, .int y0] (LL1, mi, ml, RR1) Q by
    refine Wp.if_eq d_law_196 rfl (fun q0 => ?_) (fun q0 => ?_)
    ·
      refine Wp.iconst (-1 : Int32) d_law_203 (by decide) ?_
      rw [if_pos q0] at e1; subst e1
      exact K
    ·
      refine Wp.iconst (1 : Int32) d_law_199 (by decide) ?_
      refine Wp.p (pc' := 204) d_law_200 rfl rfl ?_
      rw [if_neg q0] at e1; subst e1
      exact K
  refine Wp.icmp_eq d_law_204 rfl (fun c2 => ?_) (fun c2 => ?_)
  ·
    refine Wp.p (pc' := 211) d_law_209 rfl rfl ?_
    obtain ⟨v3, e3⟩ : ∃ z : Int32, z = (if x11 = (0 : Int32) then (-1 : Int32) else (if x10 = (0 : Int32) then (0 : Int32) else (if x4 = x2 then (if x5 = x3 then (1 : Int32) else (0 : Int32)) else (0 : Int32)))) := ⟨_, rfl⟩
    suffices K : W_law 240 [.val (.int x0), .val (.int x1), .val (.int x2), .val (.int x3), .val (.int x4), .val (.int x5), .val (.ref 0), .val (.int x7), .val (.int x8), .val (.int x9), .val (.int x10), .val (.int x11), .val (.int x12), .unset, .unset] [.int v3] (LL1, mi, ml, RR1) Q by
      refine Wp.if_ne d_law_211 rfl (fun q0 => ?_) (fun q0 => ?_)
      ·
        refine Wp.p (pc' := 220) d_law_218 rfl rfl ?_
        refine Wp.if_eq d_law_220 rfl (fun q1 => ?_) (fun q1 => ?_)
        ·
          refine Wp.iconst (0 : Int32) d_law_239 (by decide) ?_
          rw [if_neg q0, if_pos q1] at e3; subst e3
          exact K
        ·
          refine Wp.p (pc' := 225) d_law_223 rfl rfl ?_
          refine Wp.p (pc' := 226) d_law_225 rfl rfl ?_
          refine Wp.icmp_ne d_law_226 rfl (fun q2 => ?_) (fun q2 => ?_)
          ·
            refine Wp.iconst (0 : Int32) d_law_239 (by decide) ?_
            rw [if_neg q0, if_neg q1, if_neg q2] at e3; subst e3
            exact K
          ·
            refine Wp.p (pc' := 231) d_law_229 rfl rfl ?_
            refine Wp.p (pc' := 232) d_law_231 rfl rfl ?_
            refine Wp.icmp_ne d_law_232 rfl (fun q3 => ?_) (fun q3 => ?_)
            ·
              refine Wp.iconst (0 : Int32) d_law_239 (by decide) ?_
              rw [if_neg q0, if_neg q1, if_pos q2, if_neg q3] at e3; subst e3
              exact K
            ·
              refine Wp.iconst (1 : Int32) d_law_235 (by decide) ?_
              refine Wp.p (pc' := 240) d_law_236 rfl rfl ?_
              rw [if_neg q0, if_neg q1, if_pos q2, if_pos q3] at e3; subst e3
              exact K
      ·
        refine Wp.iconst (-1 : Int32) d_law_214 (by decide) ?_
        refine Wp.p (pc' := 240) d_law_215 rfl rfl ?_
        rw [if_pos q0] at e3; subst e3
        exact K
    refine Wp.p (pc' := 242) d_law_240 rfl rfl ?_
    refine Wp.p (pc' := 244) d_law_242 rfl rfl ?_
    refine Wp.p (pc' := 246) d_law_244 rfl rfl ?_
    refine Wp.p (pc' := 248) d_law_246 rfl rfl ?_
    refine Wp.callV (a := 0) (as := [.int x4, .int x5]) (rest := []) (w := 0) (F' := 2) (Lb' := 29) d_law_248 ca_w27_0n ca_w27_0 rfl rfl rfl rfl (by decide) (by decide) (Nat.le_of_ble_eq_true rfl) ?_
    exact (h1 v1 e1 c2 v3 e3)
  ·
    refine Wp.iconst (0 : Int32) d_law_207 (by decide) ?_
    refine Wp.retZ (0 : Int32) d_law_208 (by decide) ?_
    exact (h2 v1 e1 c2)
set_option maxRecDepth 65536 in
set_option maxHeartbeats 4000000 in
theorem L_law_251 {x0 x1 x2 x3 x4 x5 x7 x8 x9 x10 x11 x12 x13 y0 : Int32} {mi : Nat → Nat → Int32} {ml : Nat → Nat → Int64} {Q : Option Value → EMem → Prop}
    (h1 : y0 = x13 → W_segregatingSites 0 [.val (.ref 0), .unset, .unset] [] (LL1, mi, ml, RR1) (fun v M' => W_law 263 [.val (.int x0), .val (.int x1), .val (.int x2), .val (.int x3), .val (.int x4), .val (.int x5), .val (.ref 0), .val (.int x7), .val (.int x8), .val (.int x9), .val (.int x10), .val (.int x11), .val (.int x12), .val (.int x13), .unset] (v.toList ++ []) M' Q))
    (h2 : ¬ y0 = x13 → Q (some (.int (0 : Int32))) (LL1, mi, ml, RR1)) :
    W_law 251 [.val (.int x0), .val (.int x1), .val (.int x2), .val (.int x3), .val (.int x4), .val (.int x5), .val (.ref 0), .val (.int x7), .val (.int x8), .val (.int x9), .val (.int x10), .val (.int x11), .val (.int x12), .val (.int x13), .unset] [.int y0] (LL1, mi, ml, RR1) Q := by
  refine Wp.p (pc' := 253) d_law_251 rfl rfl ?_
  refine Wp.icmp_eq d_law_253 rfl (fun c1 => ?_) (fun c1 => ?_)
  ·
    refine Wp.p (pc' := 260) d_law_258 rfl rfl ?_
    refine Wp.callV (a := 0) (as := []) (rest := []) (w := 0) (F' := 3) (Lb' := 44) d_law_260 ca_w30_0n ca_w30_0 rfl rfl rfl rfl (by decide) (by decide) (Nat.le_of_ble_eq_true rfl) ?_
    exact (h1 c1)
  ·
    refine Wp.iconst (0 : Int32) d_law_256 (by decide) ?_
    refine Wp.retZ (0 : Int32) d_law_257 (by decide) ?_
    exact (h2 c1)
set_option maxRecDepth 65536 in
set_option maxHeartbeats 4000000 in
theorem L_law_263 {x0 x1 x2 x3 x4 x5 x7 x8 x9 x10 x11 x12 x13 y0 : Int32} {mi : Nat → Nat → Int32} {ml : Nat → Nat → Int64} {Q : Option Value → EMem → Prop}
    (h1 : ∀ v1 : Int32, v1 = (if x10 = (0 : Int32) then (0 : Int32) else (1 : Int32)) → y0 = v1 → ∀ v3 : Int32, v3 = (if x3 < (0 : Int32) then (-1 : Int32) else (if x3 < x8 then (if x10 = (0 : Int32) then (0 : Int32) else (1 : Int32)) else (-1 : Int32))) → W_alleleCount 0 [.val (.ref 0), .val (.int x3), .val (.int (1 : Int32)), .unset, .unset] [] (LL1, mi, ml, RR1) (fun v M' => W_law 311 [.val (.int x0), .val (.int x1), .val (.int x2), .val (.int x3), .val (.int x4), .val (.int x5), .val (.ref 0), .val (.int x7), .val (.int x8), .val (.int x9), .val (.int x10), .val (.int x11), .val (.int x12), .val (.int x13), .val (.int v3)] (v.toList ++ []) M' Q))
    (h2 : ∀ v1 : Int32, v1 = (if x10 = (0 : Int32) then (0 : Int32) else (1 : Int32)) → ¬ y0 = v1 → Q (some (.int (0 : Int32))) (LL1, mi, ml, RR1)) :
    W_law 263 [.val (.int x0), .val (.int x1), .val (.int x2), .val (.int x3), .val (.int x4), .val (.int x5), .val (.ref 0), .val (.int x7), .val (.int x8), .val (.int x9), .val (.int x10), .val (.int x11), .val (.int x12), .val (.int x13), .unset] [.int y0] (LL1, mi, ml, RR1) Q := by
  refine Wp.p (pc' := 265) d_law_263 rfl rfl ?_
  obtain ⟨v1, e1⟩ : ∃ z : Int32, z = (if x10 = (0 : Int32) then (0 : Int32) else (1 : Int32)) := ⟨_, rfl⟩
  suffices K : W_law 273 [.val (.int x0), .val (.int x1), .val (.int x2), .val (.int x3), .val (.int x4), .val (.int x5), .val (.ref 0), .val (.int x7), .val (.int x8), .val (.int x9), .val (.int x10), .val (.int x11), .val (.int x12), .val (.int x13), .unset] [.int v1, .int y0] (LL1, mi, ml, RR1) Q by
    refine Wp.if_eq d_law_265 rfl (fun q0 => ?_) (fun q0 => ?_)
    ·
      refine Wp.iconst (0 : Int32) d_law_272 (by decide) ?_
      rw [if_pos q0] at e1; subst e1
      exact K
    ·
      refine Wp.iconst (1 : Int32) d_law_268 (by decide) ?_
      refine Wp.p (pc' := 273) d_law_269 rfl rfl ?_
      rw [if_neg q0] at e1; subst e1
      exact K
  refine Wp.icmp_eq d_law_273 rfl (fun c2 => ?_) (fun c2 => ?_)
  ·
    refine Wp.p (pc' := 279) d_law_278 rfl rfl ?_
    obtain ⟨v3, e3⟩ : ∃ z : Int32, z = (if x3 < (0 : Int32) then (-1 : Int32) else (if x3 < x8 then (if x10 = (0 : Int32) then (0 : Int32) else (1 : Int32)) else (-1 : Int32))) := ⟨_, rfl⟩
    suffices K : W_law 302 [.val (.int x0), .val (.int x1), .val (.int x2), .val (.int x3), .val (.int x4), .val (.int x5), .val (.ref 0), .val (.int x7), .val (.int x8), .val (.int x9), .val (.int x10), .val (.int x11), .val (.int x12), .val (.int x13), .unset] [.int v3] (LL1, mi, ml, RR1) Q by
      refine Wp.if_lt d_law_279 rfl (fun q0 => ?_) (fun q0 => ?_)
      ·
        refine Wp.iconst (-1 : Int32) d_law_288 (by decide) ?_
        refine Wp.p (pc' := 302) d_law_289 rfl rfl ?_
        rw [if_pos q0] at e3; subst e3
        exact K
      ·
        refine Wp.p (pc' := 283) d_law_282 rfl rfl ?_
        refine Wp.p (pc' := 285) d_law_283 rfl rfl ?_
        refine Wp.icmp_lt d_law_285 rfl (fun q1 => ?_) (fun q1 => ?_)
        ·
          refine Wp.p (pc' := 294) d_law_292 rfl rfl ?_
          refine Wp.if_eq d_law_294 rfl (fun q2 => ?_) (fun q2 => ?_)
          ·
            refine Wp.iconst (0 : Int32) d_law_301 (by decide) ?_
            rw [if_neg q0, if_pos q1, if_pos q2] at e3; subst e3
            exact K
          ·
            refine Wp.iconst (1 : Int32) d_law_297 (by decide) ?_
            refine Wp.p (pc' := 302) d_law_298 rfl rfl ?_
            rw [if_neg q0, if_pos q1, if_neg q2] at e3; subst e3
            exact K
        ·
          refine Wp.iconst (-1 : Int32) d_law_288 (by decide) ?_
          refine Wp.p (pc' := 302) d_law_289 rfl rfl ?_
          rw [if_neg q0, if_neg q1] at e3; subst e3
          exact K
    refine Wp.p (pc' := 304) d_law_302 rfl rfl ?_
    refine Wp.p (pc' := 306) d_law_304 rfl rfl ?_
    refine Wp.p (pc' := 307) d_law_306 rfl rfl ?_
    refine Wp.iconst (1 : Int32) d_law_307 (by decide) ?_
    refine Wp.callV (a := 0) (as := [.int x3, .int (1 : Int32)]) (rest := []) (w := 0) (F' := 2) (Lb' := 29) d_law_308 ca_w33_0n ca_w33_0 rfl rfl rfl rfl (by decide) (by decide) (Nat.le_of_ble_eq_true rfl) ?_
    exact (h1 v1 e1 c2 v3 e3)
  ·
    refine Wp.iconst (0 : Int32) d_law_276 (by decide) ?_
    refine Wp.retZ (0 : Int32) d_law_277 (by decide) ?_
    exact (h2 v1 e1 c2)
set_option maxRecDepth 65536 in
set_option maxHeartbeats 4000000 in
theorem L_law_311 {x0 x1 x2 x3 x4 x5 x7 x8 x9 x10 x11 x12 x13 x14 y0 : Int32} {mi : Nat → Nat → Int32} {ml : Nat → Nat → Int64} {Q : Option Value → EMem → Prop}
    (h1 : ∀ v1 : Int32, v1 = (if y0 = x14 then (1 : Int32) else (0 : Int32)) → Q (some (.int (v1 &&& 1))) (LL1, mi, ml, RR1)) :
    W_law 311 [.val (.int x0), .val (.int x1), .val (.int x2), .val (.int x3), .val (.int x4), .val (.int x5), .val (.ref 0), .val (.int x7), .val (.int x8), .val (.int x9), .val (.int x10), .val (.int x11), .val (.int x12), .val (.int x13), .val (.int x14)] [.int y0] (LL1, mi, ml, RR1) Q := by
  refine Wp.p (pc' := 313) d_law_311 rfl rfl ?_
  obtain ⟨v1, e1⟩ : ∃ z : Int32, z = (if y0 = x14 then (1 : Int32) else (0 : Int32)) := ⟨_, rfl⟩
  suffices K : W_law 321 [.val (.int x0), .val (.int x1), .val (.int x2), .val (.int x3), .val (.int x4), .val (.int x5), .val (.ref 0), .val (.int x7), .val (.int x8), .val (.int x9), .val (.int x10), .val (.int x11), .val (.int x12), .val (.int x13), .val (.int x14)] [.int v1] (LL1, mi, ml, RR1) Q by
    refine Wp.icmp_ne d_law_313 rfl (fun q0 => ?_) (fun q0 => ?_)
    ·
      refine Wp.iconst (0 : Int32) d_law_320 (by decide) ?_
      rw [if_neg q0] at e1; subst e1
      exact K
    ·
      refine Wp.iconst (1 : Int32) d_law_316 (by decide) ?_
      refine Wp.p (pc' := 321) d_law_317 rfl rfl ?_
      rw [if_pos q0] at e1; subst e1
      exact K
  refine Wp.retZ (v1 &&& 1) d_law_321 (by rfl) ?_
  exact (h1 v1 e1)

theorem own_lt_succ {x n : Int32} (h : x < n) : (x + 1).toInt = x.toInt + 1 := by
  rw [Int32.lt_iff_toInt_lt] at h
  have h1 := c_iadd x 1
  have h2 := rng32 (x + 1)
  have h3 := rng32 x
  have h4 := rng32 n
  have h5 : (1 : Int32).toInt = 1 := by decide
  omega
theorem own_succ_nn {x n : Int32} (hx : ¬ x < 0) (h : x < n) : ¬ x + 1 < 0 := by
  have hs := own_lt_succ h
  rw [Int32.lt_iff_toInt_lt] at hx ⊢
  have z : (0 : Int32).toInt = 0 := by decide
  rw [z] at hx ⊢
  omega
theorem own_dec {x n : Int32} (h : x < n) : (n.toInt - (x + 1).toInt).toNat < (n.toInt - x.toInt).toNat := by
  have hs := own_lt_succ h
  rw [Int32.lt_iff_toInt_lt] at h
  omega
theorem own_lt_of {a x n : Int32} (h : x < n) (h2 : a < x + 1) (q : ¬ a = x) : a < x := by
  have hs := own_lt_succ h
  rw [Int32.lt_iff_toInt_lt] at h2 ⊢
  have : a.toInt ≠ x.toInt := fun z => q (Int32.toInt_inj.mp z)
  omega
/-- what the constructor's first loop has laid below x -/
def own_IA (mi : Nat → Nat → Int32) (x : Int32) : Prop := ∀ a : Int32, ¬ a < 0 → a < x → mi 2 a.toNatClampNeg = a ∧ mi 3 a.toNatClampNeg = a
theorem own_init1 {x1 x2 x3 x4 N : Int32} {Q : Option Value → EMem → Prop} (F : Nat → Int32) (hN : ¬ 8 < N) (hF81 : F 81 = N)
    (K : ∀ mi ml, (∀ k, mi 0 k = F k) → own_IA mi N → W_init 456 [.val (.ref 0), .val (.int x1), .val (.int x2), .val (.int x3), .val (.int x4), .val (.int 0)] [] (LL1, mi, ml, RR1) Q)
    (x : Int32) (mi : Nat → Nat → Int32) (ml : Nat → Nat → Int64) (hx : ¬ x < 0) (hF : ∀ k, mi 0 k = F k) (hI : own_IA mi x) :
    W_init 404 [.val (.ref 0), .val (.int x1), .val (.int x2), .val (.int x3), .val (.int x4), .val (.int x)] [] (LL1, mi, ml, RR1) Q := by
  have hn : mi 0 81 = N := (hF _).trans hF81
  refine L_init_404 ?_ ?_ ?_ ?_
  · intro h
    rw [hn] at h
    exact K _ _ hF (fun a h1 h2 => hI a h1 (by grind))
  · intro h; rw [hn] at h; exact inb_lt 128 hx (by grind) (by decide)
  · intro h; rw [hn] at h; exact inb_lt 8 hx (by grind) (by decide)
  · intro h
    have h' : x < N := hn ▸ h
    refine own_init1 F hN hF81 K (x + 1) _ _ (own_succ_nn hx h') (fun k => hF k) ?_
    intro a h1 h2
    simp only [up_at]
    by_cases q : a = x
    · subst q; simp
    · have w : ¬ a.toNatClampNeg = x.toNatClampNeg := fun z => q (clamp_inj h1 hx z)
      simp [w]
      exact hI a h1 (own_lt_of h' h2 q)
termination_by (N.toInt - x.toInt).toNat
decreasing_by exact own_dec h'
theorem own_init2 {x1 x2 x3 x4 N : Int32} {Q : Option Value → EMem → Prop} (F : Nat → Int32)
    (K : ∀ mi ml, (∀ k, mi 0 k = F k) → own_IA mi N → Q none (LL1, mi, ml, RR1))
    (x : Int32) (mi : Nat → Nat → Int32) (ml : Nat → Nat → Int64) (hx : ¬ x < 0) (hF : ∀ k, mi 0 k = F k) (hI : own_IA mi N) :
    W_init 456 [.val (.ref 0), .val (.int x1), .val (.int x2), .val (.int x3), .val (.int x4), .val (.int x)] [] (LL1, mi, ml, RR1) Q := by
  refine L_init_456 ?_ ?_ ?_
  · intro h; exact K _ _ hF hI
  · intro h; exact inb_lt 64 hx h (by decide)
  · intro h
    refine own_init2 F K (x + 1) _ _ (own_succ_nn hx h) (fun k => hF k) (fun a h1 h2 => hI a h1 h2)
termination_by ((64 : Int32).toInt - x.toInt).toNat
decreasing_by exact own_dec h

abbrev own_S (mi : Nat → Nat → Int32) (N S M gm sm : Int32) : Prop :=
  (mi 0 97 = N) ∧ (mi 0 81 = N) ∧ (mi 0 83 = S) ∧ (mi 0 91 = 0) ∧ (mi 0 99 = 0) ∧ (mi 0 101 = M) ∧ (own_IA mi N) ∧ (mi 8 0 = gm) ∧ (mi 9 0 = sm) ∧ (M = 1 → mi 10 0 = 1)
theorem own_S.nodes {mi : Nat → Nat → Int32} {N S M gm sm : Int32} (self : own_S mi N S M gm sm) : mi 0 97 = N := self.1
theorem own_S.nGen {mi : Nat → Nat → Int32} {N S M gm sm : Int32} (self : own_S mi N S M gm sm) : mi 0 81 = N := self.2.1
theorem own_S.nSites {mi : Nat → Nat → Int32} {N S M gm sm : Int32} (self : own_S mi N S M gm sm) : mi 0 83 = S := self.2.2.1
theorem own_S.gens {mi : Nat → Nat → Int32} {N S M gm sm : Int32} (self : own_S mi N S M gm sm) : mi 0 91 = 0 := self.2.2.2.1
theorem own_S.edges {mi : Nat → Nat → Int32} {N S M gm sm : Int32} (self : own_S mi N S M gm sm) : mi 0 99 = 0 := self.2.2.2.2.1
theorem own_S.muts {mi : Nat → Nat → Int32} {N S M gm sm : Int32} (self : own_S mi N S M gm sm) : mi 0 101 = M := self.2.2.2.2.2.1
theorem own_S.IA {mi : Nat → Nat → Int32} {N S M gm sm : Int32} (self : own_S mi N S M gm sm) : own_IA mi N := self.2.2.2.2.2.2.1
theorem own_S.mN {mi : Nat → Nat → Int32} {N S M gm sm : Int32} (self : own_S mi N S M gm sm) : mi 8 0 = gm := self.2.2.2.2.2.2.2.1
theorem own_S.mS {mi : Nat → Nat → Int32} {N S M gm sm : Int32} (self : own_S mi N S M gm sm) : mi 9 0 = sm := self.2.2.2.2.2.2.2.2.1
theorem own_S.mC {mi : Nat → Nat → Int32} {N S M gm sm : Int32} (self : own_S mi N S M gm sm) : M = 1 → mi 10 0 = 1 := self.2.2.2.2.2.2.2.2.2
theorem own_S.fr {mi mi' : Nat → Nat → Int32} {N S M gm sm : Int32} (h : own_S mi N S M gm sm) (f : ∀ b k, b ≠ 15 → b ≠ 13 → b ≠ 14 → mi' b k = mi b k) : own_S mi' N S M gm sm := by
  have f0 : ∀ k, mi' 0 k = mi 0 k := fun k => f 0 k (by decide) (by decide) (by decide)
  refine ⟨(f0 _).trans h.nodes, (f0 _).trans h.nGen, (f0 _).trans h.nSites, (f0 _).trans h.gens, (f0 _).trans h.edges, (f0 _).trans h.muts, ?_, (f _ _ (by decide) (by decide) (by decide)).trans h.mN, (f _ _ (by decide) (by decide) (by decide)).trans h.mS, fun q => (f _ _ (by decide) (by decide) (by decide)).trans (h.mC q)⟩
  intro a h1 h2
  obtain ⟨q1, q2⟩ := h.IA a h1 h2
  exact ⟨(f _ _ (by decide) (by decide) (by decide)).trans q1, (f _ _ (by decide) (by decide) (by decide)).trans q2⟩
theorem own_fp1 {x1 N : Int32} {Q : Option Value → EMem → Prop} (mi0 : Nat → Nat → Int32) (hN : ¬ 8 < N) (hn0 : mi0 0 97 = N) (he : mi0 0 99 = 0)
    (K : ∀ mi ml, (∀ b k, b ≠ 13 → mi b k = mi0 b k) → (∀ a : Int32, ¬ a < 0 → a < N → mi 13 a.toNatClampNeg = -1) → Q none (LL1, mi, ml, RR1))
    (x : Int32) (mi : Nat → Nat → Int32) (ml : Nat → Nat → Int64) (hx : ¬ x < 0) (hF : ∀ b k, b ≠ 13 → mi b k = mi0 b k) (hI : ∀ a : Int32, ¬ a < 0 → a < x → mi 13 a.toNatClampNeg = -1) :
    W_fillParentsAt 2 [.val (.ref 0), .val (.int x1), .val (.int x), .unset, .unset] [] (LL1, mi, ml, RR1) Q := by
  have hn : mi 0 97 = N := (hF _ _ (by decide)).trans hn0
  have he' : mi 0 99 = 0 := (hF _ _ (by decide)).trans he
  refine L_fillParentsAt_2 ?_ ?_ ?_
  · intro h
    rw [hn] at h
    have bad : ∀ {P : Prop}, (0 : Int32) < mi 0 99 → P := fun q => absurd q (by rw [he']; decide)
    exact L_fillParentsAt_25 One.u One.u (fun _ => K _ _ hF (fun a h1 h2 => hI a h1 (by grind))) (fun q => bad q) (fun q => bad q) (fun q => bad q) (fun q => bad q) (fun q => bad q) (fun q => bad q) (fun q => bad q) (fun q => bad q) (fun q => bad q) (fun q => bad q) (fun q => bad q)
  · intro h; rw [hn] at h; exact inb_lt 128 hx (by grind) (by decide)
  · intro h
    have h' : x < N := hn ▸ h
    refine own_fp1 mi0 hN hn0 he K (x + 1) _ _ (own_succ_nn hx h') (fun b k hb => by rw [up_ne hb]; exact hF b k hb) ?_
    intro a h1 h2
    simp only [up_at]
    by_cases q : a = x
    · subst q; simp
    · have w : ¬ a.toNatClampNeg = x.toNatClampNeg := fun z => q (clamp_inj h1 hx z)
      simp [w]
      exact hI a h1 (own_lt_of h' h2 q)
termination_by (N.toInt - x.toInt).toNat
decreasing_by exact own_dec h'
theorem own_fm1 {x1 N M : Int32} {Q : Option Value → EMem → Prop} (mi0 : Nat → Nat → Int32) (hN : ¬ 8 < N) (hn0 : mi0 0 97 = N) (he : mi0 0 101 = M) (hM : M = 0 ∨ M = 1) (hg : M = 1 → ¬ mi0 8 0 < 0 ∧ mi0 8 0 < N)
    (K : ∀ mi ml, (∀ b k, b ≠ 14 → mi b k = mi0 b k) → (∀ a : Int32, ¬ a < 0 → a < N → mi 14 a.toNatClampNeg = if M = 1 ∧ mi0 8 0 = a ∧ mi0 9 0 = x1 then 0 else -1) → Q none (LL1, mi, ml, RR1))
    (x : Int32) (mi : Nat → Nat → Int32) (ml : Nat → Nat → Int64) (hx : ¬ x < 0) (hF : ∀ b k, b ≠ 14 → mi b k = mi0 b k) (hI : ∀ a : Int32, ¬ a < 0 → a < x → mi 14 a.toNatClampNeg = -1) :
    W_fillMutsAt 2 [.val (.ref 0), .val (.int x1), .val (.int x), .unset] [] (LL1, mi, ml, RR1) Q := by
  have hn : mi 0 97 = N := (hF _ _ (by decide)).trans hn0
  have he' : mi 0 101 = M := (hF _ _ (by decide)).trans he
  refine L_fillMutsAt_2 ?_ ?_ ?_
  · intro h
    rw [hn] at h
    have hI' : ∀ a : Int32, ¬ a < 0 → a < N → mi 14 a.toNatClampNeg = -1 := fun a h1 h2 => hI a h1 (by grind)
    rcases hM with rfl | rfl
    · have bad : ∀ {P : Prop}, (0 : Int32) < mi 0 101 → P := fun q => absurd q (by rw [he']; decide)
      exact L_fillMutsAt_25 One.u (fun _ => K _ _ hF (fun a h1 h2 => by rw [hI' a h1 h2, if_neg (fun q => absurd q.1 (by decide))])) (fun q => bad q) (fun q => bad q) (fun q => bad q) (fun q => bad q) (fun q => bad q) (fun q => bad q) (fun q => bad q)
    · obtain ⟨g1, g2⟩ := hg rfl
      have z0 : Int32.toNatClampNeg 0 = 0 := by decide
      have e8 : mi 8 0 = mi0 8 0 := hF _ _ (by decide)
      have e9 : mi 9 0 = mi0 9 0 := hF _ _ (by decide)
      have end1 : ∀ (m2 : Nat → Nat → Int32) (s3 : Slot), One s3 → m2 0 101 = 1 → Q none (LL1, m2, ml, RR1) → W_fillMutsAt 69 [.val (.ref 0), .val (.int x1), .val (.int 0), s3] [] (LL1, m2, ml, RR1) Q := by
        intro m2 s3 o3 hm hq
        refine L_fillMutsAt_69 o3 ?_
        have bad : ∀ {P : Prop}, (0 + 1 : Int32) < m2 0 101 → P := fun q => absurd q (by rw [hm]; decide)
        exact L_fillMutsAt_25 o3 (fun _ => hq) (fun q => bad q) (fun q => bad q) (fun q => bad q) (fun q => bad q) (fun q => bad q) (fun q => bad q) (fun q => bad q)
      refine L_fillMutsAt_25 One.u (fun q => absurd (by rw [he']; decide) q) (fun _ => by decide) (fun _ c => ?_) (fun _ _ => by decide) (fun _ _ c => ?_) (fun _ _ _ c => ?_) (fun _ _ _ _ => ?_) (fun _ c _ _ => ?_)
      · rw [z0, e9] at c
        exact end1 _ _ One.u he' (K _ _ hF (fun a h1 h2 => by rw [hI' a h1 h2, if_neg (fun q => c q.2.2)]))
      · rw [z0, e8] at c; exact absurd c g1
      · rw [z0, e8, hn] at c; exact absurd g2 c
      · rw [z0, e8]; exact inb_lt 128 g1 (by grind) (by decide)
      · rw [z0, e9] at c
        rw [z0, e8]
        refine end1 _ _ (One.val rfl) he' (K _ _ (fun b k hb => by rw [up_ne hb]; exact hF b k hb) (fun a h1 h2 => ?_))
        simp only [up_at]
        by_cases q : mi0 8 0 = a
        · simp [q, c]
        · have w : ¬ a.toNatClampNeg = (mi0 8 0).toNatClampNeg := fun z => q (clamp_inj h1 g1 z).symm
          simp [w, q]
          exact hI' a h1 h2
  · intro h; rw [hn] at h; exact inb_lt 128 hx (by grind) (by decide)
  · intro h
    have h' : x < N := hn ▸ h
    refine own_fm1 mi0 hN hn0 he hM hg K (x + 1) _ _ (own_succ_nn hx h') (fun b k hb => by rw [up_ne hb]; exact hF b k hb) ?_
    intro a h1 h2
    simp only [up_at]
    by_cases q : a = x
    · subst q; simp
    · have w : ¬ a.toNatClampNeg = x.toNatClampNeg := fun z => q (clamp_inj h1 hx z)
      simp [w]
      exact hI a h1 (own_lt_of h' h2 q)
termination_by (N.toInt - x.toInt).toNat
decreasing_by exact own_dec h'
theorem own_dv1 {N : Int32} {Q : Option Value → EMem → Prop} (P : Int32 → Prop) [DecidablePred P] (mi0 : Nat → Nat → Int32) (hN : ¬ 8 < N) (hn0 : mi0 0 97 = N) (hO : own_IA mi0 N)
    (hP : ∀ a : Int32, ¬ a < 0 → a < N → mi0 13 a.toNatClampNeg = -1) (hM : ∀ a : Int32, ¬ a < 0 → a < N → mi0 14 a.toNatClampNeg = if P a then 0 else -1) (hC : ∀ a, P a → mi0 10 0 = 1)
    (K : ∀ mi ml, (∀ b k, b ≠ 15 → mi b k = mi0 b k) → (∀ a : Int32, ¬ a < 0 → a < N → mi 15 a.toNatClampNeg = if P a then 1 else 0) → Q none (LL1, mi, ml, RR1))
    (x : Int32) (mi : Nat → Nat → Int32) (ml : Nat → Nat → Int64) {s2 s3 s4 : Slot} (o2 : One s2) (o3 : One s3) (o4 : One s4) (hx : x < N) (hF : ∀ b k, b ≠ 15 → mi b k = mi0 b k) (hI : ∀ a : Int32, ¬ a < 0 → a < N → x < a → mi 15 a.toNatClampNeg = if P a then 1 else 0) :
    W_decodeValues 7 [.val (.ref 0), .val (.int x), s2, s3, s4] [] (LL1, mi, ml, RR1) Q := by
  have hn : mi 0 97 = N := (hF _ _ (by decide)).trans hn0
  by_cases hz : x < 0
  · exact L_decodeValues_7 o2 o3 o4 (fun _ => K _ _ hF (fun a h1 h2 => hI a h1 h2 (by grind))) (fun q => absurd hz q) (fun q => absurd hz q) (fun q => absurd hz q) (fun q => absurd hz q) (fun q => absurd hz q) (fun q => absurd hz q) (fun q => absurd hz q) (fun q => absurd hz q) (fun q => absurd hz q) (fun q => absurd hz q) (fun q => absurd hz q)
  have z0 : Int32.toNatClampNeg 0 = 0 := by decide
  have u : mi 2 x.toNatClampNeg = x := (hF _ _ (by decide)).trans (hO x hz hx).1
  have mt : mi 14 x.toNatClampNeg = if P x then 0 else -1 := (hF _ _ (by decide)).trans (hM x hz hx)
  have pt : mi 13 x.toNatClampNeg = -1 := (hF _ _ (by decide)).trans (hP x hz hx)
  have ib : inb x 128 = true := inb_lt 128 hz (by grind) (by decide)
  have neg : ((-1 : Int32) < 0) := by decide
  have next : ∀ (v : Int32) (s2' s3' s4' : Slot), One s2' → One s3' → One s4' → (v = if P x then 1 else 0) → W_decodeValues 7 [.val (.ref 0), .val (.int (x + -1)), s2', s3', s4'] [] (LL1, up mi 15 x.toNatClampNeg v, ml, RR1) Q := by
    intro v s2' s3' s4' o2' o3' o4' hv
    have hp := pred_int hz
    refine own_dv1 P mi0 hN hn0 hO hP hM hC K (x + -1) _ _ o2' o3' o4' ?_ (fun b k hb => by rw [up_ne hb]; exact hF b k hb) ?_
    · rw [Int32.lt_iff_toInt_lt] at hx ⊢; omega
    · intro a h1 h2 h3
      simp only [up_at]
      by_cases q : a = x
      · subst q; simp [hv]
      · have w : ¬ a.toNatClampNeg = x.toNatClampNeg := fun z => q (clamp_inj h1 hz z)
        simp [w]
        refine hI a h1 h2 ?_
        rw [Int32.lt_iff_toInt_lt] at h3 ⊢
        have : a.toInt ≠ x.toInt := fun z => q (Int32.toInt_inj.mp z)
        omega
  refine L_decodeValues_7 o2 o3 o4 ?_ ?_ ?_ ?_ ?_ ?_ ?_ ?_ ?_ ?_ ?_ ?_
  · intro h; exact absurd h hz
  · intro _; exact ib
  · intro _ h; rw [u] at h; exact absurd h hz
  · intro _ _ _; rw [u]; exact ib
  · intro _ _ _ _; rw [u]; exact ib
  · intro _ _ _ _ h; rw [u, pt] at h; exact absurd neg h
  · intro _ _ _ _ v e; rw [u]; exact ib
  · intro _ _ _ c v e
    rw [u, mt] at c
    rw [u, pt, if_pos neg] at e
    subst e
    rw [u]
    refine L_decodeValues_89 (One.val rfl) (One.val rfl) ?_
    refine next _ _ _ _ (One.val rfl) (One.val rfl) (One.val rfl) ?_
    by_cases q : P x
    · rw [if_pos q] at c; exact absurd c (by decide)
    · rw [if_neg q]
  · intro _ _ _ h; rw [u, mt] at h ⊢
    by_cases q : P x
    · rw [if_pos q]; decide
    · rw [if_neg q] at h; exact absurd neg h
  · intro _ _ _ h; rw [u]; exact ib
  · intro _ _ _ h; rw [u, mt] at h; rw [u, mt]
    by_cases q : P x
    · rw [if_pos q, z0, show mi 10 0 = 1 from (hF _ _ (by decide)).trans (hC x q)]
      refine L_decodeValues_89 (One.val rfl) o4 ?_
      refine next _ _ _ _ (One.val rfl) (One.val rfl) o4 ?_
      rw [if_pos q]
    · rw [if_neg q] at h; exact absurd neg h
  · intro _ _ h; rw [u, hn] at h; exact absurd hx h
termination_by (x.toInt + 1).toNat
decreasing_by
  rw [Int32.lt_iff_toInt_lt] at hz
  have z : (0 : Int32).toInt = 0 := by decide
  rw [z] at hz
  omega
theorem own_decode {s N S M gm sm : Int32} {Q : Option Value → EMem → Prop} (mi0 : Nat → Nat → Int32) (ml : Nat → Nat → Int64) (h0 : ¬ N < 1) (hN : ¬ 8 < N) (hM : M = 0 ∨ M = 1) (hg : M = 1 → ¬ gm < 0 ∧ gm < N) (H : own_S mi0 N S M gm sm)
    (K : ∀ mi ml, own_S mi N S M gm sm → (∀ k, mi 0 k = mi0 0 k) → (∀ a : Int32, ¬ a < 0 → a < N → mi 15 a.toNatClampNeg = if M = 1 ∧ gm = a ∧ sm = s then 1 else 0) → Q none (LL1, mi, ml, RR1)) :
    W_decode 0 [.val (.ref 0), .val (.int s)] [] (LL1, mi0, ml, RR1) Q := by
  refine L_decode_0 ?_
  refine L_fillParentsAt_0 ?_
  refine own_fp1 mi0 hN H.nodes H.edges ?_ 0 mi0 ml (by decide) (fun _ _ _ => rfl) (fun a h1 h2 => absurd h2 h1)
  intro mi1 ml1 F1 P1
  have H1 : own_S mi1 N S M gm sm := H.fr (fun b k _ hb _ => F1 b k hb)
  refine L_decode_5 ?_
  refine L_fillMutsAt_0 ?_
  refine own_fm1 mi1 hN H1.nodes H1.muts hM (fun q => by rw [H1.mN]; exact hg q) ?_ 0 mi1 ml1 (by decide) (fun _ _ _ => rfl) (fun a h1 h2 => absurd h2 h1)
  intro mi2 ml2 F2 M2
  have H2 : own_S mi2 N S M gm sm := H1.fr (fun b k _ _ hb => F2 b k hb)
  refine L_decode_10 ?_
  refine L_decodeValues_0 ?_
  have hn2 := H2.nodes
  refine own_dv1 (fun a => M = 1 ∧ gm = a ∧ sm = s) mi2 hN hn2 H2.IA (fun a h1 h2 => ?_) (fun a h1 h2 => ?_) (fun a q => H2.mC q.1) ?_ _ mi2 ml2 One.u One.u One.u ?_ (fun _ _ _ => rfl) ?_
  · exact (F2 _ _ (by decide)).trans (P1 a h1 h2)
  · rw [M2 a h1 h2, H1.mN, H1.mS]
  · intro mi3 ml3 F3 V3
    refine L_decode_14 ?_
    exact K _ _ (H2.fr (fun b k hb _ _ => F3 b k hb)) (fun k => ((F3 0 k (by decide)).trans (F2 0 k (by decide))).trans (F1 0 k (by decide))) V3
  · rw [hn2]; grind
  · intro a h1 h2 h3
    rw [hn2] at h3
    exfalso
    grind
theorem own_genotype {g s N S M gm sm : Int32} {Q : Option Value → EMem → Prop} (mi0 : Nat → Nat → Int32) (ml : Nat → Nat → Int64) (h0 : ¬ N < 1) (hN : ¬ 8 < N) (hM : M = 0 ∨ M = 1) (hg : M = 1 → ¬ gm < 0 ∧ gm < N) (H : own_S mi0 N S M gm sm)
    (K : ∀ mi ml, own_S mi N S M gm sm → (∀ k, mi 0 k = mi0 0 k) → Q (some (.int (if g < 0 ∨ ¬ g < N ∨ s < 0 ∨ ¬ s < S then -1 else if M = 1 ∧ gm = g ∧ sm = s then 1 else 0))) (LL1, mi, ml, RR1)) :
    W_genotype 0 [.val (.ref 0), .val (.int g), .val (.int s)] [] (LL1, mi0, ml, RR1) Q := by
  refine L_genotype_0 (fun h => ?_) (fun h h2 => ?_) (fun h h2 h3 => ?_) (fun h h2 h3 h4 => ?_) (fun h h2 h3 h4 => ?_)
  · have := K mi0 ml H (fun _ => rfl); rw [if_pos (Or.inl h)] at this; exact this
  · rw [H.nGen] at h2; have := K mi0 ml H (fun _ => rfl); rw [if_pos (Or.inr (Or.inl h2))] at this; exact this
  · have := K mi0 ml H (fun _ => rfl); rw [if_pos (Or.inr (Or.inr (Or.inl h3)))] at this; exact this
  · rw [H.nGen] at h2
    rw [H.nSites] at h4
    refine own_decode mi0 ml h0 hN hM hg H ?_
    intro mi ml H' F V
    have sn := (H'.IA g h h2).2
    refine L_genotype_31 (inb_lt 8 h (by grind) (by decide)) (by rw [sn]; exact inb_lt 128 h (by grind) (by decide)) ?_
    rw [sn, V g h h2]
    have := K mi ml H' F
    rw [if_neg (fun q => by rcases q with q | q | q | q; exact h q; exact q h2; exact h3 q; exact q h4)] at this
    exact this
  · rw [H.nSites] at h4; have := K mi0 ml H (fun _ => rfl); rw [if_pos (Or.inr (Or.inr (Or.inr h4)))] at this; exact this
theorem own_seg1 {s N S M gm sm : Int32} {Q : Option Value → EMem → Prop} (mi : Nat → Nat → Int32) (ml : Nat → Nat → Int64) (h0 : ¬ N < 2) (hN : ¬ 8 < N) (hg : M = 1 → ¬ gm < 0 ∧ gm < N) (H : own_S mi N S M gm sm)
    (V : ∀ a : Int32, ¬ a < 0 → a < N → mi 15 a.toNatClampNeg = if M = 1 ∧ gm = a ∧ sm = s then 1 else 0)
    (K : Q (some (.int (if M = 1 ∧ sm = s then 1 else 0))) (LL1, mi, ml, RR1)) (f x : Int32) (hf : f = if M = 1 ∧ gm = 0 ∧ sm = s then 1 else 0) (hx : ¬ x < 1)
    (hI : ∀ a : Int32, ¬ a < 0 → a < N → a < x → (if M = 1 ∧ gm = a ∧ sm = s then (1 : Int32) else 0) = f) :
    W_siteSegregates 19 [.val (.ref 0), .val (.int s), .val (.int f), .val (.int x)] [] (LL1, mi, ml, RR1) Q := by
  have hx0 : ¬ x < 0 := by grind
  refine L_siteSegregates_19 (fun h => ?_) (fun h => ?_) (fun h => ?_) (fun h c => ?_) (fun h c => ?_)
  · rw [H.nGen] at h
    by_cases q : M = 1 ∧ sm = s
    · exfalso
      obtain ⟨q1, q2⟩ := hg q.1
      have a1 := hI gm q1 q2 (by grind)
      have a2 := hI 1 (by decide) (by grind) (by grind)
      have a3 := hI 0 (by decide) (by grind) (by grind)
      rw [if_pos ⟨q.1, rfl, q.2⟩] at a1
      rw [← a1] at a2 a3
      have b2 : gm = 1 := by
        by_cases w : gm = 1
        · exact w
        · rw [if_neg (fun z => w z.2.1)] at a2; exact absurd a2 (by decide)
      have b3 : gm = 0 := by
        by_cases w : gm = 0
        · exact w
        · rw [if_neg (fun z => w z.2.1)] at a3; exact absurd a3 (by decide)
      rw [b2] at b3; exact absurd b3 (by decide)
    · rw [if_neg q] at K; exact K
  · rw [H.nGen] at h; exact inb_lt 8 hx0 (by grind) (by decide)
  · rw [H.nGen] at h; rw [(H.IA x hx0 h).2]; exact inb_lt 128 hx0 (by grind) (by decide)
  · have h' : x < N := H.nGen ▸ h
    rw [(H.IA x hx0 h').2, V x hx0 h'] at c
    refine own_seg1 mi ml h0 hN hg H V K f (x + 1) hf ?_ ?_
    · have := own_lt_succ h'
      rw [Int32.lt_iff_toInt_lt] at hx ⊢
      omega
    · intro a h1 h2 h3
      by_cases q : a = x
      · subst q; exact c
      · exact hI a h1 h2 (own_lt_of h' h3 q)
  · have h' : x < N := H.nGen ▸ h
    rw [(H.IA x hx0 h').2, V x hx0 h'] at c
    have : M = 1 ∧ sm = s := by
      by_cases q : M = 1 ∧ sm = s
      · exact q
      · exfalso
        rw [if_neg (fun z => q ⟨z.1, z.2.2⟩)] at c hf
        exact c hf.symm
    rw [if_pos this] at K; exact K
termination_by (N.toInt - x.toInt).toNat
decreasing_by exact own_dec h'
theorem own_segs {N S M gm sm : Int32} {Q : Option Value → EMem → Prop} (h0 : ¬ N < 2) (hN : ¬ 8 < N) (hM : M = 0 ∨ M = 1) (hg : M = 1 → ¬ gm < 0 ∧ gm < N) (hs : M = 1 → ¬ sm < 0 ∧ sm < S)
    (F : Nat → Int32) (K : ∀ mi ml, own_S mi N S M gm sm → (∀ k, mi 0 k = F k) → Q (some (.int M)) (LL1, mi, ml, RR1)) (x c : Int32) (mi : Nat → Nat → Int32) (ml : Nat → Nat → Int64) (H : own_S mi N S M gm sm) (hF : ∀ k, mi 0 k = F k) (hx : ¬ x < 0)
    (hc : c = if M = 1 ∧ sm < x then 1 else 0) :
    W_segregatingSites 4 [.val (.ref 0), .val (.int c), .val (.int x)] [] (LL1, mi, ml, RR1) Q := by
  refine L_segregatingSites_4 (fun h => ?_) (fun h => ?_)
  · rw [H.nSites] at h
    have : c = M := by
      rcases hM with rfl | rfl
      · rw [hc, if_neg (fun q => absurd q.1 (by decide))]
      · obtain ⟨q1, q2⟩ := hs rfl
        rw [hc, if_pos ⟨rfl, by grind⟩]
    rw [this]; exact K _ _ H hF
  · have h' : x < S := H.nSites ▸ h
    refine L_siteSegregates_0 ?_
    refine own_decode mi ml (by grind) hN hM hg H ?_
    intro m2 ml2 H2 F2 V2
    have z0 : Int32.toNatClampNeg 0 = 0 := by decide
    have s0 := (H2.IA 0 (by decide) (by grind)).2
    rw [z0] at s0
    have v0 := V2 0 (by decide) (by grind)
    refine L_siteSegregates_5 (by rw [s0]; decide) ?_
    rw [s0, v0]
    refine own_seg1 m2 ml2 h0 hN hg H2 V2 ?_ _ 1 rfl (by decide) ?_
    · have hnext : ∀ c' : Int32, (c' = if M = 1 ∧ sm < x + 1 then 1 else 0) → W_segregatingSites 23 [.val (.ref 0), .val (.int c'), .val (.int x)] [] (LL1, m2, ml2, RR1) Q := by
        intro c' hc'
        refine L_segregatingSites_23 ?_
        exact own_segs h0 hN hM hg hs F K (x + 1) c' m2 ml2 H2 (fun k => (F2 k).trans (hF k)) (own_succ_nn hx h') hc'
      have hs1 := own_lt_succ h'
      refine L_segregatingSites_17 (fun q => hnext _ ?_) (fun q => hnext _ ?_)
      · have nq : ¬ (M = 1 ∧ sm = x) := by intro w; rw [if_pos w] at q; exact absurd q (by decide)
        rw [hc]
        by_cases w : M = 1 ∧ sm < x
        · rw [if_pos w, if_pos ⟨w.1, by rw [Int32.lt_iff_toInt_lt] at *; omega⟩]
        · rw [if_neg w, if_neg (fun z => w ⟨z.1, own_lt_of h' z.2 (fun y => nq ⟨z.1, y⟩)⟩)]
      · have nq : M = 1 ∧ sm = x := by
          by_cases w : M = 1 ∧ sm = x
          · exact w
          · rw [if_neg w] at q; exact absurd rfl q
        rw [if_pos ⟨nq.1, by rw [nq.2, Int32.lt_iff_toInt_lt]; omega⟩, hc, if_neg (fun z => by rw [nq.2] at z; exact absurd z.2 (by grind))]
        decide
    · intro a h1 h2 h3
      have : a = 0 := by grind
      rw [this]
termination_by (S.toInt - x.toInt).toNat
decreasing_by exact own_dec h'
theorem own_ac1 {s N S M gm sm : Int32} {Q : Option Value → EMem → Prop} (mi : Nat → Nat → Int32) (ml : Nat → Nat → Int64) (hN : ¬ 8 < N) (hg : M = 1 → ¬ gm < 0 ∧ gm < N) (H : own_S mi N S M gm sm)
    (V : ∀ a : Int32, ¬ a < 0 → a < N → mi 15 a.toNatClampNeg = if M = 1 ∧ gm = a ∧ sm = s then 1 else 0)
    (K : Q (some (.int (if M = 1 ∧ sm = s then 1 else 0))) (LL1, mi, ml, RR1)) (c x : Int32) (hx : ¬ x < 0) (hc : c = if M = 1 ∧ sm = s ∧ gm < x then 1 else 0) :
    W_alleleCount 24 [.val (.ref 0), .val (.int s), .val (.int 1), .val (.int c), .val (.int x)] [] (LL1, mi, ml, RR1) Q := by
  refine L_alleleCount_24 (fun h => ?_) (fun h => ?_) (fun h => ?_) (fun h v e => ?_)
  · rw [H.nGen] at h
    have : c = if M = 1 ∧ sm = s then 1 else 0 := by
      rw [hc]
      by_cases q : M = 1 ∧ sm = s
      · have := (hg q.1).2
        rw [if_pos q, if_pos ⟨q.1, q.2, by grind⟩]
      · rw [if_neg q, if_neg (fun z => q ⟨z.1, z.2.1⟩)]
    rw [this]; exact K
  · rw [H.nGen] at h; exact inb_lt 8 hx (by grind) (by decide)
  · rw [H.nGen] at h; rw [(H.IA x hx h).2]; exact inb_lt 128 hx (by grind) (by decide)
  · have h' : x < N := H.nGen ▸ h
    rw [(H.IA x hx h').2, V x hx h'] at e
    refine own_ac1 mi ml hN hg H V K v (x + 1) (own_succ_nn hx h') ?_
    have hs1 := own_lt_succ h'
    by_cases q : M = 1 ∧ gm = x ∧ sm = s
    · rw [if_pos q, if_pos rfl, hc, if_neg (fun z => by rw [q.2.1] at z; exact absurd z.2.2 (by grind))] at e
      rw [e, if_pos ⟨q.1, q.2.2, by rw [q.2.1, Int32.lt_iff_toInt_lt]; omega⟩]
      decide
    · rw [if_neg q, if_neg (by decide), hc] at e
      rw [e]
      by_cases w : M = 1 ∧ sm = s ∧ gm < x
      · rw [if_pos w, if_pos ⟨w.1, w.2.1, by have := w.2.2; rw [Int32.lt_iff_toInt_lt] at *; omega⟩]
      · rw [if_neg w, if_neg (fun z => w ⟨z.1, z.2.1, own_lt_of h' z.2.2 (fun y => q ⟨z.1, y, z.2.1⟩)⟩)]
termination_by (N.toInt - x.toInt).toNat
decreasing_by exact own_dec h'
theorem own_law2 (i0 i1 g s g2 s2 P L N M o2 gm sm y0 : Int32) (mi : Nat → Nat → Int32) (ml : Nat → Nat → Int64) (h0 : ¬ N < 2) (hN : ¬ 8 < N) (hL : ¬ 8 < L)
    (hM : M = if g < 0 then 0 else if g < N then (if s < 0 then 0 else if s < L then 1 else 0) else 0) (ho : o2 = if g2 < 0 then 0 else if g2 < N then (if s2 < 0 then 0 else if s2 < L then 1 else 0) else 0)
    (hy : y0 = if M = 0 then -1 else 1) (hgm : M = 1 → gm = g ∧ sm = s) (H : own_S mi N L M gm sm) (hmc : mi 0 93 = M) :
    W_law 126 [.val (.int i0), .val (.int i1), .val (.int g), .val (.int s), .val (.int g2), .val (.int s2), .val (.ref 0), .val (.int P), .val (.int L), .val (.int N), .val (.int M), .val (.int o2), .unset, .unset, .unset] [.int y0] (LL1, mi, ml, RR1) QL := by
  have m01 : M = 0 ∨ M = 1 := by grind
  have hg : M = 1 → ¬ gm < 0 ∧ gm < N := fun q => by rw [(hgm q).1]; grind
  have hs : M = 1 → ¬ sm < 0 ∧ sm < L := fun q => by rw [(hgm q).2]; grind
  have hm3 : M = if M = 0 then (0 : Int32) else 1 := by grind
  refine L_law_126 ?_ (fun _ _ _ _ _ _ c => absurd H.gens c) (fun v1 e1 _ v3 e3 c => absurd (by rw [hmc, e3]; exact hm3) c) (fun v1 e1 c => absurd (by rw [e1]; exact hy) c)
  intro _ _ _ _ _ _ _
  refine L_mutationSite_0 (fun _ _ c => absurd H.gens c) ?_
  intro v1 e1
  rw [H.gens, if_pos rfl] at e1
  refine L_law_181 (fun _ => ?_) (fun c => absurd (by grind) c)
  refine own_genotype mi ml (by grind) hN m01 hg H ?_
  intro m2 ml2 H2 F2
  refine L_law_194 ?_ (fun v e c => absurd ?_ c)
  rotate_left
  · rw [e]
    rcases m01 with rfl | rfl
    · grind
    · obtain ⟨rfl, rfl⟩ := hgm rfl
      grind
  intro v e _ v3 e3
  refine own_genotype m2 ml2 (by grind) hN m01 hg H2 ?_
  intro m3 ml3 H3 F3
  refine L_law_251 (fun _ => ?_) (fun c => absurd ?_ c)
  rotate_left
  · rw [e3]
    rcases m01 with rfl | rfl
    · grind
    · obtain ⟨rfl, rfl⟩ := hgm rfl
      grind
  refine L_segregatingSites_0 ?_
  refine own_segs h0 hN m01 hg hs (m3 0) ?_ 0 0 m3 ml3 H3 (fun _ => rfl) (by decide) ?_
  rotate_left
  · rw [if_neg (fun q => (hs q.1).1 q.2)]
  intro m4 ml4 H4 F4
  refine L_law_263 ?_ (fun v e c => absurd (by rw [e]; exact hm3) c)
  intro v4 e4 _ v5 e5
  have fin : ∀ (m5 : Nat → Nat → Int32) (ml5 : Nat → Nat → Int64) (y : Int32), y = v5 → W_law 311 [.val (.int i0), .val (.int i1), .val (.int g), .val (.int s), .val (.int g2), .val (.int s2), .val (.ref 0), .val (.int P), .val (.int L), .val (.int N), .val (.int M), .val (.int o2), .val (.int y0), .val (.int v3), .val (.int v5)] [.int y] (LL1, m5, ml5, RR1) QL := by
    intro m5 ml5 y hy
    refine L_law_311 ?_
    intro w ew
    rw [if_pos hy] at ew
    rw [ew]
    exact ql1 (by decide)
  refine L_alleleCount_0 (fun h => fin _ _ _ ?_) (fun h h2 => ?_) (fun h h2 => fin _ _ _ ?_)
  · rw [e5, if_pos h]
  · rw [H4.nSites] at h2
    refine own_decode m4 ml4 (by grind) hN m01 hg H4 ?_
    intro m5 ml5 H5 F5 V5
    refine L_alleleCount_19 ?_
    refine own_ac1 m5 ml5 hN hg H5 V5 (fin _ _ _ ?_) 0 0 (by decide) ?_
    · rw [e5, if_neg h, if_pos h2]
      rcases m01 with rfl | rfl
      · rfl
      · obtain ⟨rfl, rfl⟩ := hgm rfl
        rw [if_pos ⟨rfl, rfl⟩, if_neg (by decide)]
    · rw [if_neg (fun q => (hg q.1).1 q.2.2)]
  · rw [H4.nSites] at h2
    rw [e5, if_neg h, if_neg h2]
theorem law_ok (i0 i1 i2 i3 i4 i5 : Int32) : W_law 0 (entryL [.int i0, .int i1, .int i2, .int i3, .int i4, .int i5] maxLocals) [] mem0 QL := by
  refine L_law_0 ?_
  refine L_init_0 ?_
  intro v1 e1 v2 e2 v3 e3 v4 e4
  refine own_init1 (N := 2 * v2) (up (up (up (up (up (up (up (up (up (up (up (up (up (up (fun _ _ => 0) 0 10 128) 0 12 512) 0 14 512) 0 79 v2) 0 81 (2 * v2)) 0 83 v4) 0 85 12345) 0 87 25) 0 89 25) 0 91 0) 0 93 0) 0 97 (2 * v2)) 0 99 0) 0 101 0 0) (by grind) rfl ?_ 0 _ _ (by decide) (fun _ => rfl) (fun a h1 h2 => absurd h2 h1)
  intro mi ml hF hI
  refine own_init2 _ ?_ 0 mi ml (by decide) hF hI
  intro mi ml hF hI
  refine L_law_9 ?_
  intro w1 f1 w2 f2 w3 f3 w4 f4
  have q1 : v2 = w1 := by grind
  have q2 : v4 = w2 := by grind
  subst q1 q2
  have b0 : ¬ 2 * v2 < 2 := by grind
  have b2 : ¬ 8 < 2 * v2 := by grind
  have b3 : ¬ 8 < v4 := by grind
  have H : own_S mi (2 * v2) v4 0 (mi 8 0) (mi 9 0) := ⟨hF _, hF _, hF _, hF _, hF _, hF _, hI, rfl, rfl, fun q => absurd q (by decide)⟩
  have hG : mi 0 81 = 2 * v2 := hF _
  have hS : mi 0 83 = v4 := hF _
  have hmc : mi 0 93 = 0 := hF _
  have hcap : mi 0 14 = 512 := hF _
  have bad : w3 = 0 → W_law 126 [.val (.int i0), .val (.int i1), .val (.int i2), .val (.int i3), .val (.int i4), .val (.int i5), .val (.ref 0), .val (.int v2), .val (.int v4), .val (.int (2 * v2)), .val (.int w3), .val (.int w4), .unset, .unset, .unset] [.int (-1)] (LL1, mi, ml, RR1) QL := by
    intro q; subst q
    exact own_law2 _ _ _ _ _ _ _ _ _ 0 _ _ _ _ mi ml b0 b2 b3 f3 f4 rfl (fun q => absurd q (by decide)) H hmc
  refine L_mutate_0 ?_ ?_ ?_ ?_ ?_ ?_
  · intro h; exact bad (by grind)
  · intro h h2 h3; exact bad (by grind)
  · intro h h2 _ _; rw [hG] at h2; exact inb_lt 8 h (by grind) (by decide)
  · intro h h2 h3 h4
    rw [hG] at h2
    rw [hS] at h4
    have : w3 = 1 := by grind
    subst this
    rw [hmc, (hI i2 h h2).2, show (0 + 1 : Int32) = 1 from by decide]
    refine L_addMutation_0 ?_
    have m0 : up mi 0 93 1 0 101 = 0 := H.muts
    have mcap : up mi 0 93 1 0 14 = 512 := hcap
    have z0 : Int32.toNatClampNeg 0 = 0 := by decide
    have bad2 : ∀ {P : Prop}, (0 : Int32) < up mi 0 93 1 0 101 → P := fun q => absurd q (by rw [m0]; decide)
    refine L_addMutation_3 (fun _ _ => by rw [m0]; decide) (fun _ _ => ?_) (fun _ c => absurd (by rw [m0, mcap]; decide) c) (fun q => bad2 q) (fun q => bad2 q) (fun q => bad2 q) (fun q => bad2 q) (fun q => bad2 q) (fun q => bad2 q)
    rw [m0, z0, show (0 + 1 : Int32) = 1 from by decide]
    refine L_mutate_53 ?_
    refine own_law2 _ _ _ _ _ _ _ _ _ 1 _ i2 i3 _ _ ml b0 b2 b3 f3 f4 ?_ (fun _ => ⟨rfl, rfl⟩) ?_ rfl
    · rfl
    · exact ⟨H.nodes, hG, hS, H.gens, H.edges, rfl, fun a h1 h2 => hI a h1 h2, rfl, rfl, fun _ => rfl⟩
  · intro h h2 h3 h4; rw [hS] at h4; exact bad (by grind)
  · intro h h2; rw [hG] at h2; exact bad (by grind)

set_option maxRecDepth 65536 in
set_option maxHeartbeats 40000000 in
theorem comes_1 {Post : Tables → Env → Array Value → State → Outcome → State → Prop} (hpost : ∀ tb e args s v u, (limb_1_1.after args s (.returned v) u = true ∧ limb_1_2.after args s (.returned v) u = true ∧ True) → FrameEnd s (.returned v) u (Jvm.fieldLocs frame_1_writes args s ++ Jvm.arrayLocs frame_1_arrays args s ++ Jvm.staticLocs frame_1_statics s) 72 23360 → Post tb e args s (.returned v) u) :
    ArmFor flags0 classFile x code maxLocals ret World_1 tables_1 room_1 Calls_1 rest_1 Pre_1 Post := by
  intro l hfl _ _ p e ha hc hk s m args below hf hA hF happ hP
  obtain ⟨hcalls, hrest, hpre⟩ := hP
  obtain ⟨-, -, -, hnamed, -, -, -, hat⟩ := (Spec.applies_iff hf).mp happ
  obtain ⟨hg, hn⟩ := and_e (Cond.before_iff.mp (show (Jvm.Cond.and given_1 narrow_1).before args s = true from hpre))
  obtain ⟨g0, t0⟩ := and_e hg
  obtain ⟨g1, t1⟩ := and_e t0
  obtain ⟨g2, t2⟩ := and_e t1
  obtain ⟨g3, t3⟩ := and_e t2
  obtain ⟨g4, t4⟩ := and_e t3
  obtain ⟨g5, t5⟩ := and_e t4
  obtain ⟨w0, w1, w2, w3, w4, w5, rfl⟩ : ∃ w0 w1 w2 w3 w4 w5 : Value, args = #[w0, w1, w2, w3, w4, w5] := by
    have hs : args.size = 6 := by simpa [Cond.value, given_1] using g0
    obtain ⟨L⟩ := args
    match L, hs with
    | [w0, w1, w2, w3, w4, w5], _ => exact ⟨w0, w1, w2, w3, w4, w5, rfl⟩
  have hw := fun d (hd : d ∈ tables_1) => atoms_spec (ws := Jvm.Cond.code x code maxLocals ret :: tables_1) hat d (List.mem_cons_of_mem _ hd)
  obtain ⟨i0, e0⟩ := is_v g1
  obtain rfl : w0 = (.int i0) := Option.some.inj e0
  obtain ⟨i1, e1⟩ := is_v g2
  obtain rfl : w1 = (.int i1) := Option.some.inj e1
  obtain ⟨i2, e2⟩ := is_v g3
  obtain rfl : w2 = (.int i2) := Option.some.inj e2
  obtain ⟨i3, e3⟩ := is_v g4
  obtain rfl : w3 = (.int i3) := Option.some.inj e3
  obtain ⟨i4, e4⟩ := is_v g5
  obtain rfl : w4 = (.int i4) := Option.some.inj e4
  obtain ⟨i5, e5⟩ := is_v t5
  obtain rfl : w5 = (.int i5) := Option.some.inj e5
  obtain ⟨n, o, h1, h2, h3, _, L, rfl, ⟨rfl, N⟩, hq⟩ := law_run (l := l) (R := room_1) (as := [.int i0, .int i1, .int i2, .int i3, .int i4, .int i5]) hw (ρ := fun a => s.heap.size + a) (fun a b q => Nat.add_left_cancel q) (fun a _ => rfl) (rel0 s _) (by first | (simp [plainName, overriddenIn, x]; done) | decide +kernel) (Nat.le_of_ble_eq_true rfl) (law_ok i0 i1 i2 i3 i4 i5) tables_1 p e ha hc hk s m _ below hf ((Spec.applies_iff_loose hf).mp happ).1 ⟨rfl, State.Warmed39.refl s, rfl⟩ trivial
  refine ⟨n, _, h1, h2, h3, hpost _ _ _ _ _ _ ⟨Cond.after_iff.mpr rfl, Cond.after_iff.mpr (eq_i res_at (Term.int_eval (1)) rfl), trivial⟩ ⟨hq.1, hq.2.1, (hq.2.2.sift fun y hy => Or.inr (N y hy)).mono (by decide) (by decide)⟩⟩
theorem main_1_1 : Claimed_1_1 := comes_1 fun _ _ _ _ _ _ h hF => ⟨h.1, hF⟩
theorem main_1_2 : Claimed_1_2 := comes_1 fun _ _ _ _ _ _ h hF => ⟨h.2.1, hF⟩
end Jvm.Pilot.@@N@@
namespace Jvm.Pilot.@@N@@
open Jvm Jvm.ClassFile Sem Op Lib Jvm.Free Jvm.Stand Jvm.Pilot.@@N@@.Jvm.D
/-! MADE BY PROGRAM (witnessworld.py) out of the Statement's table words and the real class files: 13 classes; the members and pool entries that the words name. The judged class is class 1, her method 1. -/
namespace start1
open Jvm.ClassFile
def u (s : String) : CpInfo := .utf8 (stringToUtf16 s)
/-- a pool by its gaps: so many unusable entries, then the entry; so many at the end -/
def gap : Nat → List CpInfo → List CpInfo
  | 0, r => r
  | n + 1, r => .unusable :: gap n r
def poolList (es : List (Nat × CpInfo)) (last : Nat) : List CpInfo := es.foldr (fun e r => gap e.1 (e.2 :: r)) (gap last [])
def pool (es : List (Nat × CpInfo)) (last : Nat) : Array CpInfo := ⟨poolList es last⟩
def fileOf (pool : Array CpInfo) (this : Nat) (attrs : Array Attribute := #[]) (ms : Array MethodInfo := #[]) (fl : Nat := 33) (sup : Nat := 0) (ifs : Array Nat := #[]) (fds : Array FieldInfo := #[]) : ClassFile where
  minorVersion := 0
  majorVersion := 65
  constantPool := pool
  accessFlags := fl
  thisClass := this
  superClass := sup
  interfaces := ifs
  fields := fds
  methods := ms
  attributes := attrs
def plain (name : String) (sup : Option ClassId) : Class where
  name := name
  kind := .ordinary
  loader := none
  accessFlags := 33
  super := sup
  interfaces := #[]
  cf := none
  fields := #[]
  methods := #[]
  instanceTypes := #[]
  staticTypes := #[]
  resolved := #[]
  callSites := []
  init := .initialized
  statics := none
  mirror := none

def pool0 : Array CpInfo := pool [(5, u "<init>"), (0, u "()V"), (1, .class_ 10), (1, u "java/lang/Object")] 113

def k0c0 : Code := { maxStack := 0, maxLocals := 1, code := object_method_1_code, exceptionTable := #[], attributes := #[] }
def k0m0 : Method := { name := "<init>", desc := "()V", sig := { parameters := [], returnType := none }, accessFlags := 1, code := some k0c0 }
/-- java/lang/Object -/
def k0 : Class := { plain "java/lang/Object" none with
  accessFlags := 33
  interfaces := #[]
  cf := some (fileOf pool0 8 #[] #[{ accessFlags := 1, nameIndex := 5, descriptorIndex := 6, attributes := #[] }] 33 0 #[] #[])
  fields := #[]
  methods := #[k0m0]
  instanceTypes := #[]
  staticTypes := #[]
  resolved := Array.replicate 124 none
  statics := none }

def pool1 : Array CpInfo := pool [(2, .class_ 4), (1, u "java/lang/Object"), (0, u "<init>"), (0, u "()V"), (0, .class_ 8), (0, u "TreeSeqSim"), (0, .methodref 7 10), (0, .nameAndType 5 11), (0, u "(II)V"), (0, .methodref 7 13), (0, .nameAndType 14 15), (0, u "mutate"), (0, u "(II)I"), (0, .methodref 7 17), (0, .nameAndType 18 19), (0, u "mutationCount"), (0, u "()I"), (0, .methodref 7 21), (0, .nameAndType 22 19), (0, u "generation"), (0, .methodref 7 24), (0, .nameAndType 25 26), (0, u "mutationSite"), (0, u "(I)I"), (0, .methodref 7 28), (0, .nameAndType 29 15), (0, u "genotype"), (0, .methodref 7 31), (0, .nameAndType 32 19), (0, u "segregatingSites"), (0, .methodref 7 34), (0, .nameAndType 35 15), (0, u "alleleCount"), (0, .class_ 37), (0, u "TreeSeqSimL2"), (2, u "law"), (0, u "(IIIIII)Z")] 3

def k1m0 : Method := { name := "<init>", desc := "()V", sig := { parameters := [], returnType := none }, accessFlags := 1, code := none }
def k1c1 : Code := { maxStack := 4, maxLocals := 15, code := code, exceptionTable := #[], attributes := #[] }
def k1m1 : Method := { name := "law", desc := "(IIIIII)Z", sig := { parameters := [.int, .int, .int, .int, .int, .int], returnType := some .boolean }, accessFlags := 9, code := some k1c1 }
/-- TreeSeqSimL2 -/
def k1 : Class := { plain "TreeSeqSimL2" (some 0) with
  accessFlags := 49
  interfaces := #[]
  cf := some (fileOf pool1 36 #[] #[{ accessFlags := 1, nameIndex := 5, descriptorIndex := 6, attributes := #[] }, { accessFlags := 9, nameIndex := 40, descriptorIndex := 41, attributes := #[] }] 49 2 #[] #[])
  fields := #[]
  methods := #[k1m0, k1m1]
  instanceTypes := #[]
  staticTypes := #[]
  resolved := Array.replicate 45 none
  statics := none }

def pool2 : Array CpInfo := pool [(1, .methodref 2 3), (0, .class_ 4), (0, .nameAndType 5 6), (0, u "java/lang/Object"), (0, u "<init>"), (0, u "()V"), (0, .fieldref 8 9), (0, .class_ 10), (0, .nameAndType 11 12), (0, u "TreeSeqSim"), (0, u "nodeCap"), (0, u "I"), (0, .fieldref 8 14), (0, .nameAndType 15 12), (0, u "edgeCap"), (0, .fieldref 8 17), (0, .nameAndType 18 12), (0, u "mutCap"), (0, .fieldref 8 20), (0, .nameAndType 21 22), (0, u "nodeTime"), (0, u "[J"), (0, .fieldref 8 24), (0, .nameAndType 25 26), (0, u "ord"), (0, u "[I"), (0, .fieldref 8 28), (0, .nameAndType 29 26), (0, u "sampleNode"), (0, .fieldref 8 31), (0, .nameAndType 32 26), (0, u "edgeParent"), (0, .fieldref 8 34), (0, .nameAndType 35 26), (0, u "edgeChild"), (0, .fieldref 8 37), (0, .nameAndType 38 26), (0, u "edgeLeft"), (0, .fieldref 8 40), (0, .nameAndType 41 26), (0, u "edgeRight"), (0, .fieldref 8 43), (0, .nameAndType 44 26), (0, u "mutNode"), (0, .fieldref 8 46), (0, .nameAndType 47 26), (0, u "mutSite"), (0, .fieldref 8 49), (0, .nameAndType 50 26), (0, u "mutCode"), (0, .fieldref 8 52), (0, .nameAndType 53 26), (0, u "lastParent"), (0, .fieldref 8 55), (0, .nameAndType 56 26), (0, u "lastMut"), (0, .fieldref 8 58), (0, .nameAndType 59 26), (0, u "parentAt"), (0, .fieldref 8 61), (0, .nameAndType 62 26), (0, u "mutAt"), (0, .fieldref 8 64), (0, .nameAndType 65 26), (0, u "val"), (0, .fieldref 8 67), (0, .nameAndType 68 26), (0, u "kids"), (0, .fieldref 8 70), (0, .nameAndType 71 26), (0, u "newId"), (0, .fieldref 8 73), (0, .nameAndType 74 75), (0, u "keepAny"), (0, u "[Z"), (0, .fieldref 8 77), (0, .nameAndType 78 75), (0, u "isSample"), (0, .fieldref 8 80), (0, .nameAndType 81 75), (0, u "keepAt"), (0, .fieldref 8 83), (0, .nameAndType 84 26), (0, u "upAt"), (0, .fieldref 8 86), (0, .nameAndType 87 26), (0, u "alleleAt"), (0, .fieldref 8 89), (0, .nameAndType 90 22), (0, u "outTime"), (0, .fieldref 8 92), (0, .nameAndType 93 26), (0, u "outEP"), (0, .fieldref 8 95), (0, .nameAndType 96 26), (0, u "outEC"), (0, .fieldref 8 98), (0, .nameAndType 99 26), (0, u "outEL"), (0, .fieldref 8 101), (0, .nameAndType 102 26), (0, u "outER"), (0, .fieldref 8 104), (0, .nameAndType 105 26), (0, u "outMN"), (0, .fieldref 8 107), (0, .nameAndType 108 26), (0, u "outMS"), (0, .fieldref 8 110), (0, .nameAndType 111 26), (0, u "outMC"), (0, .fieldref 8 113), (0, .nameAndType 114 12), (0, u "nInd"), (0, .fieldref 8 116), (0, .nameAndType 117 12), (0, u "nGen"), (0, .fieldref 8 119), (0, .nameAndType 120 12), (0, u "nSites"), (0, .fieldref 8 122), (0, .nameAndType 123 12), (0, u "r"), (0, .fieldref 8 125), (0, .nameAndType 126 12), (0, u "rec"), (0, .fieldref 8 128), (0, .nameAndType 129 12), (0, u "mut"), (0, .fieldref 8 131), (0, .nameAndType 132 12), (0, u "gens"), (0, .fieldref 8 134), (0, .nameAndType 135 12), (0, u "mutCount"), (0, .fieldref 8 137), (0, .nameAndType 138 139), (0, u "clock"), (0, u "J"), (0, .fieldref 8 141), (0, .nameAndType 142 12), (0, u "nodes"), (0, .fieldref 8 144), (0, .nameAndType 145 12), (0, u "edges"), (0, .fieldref 8 147), (0, .nameAndType 148 12), (0, u "muts"), (6, .methodref 8 156), (0, .nameAndType 157 158), (0, u "addMutation"), (0, u "(III)V"), (0, .methodref 8 160), (0, .nameAndType 161 162), (0, u "decode"), (0, u "(I)V"), (0, .methodref 8 164), (0, .nameAndType 165 166), (0, u "siteSegregates"), (0, u "(I)Z"), (4, u "()I"), (3, u "(II)V"), (3, u "(I)I"), (4, .methodref 8 185), (0, .nameAndType 186 162), (0, u "fillParentsAt"), (0, .methodref 8 188), (0, .nameAndType 189 162), (0, u "fillMutsAt"), (0, .methodref 8 191), (0, .nameAndType 192 6), (0, u "decodeValues"), (33, u "outNodes"), (2, u "outEdges"), (8, u "outMuts"), (3, u "MIN_INDIVIDUALS"), (2, u "MAX_INDIVIDUALS"), (1, u "MIN_SITES"), (1, u "MAX_SITES"), (1, u "MAX_RUN"), (1, u "NONE"), (1, u "DEFAULT_SEED"), (1, u "DEFAULT_REC"), (1, u "DEFAULT_MUT"), (0, u "RNG_MUL"), (0, u "RNG_ADD"), (7, u "mutate"), (0, u "(II)I"), (0, u "generation"), (0, u "mutationCount"), (0, u "genotype"), (1, u "mutationSite"), (0, u "alleleCount"), (0, u "segregatingSites")] 6

def k2c0 : Code := { maxStack := 4, maxLocals := 6, code := prog_1_method_1_code, exceptionTable := #[], attributes := #[] }
def k2m0 : Method := { name := "<init>", desc := "(II)V", sig := { parameters := [.int, .int], returnType := none }, accessFlags := 1, code := some k2c0 }
def k2c1 : Code := { maxStack := 4, maxLocals := 3, code := prog_1_method_6_code, exceptionTable := #[], attributes := #[] }
def k2m1 : Method := { name := "mutate", desc := "(II)I", sig := { parameters := [.int, .int], returnType := some .int }, accessFlags := 1, code := some k2c1 }
def k2c2 : Code := { maxStack := 1, maxLocals := 1, code := prog_1_method_7_code, exceptionTable := #[], attributes := #[] }
def k2m2 : Method := { name := "generation", desc := "()I", sig := { parameters := [], returnType := some .int }, accessFlags := 1, code := some k2c2 }
def k2c3 : Code := { maxStack := 1, maxLocals := 1, code := prog_1_method_8_code, exceptionTable := #[], attributes := #[] }
def k2m3 : Method := { name := "mutationCount", desc := "()I", sig := { parameters := [], returnType := some .int }, accessFlags := 1, code := some k2c3 }
def k2c4 : Code := { maxStack := 3, maxLocals := 3, code := prog_1_method_9_code, exceptionTable := #[], attributes := #[] }
def k2m4 : Method := { name := "genotype", desc := "(II)I", sig := { parameters := [.int, .int], returnType := some .int }, accessFlags := 1, code := some k2c4 }
def k2c5 : Code := { maxStack := 2, maxLocals := 2, code := prog_1_method_11_code, exceptionTable := #[], attributes := #[] }
def k2m5 : Method := { name := "mutationSite", desc := "(I)I", sig := { parameters := [.int], returnType := some .int }, accessFlags := 1, code := some k2c5 }
def k2c6 : Code := { maxStack := 3, maxLocals := 5, code := prog_1_method_12_code, exceptionTable := #[], attributes := #[] }
def k2m6 : Method := { name := "alleleCount", desc := "(II)I", sig := { parameters := [.int, .int], returnType := some .int }, accessFlags := 1, code := some k2c6 }
def k2c7 : Code := { maxStack := 2, maxLocals := 3, code := prog_1_method_13_code, exceptionTable := #[], attributes := #[] }
def k2m7 : Method := { name := "segregatingSites", desc := "()I", sig := { parameters := [], returnType := some .int }, accessFlags := 1, code := some k2c7 }
def k2c8 : Code := { maxStack := 3, maxLocals := 5, code := prog_1_method_22_code, exceptionTable := #[], attributes := #[] }
def k2m8 : Method := { name := "addMutation", desc := "(III)V", sig := { parameters := [.int, .int, .int], returnType := none }, accessFlags := 2, code := some k2c8 }
def k2c9 : Code := { maxStack := 2, maxLocals := 2, code := prog_1_method_23_code, exceptionTable := #[], attributes := #[] }
def k2m9 : Method := { name := "decode", desc := "(I)V", sig := { parameters := [.int], returnType := none }, accessFlags := 2, code := some k2c9 }
def k2c10 : Code := { maxStack := 3, maxLocals := 5, code := prog_1_method_24_code, exceptionTable := #[], attributes := #[] }
def k2m10 : Method := { name := "fillParentsAt", desc := "(I)V", sig := { parameters := [.int], returnType := none }, accessFlags := 2, code := some k2c10 }
def k2c11 : Code := { maxStack := 3, maxLocals := 4, code := prog_1_method_25_code, exceptionTable := #[], attributes := #[] }
def k2m11 : Method := { name := "fillMutsAt", desc := "(I)V", sig := { parameters := [.int], returnType := none }, accessFlags := 2, code := some k2c11 }
def k2c12 : Code := { maxStack := 4, maxLocals := 5, code := prog_1_method_26_code, exceptionTable := #[], attributes := #[] }
def k2m12 : Method := { name := "decodeValues", desc := "()V", sig := { parameters := [], returnType := none }, accessFlags := 2, code := some k2c12 }
def k2c13 : Code := { maxStack := 3, maxLocals := 4, code := prog_1_method_27_code, exceptionTable := #[], attributes := #[] }
def k2m13 : Method := { name := "siteSegregates", desc := "(I)Z", sig := { parameters := [.int], returnType := some .boolean }, accessFlags := 2, code := some k2c13 }
/-- TreeSeqSim -/
def k2 : Class := { plain "TreeSeqSim" (some 0) with
  accessFlags := 49
  interfaces := #[]
  cf := some (fileOf pool2 8 #[] #[{ accessFlags := 1, nameIndex := 5, descriptorIndex := 175, attributes := #[] }, { accessFlags := 1, nameIndex := 269, descriptorIndex := 270, attributes := #[] }, { accessFlags := 1, nameIndex := 271, descriptorIndex := 171, attributes := #[] }, { accessFlags := 1, nameIndex := 272, descriptorIndex := 171, attributes := #[] }, { accessFlags := 1, nameIndex := 273, descriptorIndex := 270, attributes := #[] }, { accessFlags := 1, nameIndex := 275, descriptorIndex := 179, attributes := #[] }, { accessFlags := 1, nameIndex := 276, descriptorIndex := 270, attributes := #[] }, { accessFlags := 1, nameIndex := 277, descriptorIndex := 171, attributes := #[] }, { accessFlags := 2, nameIndex := 157, descriptorIndex := 158, attributes := #[] }, { accessFlags := 2, nameIndex := 161, descriptorIndex := 162, attributes := #[] }, { accessFlags := 2, nameIndex := 186, descriptorIndex := 162, attributes := #[] }, { accessFlags := 2, nameIndex := 189, descriptorIndex := 162, attributes := #[] }, { accessFlags := 2, nameIndex := 192, descriptorIndex := 6, attributes := #[] }, { accessFlags := 2, nameIndex := 165, descriptorIndex := 166, attributes := #[] }] 49 2 #[] #[{ accessFlags := 25, nameIndex := 242, descriptorIndex := 12, attributes := #[] }, { accessFlags := 25, nameIndex := 245, descriptorIndex := 12, attributes := #[] }, { accessFlags := 25, nameIndex := 247, descriptorIndex := 12, attributes := #[] }, { accessFlags := 25, nameIndex := 249, descriptorIndex := 12, attributes := #[] }, { accessFlags := 25, nameIndex := 251, descriptorIndex := 12, attributes := #[] }, { accessFlags := 25, nameIndex := 253, descriptorIndex := 12, attributes := #[] }, { accessFlags := 25, nameIndex := 255, descriptorIndex := 12, attributes := #[] }, { accessFlags := 25, nameIndex := 257, descriptorIndex := 12, attributes := #[] }, { accessFlags := 25, nameIndex := 259, descriptorIndex := 12, attributes := #[] }, { accessFlags := 25, nameIndex := 260, descriptorIndex := 12, attributes := #[] }, { accessFlags := 25, nameIndex := 261, descriptorIndex := 12, attributes := #[] }, { accessFlags := 2, nameIndex := 11, descriptorIndex := 12, attributes := #[] }, { accessFlags := 2, nameIndex := 15, descriptorIndex := 12, attributes := #[] }, { accessFlags := 2, nameIndex := 18, descriptorIndex := 12, attributes := #[] }, { accessFlags := 2, nameIndex := 114, descriptorIndex := 12, attributes := #[] }, { accessFlags := 2, nameIndex := 117, descriptorIndex := 12, attributes := #[] }, { accessFlags := 2, nameIndex := 120, descriptorIndex := 12, attributes := #[] }, { accessFlags := 2, nameIndex := 123, descriptorIndex := 12, attributes := #[] }, { accessFlags := 2, nameIndex := 126, descriptorIndex := 12, attributes := #[] }, { accessFlags := 2, nameIndex := 129, descriptorIndex := 12, attributes := #[] }, { accessFlags := 2, nameIndex := 132, descriptorIndex := 12, attributes := #[] }, { accessFlags := 2, nameIndex := 135, descriptorIndex := 12, attributes := #[] }, { accessFlags := 2, nameIndex := 138, descriptorIndex := 139, attributes := #[] }, { accessFlags := 2, nameIndex := 142, descriptorIndex := 12, attributes := #[] }, { accessFlags := 2, nameIndex := 21, descriptorIndex := 22, attributes := #[] }, { accessFlags := 2, nameIndex := 25, descriptorIndex := 26, attributes := #[] }, { accessFlags := 2, nameIndex := 29, descriptorIndex := 26, attributes := #[] }, { accessFlags := 2, nameIndex := 145, descriptorIndex := 12, attributes := #[] }, { accessFlags := 2, nameIndex := 32, descriptorIndex := 26, attributes := #[] }, { accessFlags := 2, nameIndex := 35, descriptorIndex := 26, attributes := #[] }, { accessFlags := 2, nameIndex := 38, descriptorIndex := 26, attributes := #[] }, { accessFlags := 2, nameIndex := 41, descriptorIndex := 26, attributes := #[] }, { accessFlags := 2, nameIndex := 148, descriptorIndex := 12, attributes := #[] }, { accessFlags := 2, nameIndex := 44, descriptorIndex := 26, attributes := #[] }, { accessFlags := 2, nameIndex := 47, descriptorIndex := 26, attributes := #[] }, { accessFlags := 2, nameIndex := 50, descriptorIndex := 26, attributes := #[] }, { accessFlags := 2, nameIndex := 53, descriptorIndex := 26, attributes := #[] }, { accessFlags := 2, nameIndex := 56, descriptorIndex := 26, attributes := #[] }, { accessFlags := 2, nameIndex := 59, descriptorIndex := 26, attributes := #[] }, { accessFlags := 2, nameIndex := 62, descriptorIndex := 26, attributes := #[] }, { accessFlags := 2, nameIndex := 65, descriptorIndex := 26, attributes := #[] }, { accessFlags := 2, nameIndex := 68, descriptorIndex := 26, attributes := #[] }, { accessFlags := 2, nameIndex := 71, descriptorIndex := 26, attributes := #[] }, { accessFlags := 2, nameIndex := 74, descriptorIndex := 75, attributes := #[] }, { accessFlags := 2, nameIndex := 78, descriptorIndex := 75, attributes := #[] }, { accessFlags := 2, nameIndex := 81, descriptorIndex := 75, attributes := #[] }, { accessFlags := 2, nameIndex := 84, descriptorIndex := 26, attributes := #[] }, { accessFlags := 2, nameIndex := 87, descriptorIndex := 26, attributes := #[] }, { accessFlags := 2, nameIndex := 226, descriptorIndex := 12, attributes := #[] }, { accessFlags := 2, nameIndex := 229, descriptorIndex := 12, attributes := #[] }, { accessFlags := 2, nameIndex := 238, descriptorIndex := 12, attributes := #[] }, { accessFlags := 2, nameIndex := 90, descriptorIndex := 22, attributes := #[] }, { accessFlags := 2, nameIndex := 93, descriptorIndex := 26, attributes := #[] }, { accessFlags := 2, nameIndex := 96, descriptorIndex := 26, attributes := #[] }, { accessFlags := 2, nameIndex := 99, descriptorIndex := 26, attributes := #[] }, { accessFlags := 2, nameIndex := 102, descriptorIndex := 26, attributes := #[] }, { accessFlags := 2, nameIndex := 105, descriptorIndex := 26, attributes := #[] }, { accessFlags := 2, nameIndex := 108, descriptorIndex := 26, attributes := #[] }, { accessFlags := 2, nameIndex := 111, descriptorIndex := 26, attributes := #[] }])
  fields := #[{ name := "MIN_INDIVIDUALS", type := .int, accessFlags := 25, slot := 0, constantValue := 0 }, { name := "MAX_INDIVIDUALS", type := .int, accessFlags := 25, slot := 1, constantValue := 0 }, { name := "MIN_SITES", type := .int, accessFlags := 25, slot := 2, constantValue := 0 }, { name := "MAX_SITES", type := .int, accessFlags := 25, slot := 3, constantValue := 0 }, { name := "MAX_RUN", type := .int, accessFlags := 25, slot := 4, constantValue := 0 }, { name := "NONE", type := .int, accessFlags := 25, slot := 5, constantValue := 0 }, { name := "DEFAULT_SEED", type := .int, accessFlags := 25, slot := 6, constantValue := 0 }, { name := "DEFAULT_REC", type := .int, accessFlags := 25, slot := 7, constantValue := 0 }, { name := "DEFAULT_MUT", type := .int, accessFlags := 25, slot := 8, constantValue := 0 }, { name := "RNG_MUL", type := .int, accessFlags := 25, slot := 9, constantValue := 0 }, { name := "RNG_ADD", type := .int, accessFlags := 25, slot := 10, constantValue := 0 }, { name := "nodeCap", type := .int, accessFlags := 2, slot := 0, constantValue := 0 }, { name := "edgeCap", type := .int, accessFlags := 2, slot := 1, constantValue := 0 }, { name := "mutCap", type := .int, accessFlags := 2, slot := 2, constantValue := 0 }, { name := "nInd", type := .int, accessFlags := 2, slot := 3, constantValue := 0 }, { name := "nGen", type := .int, accessFlags := 2, slot := 4, constantValue := 0 }, { name := "nSites", type := .int, accessFlags := 2, slot := 5, constantValue := 0 }, { name := "r", type := .int, accessFlags := 2, slot := 6, constantValue := 0 }, { name := "rec", type := .int, accessFlags := 2, slot := 7, constantValue := 0 }, { name := "mut", type := .int, accessFlags := 2, slot := 8, constantValue := 0 }, { name := "gens", type := .int, accessFlags := 2, slot := 9, constantValue := 0 }, { name := "mutCount", type := .int, accessFlags := 2, slot := 10, constantValue := 0 }, { name := "clock", type := .long, accessFlags := 2, slot := 11, constantValue := 0 }, { name := "nodes", type := .int, accessFlags := 2, slot := 12, constantValue := 0 }, { name := "nodeTime", type := (.array .long), accessFlags := 2, slot := 13, constantValue := 0 }, { name := "ord", type := (.array .int), accessFlags := 2, slot := 14, constantValue := 0 }, { name := "sampleNode", type := (.array .int), accessFlags := 2, slot := 15, constantValue := 0 }, { name := "edges", type := .int, accessFlags := 2, slot := 16, constantValue := 0 }, { name := "edgeParent", type := (.array .int), accessFlags := 2, slot := 17, constantValue := 0 }, { name := "edgeChild", type := (.array .int), accessFlags := 2, slot := 18, constantValue := 0 }, { name := "edgeLeft", type := (.array .int), accessFlags := 2, slot := 19, constantValue := 0 }, { name := "edgeRight", type := (.array .int), accessFlags := 2, slot := 20, constantValue := 0 }, { name := "muts", type := .int, accessFlags := 2, slot := 21, constantValue := 0 }, { name := "mutNode", type := (.array .int), accessFlags := 2, slot := 22, constantValue := 0 }, { name := "mutSite", type := (.array .int), accessFlags := 2, slot := 23, constantValue := 0 }, { name := "mutCode", type := (.array .int), accessFlags := 2, slot := 24, constantValue := 0 }, { name := "lastParent", type := (.array .int), accessFlags := 2, slot := 25, constantValue := 0 }, { name := "lastMut", type := (.array .int), accessFlags := 2, slot := 26, constantValue := 0 }, { name := "parentAt", type := (.array .int), accessFlags := 2, slot := 27, constantValue := 0 }, { name := "mutAt", type := (.array .int), accessFlags := 2, slot := 28, constantValue := 0 }, { name := "val", type := (.array .int), accessFlags := 2, slot := 29, constantValue := 0 }, { name := "kids", type := (.array .int), accessFlags := 2, slot := 30, constantValue := 0 }, { name := "newId", type := (.array .int), accessFlags := 2, slot := 31, constantValue := 0 }, { name := "keepAny", type := (.array .boolean), accessFlags := 2, slot := 32, constantValue := 0 }, { name := "isSample", type := (.array .boolean), accessFlags := 2, slot := 33, constantValue := 0 }, { name := "keepAt", type := (.array .boolean), accessFlags := 2, slot := 34, constantValue := 0 }, { name := "upAt", type := (.array .int), accessFlags := 2, slot := 35, constantValue := 0 }, { name := "alleleAt", type := (.array .int), accessFlags := 2, slot := 36, constantValue := 0 }, { name := "outNodes", type := .int, accessFlags := 2, slot := 37, constantValue := 0 }, { name := "outEdges", type := .int, accessFlags := 2, slot := 38, constantValue := 0 }, { name := "outMuts", type := .int, accessFlags := 2, slot := 39, constantValue := 0 }, { name := "outTime", type := (.array .long), accessFlags := 2, slot := 40, constantValue := 0 }, { name := "outEP", type := (.array .int), accessFlags := 2, slot := 41, constantValue := 0 }, { name := "outEC", type := (.array .int), accessFlags := 2, slot := 42, constantValue := 0 }, { name := "outEL", type := (.array .int), accessFlags := 2, slot := 43, constantValue := 0 }, { name := "outER", type := (.array .int), accessFlags := 2, slot := 44, constantValue := 0 }, { name := "outMN", type := (.array .int), accessFlags := 2, slot := 45, constantValue := 0 }, { name := "outMS", type := (.array .int), accessFlags := 2, slot := 46, constantValue := 0 }, { name := "outMC", type := (.array .int), accessFlags := 2, slot := 47, constantValue := 0 }]
  methods := #[k2m0, k2m1, k2m2, k2m3, k2m4, k2m5, k2m6, k2m7, k2m8, k2m9, k2m10, k2m11, k2m12, k2m13]
  instanceTypes := #[.int, .int, .int, .int, .int, .int, .int, .int, .int, .int, .int, .long, .int, (.array .long), (.array .int), (.array .int), .int, (.array .int), (.array .int), (.array .int), (.array .int), .int, (.array .int), (.array .int), (.array .int), (.array .int), (.array .int), (.array .int), (.array .int), (.array .int), (.array .int), (.array .int), (.array .boolean), (.array .boolean), (.array .boolean), (.array .int), (.array .int), .int, .int, .int, (.array .long), (.array .int), (.array .int), (.array .int), (.array .int), (.array .int), (.array .int), (.array .int)]
  staticTypes := #[.int, .int, .int, .int, .int, .int, .int, .int, .int, .int, .int]
  resolved := Array.replicate 284 none
  statics := none }

def pool3 : Array CpInfo := pool [(1, u "java/lang/Cloneable"), (0, .class_ 1), (0, u "java/lang/Object"), (0, .class_ 3)] 3

/-- java/lang/Cloneable -/
def k3 : Class := { plain "java/lang/Cloneable" (some 0) with
  accessFlags := 1537
  interfaces := #[]
  cf := some (fileOf pool3 2 #[] #[] 1537 4 #[] #[])
  fields := #[]
  methods := #[]
  instanceTypes := #[]
  staticTypes := #[]
  resolved := Array.replicate 8 none
  statics := none }

def pool4 : Array CpInfo := pool [(1, u "java/io/Serializable"), (0, .class_ 1), (0, u "java/lang/Object"), (0, .class_ 3)] 3

/-- java/io/Serializable -/
def k4 : Class := { plain "java/io/Serializable" (some 0) with
  accessFlags := 1537
  interfaces := #[]
  cf := some (fileOf pool4 2 #[] #[] 1537 4 #[] #[])
  fields := #[]
  methods := #[]
  instanceTypes := #[]
  staticTypes := #[]
  resolved := Array.replicate 8 none
  statics := none }

/-- the primitive boolean -/
def k5 : Class := { plain "boolean" none with kind := .primitive 'Z', accessFlags := 0x411 }
/-- [Z -/
def k6 : Class := { plain "[Z" (some 0) with kind := .array 5 .boolean, interfaces := #[3, 4], accessFlags := 1041 }

/-- the primitive byte -/
def k7 : Class := { plain "byte" none with kind := .primitive 'B', accessFlags := 0x411 }
/-- [B -/
def k8 : Class := { plain "[B" (some 0) with kind := .array 7 .byte, interfaces := #[3, 4], accessFlags := 1041 }

/-- the primitive int -/
def k9 : Class := { plain "int" none with kind := .primitive 'I', accessFlags := 0x411 }
/-- [I -/
def k10 : Class := { plain "[I" (some 0) with kind := .array 9 .int, interfaces := #[3, 4], accessFlags := 1041 }

/-- the primitive long -/
def k11 : Class := { plain "long" none with kind := .primitive 'J', accessFlags := 0x411 }
/-- [J -/
def k12 : Class := { plain "[J" (some 0) with kind := .array 11 .long, interfaces := #[3, 4], accessFlags := 1041 }

def heap : Heap := #[]
def classes : Array Class := #[k0, k1, k2, k3, k4, k5, k6, k7, k8, k9, k10, k11, k12]
def interned : List (Array UInt16 × Addr) := []
def slotsUsed : Nat := 0
def theMethod : MethodId := ⟨1, 1⟩
def args0 : Array Value := #[.int 5, .int 5, .int 5, .int 5, .int 5, .int 5]
def aboutOver (below : List Frame) : State where
  vm := { classes := classes, interned := interned.toArray }
  heap := heap
  slotsUsed := slotsUsed
  threads := #[{ frames := .invoking theMethod args0 :: below }]
def below0 : List Frame := [.native { method := ⟨0, 0⟩, args := #[] }]
def about1 : State := aboutOver below0
def p0 : Program := .bare "" "" ""
def e0 : Env := launch0.env 0 0 0
theorem w_frames : about1.frames = Frame.invoking theMethod args0 :: below0 := rfl
set_option maxRecDepth 65536 in
theorem w_args : argsFit about1.vm theMethod args0 = true := by decide +kernel
set_option maxRecDepth 65536 in
theorem w_heap : heapFits about1 = true := by decide +kernel
set_option maxRecDepth 65536 in
theorem w_runnable : about1.curStatus? = some .runnable := by decide +kernel
set_option maxRecDepth 65536 in
theorem w_alone : about1.alone = true := by decide +kernel
set_option maxRecDepth 65536 in
theorem w_named : about1.methodNamed? x = some theMethod := by decide +kernel
set_option maxRecDepth 65536 in
theorem w_hears : about1.hears theMethod below0 = true := by decide +kernel
set_option maxRecDepth 65536 in
theorem w_ripe : about1.ripe theMethod args0 below0 = true := by decide +kernel
theorem w_running : about1.status = .running := rfl
set_option maxRecDepth 65536 in
theorem w_room : about1.hasRoom e0.platform room_1 = true :=
  launch0.hasRoom_least _ room_1 (by decide +kernel) (by decide +kernel) (by decide +kernel) (by decide +kernel) (by decide +kernel) (by decide +kernel)
theorem allAtoms_all (ts : List Jvm.Cond) (a : Array Jvm.Value) (st : Jvm.State) : (allAtoms ts).before a st = ts.all (fun c => c.before a st) := by
  induction ts with
  | nil => rfl
  | cons c t ih =>
    show (Jvm.Cond.and c (allAtoms t)).before a st = _
    rw [Jvm.Cond.before_and, ih, List.all_cons]
def words1 : List Jvm.Cond := Jvm.Cond.code x code maxLocals ret :: tables_1
/-- a 'code' word, met by the world's own term for the bytes: nothing is compared byte by byte -/
theorem code_word {y : MethodName} {bytes : ByteArray} {mx : Nat} {rt : Option FieldType} {a : Array Value} {s : State} {m : MethodId} {meth : Method} {c : Code} (h1 : s.methodNamed? y = some m) (h2 : s.vm.method? m = some meth) (h3 : meth.code = some c) (h4 : c.code = bytes)
    (h5 : (c.maxLocals == mx && c.exceptionTable.isEmpty && decide (c.maxStack ≤ mostOperands) && decide (meth.sig.returnType = rt) && !meth.locks && decide (parseMethodDescriptor y.desc = some meth.sig)) = true) : (Jvm.Cond.code y bytes mx rt).before a s = true := by
  simp only [Bool.and_eq_true, beq_iff_eq, Bool.not_eq_true', decide_eq_true_eq] at h5
  obtain ⟨⟨⟨⟨⟨g1, g2⟩, g3⟩, g4⟩, g5⟩, g6⟩ := h5
  simp [Cond.before, Cond.holds, Cond.value, h1, h2, h3, h4, g1, g2, g3, g4, g5, g6]
def isCode : Jvm.Cond → Bool
  | .code _ _ _ _ => true
  | _ => false
theorem all_split {L : List Jvm.Cond} {P : Jvm.Cond → Bool} (h1 : L.all (fun c => isCode c || P c) = true) (h2 : ∀ c ∈ L.filter isCode, P c = true) : L.all P = true := by
  refine List.all_eq_true.mpr fun c hc => ?_
  have h := List.all_eq_true.mp h1 c hc
  rcases Bool.eq_false_or_eq_true (isCode c) with hi | hi
  · exact h2 c (List.mem_filter.mpr ⟨hc, hi⟩)
  · simpa [hi] using h
set_option maxRecDepth 65536 in
theorem w_c0 : (Jvm.Cond.code x code maxLocals ret).before args0 about1 = true := code_word (m := ⟨1, 1⟩) (meth := k1m1) (c := k1c1) (by decide +kernel) rfl rfl rfl (by decide +kernel)
set_option maxRecDepth 65536 in
theorem w_c1 : (Jvm.Cond.code ({ cls := "TreeSeqSim", name := "<init>", desc := "(II)V" } : Jvm.MethodName) prog_1_method_1_code (6 : Nat) (Option.none : Option Jvm.ClassFile.FieldType)).before args0 about1 = true := code_word (m := ⟨2, 0⟩) (meth := k2m0) (c := k2c0) (by decide +kernel) rfl rfl rfl (by decide +kernel)
set_option maxRecDepth 65536 in
theorem w_c2 : (Jvm.Cond.code ({ cls := "java/lang/Object", name := "<init>", desc := "()V" } : Jvm.MethodName) object_method_1_code (1 : Nat) (Option.none : Option Jvm.ClassFile.FieldType)).before args0 about1 = true := code_word (m := ⟨0, 0⟩) (meth := k0m0) (c := k0c0) (by decide +kernel) rfl rfl rfl (by decide +kernel)
set_option maxRecDepth 65536 in
theorem w_c3 : (Jvm.Cond.code ({ cls := "TreeSeqSim", name := "mutate", desc := "(II)I" } : Jvm.MethodName) prog_1_method_6_code (3 : Nat) (Option.some Jvm.ClassFile.FieldType.int)).before args0 about1 = true := code_word (m := ⟨2, 1⟩) (meth := k2m1) (c := k2c1) (by decide +kernel) rfl rfl rfl (by decide +kernel)
set_option maxRecDepth 65536 in
theorem w_c4 : (Jvm.Cond.code ({ cls := "TreeSeqSim", name := "mutationCount", desc := "()I" } : Jvm.MethodName) prog_1_method_8_code (1 : Nat) (Option.some Jvm.ClassFile.FieldType.int)).before args0 about1 = true := code_word (m := ⟨2, 3⟩) (meth := k2m3) (c := k2c3) (by decide +kernel) rfl rfl rfl (by decide +kernel)
set_option maxRecDepth 65536 in
theorem w_c5 : (Jvm.Cond.code ({ cls := "TreeSeqSim", name := "generation", desc := "()I" } : Jvm.MethodName) prog_1_method_7_code (1 : Nat) (Option.some Jvm.ClassFile.FieldType.int)).before args0 about1 = true := code_word (m := ⟨2, 2⟩) (meth := k2m2) (c := k2c2) (by decide +kernel) rfl rfl rfl (by decide +kernel)
set_option maxRecDepth 65536 in
theorem w_c6 : (Jvm.Cond.code ({ cls := "TreeSeqSim", name := "mutationSite", desc := "(I)I" } : Jvm.MethodName) prog_1_method_11_code (2 : Nat) (Option.some Jvm.ClassFile.FieldType.int)).before args0 about1 = true := code_word (m := ⟨2, 5⟩) (meth := k2m5) (c := k2c5) (by decide +kernel) rfl rfl rfl (by decide +kernel)
set_option maxRecDepth 65536 in
theorem w_c7 : (Jvm.Cond.code ({ cls := "TreeSeqSim", name := "genotype", desc := "(II)I" } : Jvm.MethodName) prog_1_method_9_code (3 : Nat) (Option.some Jvm.ClassFile.FieldType.int)).before args0 about1 = true := code_word (m := ⟨2, 4⟩) (meth := k2m4) (c := k2c4) (by decide +kernel) rfl rfl rfl (by decide +kernel)
set_option maxRecDepth 65536 in
theorem w_c8 : (Jvm.Cond.code ({ cls := "TreeSeqSim", name := "segregatingSites", desc := "()I" } : Jvm.MethodName) prog_1_method_13_code (3 : Nat) (Option.some Jvm.ClassFile.FieldType.int)).before args0 about1 = true := code_word (m := ⟨2, 7⟩) (meth := k2m7) (c := k2c7) (by decide +kernel) rfl rfl rfl (by decide +kernel)
set_option maxRecDepth 65536 in
theorem w_c9 : (Jvm.Cond.code ({ cls := "TreeSeqSim", name := "siteSegregates", desc := "(I)Z" } : Jvm.MethodName) prog_1_method_27_code (4 : Nat) (Option.some Jvm.ClassFile.FieldType.boolean)).before args0 about1 = true := code_word (m := ⟨2, 13⟩) (meth := k2m13) (c := k2c13) (by decide +kernel) rfl rfl rfl (by decide +kernel)
set_option maxRecDepth 65536 in
theorem w_c10 : (Jvm.Cond.code ({ cls := "TreeSeqSim", name := "decode", desc := "(I)V" } : Jvm.MethodName) prog_1_method_23_code (2 : Nat) (Option.none : Option Jvm.ClassFile.FieldType)).before args0 about1 = true := code_word (m := ⟨2, 9⟩) (meth := k2m9) (c := k2c9) (by decide +kernel) rfl rfl rfl (by decide +kernel)
set_option maxRecDepth 65536 in
theorem w_c11 : (Jvm.Cond.code ({ cls := "TreeSeqSim", name := "fillParentsAt", desc := "(I)V" } : Jvm.MethodName) prog_1_method_24_code (5 : Nat) (Option.none : Option Jvm.ClassFile.FieldType)).before args0 about1 = true := code_word (m := ⟨2, 10⟩) (meth := k2m10) (c := k2c10) (by decide +kernel) rfl rfl rfl (by decide +kernel)
set_option maxRecDepth 65536 in
theorem w_c12 : (Jvm.Cond.code ({ cls := "TreeSeqSim", name := "fillMutsAt", desc := "(I)V" } : Jvm.MethodName) prog_1_method_25_code (4 : Nat) (Option.none : Option Jvm.ClassFile.FieldType)).before args0 about1 = true := code_word (m := ⟨2, 11⟩) (meth := k2m11) (c := k2c11) (by decide +kernel) rfl rfl rfl (by decide +kernel)
set_option maxRecDepth 65536 in
theorem w_c13 : (Jvm.Cond.code ({ cls := "TreeSeqSim", name := "decodeValues", desc := "()V" } : Jvm.MethodName) prog_1_method_26_code (5 : Nat) (Option.none : Option Jvm.ClassFile.FieldType)).before args0 about1 = true := code_word (m := ⟨2, 12⟩) (meth := k2m12) (c := k2c12) (by decide +kernel) rfl rfl rfl (by decide +kernel)
set_option maxRecDepth 65536 in
theorem w_c14 : (Jvm.Cond.code ({ cls := "TreeSeqSim", name := "alleleCount", desc := "(II)I" } : Jvm.MethodName) prog_1_method_12_code (5 : Nat) (Option.some Jvm.ClassFile.FieldType.int)).before args0 about1 = true := code_word (m := ⟨2, 6⟩) (meth := k2m6) (c := k2c6) (by decide +kernel) rfl rfl rfl (by decide +kernel)
set_option maxRecDepth 65536 in
theorem w_c15 : (Jvm.Cond.code ({ cls := "TreeSeqSim", name := "addMutation", desc := "(III)V" } : Jvm.MethodName) prog_1_method_22_code (5 : Nat) (Option.none : Option Jvm.ClassFile.FieldType)).before args0 about1 = true := code_word (m := ⟨2, 8⟩) (meth := k2m8) (c := k2c8) (by decide +kernel) rfl rfl rfl (by decide +kernel)
def codes1 : List Jvm.Cond := [Jvm.Cond.code x code maxLocals ret, Jvm.Cond.code ({ cls := "TreeSeqSim", name := "<init>", desc := "(II)V" } : Jvm.MethodName) prog_1_method_1_code (6 : Nat) (Option.none : Option Jvm.ClassFile.FieldType), Jvm.Cond.code ({ cls := "java/lang/Object", name := "<init>", desc := "()V" } : Jvm.MethodName) object_method_1_code (1 : Nat) (Option.none : Option Jvm.ClassFile.FieldType), Jvm.Cond.code ({ cls := "TreeSeqSim", name := "mutate", desc := "(II)I" } : Jvm.MethodName) prog_1_method_6_code (3 : Nat) (Option.some Jvm.ClassFile.FieldType.int), Jvm.Cond.code ({ cls := "TreeSeqSim", name := "mutationCount", desc := "()I" } : Jvm.MethodName) prog_1_method_8_code (1 : Nat) (Option.some Jvm.ClassFile.FieldType.int), Jvm.Cond.code ({ cls := "TreeSeqSim", name := "generation", desc := "()I" } : Jvm.MethodName) prog_1_method_7_code (1 : Nat) (Option.some Jvm.ClassFile.FieldType.int), Jvm.Cond.code ({ cls := "TreeSeqSim", name := "mutationSite", desc := "(I)I" } : Jvm.MethodName) prog_1_method_11_code (2 : Nat) (Option.some Jvm.ClassFile.FieldType.int), Jvm.Cond.code ({ cls := "TreeSeqSim", name := "genotype", desc := "(II)I" } : Jvm.MethodName) prog_1_method_9_code (3 : Nat) (Option.some Jvm.ClassFile.FieldType.int), Jvm.Cond.code ({ cls := "TreeSeqSim", name := "segregatingSites", desc := "()I" } : Jvm.MethodName) prog_1_method_13_code (3 : Nat) (Option.some Jvm.ClassFile.FieldType.int), Jvm.Cond.code ({ cls := "TreeSeqSim", name := "siteSegregates", desc := "(I)Z" } : Jvm.MethodName) prog_1_method_27_code (4 : Nat) (Option.some Jvm.ClassFile.FieldType.boolean), Jvm.Cond.code ({ cls := "TreeSeqSim", name := "decode", desc := "(I)V" } : Jvm.MethodName) prog_1_method_23_code (2 : Nat) (Option.none : Option Jvm.ClassFile.FieldType), Jvm.Cond.code ({ cls := "TreeSeqSim", name := "fillParentsAt", desc := "(I)V" } : Jvm.MethodName) prog_1_method_24_code (5 : Nat) (Option.none : Option Jvm.ClassFile.FieldType), Jvm.Cond.code ({ cls := "TreeSeqSim", name := "fillMutsAt", desc := "(I)V" } : Jvm.MethodName) prog_1_method_25_code (4 : Nat) (Option.none : Option Jvm.ClassFile.FieldType), Jvm.Cond.code ({ cls := "TreeSeqSim", name := "decodeValues", desc := "()V" } : Jvm.MethodName) prog_1_method_26_code (5 : Nat) (Option.none : Option Jvm.ClassFile.FieldType), Jvm.Cond.code ({ cls := "TreeSeqSim", name := "alleleCount", desc := "(II)I" } : Jvm.MethodName) prog_1_method_12_code (5 : Nat) (Option.some Jvm.ClassFile.FieldType.int), Jvm.Cond.code ({ cls := "TreeSeqSim", name := "addMutation", desc := "(III)V" } : Jvm.MethodName) prog_1_method_22_code (5 : Nat) (Option.none : Option Jvm.ClassFile.FieldType)]
set_option maxRecDepth 65536 in
theorem codes_eq : words1.filter isCode = codes1 := rfl
theorem w_codes : ∀ c ∈ words1.filter isCode, c.before args0 about1 = true := by
  rw [codes_eq]
  intro c hc
  simp only [codes1, List.mem_cons, List.not_mem_nil, or_false] at hc
  rcases hc with rfl | rfl | rfl | rfl | rfl | rfl | rfl | rfl | rfl | rfl | rfl | rfl | rfl | rfl | rfl | rfl
  · exact w_c0
  · exact w_c1
  · exact w_c2
  · exact w_c3
  · exact w_c4
  · exact w_c5
  · exact w_c6
  · exact w_c7
  · exact w_c8
  · exact w_c9
  · exact w_c10
  · exact w_c11
  · exact w_c12
  · exact w_c13
  · exact w_c14
  · exact w_c15
set_option maxRecDepth 65536 in
theorem w_t1 : (words1.take 24).all (fun c => isCode c || c.before args0 about1) = true := by decide +kernel
set_option maxRecDepth 65536 in
theorem w_t2 : ((words1.drop 24).take 24).all (fun c => isCode c || c.before args0 about1) = true := by decide +kernel
set_option maxRecDepth 65536 in
theorem w_t3 : (((words1.drop 24).drop 24).take 24).all (fun c => isCode c || c.before args0 about1) = true := by decide +kernel
set_option maxRecDepth 65536 in
theorem w_t4 : ((((words1.drop 24).drop 24).drop 24).take 24).all (fun c => isCode c || c.before args0 about1) = true := by decide +kernel
set_option maxRecDepth 65536 in
theorem w_t5 : (((((words1.drop 24).drop 24).drop 24).drop 24).take 24).all (fun c => isCode c || c.before args0 about1) = true := by decide +kernel
set_option maxRecDepth 65536 in
theorem w_t6 : ((((((words1.drop 24).drop 24).drop 24).drop 24).drop 24).take 24).all (fun c => isCode c || c.before args0 about1) = true := by decide +kernel
set_option maxRecDepth 65536 in
theorem w_t7 : ((((((words1.drop 24).drop 24).drop 24).drop 24).drop 24).drop 24).all (fun c => isCode c || c.before args0 about1) = true := by decide +kernel
theorem w_tables : (allAtoms (Jvm.Cond.code x code maxLocals ret :: tables_1)).before args0 about1 = true := by
  rw [allAtoms_all]
  show words1.all (fun c => c.before args0 about1) = true
  refine all_split ?_ w_codes
  rw [← List.take_append_drop 24 words1, List.all_append, w_t1, ← List.take_append_drop 24 (words1.drop 24), List.all_append, w_t2, ← List.take_append_drop 24 ((words1.drop 24).drop 24), List.all_append, w_t3, ← List.take_append_drop 24 (((words1.drop 24).drop 24).drop 24), List.all_append, w_t4, ← List.take_append_drop 24 ((((words1.drop 24).drop 24).drop 24).drop 24), List.all_append, w_t5, ← List.take_append_drop 24 (((((words1.drop 24).drop 24).drop 24).drop 24).drop 24), List.all_append, w_t6, w_t7]
  rfl
set_option maxRecDepth 65536 in
theorem w_case : (Jvm.Cond.and given_1 narrow_1).before args0 about1 = true := by decide +kernel
theorem w_applies : (headSpec (Jvm.Cond.code x code maxLocals ret :: tables_1) room_1).applies x e0.platform about1 = true :=
  (Spec.applies_iff w_frames).mpr ⟨w_running, w_runnable, w_alone, w_named, w_hears, w_ripe, w_room, w_tables⟩
theorem atStart : AtStart classFile x code maxLocals ret World_1 tables_1 room_1 Calls_1 rest_1 Pre_1 launch0 p0 e0 about1 theMethod args0 below0 :=
  ⟨lists_1, trivial, launch0.admits_env _ _ _, launch0.least_env, fairChoices_fair.cas, fairChoices_fair.clock, w_frames, w_args, w_heap, w_applies, trivial, trivial, w_case⟩
end start1
theorem witness_1 : WitnessClaimed_1 := ⟨start1.p0, start1.e0, start1.about1, start1.theMethod, start1.args0, start1.below0, start1.atStart⟩
end Jvm.Pilot.@@N@@
