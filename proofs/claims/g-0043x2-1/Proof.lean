import JvmDerived
import JvmDerived.Pilot.@@N@@Statement
import JvmDerived.Pilot.@@N@@Code
set_option linter.unusedVariables false
set_option linter.unusedSimpArgs false
namespace Jvm.OwnEv
open Sem ClassFile Op Lib Jvm.Stand Jvm.Free Jvm.LawKit Jvm.RoadKit
/-! PART 1: a small evaluator of bytecode over a memory of its own (defs alone). A memory: the cells made (kind, class, size), and what they hold: ints, longs, references. -/
abbrev ELay : Type := List (Nat × String × Nat)
abbrev EMem : Type := ELay × (Nat → Nat → Int32) × (Nat → Nat → Int64) × (Nat → Nat → Value)
def up {α : Type} (f : Nat → Nat → α) (a k : Nat) (v : α) : Nat → Nat → α := fun x y => if x = a ∧ y = k then v else f x y
def szL (L : ELay) : Nat := (L.map fun c => c.2.2).sum
def wt (vs : List Value) : Nat := (vs.map fun v => v.category).sum
def setL : List Slot → Nat → Slot → Option (List Slot)
  | [], _, _ => none
  | _ :: t, 0, x => some (x :: t)
  | h :: t, n + 1, x => match setL t n x with
    | some t' => some (h :: t')
    | none => none
def storeSelfL (l : List Slot) (i : Nat) (v : Value) : Option (List Slot) :=
  match setL l i (.val v) with
  | none => none
  | some l1 => if v.category = 2 then
      match l1[i + 1]? with
      | none => none
      | some (.val old) => if old.category = 2 then
          match setL l1 (i + 2) .unset with
          | none => none
          | some l2 => setL l2 (i + 1) .second
        else setL l1 (i + 1) .second
      | some _ => setL l1 (i + 1) .second
    else some l1
def storeL (l : List Slot) (i : Nat) (v : Value) : Option (List Slot) :=
  match l[i]? with
  | none => none
  | some .second => match setL l (i - 1) .unset with
    | none => none
    | some l' => storeSelfL l' i v
  | some (.val old) => if old.category = 2 then
      match setL l (i + 1) .unset with
      | none => none
      | some l' => storeSelfL l' i v
    else storeSelfL l i v
  | some .unset => storeSelfL l i v
def fillL : List Value → List Slot
  | [] => []
  | v :: t => if v.category = 2 then .val v :: .second :: fillL t else .val v :: fillL t
def entryL (as : List Value) (maxL : Nat) : List Slot := fillL as ++ List.replicate (maxL - (fillL as).length) .unset
/-! what the sheet's words say -/
def kindD (d : String) : Nat := match parseFieldDescriptor d with
  | some .int => 1
  | some .boolean => 2
  | some .long => 3
  | some (.array _) => 4
  | some (.object _) => 4
  | _ => 0
def layGo (C n : String) : List Jvm.Cond → Nat → Option (Nat × String × Bool)
  | [], _ => none
  | .lays c o n' d :: t, k => if n' = n ∧ c = C ∧ o = C then some (k, d, false) else layGo C n t (k + 1)
  | .laysFinal c o n' d :: t, k => if n' = n ∧ c = C ∧ o = C then some (k, d, true) else layGo C n t (k + 1)
  | _ :: t, k => layGo C n t (k + 1)
def layAt (W : List Jvm.Cond) (C n : String) : Option (Nat × String × Bool) := layGo C n W 0
def fieldLk (own : String) (idx : Nat) : List Jvm.Cond → Option (String × String × String)
  | [] => none
  | .fieldLink o i r n d :: t => if i = idx ∧ o = own then some (r, n, d) else fieldLk own idx t
  | _ :: t => fieldLk own idx t
/-- the class, the field's place, its kind, final or not -/
def fieldAt (W : List Jvm.Cond) (own : String) (idx : Nat) : Option (String × Nat × Nat × Bool) :=
  match fieldLk own idx W with
  | none => none
  | some (r, n, d) => match layAt W r n with
    | none => none
    | some (k, d', fin) => if d' = d ∧ kindD d ≠ 0 then some (r, k, kindD d, fin) else none
def methodLk (own : String) (idx : Nat) : List Jvm.Cond → Option MethodName
  | [] => none
  | .methodLink o i y :: t => if i = idx ∧ o = own then some y else methodLk own idx t
  | _ :: t => methodLk own idx t
def classLk (own : String) (idx : Nat) : List Jvm.Cond → Option String
  | [] => none
  | .classLink o i C :: t => if i = idx ∧ o = own then some C else classLk own idx t
  | _ :: t => classLk own idx t
def instLk (C : String) : List Jvm.Cond → Option Nat
  | [] => none
  | .instantiable c n :: t => if c = C then some n else instLk C t
  | _ :: t => instLk C t
def meq (z y : MethodName) : Bool := decide (z.name = y.name) && (decide (z.desc = y.desc) && decide (z.cls = y.cls))
def codeLk (y : MethodName) : List Jvm.Cond → Option (ByteArray × Nat × Option FieldType)
  | [] => none
  | .code z b n r :: t => if meq z y = true then some (b, n, r) else codeLk y t
  | _ :: t => codeLk y t
def intLk (own : String) (idx : Nat) : List Jvm.Cond → Option Int32
  | [] => none
  | .constant o i v :: t => if i = idx ∧ o = own then some v else intLk own idx t
  | _ :: t => intLk own idx t
def longLk (own : String) (idx : Nat) : List Jvm.Cond → Option Int64
  | [] => none
  | .constantLong o i v :: t => if i = idx ∧ o = own then some v else longLk own idx t
  | _ :: t => longLk own idx t
def hasInit (C : String) : List Jvm.Cond → Bool
  | [] => false
  | .initialized c :: t => if c = C then true else hasInit C t
  | _ :: t => hasInit C t
def hasInst (y : MethodName) : List Jvm.Cond → Bool
  | [] => false
  | .instanceMethod z :: t => if meq z y = true then true else hasInst y t
  | _ :: t => hasInst y t
def hasPriv (y : MethodName) : List Jvm.Cond → Bool
  | [] => false
  | .privateMethod z :: t => if meq z y = true then true else hasPriv y t
  | _ :: t => hasPriv y t
def hasStat (y : MethodName) : List Jvm.Cond → Bool
  | [] => false
  | .static z :: t => if meq z y = true then true else hasStat y t
  | _ :: t => hasStat y t
def hasDecl (y : MethodName) : List Jvm.Cond → Bool
  | [] => false
  | .declares z :: t => if meq z y = true then true else hasDecl y t
  | _ :: t => hasDecl y t
def hasSel (y : MethodName) : List Jvm.Cond → Bool
  | [] => false
  | .selects C z z' :: t => if meq z y = true ∧ meq z' y = true ∧ C = y.cls then true else hasSel y t
  | _ :: t => hasSel y t
def hasArr (ty : FieldType) : List Jvm.Cond → Bool
  | [] => false
  | .arrayClass z :: t => if z = ty then true else hasArr ty t
  | _ :: t => hasArr ty t
def newAt (W : List Jvm.Cond) (own : String) (idx : Nat) : Option (String × Nat) :=
  match classLk own idx W with
  | none => none
  | some C => match instLk C W with
    | none => none
    | some n => if hasInit C W = true then some (C, n) else none
/-- kind: 0 invokevirtual of a public method, 1 of a private one, 2 a constructor, 3 static; the method, how many arguments, its body -/
def callAt (W : List Jvm.Cond) (own : String) (idx : Nat) (kd : Nat) : Option (MethodName × Nat × ByteArray × Nat × Option FieldType) :=
  match methodLk own idx W with
  | none => none
  | some z => match codeLk z W, parseMethodDescriptor z.desc with
    | some (b, n, r), some sig =>
      if hasInit z.cls W = true ∧ plainName z.cls = true ∧ z.cls ≠ "java/lang/invoke/MethodHandle" ∧ z.cls ≠ "java/lang/invoke/VarHandle" ∧
         ((kd = 0 ∧ hasDecl z W = true ∧ hasSel z W = true ∧ hasInst z W = true) ∨ (kd = 1 ∧ hasPriv z W = true ∧ hasInst z W = true ∧ (instLk z.cls W).isSome = true) ∨ (kd = 2 ∧ z.name = "<init>" ∧ hasInst z W = true ∧ r = none) ∨ (kd = 3 ∧ hasStat z W = true))
      then some (z, sig.parameters.length, b, n, r) else none
    | _, _ => none
def objInitAt (W : List Jvm.Cond) (own : String) (idx : Nat) : Bool :=
  match methodLk own idx W, codeLk Lib.objectInit W with
  | some z, some (b, n, r) => decide (z = Lib.objectInit) && hasInst Lib.objectInit W && decide (b = ⟨#[0xb1]⟩) && decide (n = 1) && decide (r = none)
  | _, _ => false
def jump (pc : Nat) (o : Int) : Option Nat := match (pc : Int) + o with
  | .ofNat n => some n
  | .negSucc _ => none
def getV (kd : Nat) (i : Int32) (j : Int64) (r : Value) : Value := match kd with
  | 1 => .int i
  | 2 => .int i
  | 3 => .long j
  | _ => r
def inb (j : Int32) (n : Nat) : Bool := decide (¬ j < 0) && decide (j.toNatClampNeg < n)
def lenOk (len : Nat) : Instr → Bool
  | .aload _ | .iload _ | .lload _ | .astore _ | .istore _ | .lstore _ | .bipush _ | .ldc _ | .newarray _ => len == 2
  | .sipush _ | .iinc _ _ | .ldc_w _ | .ldc2_w _ | .goto _ | .ifCond _ _ | .if_icmp _ _ | .ifnull _ | .ifnonnull _ | .getfield _ | .putfield _ | .new _ | .invokevirtual _ | .invokespecial _ | .invokestatic _ => len == 3
  | .tableswitch _ _ _ _ => true
  | _ => len == 1
/-- the steps that leave the memory as it is -/
def execP (W : List Jvm.Cond) (F Lb : Nat) (y : MethodName) (ins : Instr) (pc len : Nat) (ls : List Slot) (st : List Value) (M : EMem) : Option (Nat × List Slot × List Value) :=
  match ins with
  | .aload k => match ls[k]? with
    | some (.val (.ref a)) => some (pc + 2, ls, .ref a :: st)
    | some (.val .null) => some (pc + 2, ls, .null :: st)
    | _ => none
  | .aload_n k => match ls[k.val]? with
    | some (.val (.ref a)) => some (pc + 1, ls, .ref a :: st)
    | some (.val .null) => some (pc + 1, ls, .null :: st)
    | _ => none
  | .iload k => match ls[k]? with
    | some (.val (.int v)) => some (pc + 2, ls, .int v :: st)
    | _ => none
  | .iload_n k => match ls[k.val]? with
    | some (.val (.int v)) => some (pc + 1, ls, .int v :: st)
    | _ => none
  | .lload k => match ls[k]? with
    | some (.val (.long v)) => some (pc + 2, ls, .long v :: st)
    | _ => none
  | .lload_n k => match ls[k.val]? with
    | some (.val (.long v)) => some (pc + 1, ls, .long v :: st)
    | _ => none
  | .istore k => match st with
    | .int x :: r => match storeL ls k (.int x) with
      | some l' => some (pc + 2, l', r)
      | none => none
    | _ => none
  | .istore_n k => match st with
    | .int x :: r => match storeL ls k.val (.int x) with
      | some l' => some (pc + 1, l', r)
      | none => none
    | _ => none
  | .lstore k => match st with
    | .long x :: r => match storeL ls k (.long x) with
      | some l' => some (pc + 2, l', r)
      | none => none
    | _ => none
  | .lstore_n k => match st with
    | .long x :: r => match storeL ls k.val (.long x) with
      | some l' => some (pc + 1, l', r)
      | none => none
    | _ => none
  | .astore k => match st with
    | .ref x :: r => match storeL ls k (.ref x) with
      | some l' => some (pc + 2, l', r)
      | none => none
    | _ => none
  | .astore_n k => match st with
    | .ref x :: r => match storeL ls k.val (.ref x) with
      | some l' => some (pc + 1, l', r)
      | none => none
    | _ => none
  | .iinc k d => match ls[k]? with
    | some (.val (.int v)) => match storeL ls k (.int (v + Int32.ofInt d)) with
      | some l' => some (pc + 3, l', st)
      | none => none
    | _ => none
  | .iconst i => some (pc + 1, ls, .int (Int32.ofInt i) :: st)
  | .bipush i => some (pc + 2, ls, .int (Int8.ofInt i).toInt32 :: st)
  | .sipush i => some (pc + 3, ls, .int (Int16.ofInt i).toInt32 :: st)
  | .lconst k => some (pc + 1, ls, .long (Int64.ofNat k) :: st)
  | .ldc i => match intLk y.cls i W with
    | some v => some (pc + 2, ls, .int v :: st)
    | none => none
  | .ldc_w i => match intLk y.cls i W with
    | some v => some (pc + 3, ls, .int v :: st)
    | none => none
  | .ldc2_w i => match longLk y.cls i W with
    | some v => some (pc + 3, ls, .long v :: st)
    | none => none
  | .iadd => match st with
    | .int b :: .int a :: r => some (pc + 1, ls, .int (a + b) :: r)
    | _ => none
  | .isub => match st with
    | .int b :: .int a :: r => some (pc + 1, ls, .int (a - b) :: r)
    | _ => none
  | .imul => match st with
    | .int b :: .int a :: r => some (pc + 1, ls, .int (a * b) :: r)
    | _ => none
  | .iand => match st with
    | .int b :: .int a :: r => some (pc + 1, ls, .int (a &&& b) :: r)
    | _ => none
  | .ior => match st with
    | .int b :: .int a :: r => some (pc + 1, ls, .int (a ||| b) :: r)
    | _ => none
  | .ixor => match st with
    | .int b :: .int a :: r => some (pc + 1, ls, .int (a ^^^ b) :: r)
    | _ => none
  | .ishl => match st with
    | .int b :: .int a :: r => some (pc + 1, ls, .int (a <<< (b &&& 31)) :: r)
    | _ => none
  | .ishr => match st with
    | .int b :: .int a :: r => some (pc + 1, ls, .int (a >>> (b &&& 31)) :: r)
    | _ => none
  | .iushr => match st with
    | .int b :: .int a :: r => some (pc + 1, ls, .int (XT.ushr a b) :: r)
    | _ => none
  | .idiv => match st with
    | .int b :: .int a :: r => if b = 0 then none else some (pc + 1, ls, .int (a / b) :: r)
    | _ => none
  | .irem => match st with
    | .int b :: .int a :: r => if b = 0 then none else some (pc + 1, ls, .int (a - (a / b) * b) :: r)
    | _ => none
  | .ineg => match st with
    | .int a :: r => some (pc + 1, ls, .int (-a) :: r)
    | _ => none
  | .ladd => match st with
    | .long b :: .long a :: r => some (pc + 1, ls, .long (a + b) :: r)
    | _ => none
  | .lsub => match st with
    | .long b :: .long a :: r => some (pc + 1, ls, .long (a - b) :: r)
    | _ => none
  | .lmul => match st with
    | .long b :: .long a :: r => some (pc + 1, ls, .long (a * b) :: r)
    | _ => none
  | .land => match st with
    | .long b :: .long a :: r => some (pc + 1, ls, .long (a &&& b) :: r)
    | _ => none
  | .lor => match st with
    | .long b :: .long a :: r => some (pc + 1, ls, .long (a ||| b) :: r)
    | _ => none
  | .lxor => match st with
    | .long b :: .long a :: r => some (pc + 1, ls, .long (a ^^^ b) :: r)
    | _ => none
  | .lshl => match st with
    | .int b :: .long a :: r => some (pc + 1, ls, .long (a <<< (b.toInt64 &&& 63)) :: r)
    | _ => none
  | .lshr => match st with
    | .int b :: .long a :: r => some (pc + 1, ls, .long (a >>> (b.toInt64 &&& 63)) :: r)
    | _ => none
  | .lushr => match st with
    | .int b :: .long a :: r => some (pc + 1, ls, .long (XT.ushrL a b) :: r)
    | _ => none
  | .ldiv => match st with
    | .long b :: .long a :: r => if b = 0 then none else some (pc + 1, ls, .long (a / b) :: r)
    | _ => none
  | .lrem => match st with
    | .long b :: .long a :: r => if b = 0 then none else some (pc + 1, ls, .long (a - (a / b) * b) :: r)
    | _ => none
  | .lneg => match st with
    | .long a :: r => some (pc + 1, ls, .long (-a) :: r)
    | _ => none
  | .lcmp => match st with
    | .long b :: .long a :: r => some (pc + 1, ls, .int (XT.cmpL a b) :: r)
    | _ => none
  | .i2l => match st with
    | .int a :: r => some (pc + 1, ls, .long a.toInt64 :: r)
    | _ => none
  | .l2i => match st with
    | .long a :: r => some (pc + 1, ls, .int a.toInt32 :: r)
    | _ => none
  | .i2s => match st with
    | .int a :: r => some (pc + 1, ls, .int a.toInt16.toInt32 :: r)
    | _ => none
  | .dup => match st with
    | .int a :: r => some (pc + 1, ls, .int a :: .int a :: r)
    | .ref a :: r => some (pc + 1, ls, .ref a :: .ref a :: r)
    | _ => none
  | .dup2 => match st with
    | .int b :: .int a :: r => some (pc + 1, ls, .int b :: .int a :: .int b :: .int a :: r)
    | .int b :: .ref a :: r => some (pc + 1, ls, .int b :: .ref a :: .int b :: .ref a :: r)
    | .long b :: r => some (pc + 1, ls, .long b :: .long b :: r)
    | _ => none
  | .dup_x1 => match st with
    | .int b :: .ref a :: r => some (pc + 1, ls, .int b :: .ref a :: .int b :: r)
    | _ => none
  | .pop => match st with
    | .int _ :: r => some (pc + 1, ls, r)
    | .ref _ :: r => some (pc + 1, ls, r)
    | _ => none
  | .goto o => match jump pc o with
    | some t => some (t, ls, st)
    | none => none
  | .ifCond cd o => match st with
    | .int a :: r => match jump pc o with
      | some t => some (if ifCond.holds cd a = true then t else pc + 3, ls, r)
      | none => none
    | _ => none
  | .if_icmp cd o => match st with
    | .int b :: .int a :: r => match jump pc o with
      | some t => some (if if_icmp.holds cd a b = true then t else pc + 3, ls, r)
      | none => none
    | _ => none
  | .ifnull o => match st with
    | .null :: r => match jump pc o with
      | some t => some (t, ls, r)
      | none => none
    | .ref _ :: r => some (pc + 3, ls, r)
    | _ => none
  | .ifnonnull o => match st with
    | .ref _ :: r => match jump pc o with
      | some t => some (t, ls, r)
      | none => none
    | .null :: r => some (pc + 3, ls, r)
    | _ => none
  | .tableswitch dflt low high offs => match st with
    | .int i :: r => if i.toInt < low ∨ i.toInt > high then
        match jump pc dflt with
        | some t => some (t, ls, r)
        | none => none
      else match offs[(i.toInt - low).toNat]? with
        | none => none
        | some o => match jump pc o with
          | some t => some (t, ls, r)
          | none => none
    | _ => none
  | .getfield idx => match st with
    | .ref a :: r => match fieldAt W y.cls idx, M.1[a]? with
      | some (C, k, kd, _), some (0, C', _) => if C' = C then some (pc + 3, ls, getV kd (M.2.1 a k) (M.2.2.1 a k) (M.2.2.2 a k) :: r) else none
      | _, _ => none
    | _ => none
  | .arraylength => match st with
    | .ref a :: r => match M.1[a]? with
      | some (1, _, n) => some (pc + 1, ls, .int n.toInt32 :: r)
      | some (2, _, n) => some (pc + 1, ls, .int n.toInt32 :: r)
      | some (3, _, n) => some (pc + 1, ls, .int n.toInt32 :: r)
      | _ => none
    | _ => none
  | .iaload => match st with
    | .int j :: .ref a :: r => match M.1[a]? with
      | some (1, _, n) => if inb j n = true then some (pc + 1, ls, .int (M.2.1 a j.toNatClampNeg) :: r) else none
      | _ => none
    | _ => none
  | .baload => match st with
    | .int j :: .ref a :: r => match M.1[a]? with
      | some (3, _, n) => if inb j n = true then some (pc + 1, ls, .int (M.2.1 a j.toNatClampNeg) :: r) else none
      | _ => none
    | _ => none
  | .laload => match st with
    | .int j :: .ref a :: r => match M.1[a]? with
      | some (2, _, n) => if inb j n = true then some (pc + 1, ls, .long (M.2.2.1 a j.toNatClampNeg) :: r) else none
      | _ => none
    | _ => none
  | .invokespecial idx => match st with
    | .ref _ :: r => if objInitAt W y.cls idx = true ∧ 1 ≤ F ∧ wt r + 12 ≤ Lb then some (pc + 3, ls, r) else none
    | _ => none
  | _ => none
/-- the steps that write or make; ro: the cells below it are not written -/
def execM (W : List Jvm.Cond) (ro : Nat) (y : MethodName) (ins : Instr) (st : List Value) (M : EMem) : Option (List Value × EMem) :=
  match ins with
  | .putfield idx => match st with
    | v :: .ref a :: r => match fieldAt W y.cls idx, M.1[a]? with
      | some (C, k, kd, fin), some (0, C', _) =>
        if C' = C ∧ ro ≤ a ∧ (fin = false ∨ (y.cls = C ∧ y.name = "<init>")) ∧ (instLk C W).isSome = true then
          match kd, v with
          | 1, .int x => some (r, M.1, up M.2.1 a k x, M.2.2.1, M.2.2.2)
          | 2, .int x => some (r, M.1, up M.2.1 a k (x &&& 1), M.2.2.1, M.2.2.2)
          | 3, .long x => some (r, M.1, M.2.1, up M.2.2.1 a k x, M.2.2.2)
          | 4, .ref b => some (r, M.1, M.2.1, M.2.2.1, up M.2.2.2 a k (.ref b))
          | _, _ => none
        else none
      | _, _ => none
    | _ => none
  | .iastore => match st with
    | .int x :: .int j :: .ref a :: r => match M.1[a]? with
      | some (1, _, n) => if inb j n = true ∧ ro ≤ a then some (r, M.1, up M.2.1 a j.toNatClampNeg x, M.2.2.1, M.2.2.2) else none
      | _ => none
    | _ => none
  | .bastore => match st with
    | .int x :: .int j :: .ref a :: r => match M.1[a]? with
      | some (3, _, n) => if inb j n = true ∧ ro ≤ a then some (r, M.1, up M.2.1 a j.toNatClampNeg (x &&& 1), M.2.2.1, M.2.2.2) else none
      | _ => none
    | _ => none
  | .lastore => match st with
    | .long x :: .int j :: .ref a :: r => match M.1[a]? with
      | some (2, _, n) => if inb j n = true ∧ ro ≤ a then some (r, M.1, M.2.1, up M.2.2.1 a j.toNatClampNeg x, M.2.2.2) else none
      | _ => none
    | _ => none
  | .new idx => match newAt W y.cls idx with
    | some (C, n) => some (.ref M.1.length :: st, M.1 ++ [(0, C, n)], M.2.1, M.2.2.1, M.2.2.2)
    | none => none
  | .newarray .int => match st with
    | .int n :: r => if ¬ n < 0 ∧ n.toNatClampNeg * 8 ≤ 536870912 ∧ hasArr .int W = true then some (.ref M.1.length :: r, M.1 ++ [(1, "", n.toNatClampNeg)], M.2.1, M.2.2.1, M.2.2.2) else none
    | _ => none
  | .newarray .long => match st with
    | .int n :: r => if ¬ n < 0 ∧ n.toNatClampNeg * 8 ≤ 536870912 ∧ hasArr .long W = true then some (.ref M.1.length :: r, M.1 ++ [(2, "", n.toNatClampNeg)], M.2.1, M.2.2.1, M.2.2.2) else none
    | _ => none
  | .newarray .boolean => match st with
    | .int n :: r => if ¬ n < 0 ∧ n.toNatClampNeg * 8 ≤ 536870912 ∧ hasArr .boolean W = true then some (.ref M.1.length :: r, M.1 ++ [(3, "", n.toNatClampNeg)], M.2.1, M.2.2.1, M.2.2.2) else none
    | _ => none
  | _ => none
def retOf (ins : Instr) (len : Nat) (ret : Option FieldType) (st : List Value) : Option (Option Value) :=
  if len = 1 then
    match ins, ret, st with
    | .return_, none, [] => some none
    | .ireturn, some .int, [.int z] => some (some (.int z))
    | .ireturn, some .boolean, [.int z] => some (some (.int (z &&& 1)))
    | .lreturn, some .long, [.long z] => some (some (.long z))
    | _, _, _ => none
  else none
/-- the callee, her arguments (the receiver first), what lies under, her body -/
def callOf (W : List Jvm.Cond) (y : MethodName) (ins : Instr) (len : Nat) (st : List Value) (M : EMem) : Option (MethodName × List Value × List Value × ByteArray × Nat × Option FieldType) :=
  if len = 3 then
    match ins with
    | .invokevirtual idx => match callAt W y.cls idx 1 with
      | some (z, na, b, n, r) => match (st.drop na) with
        | .ref a :: rest => match M.1[a]? with
          | some (0, C, _) => if C = z.cls ∧ (st.take na).length = na then some (z, .ref a :: (st.take na).reverse, rest, b, n, r) else none
          | _ => none
        | _ => none
      | none => match callAt W y.cls idx 0 with
        | some (z, na, b, n, r) => match (st.drop na) with
          | .ref a :: rest => match M.1[a]? with
            | some (0, C, _) => if C = z.cls ∧ (st.take na).length = na then some (z, .ref a :: (st.take na).reverse, rest, b, n, r) else none
            | _ => none
          | _ => none
        | none => none
    | .invokespecial idx => match callAt W y.cls idx 2 with
      | some (z, na, b, n, r) => match (st.drop na) with
        | .ref a :: rest => if (st.take na).length = na then some (z, .ref a :: (st.take na).reverse, rest, b, n, r) else none
        | _ => none
      | none => none
    | .invokestatic idx => match callAt W y.cls idx 3 with
      | some (z, na, b, n, r) => if (st.take na).length = na then some (z, (st.take na).reverse, st.drop na, b, n, r) else none
      | none => none
    | _ => none
  else none
def run (W : List Jvm.Cond) (ro : Nat) : Nat → Nat → Nat → MethodName → ByteArray → Option FieldType → Nat → List Slot → List Value → EMem → Option (Option Value × EMem)
  | 0, _, _, _, _, _, _, _, _, _ => none
  | n + 1, F, Lb, y, code, ret, pc, ls, st, M =>
    match decode code pc with
    | .ok (ins, len) =>
      match (if lenOk len ins = true then execP W F Lb y ins pc len ls st M else none) with
      | some (pc', ls', st') => run W ro n F Lb y code ret pc' ls' st' M
      | none => match (if lenOk len ins = true then execM W ro y ins st M else none) with
        | some (st', M') => run W ro n F Lb y code ret (pc + len) ls st' M'
        | none => match retOf ins len ret st with
          | some v => some (v, M)
          | none => match callOf W y ins len st M with
            | some (z, as, rest, b, mx, r) =>
              if 1 ≤ F ∧ wt rest + (mx + 11) ≤ Lb ∧ (fillL as).length ≤ mx then
                match run W ro n (F - 1) (Lb - (wt rest + (mx + 11))) z b r 0 (entryL as mx) [] M with
                | some (v, M') => run W ro n F Lb y code ret (pc + 3) ls (v.toList ++ rest) M'
                | none => none
              else none
            | none => none
    | .error _ => none
end Jvm.OwnEv
namespace Jvm.OwnEv
open Sem ClassFile Op Lib Jvm.Stand Jvm.Free Jvm.LawKit Jvm.RoadKit
/-! PART 2: small facts: the variables, the words -/
def conc (ρ : Nat → Addr) : Value → Value
  | .ref a => .ref (ρ a)
  | v => v
def concS (ρ : Nat → Addr) : Slot → Slot
  | .val v => .val (conc ρ v)
  | s => s
theorem conc_cat (ρ : Nat → Addr) (v : Value) : (conc ρ v).category = v.category := by cases v <;> rfl
theorem wt_conc (ρ : Nat → Addr) (vs : List Value) : ((vs.map (conc ρ)).map fun v => v.category).sum = wt vs := by
  unfold wt
  rw [List.map_map]
  congr 1
  exact List.map_congr_left fun v _ => conc_cat ρ v
abbrev cl (ρ : Nat → Addr) (ls : List Slot) : Array Slot := (ls.map (concS ρ)).toArray
abbrev cs (ρ : Nat → Addr) (st : List Value) : List Value := st.map (conc ρ)
theorem get_cl {ρ : Nat → Addr} {ls : List Slot} {k : Nat} {x : Slot} (h : ls[k]? = some x) : (cl ρ ls)[k]? = some (concS ρ x) := by simp [cl, h]
theorem setL_some : ∀ {l : List Slot} {i : Nat} {x : Slot} {l' : List Slot}, setL l i x = some l' → i < l.length ∧ l' = l.set i x
  | [], _, _, _, h => by simp [setL] at h
  | _ :: t, 0, x, l', h => by simp only [setL, Option.some.injEq] at h; subst h; simp
  | y :: t, n + 1, x, l', h => by
    simp only [setL] at h
    split at h
    · rename_i t' ht
      cases h
      obtain ⟨h1, h2⟩ := setL_some ht
      subst h2
      exact ⟨by simp; omega, by simp⟩
    · cases h
theorem setAt_conc {ρ : Nat → Addr} {l : List Slot} {i : Nat} {x : Slot} {l' : List Slot} (h : setL l i x = some l') : setAt (cl ρ l) i (concS ρ x) = some (cl ρ l') := by
  obtain ⟨hi, rfl⟩ := setL_some h
  simp [setAt, hi, cl, List.map_set]
theorem setL_len {l : List Slot} {i : Nat} {x : Slot} {l' : List Slot} (h : setL l i x = some l') : l'.length = l.length := by
  obtain ⟨-, rfl⟩ := setL_some h; simp
theorem cl_get {ρ : Nat → Addr} {l : List Slot} {i : Nat} : (cl ρ l)[i]? = (l[i]?).map (concS ρ) := by simp [cl]
theorem storeSelf_conc {ρ : Nat → Addr} {l : List Slot} {i : Nat} {v : Value} {l' : List Slot} (h : storeSelfL l i v = some l') : storeSelf (cl ρ l) i (conc ρ v) = some (cl ρ l') := by
  unfold storeSelfL at h
  split at h
  · cases h
  rename_i l1 h1
  have e1 : setAt (cl ρ l) i (.val (conc ρ v)) = some (cl ρ l1) := setAt_conc (ρ := ρ) h1
  unfold storeSelf
  rw [e1]
  simp only [Option.bind_eq_bind, Option.bind_some, conc_cat]
  split at h
  · rename_i hc
    rw [if_pos hc, cl_get]
    split at h
    · cases h
    · rename_i old ho
      rw [ho]
      simp only [Option.map_some, Option.bind_some, concS, conc_cat]
      split at h
      · rename_i hc2
        rw [if_pos hc2]
        split at h
        · cases h
        · rename_i l2 h2
          have e2 : setAt (cl ρ l1) (i + 2) .unset = some (cl ρ l2) := setAt_conc (ρ := ρ) h2
          have e3 : setAt (cl ρ l2) (i + 1) .second = some (cl ρ l') := setAt_conc (ρ := ρ) h
          rw [e2]
          exact e3
      · rename_i hc2
        rw [if_neg hc2]
        exact setAt_conc (ρ := ρ) h
    · rename_i x hx ho
      have e3 : setAt (cl ρ l1) (i + 1) .second = some (cl ρ l') := setAt_conc (ρ := ρ) h
      rw [ho]
      cases x with
      | val w => exact absurd rfl (hx w)
      | unset => exact e3
      | second => exact e3
  · rename_i hc
    rw [if_neg hc]
    cases h
    rfl
theorem storeL_conc {ρ : Nat → Addr} {l : List Slot} {i : Nat} {v : Value} {l' : List Slot} (h : storeL l i v = some l') : storeLocals (cl ρ l) i (conc ρ v) = some (cl ρ l') := by
  unfold storeL at h
  unfold storeLocals
  rw [cl_get]
  split at h
  · cases h
  · rename_i ho
    rw [ho]
    split at h
    · cases h
    · rename_i l1 h1
      have e1 : setAt (cl ρ l) (i - 1) .unset = some (cl ρ l1) := setAt_conc (ρ := ρ) h1
      have e2 := storeSelf_conc (ρ := ρ) h
      simp only [Option.map_some, Option.bind_eq_bind, Option.bind_some, concS, e1]
      exact e2
  · rename_i old ho
    rw [ho]
    simp only [Option.map_some, Option.bind_eq_bind, Option.bind_some, concS, conc_cat]
    split at h
    · rename_i hc
      rw [if_pos hc]
      split at h
      · cases h
      · rename_i l1 h1
        have e1 : setAt (cl ρ l) (i + 1) .unset = some (cl ρ l1) := setAt_conc (ρ := ρ) h1
        rw [e1]
        exact storeSelf_conc (ρ := ρ) h
    · rename_i hc
      rw [if_neg hc]
      exact storeSelf_conc (ρ := ρ) h
  · rename_i ho
    rw [ho]
    exact storeSelf_conc (ρ := ρ) h
theorem storeSelfL_len {l : List Slot} {i : Nat} {v : Value} {l' : List Slot} (h : storeSelfL l i v = some l') : l'.length = l.length := by
  unfold storeSelfL at h
  split at h
  · cases h
  rename_i l1 h1
  have e1 := setL_len h1
  split at h
  · split at h
    · cases h
    · split at h
      · split at h
        · cases h
        · rename_i l2 h2
          rw [setL_len h, setL_len h2, e1]
      · rw [setL_len h, e1]
    · rw [setL_len h, e1]
  · cases h; exact e1
theorem storeL_len {l : List Slot} {i : Nat} {v : Value} {l' : List Slot} (h : storeL l i v = some l') : l'.length = l.length := by
  unfold storeL at h
  split at h
  · cases h
  · split at h
    · cases h
    · rename_i l1 h1
      rw [storeSelfL_len h, setL_len h1]
  · split at h
    · split at h
      · cases h
      · rename_i l1 h1
        rw [storeSelfL_len h, setL_len h1]
    · exact storeSelfL_len h
  · exact storeSelfL_len h
theorem fill_fold (ρ : Nat → Addr) : ∀ (as : List Value) (acc : Array Slot), (as.map (conc ρ)).foldl (fun acc v => if v.category = 2 then (acc.push (Slot.val v)).push .second else acc.push (.val v)) acc = acc ++ ((fillL as).map (concS ρ)).toArray
  | [], acc => by simp [fillL]
  | v :: t, acc => by
    simp only [List.map_cons, List.foldl_cons, conc_cat]
    rw [fill_fold ρ t]
    rw [show fillL (v :: t) = if v.category = 2 then .val v :: .second :: fillL t else .val v :: fillL t from rfl]
    apply Array.ext'
    split
    · simp [concS]
    · simp [concS]
theorem args_conc (ρ : Nat → Addr) (as : List Value) (mx : Nat) : argsToLocals (as.map (conc ρ)).toArray mx = cl ρ (entryL as mx) := by
  unfold argsToLocals
  simp only [List.foldl_toArray, fill_fold ρ as]
  simp [entryL, cl, concS]
theorem entryL_len {as : List Value} {mx : Nat} (h : (fillL as).length ≤ mx) : (entryL as mx).length = mx := by simp [entryL]; omega
theorem meq_eq {z y : MethodName} (h : meq z y = true) : z = y := by
  simp only [meq, Bool.and_eq_true, decide_eq_true_eq] at h
  obtain ⟨h1, h2, h3⟩ := h
  cases z; cases y
  simp only at h1 h2 h3
  subst h1 h2 h3
  rfl
/-! the words -/
theorem fieldLk_mem {own : String} {idx : Nat} {r n d : String} : ∀ {t : List Jvm.Cond}, fieldLk own idx t = some (r, n, d) → Jvm.Cond.fieldLink own idx r n d ∈ t
  | [], h => by simp [fieldLk] at h
  | w :: t, h => by
    unfold fieldLk at h
    split at h
    · rename_i heq; cases heq
    · rename_i heq
      cases heq
      split at h
      · rename_i hc; obtain ⟨rfl, rfl⟩ := hc; cases h; exact List.mem_cons_self
      · exact List.mem_cons_of_mem _ (fieldLk_mem h)
    · rename_i heq; cases heq; exact List.mem_cons_of_mem _ (fieldLk_mem h)
theorem methodLk_mem {own : String} {idx : Nat} {y : MethodName} : ∀ {t : List Jvm.Cond}, methodLk own idx t = some y → Jvm.Cond.methodLink own idx y ∈ t
  | [], h => by simp [methodLk] at h
  | w :: t, h => by
    unfold methodLk at h
    split at h
    · rename_i heq; cases heq
    · rename_i heq
      cases heq
      split at h
      · rename_i hc; obtain ⟨rfl, rfl⟩ := hc; cases h; exact List.mem_cons_self
      · exact List.mem_cons_of_mem _ (methodLk_mem h)
    · rename_i heq; cases heq; exact List.mem_cons_of_mem _ (methodLk_mem h)
theorem classLk_mem {own : String} {idx : Nat} {y : String} : ∀ {t : List Jvm.Cond}, classLk own idx t = some y → Jvm.Cond.classLink own idx y ∈ t
  | [], h => by simp [classLk] at h
  | w :: t, h => by
    unfold classLk at h
    split at h
    · rename_i heq; cases heq
    · rename_i heq
      cases heq
      split at h
      · rename_i hc; obtain ⟨rfl, rfl⟩ := hc; cases h; exact List.mem_cons_self
      · exact List.mem_cons_of_mem _ (classLk_mem h)
    · rename_i heq; cases heq; exact List.mem_cons_of_mem _ (classLk_mem h)
theorem intLk_mem {own : String} {idx : Nat} {y : Int32} : ∀ {t : List Jvm.Cond}, intLk own idx t = some y → Jvm.Cond.constant own idx y ∈ t
  | [], h => by simp [intLk] at h
  | w :: t, h => by
    unfold intLk at h
    split at h
    · rename_i heq; cases heq
    · rename_i heq
      cases heq
      split at h
      · rename_i hc; obtain ⟨rfl, rfl⟩ := hc; cases h; exact List.mem_cons_self
      · exact List.mem_cons_of_mem _ (intLk_mem h)
    · rename_i heq; cases heq; exact List.mem_cons_of_mem _ (intLk_mem h)
theorem longLk_mem {own : String} {idx : Nat} {y : Int64} : ∀ {t : List Jvm.Cond}, longLk own idx t = some y → Jvm.Cond.constantLong own idx y ∈ t
  | [], h => by simp [longLk] at h
  | w :: t, h => by
    unfold longLk at h
    split at h
    · rename_i heq; cases heq
    · rename_i heq
      cases heq
      split at h
      · rename_i hc; obtain ⟨rfl, rfl⟩ := hc; cases h; exact List.mem_cons_self
      · exact List.mem_cons_of_mem _ (longLk_mem h)
    · rename_i heq; cases heq; exact List.mem_cons_of_mem _ (longLk_mem h)
theorem instLk_mem {C : String} {n : Nat} : ∀ {t : List Jvm.Cond}, instLk C t = some n → Jvm.Cond.instantiable C n ∈ t
  | [], h => by simp [instLk] at h
  | w :: t, h => by
    unfold instLk at h
    split at h
    · rename_i heq; cases heq
    · rename_i heq
      cases heq
      split at h
      · rename_i hc; subst hc; cases h; exact List.mem_cons_self
      · exact List.mem_cons_of_mem _ (instLk_mem h)
    · rename_i heq; cases heq; exact List.mem_cons_of_mem _ (instLk_mem h)
theorem codeLk_mem {y : MethodName} {b : ByteArray} {n : Nat} {r : Option FieldType} : ∀ {t : List Jvm.Cond}, codeLk y t = some (b, n, r) → Jvm.Cond.code y b n r ∈ t
  | [], h => by simp [codeLk] at h
  | w :: t, h => by
    unfold codeLk at h
    split at h
    · rename_i heq; cases heq
    · rename_i heq
      cases heq
      split at h
      · rename_i hc; cases meq_eq hc; cases h; exact List.mem_cons_self
      · exact List.mem_cons_of_mem _ (codeLk_mem h)
    · rename_i heq; cases heq; exact List.mem_cons_of_mem _ (codeLk_mem h)
theorem hasInit_mem {y : String} : ∀ {t : List Jvm.Cond}, hasInit y t = true → Jvm.Cond.initialized y ∈ t
  | [], h => by simp [hasInit] at h
  | w :: t, h => by
    unfold hasInit at h
    split at h
    · rename_i heq; cases heq
    · rename_i heq
      cases heq
      split at h
      · rename_i hc; subst hc; exact List.mem_cons_self
      · exact List.mem_cons_of_mem _ (hasInit_mem h)
    · rename_i heq; cases heq; exact List.mem_cons_of_mem _ (hasInit_mem h)
theorem hasInst_mem {y : MethodName} : ∀ {t : List Jvm.Cond}, hasInst y t = true → Jvm.Cond.instanceMethod y ∈ t
  | [], h => by simp [hasInst] at h
  | w :: t, h => by
    unfold hasInst at h
    split at h
    · rename_i heq; cases heq
    · rename_i heq
      cases heq
      split at h
      · rename_i hc; cases meq_eq hc; exact List.mem_cons_self
      · exact List.mem_cons_of_mem _ (hasInst_mem h)
    · rename_i heq; cases heq; exact List.mem_cons_of_mem _ (hasInst_mem h)
theorem hasPriv_mem {y : MethodName} : ∀ {t : List Jvm.Cond}, hasPriv y t = true → Jvm.Cond.privateMethod y ∈ t
  | [], h => by simp [hasPriv] at h
  | w :: t, h => by
    unfold hasPriv at h
    split at h
    · rename_i heq; cases heq
    · rename_i heq
      cases heq
      split at h
      · rename_i hc; cases meq_eq hc; exact List.mem_cons_self
      · exact List.mem_cons_of_mem _ (hasPriv_mem h)
    · rename_i heq; cases heq; exact List.mem_cons_of_mem _ (hasPriv_mem h)
theorem hasStat_mem {y : MethodName} : ∀ {t : List Jvm.Cond}, hasStat y t = true → Jvm.Cond.static y ∈ t
  | [], h => by simp [hasStat] at h
  | w :: t, h => by
    unfold hasStat at h
    split at h
    · rename_i heq; cases heq
    · rename_i heq
      cases heq
      split at h
      · rename_i hc; cases meq_eq hc; exact List.mem_cons_self
      · exact List.mem_cons_of_mem _ (hasStat_mem h)
    · rename_i heq; cases heq; exact List.mem_cons_of_mem _ (hasStat_mem h)
theorem hasDecl_mem {y : MethodName} : ∀ {t : List Jvm.Cond}, hasDecl y t = true → Jvm.Cond.declares y ∈ t
  | [], h => by simp [hasDecl] at h
  | w :: t, h => by
    unfold hasDecl at h
    split at h
    · rename_i heq; cases heq
    · rename_i heq
      cases heq
      split at h
      · rename_i hc; cases meq_eq hc; exact List.mem_cons_self
      · exact List.mem_cons_of_mem _ (hasDecl_mem h)
    · rename_i heq; cases heq; exact List.mem_cons_of_mem _ (hasDecl_mem h)
theorem hasArr_mem {y : FieldType} : ∀ {t : List Jvm.Cond}, hasArr y t = true → Jvm.Cond.arrayClass y ∈ t
  | [], h => by simp [hasArr] at h
  | w :: t, h => by
    unfold hasArr at h
    split at h
    · rename_i heq; cases heq
    · rename_i heq
      cases heq
      split at h
      · rename_i hc; subst hc; exact List.mem_cons_self
      · exact List.mem_cons_of_mem _ (hasArr_mem h)
    · rename_i heq; cases heq; exact List.mem_cons_of_mem _ (hasArr_mem h)
theorem hasSel_mem {y : MethodName} : ∀ {t : List Jvm.Cond}, hasSel y t = true → Jvm.Cond.selects y.cls y y ∈ t
  | [], h => by simp [hasSel] at h
  | w :: t, h => by
    unfold hasSel at h
    split at h
    · rename_i heq; cases heq
    · rename_i heq
      cases heq
      split at h
      · rename_i hc; obtain ⟨c1, c2, rfl⟩ := hc; cases meq_eq c1; cases meq_eq c2; exact List.mem_cons_self
      · exact List.mem_cons_of_mem _ (hasSel_mem h)
    · rename_i heq; cases heq; exact List.mem_cons_of_mem _ (hasSel_mem h)
theorem layGo_spec {C n : String} {k : Nat} {d : String} {fin : Bool} : ∀ {t : List Jvm.Cond} {k0 : Nat}, layGo C n t k0 = some (k, d, fin) → k0 ≤ k ∧ t[k - k0]? = some (if fin = true then Jvm.Cond.laysFinal C C n d else Jvm.Cond.lays C C n d)
  | [], _, h => by simp [layGo] at h
  | w :: t, k0, h => by
    have next : layGo C n t (k0 + 1) = some (k, d, fin) → k0 ≤ k ∧ (w :: t)[k - k0]? = some (if fin = true then Jvm.Cond.laysFinal C C n d else Jvm.Cond.lays C C n d) := fun q => by
      obtain ⟨h1, h2⟩ := layGo_spec q
      refine ⟨by omega, ?_⟩
      have e : k - k0 = (k - (k0 + 1)) + 1 := by omega
      rw [e, List.getElem?_cons_succ]
      exact h2
    unfold layGo at h
    split at h
    · rename_i heq; cases heq
    · rename_i heq
      cases heq
      split at h
      · rename_i hc
        obtain ⟨rfl, rfl, rfl⟩ := hc
        cases h
        exact ⟨Nat.le_refl _, by simp⟩
      · exact next h
    · rename_i heq
      cases heq
      split at h
      · rename_i hc
        obtain ⟨rfl, rfl, rfl⟩ := hc
        cases h
        exact ⟨Nat.le_refl _, by simp⟩
      · exact next h
    · rename_i heq; cases heq; exact next h
theorem layAt_spec {W : List Jvm.Cond} {C n : String} {k : Nat} {d : String} {fin : Bool} (h : layAt W C n = some (k, d, fin)) : W[k]? = some (if fin = true then Jvm.Cond.laysFinal C C n d else Jvm.Cond.lays C C n d) := (layGo_spec h).2
theorem layAt_inj {W : List Jvm.Cond} {C n n' : String} {k : Nat} {d d' : String} {fin fin' : Bool} (h : layAt W C n = some (k, d, fin)) (h' : layAt W C n' = some (k, d', fin')) : n = n' := by
  have e := (layAt_spec h).symm.trans (layAt_spec h')
  cases fin <;> cases fin' <;> simp at e
  · exact e.1
  · exact e.1
theorem layAt_laid {W : List Jvm.Cond} {C n : String} {k : Nat} {d : String} {fin : Bool} {Z : State} {a0 : Array Value} (hw : ∀ d ∈ W, d.before a0 Z = true) (h : layAt W C n = some (k, d, fin)) : Laid Z a0 C C n d := by
  have e := hw _ (List.mem_of_getElem? (layAt_spec h))
  cases fin
  · exact Or.inl e
  · exact Or.inr e
theorem fieldAt_spec {W : List Jvm.Cond} {own : String} {idx : Nat} {C : String} {k kd : Nat} {fin : Bool} (h : fieldAt W own idx = some (C, k, kd, fin)) : ∃ n d, Jvm.Cond.fieldLink own idx C n d ∈ W ∧ layAt W C n = some (k, d, fin) ∧ kd = kindD d ∧ kindD d ≠ 0 := by
  unfold fieldAt at h
  split at h
  · cases h
  · rename_i r n d h1
    split at h
    · cases h
    · rename_i k' d' fin' h2
      split at h
      · rename_i hc
        cases h
        obtain ⟨rfl, hk⟩ := hc
        exact ⟨n, _, fieldLk_mem h1, h2, rfl, hk⟩
      · cases h
theorem kindD_1 {d : String} (h : kindD d = 1) : parseFieldDescriptor d = some .int := by
  unfold kindD at h
  split at h <;> first | assumption | (simp at h)
theorem kindD_2 {d : String} (h : kindD d = 2) : parseFieldDescriptor d = some .boolean := by
  unfold kindD at h
  split at h <;> first | assumption | (simp at h)
theorem kindD_3 {d : String} (h : kindD d = 3) : parseFieldDescriptor d = some .long := by
  unfold kindD at h
  split at h <;> first | assumption | (simp at h)
theorem kindD_4 {d : String} (h : kindD d = 4) : ∃ ty, parseFieldDescriptor d = some ty ∧ (∀ v : Value, narrow ty v = v) ∧ (∀ a, fits ty (.ref a) = true) ∧ defaultValue ty = .null := by
  unfold kindD at h
  split at h
  · simp at h
  · simp at h
  · simp at h
  · rename_i t ht; exact ⟨_, ht, fun _ => rfl, fun _ => rfl, rfl⟩
  · rename_i t ht; exact ⟨_, ht, fun _ => rfl, fun _ => rfl, rfl⟩
  · simp at h
theorem kindD_lt (d : String) : kindD d = 0 ∨ kindD d = 1 ∨ kindD d = 2 ∨ kindD d = 3 ∨ kindD d = 4 := by
  unfold kindD
  split <;> simp
theorem jump_spec {pc : Nat} {o : Int} {t : Nat} (h : jump pc o = some t) : 0 ≤ (pc : Int) + o ∧ ((pc : Int) + o).toNat = t := by
  unfold jump at h
  split at h
  · rename_i n hn
    cases h
    rw [hn]
    exact ⟨Int.natCast_nonneg _, rfl⟩
  · cases h
theorem inb_spec {j : Int32} {n : Nat} (h : inb j n = true) : ¬ (j < 0 ∨ n ≤ j.toNatClampNeg) := by
  simp only [inb, Bool.and_eq_true, decide_eq_true_eq] at h
  rintro (q | q)
  · exact h.1 q
  · omega
end Jvm.OwnEv
namespace Jvm.OwnEv
open Sem ClassFile Op Lib Jvm.Stand Jvm.Free Jvm.LawKit Jvm.RoadKit
/-! PART 3: the memory and the heap -/
def RelC (Z : State) (W : List Jvm.Cond) (ρ : Nat → Addr) (h : Heap) (mi : Nat → Nat → Int32) (ml : Nat → Nat → Int64) (mr : Nat → Nat → Value) (a : Nat) (c : Nat × String × Nat) : Prop :=
  (c.1 = 0 → Exa Z h (ρ a) c.2.1 ∧ ∀ n k d fin, layAt W c.2.1 n = some (k, d, fin) → kindD d ≠ 0 → Fld Z h (ρ a) c.2.1 n d (conc ρ (getV (kindD d) (mi a k) (ml a k) (mr a k)))) ∧
  (c.1 = 1 → ∃ cell : Cell, Arr Z h (ρ a) cell .int ∧ cell.slots.size = c.2.2 ∧ ∀ k, k < c.2.2 → cell.slots[k]? = some (.int (mi a k))) ∧
  (c.1 = 2 → ∃ cell : Cell, Arr Z h (ρ a) cell .long ∧ cell.slots.size = c.2.2 ∧ ∀ k, k < c.2.2 → cell.slots[k]? = some (.long (ml a k))) ∧
  (c.1 = 3 → ∃ cell : Cell, Arr Z h (ρ a) cell .boolean ∧ cell.slots.size = c.2.2 ∧ ∀ k, k < c.2.2 → cell.slots[k]? = some (.int (mi a k)))
def Rel (Z : State) (W : List Jvm.Cond) (ρ : Nat → Addr) (ro n0 : Nat) (h : Heap) (M : EMem) : Prop :=
  h.size = n0 + (M.1.length - ro) ∧ ro ≤ M.1.length ∧ (∀ a c, M.1[a]? = some c → RelC Z W ρ h M.2.1 M.2.2.1 M.2.2.2 a c) ∧
  (∀ a, M.1.length ≤ a → ∀ k, M.2.1 a k = 0 ∧ M.2.2.1 a k = 0 ∧ M.2.2.2 a k = .null)
section R
variable {Z : State} {W : List Jvm.Cond} {ρ : Nat → Addr} {h h' : Heap} {mi mi' : Nat → Nat → Int32} {ml ml' : Nat → Nat → Int64} {mr mr' : Nat → Nat → Value} {a b : Nat} {c : Nat × String × Nat} {a0 : Array Value}
theorem RelC.mono (hE : ∀ C, Exa Z h (ρ a) C → Exa Z h' (ρ a) C) (hF : ∀ C n d v, Fld Z h (ρ a) C n d v → Fld Z h' (ρ a) C n d v) (hA : ∀ cell ty, Arr Z h (ρ a) cell ty → Arr Z h' (ρ a) cell ty)
    (hi : ∀ k, mi' a k = mi a k) (hl : ∀ k, ml' a k = ml a k) (hr : ∀ k, mr' a k = mr a k) (X : RelC Z W ρ h mi ml mr a c) : RelC Z W ρ h' mi' ml' mr' a c := by
  obtain ⟨x0, x1, x2, x3⟩ := X
  refine ⟨fun q => ?_, fun q => ?_, fun q => ?_, fun q => ?_⟩
  · obtain ⟨e1, e2⟩ := x0 q
    exact ⟨hE _ e1, fun n k d fin e3 e4 => by rw [hi, hl, hr]; exact hF _ _ _ _ (e2 n k d fin e3 e4)⟩
  · obtain ⟨cell, e1, e2, e3⟩ := x1 q
    exact ⟨cell, hA _ _ e1, e2, fun k hk => by rw [hi]; exact e3 k hk⟩
  · obtain ⟨cell, e1, e2, e3⟩ := x2 q
    exact ⟨cell, hA _ _ e1, e2, fun k hk => by rw [hl]; exact e3 k hk⟩
  · obtain ⟨cell, e1, e2, e3⟩ := x3 q
    exact ⟨cell, hA _ _ e1, e2, fun k hk => by rw [hi]; exact e3 k hk⟩
theorem up_ne {α : Type} {f : Nat → Nat → α} {a k : Nat} {v : α} {x : Nat} (h : x ≠ a) (y : Nat) : up f a k v x y = f x y := by simp [up, h]
theorem up_eq {α : Type} {f : Nat → Nat → α} {a k : Nat} {v : α} : up f a k v a k = v := by simp [up]
theorem up_ne' {α : Type} {f : Nat → Nat → α} {a k : Nat} {v : α} {y : Nat} (h : y ≠ k) (x : Nat) : up f a k v x y = f x y := by simp [up, h]
theorem RelC.other {sl : Nat} {v : Value} (w : Wr h h' (ρ b) sl v) (ne : ρ a ≠ ρ b) (hi : ∀ k, mi' a k = mi a k) (hl : ∀ k, ml' a k = ml a k) (hr : ∀ k, mr' a k = mr a k) (X : RelC Z W ρ h mi ml mr a c) : RelC Z W ρ h' mi' ml' mr' a c :=
  X.mono (fun _ q => q.wr w) (fun _ _ _ _ q => q.other w (Or.inl ne)) (fun _ _ q => q.other w ne) hi hl hr
theorem RelC.ext (E : Ext h h') (X : RelC Z W ρ h mi ml mr a c) : RelC Z W ρ h' mi ml mr a c :=
  X.mono (fun _ q => q.ext E) (fun _ _ _ _ q => q.ext E) (fun _ _ q => q.ext E) (fun _ => rfl) (fun _ => rfl) (fun _ => rfl)
/-- a field is written -/
theorem RelC.put (hw : ∀ d ∈ W, d.before a0 Z = true) {C n d : String} {k : Nat} {fin : Bool} {u : Nat} {v : Value} (hla : layAt W C n = some (k, d, fin)) (hk0 : kindD d ≠ 0) (w : Wr h h' (ρ a) (Jvm.RoadKit.slotOf Z C n d) v)
    (hv : conc ρ (getV (kindD d) (mi' a k) (ml' a k) (mr' a k)) = v)
    (hi : ∀ j, j ≠ k → mi' a j = mi a j) (hl : ∀ j, j ≠ k → ml' a j = ml a j) (hr : ∀ j, j ≠ k → mr' a j = mr a j) (X : RelC Z W ρ h mi ml mr a (0, C, u)) : RelC Z W ρ h' mi' ml' mr' a (0, C, u) := by
  obtain ⟨x0, -⟩ := X
  refine ⟨fun q => ?_, fun q => (by cases q), fun q => (by cases q), fun q => (by cases q)⟩
  obtain ⟨e1, e2⟩ := x0 q
  refine ⟨e1.wr w, fun n' k' d' fin' e3 e4 => ?_⟩
  by_cases hn : n' = n
  · subst hn
    cases hla.symm.trans e3
    rw [hv]
    exact Fld.same w (e2 _ _ _ _ e3 e4)
  · have hk : k' ≠ k := fun q => by subst q; exact hn (layAt_inj e3 hla)
    rw [hi _ hk, hl _ hk, hr _ hk]
    have pd : ∀ {x : String}, kindD x ≠ 0 → ∃ t, parseFieldDescriptor x = some t := fun {x} q => by
      rcases kindD_lt x with z | z | z | z | z
      · exact absurd z q
      · exact ⟨_, kindD_1 z⟩
      · exact ⟨_, kindD_2 z⟩
      · exact ⟨_, kindD_3 z⟩
      · obtain ⟨t, ht, -⟩ := kindD_4 z; exact ⟨t, ht⟩
    obtain ⟨t1, ht1⟩ := pd e4
    obtain ⟨t2, ht2⟩ := pd hk0
    exact (e2 _ _ _ _ e3 e4).other w (Or.inr (slot_ne (layAt_laid hw e3) (layAt_laid hw hla) hn ht1 ht2))
theorem get_set {cell : Cell} {j k n : Nat} {v : Value} (hs : cell.slots.size = n) (hk : k < n) : (cell.setSlot j v).slots[k]? = if j = k then some v else cell.slots[k]? := by
  by_cases e : j = k
  · subst e
    simp [Cell.setSlot, hs, hk]
  · rw [if_neg e]
    exact Array.getElem?_setIfInBounds_ne e
theorem RelC.st1 {n : Nat} {u : String} {j : Nat} {x : Int32} (w : Wr h h' (ρ a) j (.int x)) (X : RelC Z W ρ h mi ml mr a (1, u, n)) : RelC Z W ρ h' (up mi a j x) ml mr a (1, u, n) := by
  obtain ⟨-, x1, -⟩ := X
  refine ⟨fun q => (by cases q), fun q => ?_, fun q => (by cases q), fun q => (by cases q)⟩
  obtain ⟨cell, e1, e2, e3⟩ := x1 q
  refine ⟨_, e1.same w, (sz_set _ _ _).trans e2, fun k hk => ?_⟩
  rw [get_set e2 hk]
  by_cases e : j = k
  · subst e; simp [up]
  · rw [if_neg e, e3 k hk]; simp [up, Ne.symm e]
theorem RelC.st3 {n : Nat} {u : String} {j : Nat} {x : Int32} (w : Wr h h' (ρ a) j (.int x)) (X : RelC Z W ρ h mi ml mr a (3, u, n)) : RelC Z W ρ h' (up mi a j x) ml mr a (3, u, n) := by
  obtain ⟨-, -, -, x1⟩ := X
  refine ⟨fun q => (by cases q), fun q => (by cases q), fun q => (by cases q), fun q => ?_⟩
  obtain ⟨cell, e1, e2, e3⟩ := x1 q
  refine ⟨_, e1.same w, (sz_set _ _ _).trans e2, fun k hk => ?_⟩
  rw [get_set e2 hk]
  by_cases e : j = k
  · subst e; simp [up]
  · rw [if_neg e, e3 k hk]; simp [up, Ne.symm e]
theorem RelC.st2 {n : Nat} {u : String} {j : Nat} {x : Int64} (w : Wr h h' (ρ a) j (.long x)) (X : RelC Z W ρ h mi ml mr a (2, u, n)) : RelC Z W ρ h' mi (up ml a j x) mr a (2, u, n) := by
  obtain ⟨-, -, x1, -⟩ := X
  refine ⟨fun q => (by cases q), fun q => (by cases q), fun q => ?_, fun q => (by cases q)⟩
  obtain ⟨cell, e1, e2, e3⟩ := x1 q
  refine ⟨_, e1.same w, (sz_set _ _ _).trans e2, fun k hk => ?_⟩
  rw [get_set e2 hk]
  by_cases e : j = k
  · subst e; simp [up]
  · rw [if_neg e, e3 k hk]; simp [up, Ne.symm e]
/-- one cell is written, the others stay -/
theorem Rel.write {ro n0 : Nat} {L : ELay} {sl : Nat} {v : Value} (hρ : ∀ a b, ρ a = ρ b → a = b) (w : Wr h h' (ρ a) sl v) (hc : L[a]? = some c)
    (hi : ∀ x, x ≠ a → ∀ k, mi' x k = mi x k) (hl : ∀ x, x ≠ a → ∀ k, ml' x k = ml x k) (hr : ∀ x, x ≠ a → ∀ k, mr' x k = mr x k)
    (self : RelC Z W ρ h mi ml mr a c → RelC Z W ρ h' mi' ml' mr' a c) (X : Rel Z W ρ ro n0 h (L, mi, ml, mr)) : Rel Z W ρ ro n0 h' (L, mi', ml', mr') := by
  obtain ⟨x1, x2, x3, x4⟩ := X
  have hlt : a < L.length := (List.getElem?_eq_some_iff.mp hc).1
  refine ⟨by rw [w.size]; exact x1, x2, fun b cb hb => ?_, fun b hb k => ?_⟩
  · by_cases e : b = a
    · subst e
      cases hc.symm.trans hb
      exact self (x3 _ _ hc)
    · exact (x3 b cb hb).other w (fun q => e (hρ _ _ q)) (hi b e) (hl b e) (hr b e)
  · have e : b ≠ a := fun q => by
      have hb' : L.length ≤ b := hb
      omega
    obtain ⟨y1, y2, y3⟩ := x4 b hb k
    exact ⟨(hi b e k).trans y1, (hl b e k).trans y2, (hr b e k).trans y3⟩
/-- one cell more -/
theorem Rel.push {ro n0 : Nat} {L : ELay} (E : Ext h h') (hsz : h'.size = h.size + 1) (new : RelC Z W ρ h' mi ml mr L.length c) (X : Rel Z W ρ ro n0 h (L, mi, ml, mr)) : Rel Z W ρ ro n0 h' (L ++ [c], mi, ml, mr) := by
  obtain ⟨x1, x2, x3, x4⟩ := X
  have x2' : ro ≤ L.length := x2
  have x1' : h.size = n0 + (L.length - ro) := x1
  refine ⟨?_, ?_, fun b cb hb => ?_, fun b hb k => ?_⟩
  · show h'.size = n0 + ((L ++ [c]).length - ro)
    rw [hsz, x1', List.length_append]
    simp; omega
  · show ro ≤ (L ++ [c]).length
    rw [List.length_append]; omega
  · have hb' : (L ++ [c])[b]? = some cb := hb
    by_cases e : b < L.length
    · rw [List.getElem?_append_left e] at hb'
      exact (x3 b cb hb').ext E
    · have hlt := (List.getElem?_eq_some_iff.mp hb').1
      rw [List.length_append] at hlt
      have : b = L.length := by simp at hlt; omega
      subst this
      simp at hb'
      subst hb'
      exact new
  · have hb' : (L ++ [c]).length ≤ b := hb
    rw [List.length_append] at hb'
    exact x4 b (by show L.length ≤ b; omega) k
end R
end Jvm.OwnEv
namespace Jvm.OwnEv
open Sem ClassFile Op Lib Jvm.Stand Jvm.Free Jvm.LawKit Jvm.RoadKit
/-! PART 4: the evaluator's plain steps are steps of the model -/
def Here (p : Program) (l : Launch) (e : Env) (R : Room) (s : State) (m : MethodId) (args : Array Value) (below : List Frame) (meth : Method) (c : Code) (Z : State) (W : List Jvm.Cond) (ρ : Nat → Addr) (ro n0 : Nat) (L0 : ELay) (T : State) (M : EMem) : Prop :=
  ∃ locs, Stand p l e R s m args below meth c T locs (M.1.length - L0.length) (szL M.1 - szL L0) ∧ Fr n0 locs ∧ Rel Z W ρ ro n0 T.heap M
theorem objInitAt_spec {W : List Jvm.Cond} {own : String} {idx : Nat} (h : objInitAt W own idx = true) : Jvm.Cond.methodLink own idx Lib.objectInit ∈ W ∧ Jvm.Cond.instanceMethod Lib.objectInit ∈ W ∧ Jvm.Cond.code Lib.objectInit ⟨#[0xb1]⟩ 1 none ∈ W := by
  unfold objInitAt at h
  split at h
  · rename_i z b n r h1 h2
    simp only [Bool.and_eq_true, decide_eq_true_eq] at h
    obtain ⟨⟨⟨⟨rfl, h3⟩, rfl⟩, rfl⟩, rfl⟩ := h
    exact ⟨methodLk_mem h1, hasInst_mem h3, codeLk_mem h2⟩
  · cases h
section S
variable {p : Program} {l : Launch} {e : Env} {R : Room} {s : State} {m : MethodId} {args : Array Value} {below : List Frame} {meth : Method} {c : Code} {Z : State} {a0 : Array Value} {W : List Jvm.Cond} {ρ : Nat → Addr} {ro n0 : Nat} {L0 : ELay} {y : MethodName} {T : State} {M : EMem}
set_option maxRecDepth 65536 in
set_option maxHeartbeats 40000000 in
theorem execP_sound (H : Here p l e R s m args below meth c Z W ρ ro n0 L0 T M) (hx : p.tables.exec = Jvm.exec) (hZ : Z.Warmed39 s.vm) (hw : ∀ d ∈ W, d.before a0 Z = true) (hown : s.vm.findClass y.cls = some m.cls) {F Lb : Nat} (hF : F ≤ R.frames) (hLb : Lb ≤ R.locals)
    {ls ls' : List Slot} {st st' : List Value} {ins : Instr} {pc pc' len : Nat} (hsz : ls.length = c.maxLocals) (hd : decode c.code pc = .ok (ins, len)) (hl : lenOk len ins = true) (h : execP W F Lb y ins pc len ls st M = some (pc', ls', st')) :
    ls'.length = ls.length ∧ ∃ T', Here p l e R s m args below meth c Z W ρ ro n0 L0 T' M ∧ ∀ target, Steps p.tables e below (T'.setTop (mkF m pc' (cl ρ ls') (cs ρ st'))) target → Steps p.tables e below (T.setTop (mkF m pc (cl ρ ls) (cs ρ st))) target := by
  obtain ⟨locs, X, N, Rl⟩ := H
  have A := X.here
  unfold execP at h
  split at h
  · rename_i k
    obtain rfl : len = 2 := by simpa [lenOk] using hl
    split at h
    · rename_i a ha; cases h; exact ⟨rfl, T, ⟨locs, X, N, Rl⟩, fun t k => XS.aload A hx rfl hd (get_cl ha) rfl k⟩
    · rename_i ha; cases h; exact ⟨rfl, T, ⟨locs, X, N, Rl⟩, fun t k => XS.aload A hx rfl hd (get_cl ha) rfl k⟩
    · cases h
  · rename_i k
    obtain rfl : len = 1 := by simpa [lenOk] using hl
    split at h
    · rename_i a ha; cases h; exact ⟨rfl, T, ⟨locs, X, N, Rl⟩, fun t k => XS.aloadN A hx rfl hd (get_cl ha) rfl k⟩
    · rename_i ha; cases h; exact ⟨rfl, T, ⟨locs, X, N, Rl⟩, fun t k => XS.aloadN A hx rfl hd (get_cl ha) rfl k⟩
    · cases h
  · rename_i k
    obtain rfl : len = 2 := by simpa [lenOk] using hl
    split at h
    · rename_i a ha; cases h; exact ⟨rfl, T, ⟨locs, X, N, Rl⟩, fun t k => XS.iload A hx rfl hd (get_cl ha) k⟩
    · cases h
  · rename_i k
    obtain rfl : len = 1 := by simpa [lenOk] using hl
    split at h
    · rename_i a ha; cases h; exact ⟨rfl, T, ⟨locs, X, N, Rl⟩, fun t k => XS.iloadN A hx rfl hd (get_cl ha) k⟩
    · cases h
  · rename_i k
    obtain rfl : len = 2 := by simpa [lenOk] using hl
    split at h
    · rename_i a ha; cases h; exact ⟨rfl, T, ⟨locs, X, N, Rl⟩, fun t k => XT.lload A hx rfl hd (get_cl ha) k⟩
    · cases h
  · rename_i k
    obtain rfl : len = 1 := by simpa [lenOk] using hl
    split at h
    · rename_i a ha; cases h; exact ⟨rfl, T, ⟨locs, X, N, Rl⟩, fun t k => XT.lloadN A hx rfl hd (get_cl ha) k⟩
    · cases h
  · rename_i k
    obtain rfl : len = 2 := by simpa [lenOk] using hl
    split at h
    · split at h
      · rename_i l' hs; cases h; exact ⟨storeL_len hs, T, ⟨locs, X, N, Rl⟩, fun t k => XS.istore A hx rfl hd rfl (storeL_conc (ρ := ρ) hs) k⟩
      · cases h
    · cases h
  · rename_i k
    obtain rfl : len = 1 := by simpa [lenOk] using hl
    split at h
    · split at h
      · rename_i l' hs; cases h; exact ⟨storeL_len hs, T, ⟨locs, X, N, Rl⟩, fun t k => XS.istoreN A hx rfl hd rfl (storeL_conc (ρ := ρ) hs) k⟩
      · cases h
    · cases h
  · rename_i k
    obtain rfl : len = 2 := by simpa [lenOk] using hl
    split at h
    · split at h
      · rename_i l' hs; cases h; exact ⟨storeL_len hs, T, ⟨locs, X, N, Rl⟩, fun t k => XT.lstore A hx rfl hd rfl (storeL_conc (ρ := ρ) hs) k⟩
      · cases h
    · cases h
  · rename_i k
    obtain rfl : len = 1 := by simpa [lenOk] using hl
    split at h
    · split at h
      · rename_i l' hs; cases h; exact ⟨storeL_len hs, T, ⟨locs, X, N, Rl⟩, fun t k => XT.lstoreN A hx rfl hd rfl (storeL_conc (ρ := ρ) hs) k⟩
      · cases h
    · cases h
  · rename_i k
    obtain rfl : len = 2 := by simpa [lenOk] using hl
    split at h
    · split at h
      · rename_i l' hs; cases h; exact ⟨storeL_len hs, T, ⟨locs, X, N, Rl⟩, fun t k => XS.astore A hx rfl hd rfl rfl (storeL_conc (ρ := ρ) hs) k⟩
      · cases h
    · cases h
  · rename_i k
    obtain rfl : len = 1 := by simpa [lenOk] using hl
    split at h
    · split at h
      · rename_i l' hs; cases h; exact ⟨storeL_len hs, T, ⟨locs, X, N, Rl⟩, fun t k => XS.astoreN A hx rfl hd rfl rfl (storeL_conc (ρ := ρ) hs) k⟩
      · cases h
    · cases h
  · rename_i k d
    obtain rfl : len = 3 := by simpa [lenOk] using hl
    split at h
    · rename_i v ha; split at h
      · rename_i l' hs; cases h; exact ⟨storeL_len hs, T, ⟨locs, X, N, Rl⟩, fun t k => XS.iinc A hx rfl hd (get_cl ha) (storeL_conc (ρ := ρ) hs) k⟩
      · cases h
    · cases h
  · rename_i i
    obtain rfl : len = 1 := by simpa [lenOk] using hl
    cases h; exact ⟨rfl, T, ⟨locs, X, N, Rl⟩, fun t k => XS.iconst A hx rfl hd k⟩
  · rename_i i
    obtain rfl : len = 2 := by simpa [lenOk] using hl
    cases h; exact ⟨rfl, T, ⟨locs, X, N, Rl⟩, fun t k => XS.bipush A hx rfl hd k⟩
  · rename_i i
    obtain rfl : len = 3 := by simpa [lenOk] using hl
    cases h; exact ⟨rfl, T, ⟨locs, X, N, Rl⟩, fun t k => XS.sipush A hx rfl hd k⟩
  · rename_i i
    obtain rfl : len = 1 := by simpa [lenOk] using hl
    cases h; exact ⟨rfl, T, ⟨locs, X, N, Rl⟩, fun t k => XT.lconst A hx rfl hd k⟩
  · rename_i i
    obtain rfl : len = 2 := by simpa [lenOk] using hl
    split at h
    · rename_i v hv; cases h; exact ⟨rfl, T, ⟨locs, X, N, Rl⟩, fun t k => X.ldcInt hx hown (mvT hZ (hw _ (intLk_mem hv))) (g := mkF m pc (cl ρ ls) (cs ρ st)) rfl hd t k⟩
    · cases h
  · rename_i i
    obtain rfl : len = 3 := by simpa [lenOk] using hl
    split at h
    · rename_i v hv; cases h; exact ⟨rfl, T, ⟨locs, X, N, Rl⟩, fun t k => X.ldcwInt hx hown (mvT hZ (hw _ (intLk_mem hv))) (g := mkF m pc (cl ρ ls) (cs ρ st)) rfl hd t k⟩
    · cases h
  · rename_i i
    obtain rfl : len = 3 := by simpa [lenOk] using hl
    split at h
    · rename_i v hv; cases h; exact ⟨rfl, T, ⟨locs, X, N, Rl⟩, fun t k => X.ldc2Long hx hown (mvT hZ (hw _ (longLk_mem hv))) (g := mkF m pc (cl ρ ls) (cs ρ st)) rfl hd t k⟩
    · cases h
  · obtain rfl : len = 1 := by simpa [lenOk] using hl
    split at h
    · cases h; exact ⟨rfl, T, ⟨locs, X, N, Rl⟩, fun t k => XS.iadd A hx rfl hd rfl k⟩
    · cases h
  · obtain rfl : len = 1 := by simpa [lenOk] using hl
    split at h
    · cases h; exact ⟨rfl, T, ⟨locs, X, N, Rl⟩, fun t k => XS.isub A hx rfl hd rfl k⟩
    · cases h
  · obtain rfl : len = 1 := by simpa [lenOk] using hl
    split at h
    · cases h; exact ⟨rfl, T, ⟨locs, X, N, Rl⟩, fun t k => XS.imul A hx rfl hd rfl k⟩
    · cases h
  · obtain rfl : len = 1 := by simpa [lenOk] using hl
    split at h
    · cases h; exact ⟨rfl, T, ⟨locs, X, N, Rl⟩, fun t k => XS.iand A hx rfl hd rfl k⟩
    · cases h
  · obtain rfl : len = 1 := by simpa [lenOk] using hl
    split at h
    · cases h; exact ⟨rfl, T, ⟨locs, X, N, Rl⟩, fun t k => XT.ior A hx rfl hd rfl k⟩
    · cases h
  · obtain rfl : len = 1 := by simpa [lenOk] using hl
    split at h
    · cases h; exact ⟨rfl, T, ⟨locs, X, N, Rl⟩, fun t k => XT.ixor A hx rfl hd rfl k⟩
    · cases h
  · obtain rfl : len = 1 := by simpa [lenOk] using hl
    split at h
    · cases h; exact ⟨rfl, T, ⟨locs, X, N, Rl⟩, fun t k => XT.ishl A hx rfl hd rfl k⟩
    · cases h
  · obtain rfl : len = 1 := by simpa [lenOk] using hl
    split at h
    · cases h; exact ⟨rfl, T, ⟨locs, X, N, Rl⟩, fun t k => XT.ishr A hx rfl hd rfl k⟩
    · cases h
  · obtain rfl : len = 1 := by simpa [lenOk] using hl
    split at h
    · cases h; exact ⟨rfl, T, ⟨locs, X, N, Rl⟩, fun t k => XT.iushr A hx rfl hd rfl k⟩
    · cases h
  · obtain rfl : len = 1 := by simpa [lenOk] using hl
    split at h
    · split at h
      · cases h
      · rename_i hb; cases h; exact ⟨rfl, T, ⟨locs, X, N, Rl⟩, fun t k => XS.idiv A hx rfl hd rfl hb k⟩
    · cases h
  · obtain rfl : len = 1 := by simpa [lenOk] using hl
    split at h
    · split at h
      · cases h
      · rename_i hb; cases h; exact ⟨rfl, T, ⟨locs, X, N, Rl⟩, fun t k => XS.irem A hx rfl hd rfl hb k⟩
    · cases h
  · obtain rfl : len = 1 := by simpa [lenOk] using hl
    split at h
    · cases h; exact ⟨rfl, T, ⟨locs, X, N, Rl⟩, fun t k => XS.ineg A hx rfl hd rfl k⟩
    · cases h
  · obtain rfl : len = 1 := by simpa [lenOk] using hl
    split at h
    · cases h; exact ⟨rfl, T, ⟨locs, X, N, Rl⟩, fun t k => XT.ladd A hx rfl hd rfl k⟩
    · cases h
  · obtain rfl : len = 1 := by simpa [lenOk] using hl
    split at h
    · cases h; exact ⟨rfl, T, ⟨locs, X, N, Rl⟩, fun t k => XT.lsub A hx rfl hd rfl k⟩
    · cases h
  · obtain rfl : len = 1 := by simpa [lenOk] using hl
    split at h
    · cases h; exact ⟨rfl, T, ⟨locs, X, N, Rl⟩, fun t k => XT.lmul A hx rfl hd rfl k⟩
    · cases h
  · obtain rfl : len = 1 := by simpa [lenOk] using hl
    split at h
    · cases h; exact ⟨rfl, T, ⟨locs, X, N, Rl⟩, fun t k => XT.land A hx rfl hd rfl k⟩
    · cases h
  · obtain rfl : len = 1 := by simpa [lenOk] using hl
    split at h
    · cases h; exact ⟨rfl, T, ⟨locs, X, N, Rl⟩, fun t k => XT.lor A hx rfl hd rfl k⟩
    · cases h
  · obtain rfl : len = 1 := by simpa [lenOk] using hl
    split at h
    · cases h; exact ⟨rfl, T, ⟨locs, X, N, Rl⟩, fun t k => XT.lxor A hx rfl hd rfl k⟩
    · cases h
  · obtain rfl : len = 1 := by simpa [lenOk] using hl
    split at h
    · cases h; exact ⟨rfl, T, ⟨locs, X, N, Rl⟩, fun t k => XT.lshl A hx rfl hd rfl k⟩
    · cases h
  · obtain rfl : len = 1 := by simpa [lenOk] using hl
    split at h
    · cases h; exact ⟨rfl, T, ⟨locs, X, N, Rl⟩, fun t k => XT.lshr A hx rfl hd rfl k⟩
    · cases h
  · obtain rfl : len = 1 := by simpa [lenOk] using hl
    split at h
    · cases h; exact ⟨rfl, T, ⟨locs, X, N, Rl⟩, fun t k => XT.lushr A hx rfl hd rfl k⟩
    · cases h
  · obtain rfl : len = 1 := by simpa [lenOk] using hl
    split at h
    · split at h
      · cases h
      · rename_i hb; cases h; exact ⟨rfl, T, ⟨locs, X, N, Rl⟩, fun t k => XT.ldiv A hx rfl hd rfl hb k⟩
    · cases h
  · obtain rfl : len = 1 := by simpa [lenOk] using hl
    split at h
    · split at h
      · cases h
      · rename_i hb; cases h; exact ⟨rfl, T, ⟨locs, X, N, Rl⟩, fun t k => XT.lrem A hx rfl hd rfl hb k⟩
    · cases h
  · obtain rfl : len = 1 := by simpa [lenOk] using hl
    split at h
    · cases h; exact ⟨rfl, T, ⟨locs, X, N, Rl⟩, fun t k => XT.lneg A hx rfl hd rfl k⟩
    · cases h
  · obtain rfl : len = 1 := by simpa [lenOk] using hl
    split at h
    · cases h; exact ⟨rfl, T, ⟨locs, X, N, Rl⟩, fun t k => XT.lcmp A hx rfl hd rfl k⟩
    · cases h
  · obtain rfl : len = 1 := by simpa [lenOk] using hl
    split at h
    · cases h; exact ⟨rfl, T, ⟨locs, X, N, Rl⟩, fun t k => XT.i2l A hx rfl hd rfl k⟩
    · cases h
  · obtain rfl : len = 1 := by simpa [lenOk] using hl
    split at h
    · cases h; exact ⟨rfl, T, ⟨locs, X, N, Rl⟩, fun t k => XT.l2i A hx rfl hd rfl k⟩
    · cases h
  · obtain rfl : len = 1 := by simpa [lenOk] using hl
    split at h
    · cases h; exact ⟨rfl, T, ⟨locs, X, N, Rl⟩, fun t k => XT.i2s A hx rfl hd rfl k⟩
    · cases h
  · obtain rfl : len = 1 := by simpa [lenOk] using hl
    split at h
    · cases h; exact ⟨rfl, T, ⟨locs, X, N, Rl⟩, fun t k => XS.dup A hx rfl hd rfl rfl k⟩
    · cases h; exact ⟨rfl, T, ⟨locs, X, N, Rl⟩, fun t k => XS.dup A hx rfl hd rfl rfl k⟩
    · cases h
  · obtain rfl : len = 1 := by simpa [lenOk] using hl
    split at h
    · cases h; exact ⟨rfl, T, ⟨locs, X, N, Rl⟩, fun t k => XT.dup2 A hx rfl hd rfl rfl rfl k⟩
    · cases h; exact ⟨rfl, T, ⟨locs, X, N, Rl⟩, fun t k => XT.dup2 A hx rfl hd rfl rfl rfl k⟩
    · cases h; exact ⟨rfl, T, ⟨locs, X, N, Rl⟩, fun t k => XT.dup2L A hx rfl hd rfl k⟩
    · cases h
  · obtain rfl : len = 1 := by simpa [lenOk] using hl
    split at h
    · cases h; exact ⟨rfl, T, ⟨locs, X, N, Rl⟩, fun t k => XT.dupX1 A hx rfl hd rfl rfl rfl k⟩
    · cases h
  · obtain rfl : len = 1 := by simpa [lenOk] using hl
    split at h
    · cases h; exact ⟨rfl, T, ⟨locs, X, N, Rl⟩, fun t k => XT.pop A hx rfl hd rfl rfl k⟩
    · cases h; exact ⟨rfl, T, ⟨locs, X, N, Rl⟩, fun t k => XT.pop A hx rfl hd rfl rfl k⟩
    · cases h
  · rename_i o
    obtain rfl : len = 3 := by simpa [lenOk] using hl
    split at h
    · rename_i t ht; cases h; obtain ⟨j1, j2⟩ := jump_spec ht
      exact ⟨rfl, T, ⟨locs, X, N, Rl⟩, fun t k => XS.goto A hx rfl rfl hd j1 j2 k⟩
    · cases h
  · rename_i cd o
    obtain rfl : len = 3 := by simpa [lenOk] using hl
    split at h
    · rename_i a r
      split at h
      · rename_i t ht; cases h; obtain ⟨j1, j2⟩ := jump_spec ht
        refine ⟨rfl, T, ⟨locs, X, N, Rl⟩, fun t k => ?_⟩
        cases hb : ifCond.holds cd a with
        | true => rw [hb, if_pos rfl] at k; exact XS.ifYes A hx rfl rfl hd rfl hb j1 j2 k
        | false => rw [hb, if_neg Bool.false_ne_true] at k; exact XS.ifNo A hx rfl hd rfl hb k
      · cases h
    · cases h
  · rename_i cd o
    obtain rfl : len = 3 := by simpa [lenOk] using hl
    split at h
    · rename_i b a r
      split at h
      · rename_i t ht; cases h; obtain ⟨j1, j2⟩ := jump_spec ht
        refine ⟨rfl, T, ⟨locs, X, N, Rl⟩, fun t k => ?_⟩
        cases hb : if_icmp.holds cd a b with
        | true => rw [hb, if_pos rfl] at k; exact XS.icmpYes A hx rfl rfl hd rfl hb j1 j2 k
        | false => rw [hb, if_neg Bool.false_ne_true] at k; exact XS.icmpNo A hx rfl hd rfl hb k
      · cases h
    · cases h
  · rename_i o
    obtain rfl : len = 3 := by simpa [lenOk] using hl
    split at h
    · split at h
      · rename_i t ht; cases h; obtain ⟨j1, j2⟩ := jump_spec ht
        exact ⟨rfl, T, ⟨locs, X, N, Rl⟩, fun t k => XS.ifnullYes A hx rfl rfl hd rfl j1 j2 k⟩
      · cases h
    · cases h; exact ⟨rfl, T, ⟨locs, X, N, Rl⟩, fun t k => XS.ifnullNo A hx rfl hd rfl k⟩
    · cases h
  · rename_i o
    obtain rfl : len = 3 := by simpa [lenOk] using hl
    split at h
    · split at h
      · rename_i t ht; cases h; obtain ⟨j1, j2⟩ := jump_spec ht
        exact ⟨rfl, T, ⟨locs, X, N, Rl⟩, fun t k => XT.ifnonnullYes A hx rfl rfl hd rfl j1 j2 k⟩
      · cases h
    · cases h; exact ⟨rfl, T, ⟨locs, X, N, Rl⟩, fun t k => XT.ifnonnullNo A hx rfl hd rfl k⟩
    · cases h
  · rename_i dflt low high offs
    split at h
    · split at h
      · rename_i hout; split at h
        · rename_i t ht; cases h; obtain ⟨j1, j2⟩ := jump_spec ht
          exact ⟨rfl, T, ⟨locs, X, N, Rl⟩, fun t k => XS.tswOut A hx rfl rfl hd rfl hout j1 j2 k⟩
        · cases h
      · rename_i hin; split at h
        · cases h
        · rename_i off hoff; split at h
          · rename_i t ht; cases h; obtain ⟨j1, j2⟩ := jump_spec ht
            exact ⟨rfl, T, ⟨locs, X, N, Rl⟩, fun t k => XS.tswIn A hx rfl rfl hd rfl hin hoff j1 j2 k⟩
          · cases h
    · cases h
  · rename_i idx
    obtain rfl : len = 3 := by simpa [lenOk] using hl
    split at h
    · rename_i a r; split at h
      · rename_i C k kd fin C' u hf hc
        split at h
        · rename_i hC
          cases h
          subst hC
          obtain ⟨n, d, q1, q2, rfl, q4⟩ := fieldAt_spec hf
          have Fd := ((Rl.2.2.1 _ _ hc).1 rfl).2 _ _ _ _ q2 q4
          obtain ⟨T', X', e', st'⟩ := getF X hx hZ hown (host := "") (Or.inl (hw _ q1)) Via.refl rfl Fd (g := mkF m pc (cl ρ ls) (cs ρ (.ref a :: r))) rfl rfl hd
          exact ⟨rfl, T', ⟨locs, X', N, by rw [e']; exact Rl⟩, fun t k => st' t k⟩
        · cases h
      · cases h
    · cases h
  · obtain rfl : len = 1 := by simpa [lenOk] using hl
    split at h
    · rename_i a r; split at h
      · rename_i u n hc
        cases h
        obtain ⟨cell, Ar, hs, -⟩ := (Rl.2.2.1 _ _ hc).2.1 rfl
        have hs' : cell.slots.size = n := hs
        refine ⟨rfl, T, ⟨locs, X, N, Rl⟩, fun t k => X.arraylength hx Ar.1 (State.isArrayOf_alike hZ.alike Ar.2.1) (g := mkF m pc (cl ρ ls) (cs ρ (.ref a :: r))) rfl rfl hd t ?_⟩
        rw [hs']; exact k
      · rename_i u n hc
        cases h
        obtain ⟨cell, Ar, hs, -⟩ := (Rl.2.2.1 _ _ hc).2.2.1 rfl
        have hs' : cell.slots.size = n := hs
        refine ⟨rfl, T, ⟨locs, X, N, Rl⟩, fun t k => X.arraylength hx Ar.1 (State.isArrayOf_alike hZ.alike Ar.2.1) (g := mkF m pc (cl ρ ls) (cs ρ (.ref a :: r))) rfl rfl hd t ?_⟩
        rw [hs']; exact k
      · rename_i u n hc
        cases h
        obtain ⟨cell, Ar, hs, -⟩ := (Rl.2.2.1 _ _ hc).2.2.2 rfl
        have hs' : cell.slots.size = n := hs
        refine ⟨rfl, T, ⟨locs, X, N, Rl⟩, fun t k => X.arraylength hx Ar.1 (State.isArrayOf_alike hZ.alike Ar.2.1) (g := mkF m pc (cl ρ ls) (cs ρ (.ref a :: r))) rfl rfl hd t ?_⟩
        rw [hs']; exact k
      · cases h
    · cases h
  · obtain rfl : len = 1 := by simpa [lenOk] using hl
    split at h
    · rename_i j a r; split at h
      · rename_i u n hc
        split at h
        · rename_i hj
          cases h
          obtain ⟨cell, Ar, hs, hv⟩ := (Rl.2.2.1 _ _ hc).2.1 rfl
          have hs' : cell.slots.size = n := hs
          have hj' := inb_spec hj
          have hlt : j.toNatClampNeg < n := by
            have := fun q => hj' (Or.inr q)
            omega
          exact ⟨rfl, T, ⟨locs, X, N, Rl⟩, fun t k => X.iaload hx Ar.1 (State.isArrayOf_alike hZ.alike Ar.2.1) Ar.2.2 (by rw [hs']; exact hj') (hv _ hlt) (g := mkF m pc (cl ρ ls) (cs ρ (.int j :: .ref a :: r))) rfl rfl hd t k⟩
        · cases h
      · cases h
    · cases h
  · obtain rfl : len = 1 := by simpa [lenOk] using hl
    split at h
    · rename_i j a r; split at h
      · rename_i u n hc
        split at h
        · rename_i hj
          cases h
          obtain ⟨cell, Ar, hs, hv⟩ := (Rl.2.2.1 _ _ hc).2.2.2 rfl
          have hs' : cell.slots.size = n := hs
          have hj' := inb_spec hj
          have hlt : j.toNatClampNeg < n := by
            have := fun q => hj' (Or.inr q)
            omega
          exact ⟨rfl, T, ⟨locs, X, N, Rl⟩, fun t k => X.baloadBooleans hx Ar.1 (State.isArrayOf_alike hZ.alike Ar.2.1) Ar.2.2 (by rw [hs']; exact hj') (hv _ hlt) (g := mkF m pc (cl ρ ls) (cs ρ (.int j :: .ref a :: r))) rfl rfl hd t k⟩
        · cases h
      · cases h
    · cases h
  · obtain rfl : len = 1 := by simpa [lenOk] using hl
    split at h
    · rename_i j a r; split at h
      · rename_i u n hc
        split at h
        · rename_i hj
          cases h
          obtain ⟨cell, Ar, hs, hv⟩ := (Rl.2.2.1 _ _ hc).2.2.1 rfl
          have hs' : cell.slots.size = n := hs
          have hj' := inb_spec hj
          have hlt : j.toNatClampNeg < n := by
            have := fun q => hj' (Or.inr q)
            omega
          exact ⟨rfl, T, ⟨locs, X, N, Rl⟩, fun t k => X.laload hx Ar.1 (State.isArrayOf_alike hZ.alike Ar.2.1) Ar.2.2 (by rw [hs']; exact hj') (hv _ hlt) (g := mkF m pc (cl ρ ls) (cs ρ (.int j :: .ref a :: r))) rfl rfl hd t k⟩
        · cases h
      · cases h
    · cases h
  · rename_i idx
    obtain rfl : len = 3 := by simpa [lenOk] using hl
    split at h
    · rename_i a r; split at h
      · rename_i hc
        cases h
        obtain ⟨c1, c2, c3⟩ := hc
        obtain ⟨w1, w2, w3⟩ := objInitAt_spec c1
        obtain ⟨T', X', e', stp⟩ := initO X hx hZ hown (hw _ w1) (hw _ w2) (hw _ w3) rfl (g := mkF m pc (cl ρ ls) (cs ρ (.ref a :: st'))) rfl (by simp [hsz]) rfl hd (by omega) (W := wt st') (by show 2 * 0 + ((st'.map (conc ρ)).map fun v => v.category).sum ≤ _; rw [wt_conc]; omega) (by omega)
        exact ⟨rfl, T', ⟨locs, X', N, by rw [e']; exact Rl⟩, fun t k => stp t k⟩
      · cases h
    · cases h
  · cases h
theorem execM_ext {ins : Instr} {st st' : List Value} {M M' : EMem} (h : execM W ro y ins st M = some (st', M')) : M.1.length ≤ M'.1.length ∧ szL M.1 ≤ szL M'.1 := by
  have push : ∀ (L : ELay) (x : Nat × String × Nat), L.length ≤ (L ++ [x]).length ∧ szL L ≤ szL (L ++ [x]) := fun L x => by simp [szL]
  unfold execM at h
  split at h
  · split at h
    · split at h
      · split at h
        · split at h <;> first | (cases h; exact ⟨Nat.le_refl _, Nat.le_refl _⟩) | cases h
        · cases h
      · cases h
    · cases h
  all_goals first
    | (split at h
       · split at h
         · split at h
           · cases h; exact ⟨Nat.le_refl _, Nat.le_refl _⟩
           · cases h
         · cases h
       · cases h)
    | (split at h
       · cases h; exact push _ _
       · cases h)
    | (split at h
       · split at h
         · cases h; exact push _ _
         · cases h
       · cases h)
    | cases h
theorem szL_push (L : ELay) (x : Nat × String × Nat) : szL (L ++ [x]) = szL L + x.2.2 := by simp [szL]
set_option maxRecDepth 65536 in
set_option maxHeartbeats 40000000 in
theorem execM_sound (H : Here p l e R s m args below meth c Z W ρ ro n0 L0 T M) (hx : p.tables.exec = Jvm.exec) (hZ : Z.Warmed39 s.vm) (hw : ∀ d ∈ W, d.before a0 Z = true) (hown : s.vm.findClass y.cls = some m.cls) (hnm : meth.name = y.name)
    (hρ : ∀ a b, ρ a = ρ b → a = b) (hρn : ∀ a, ro ≤ a → ρ a = n0 + (a - ro)) (hL : L0.length ≤ M.1.length) (hS : szL L0 ≤ szL M.1) (hs0 : s.heap.size = n0 + (L0.length - ro)) (hro : ro ≤ L0.length)
    {ls : List Slot} {st st' : List Value} {M' : EMem} {ins : Instr} {pc len : Nat} (hd : decode c.code pc = .ok (ins, len)) (hl : lenOk len ins = true) (hRc : M'.1.length - L0.length ≤ R.cells) (hRs : szL M'.1 - szL L0 ≤ R.slots) (h : execM W ro y ins st M = some (st', M')) :
    ∃ T', Here p l e R s m args below meth c Z W ρ ro n0 L0 T' M' ∧ ∀ target, Steps p.tables e below (T'.setTop (mkF m (pc + len) (cl ρ ls) (cs ρ st'))) target → Steps p.tables e below (T.setTop (mkF m pc (cl ρ ls) (cs ρ st))) target := by
  obtain ⟨locs, X, N, Rl⟩ := H
  obtain ⟨L, mi, ml, mr⟩ := M
  have hL' : L0.length ≤ L.length := hL
  have hS' : szL L0 ≤ szL L := hS
  have hsize : T.heap.size = n0 + (L.length - ro) := Rl.1
  have hnew : T.heap.size = ρ L.length := by rw [hρn _ (Nat.le_trans hro hL'), hsize]
  unfold execM at h
  split at h
  · rename_i idx
    obtain rfl : len = 3 := by simpa [lenOk] using hl
    split at h
    · rename_i v a r
      split at h
      · rename_i C k kd fin C' u hf hc
        split at h
        · rename_i hC
          obtain ⟨rfl, hra, hfin, hinst⟩ := hC
          obtain ⟨n, d, q1, q2, rfl, q4⟩ := fieldAt_spec hf
          obtain ⟨ni, hni⟩ := Option.isSome_iff_exists.mp hinst
          have hcell : L[a]? = some (0, C', u) := hc
          obtain ⟨Ex, Fs⟩ := (Rl.2.2.1 _ _ hc).1 rfl
          have Fd := Fs _ _ _ _ q2 q4
          have hge : n0 ≤ ρ a := by rw [hρn a hra]; omega
          have Lw : (Jvm.Cond.lays C' C' n d).before a0 Z = true ∨ ((Jvm.Cond.laysFinal C' C' n d).before a0 Z = true ∧ y.cls = C' ∧ meth.name = "<init>") := by
            have e := hw _ (List.mem_of_getElem? (layAt_spec q2))
            cases fin with
            | false => exact Or.inl e
            | true =>
              rcases hfin with z | ⟨z1, z2⟩
              · cases z
              · exact Or.inr ⟨e, z1, hnm.trans z2⟩
          split at h
          · rename_i x hk
            cases h
            obtain ⟨T', h', X', e', w, stp⟩ := putFN X hx hZ hown (hw _ q1) Via.refl rfl Fd Ex Lw (hw _ (instLk_mem hni)) (ty := .int) (v' := .int x) (kindD_1 hk) rfl rfl (g := mkF m pc (cl ρ ls) (cs ρ (.int x :: .ref a :: st'))) rfl rfl hd
            refine ⟨T', ⟨_, X', Fr.snoc X' N hge, ?_⟩, fun t k => stp t k⟩
            rw [e']
            exact Rel.write hρ w hcell (fun x hx k => up_ne hx k) (fun _ _ _ => rfl) (fun _ _ _ => rfl) (RelC.put hw q2 q4 w (by rw [hk, up_eq]; rfl) (fun j hj => up_ne' hj a) (fun _ _ => rfl) (fun _ _ => rfl)) Rl
          · rename_i x hk
            cases h
            obtain ⟨T', h', X', e', w, stp⟩ := putFN X hx hZ hown (hw _ q1) Via.refl rfl Fd Ex Lw (hw _ (instLk_mem hni)) (ty := .boolean) (v' := .int (x &&& 1)) (kindD_2 hk) rfl (fits_nar_bool x) (g := mkF m pc (cl ρ ls) (cs ρ (.int x :: .ref a :: st'))) rfl rfl hd
            refine ⟨T', ⟨_, X', Fr.snoc X' N hge, ?_⟩, fun t k => stp t k⟩
            rw [e']
            exact Rel.write hρ w hcell (fun x hx k => up_ne hx k) (fun _ _ _ => rfl) (fun _ _ _ => rfl) (RelC.put hw q2 q4 w (by rw [hk, up_eq]; rfl) (fun j hj => up_ne' hj a) (fun _ _ => rfl) (fun _ _ => rfl)) Rl
          · rename_i x hk
            cases h
            obtain ⟨T', h', X', e', w, stp⟩ := putFN X hx hZ hown (hw _ q1) Via.refl rfl Fd Ex Lw (hw _ (instLk_mem hni)) (ty := .long) (v' := .long x) (kindD_3 hk) rfl rfl (g := mkF m pc (cl ρ ls) (cs ρ (.long x :: .ref a :: st'))) rfl rfl hd
            refine ⟨T', ⟨_, X', Fr.snoc X' N hge, ?_⟩, fun t k => stp t k⟩
            rw [e']
            exact Rel.write hρ w hcell (fun _ _ _ => rfl) (fun x hx k => up_ne hx k) (fun _ _ _ => rfl) (RelC.put hw q2 q4 w (by rw [hk, up_eq]; rfl) (fun _ _ => rfl) (fun j hj => up_ne' hj a) (fun _ _ => rfl)) Rl
          · rename_i b hk
            cases h
            obtain ⟨ty, t1, t2, t3, -⟩ := kindD_4 hk
            obtain ⟨T', h', X', e', w, stp⟩ := putFN X hx hZ hown (hw _ q1) Via.refl rfl Fd Ex Lw (hw _ (instLk_mem hni)) (ty := ty) (v' := .ref (ρ b)) t1 (t2 _) (t3 _) (g := mkF m pc (cl ρ ls) (cs ρ (.ref b :: .ref a :: st'))) rfl rfl hd
            refine ⟨T', ⟨_, X', Fr.snoc X' N hge, ?_⟩, fun t k => stp t k⟩
            rw [e']
            exact Rel.write hρ w hcell (fun _ _ _ => rfl) (fun _ _ _ => rfl) (fun x hx k => up_ne hx k) (RelC.put hw q2 q4 w (by rw [hk, up_eq]; rfl) (fun _ _ => rfl) (fun _ _ => rfl) (fun j hj => up_ne' hj a)) Rl
          · cases h
        · cases h
      · cases h
    · cases h
  · obtain rfl : len = 1 := by simpa [lenOk] using hl
    split at h
    · rename_i x j a r
      split at h
      · rename_i u n hc
        split at h
        · rename_i hj
          obtain ⟨hj, hra⟩ := hj
          cases h
          have hcell : L[a]? = some (_, u, n) := hc
          obtain ⟨cell, Ar, hs, hv⟩ := (Rl.2.2.1 _ _ hc).2.1 rfl
          have hs' : cell.slots.size = n := hs
          have hge : n0 ≤ ρ a := by rw [hρn a hra]; omega
          obtain ⟨T', h', X', e', w, stp⟩ := stI X hx hZ rfl Ar (by rw [hs']; exact inb_spec hj) (g := mkF m pc (cl ρ ls) (cs ρ (.int x :: .int j :: .ref a :: st'))) rfl rfl hd
          refine ⟨T', ⟨_, X', Fr.snoc X' N hge, ?_⟩, fun t k => stp t k⟩
          rw [e']
          exact Rel.write hρ w hcell (fun x hx k => up_ne hx k) (fun _ _ _ => rfl) (fun _ _ _ => rfl) (RelC.st1 w) Rl
        · cases h
      · cases h
    · cases h
  · obtain rfl : len = 1 := by simpa [lenOk] using hl
    split at h
    · rename_i x j a r
      split at h
      · rename_i u n hc
        split at h
        · rename_i hj
          obtain ⟨hj, hra⟩ := hj
          cases h
          have hcell : L[a]? = some (_, u, n) := hc
          obtain ⟨cell, Ar, hs, hv⟩ := (Rl.2.2.1 _ _ hc).2.2.2 rfl
          have hs' : cell.slots.size = n := hs
          have hge : n0 ≤ ρ a := by rw [hρn a hra]; omega
          obtain ⟨T', h', X', e', w, stp⟩ := stZ X hx hZ rfl Ar (by rw [hs']; exact inb_spec hj) (g := mkF m pc (cl ρ ls) (cs ρ (.int x :: .int j :: .ref a :: st'))) rfl rfl hd
          refine ⟨T', ⟨_, X', Fr.snoc X' N hge, ?_⟩, fun t k => stp t k⟩
          rw [e']
          exact Rel.write hρ w hcell (fun x hx k => up_ne hx k) (fun _ _ _ => rfl) (fun _ _ _ => rfl) (RelC.st3 w) Rl
        · cases h
      · cases h
    · cases h
  · obtain rfl : len = 1 := by simpa [lenOk] using hl
    split at h
    · rename_i x j a r
      split at h
      · rename_i u n hc
        split at h
        · rename_i hj
          obtain ⟨hj, hra⟩ := hj
          cases h
          have hcell : L[a]? = some (_, u, n) := hc
          obtain ⟨cell, Ar, hs, hv⟩ := (Rl.2.2.1 _ _ hc).2.2.1 rfl
          have hs' : cell.slots.size = n := hs
          have hge : n0 ≤ ρ a := by rw [hρn a hra]; omega
          obtain ⟨T', h', X', e', w, stp⟩ := stJ X hx hZ rfl Ar (by rw [hs']; exact inb_spec hj) (g := mkF m pc (cl ρ ls) (cs ρ (.long x :: .int j :: .ref a :: st'))) rfl rfl hd
          refine ⟨T', ⟨_, X', Fr.snoc X' N hge, ?_⟩, fun t k => stp t k⟩
          rw [e']
          exact Rel.write hρ w hcell (fun _ _ _ => rfl) (fun x hx k => up_ne hx k) (fun _ _ _ => rfl) (RelC.st2 w) Rl
        · cases h
      · cases h
    · cases h
  · rename_i idx
    obtain rfl : len = 3 := by simpa [lenOk] using hl
    split at h
    · rename_i C n hn
      cases h
      obtain ⟨w1, w2, w3⟩ : Jvm.Cond.classLink y.cls idx C ∈ W ∧ Jvm.Cond.instantiable C n ∈ W ∧ Jvm.Cond.initialized C ∈ W := by
        unfold newAt at hn
        split at hn
        · cases hn
        · rename_i C' h1
          split at hn
          · cases hn
          · rename_i n' h2
            split at hn
            · rename_i h3
              cases hn
              exact ⟨classLk_mem h1, instLk_mem h2, hasInit_mem h3⟩
            · cases hn
      have c1 : (L ++ [((0 : Nat), C, n)]).length - L0.length = L.length - L0.length + 1 := by rw [List.length_append]; simp; omega
      have c2 : szL (L ++ [((0 : Nat), C, n)]) - szL L0 = szL L - szL L0 + n := by rw [szL_push]; simp only; omega
      have hRc' : (L ++ [((0 : Nat), C, n)]).length - L0.length ≤ R.cells := hRc
      have hRs' : szL (L ++ [((0 : Nat), C, n)]) - szL L0 ≤ R.slots := hRs
      obtain ⟨T', h', X', e', E, Ex, D, -, st'⟩ := newO X hx hZ hown (hw _ w1) (hw _ w2) (hw _ w3) rfl (g := mkF m pc (cl ρ ls) (cs ρ st)) rfl hd (by show L.length - L0.length + 1 ≤ _; omega) (by show szL L - szL L0 + n ≤ _; omega)
      have hup : T'.heap.size ≤ s.heap.size + (L.length - L0.length + 1) := X'.heapSize
      have hlo : T.heap.size < h'.size := Ex.lt
      refine ⟨T', ⟨locs, by rw [← c1, ← c2] at X'; exact X', N, ?_⟩, fun t k => st' t ?_⟩
      · rw [e']
        rw [e'] at hup
        refine Rel.push E (by omega) ⟨fun _ => ⟨by rw [← hnew]; exact Ex, fun nm k d fin q1 q2 => ?_⟩, fun q => (by cases q), fun q => (by cases q), fun q => (by cases q)⟩ Rl
        obtain ⟨z1, z2, z3⟩ := Rl.2.2.2 L.length (Nat.le_refl _) k
        have z1' : mi L.length k = 0 := z1
        have z2' : ml L.length k = 0 := z2
        have z3' : mr L.length k = .null := z3
        dsimp only
        rw [z1', z2', z3', ← hnew]
        have Lw := layAt_laid hw q1
        rcases kindD_lt d with z | z | z | z | z
        · exact absurd z q2
        · rw [z]; exact D Lw (kindD_1 z)
        · rw [z]; exact D Lw (kindD_2 z)
        · rw [z]; exact D Lw (kindD_3 z)
        · obtain ⟨ty, t1, -, -, t4⟩ := kindD_4 z
          have q := D Lw t1
          rw [t4] at q
          rw [z]; exact q
      · rw [hnew]; exact k
    · cases h
  · obtain rfl : len = 2 := by simpa [lenOk] using hl
    split at h
    · rename_i n r
      split at h
      · rename_i hc
        obtain ⟨hn, hb, ha⟩ := hc
        cases h
        have c1 : (L ++ [((1 : Nat), "", n.toNatClampNeg)]).length - L0.length = L.length - L0.length + 1 := by rw [List.length_append]; simp; omega
        have c2 : szL (L ++ [((1 : Nat), "", n.toNatClampNeg)]) - szL L0 = szL L - szL L0 + n.toNatClampNeg := by rw [szL_push]; simp only; omega
        have hRc' : (L ++ [((1 : Nat), "", n.toNatClampNeg)]).length - L0.length ≤ R.cells := hRc
        have hRs' : szL (L ++ [((1 : Nat), "", n.toNatClampNeg)]) - szL L0 ≤ R.slots := hRs
        obtain ⟨T', h', cA, X', e', E, Ar, st'⟩ := newP X hx hZ (aty := .int) (hw _ (hasArr_mem ha)) rfl (g := mkF m pc (cl ρ ls) (cs ρ (.int n :: r))) rfl hd rfl hn (cap := n.toNatClampNeg) (Nat.le_refl _) hb (by show L.length - L0.length + 1 ≤ _; omega) (by show szL L - szL L0 + n.toNatClampNeg ≤ _; omega)
        have hup : T'.heap.size ≤ s.heap.size + (L.length - L0.length + 1) := X'.heapSize
        have hlo : T.heap.size < h'.size := Ar.lt
        refine ⟨T', ⟨locs, by rw [← c1, ← c2] at X'; exact X', N, ?_⟩, fun t k => st' t ?_⟩
        · rw [e']
          rw [e'] at hup
          refine Rel.push E (by omega) ⟨fun q => (by cases q), fun _ => ?_, fun q => (by cases q), fun q => (by cases q)⟩ Rl
          refine ⟨_, by rw [← hnew]; exact Ar, sz_new _ _ _, fun k hk => ?_⟩
          have hk' : k < n.toNatClampNeg := hk
          have z1 : mi L.length k = 0 := (Rl.2.2.2 L.length (Nat.le_refl _) k).1
          dsimp only
          rw [z1]
          simp [newA, hk']
          rfl
        · rw [hnew]; exact k
      · cases h
    · cases h
  · obtain rfl : len = 2 := by simpa [lenOk] using hl
    split at h
    · rename_i n r
      split at h
      · rename_i hc
        obtain ⟨hn, hb, ha⟩ := hc
        cases h
        have c1 : (L ++ [((2 : Nat), "", n.toNatClampNeg)]).length - L0.length = L.length - L0.length + 1 := by rw [List.length_append]; simp; omega
        have c2 : szL (L ++ [((2 : Nat), "", n.toNatClampNeg)]) - szL L0 = szL L - szL L0 + n.toNatClampNeg := by rw [szL_push]; simp only; omega
        have hRc' : (L ++ [((2 : Nat), "", n.toNatClampNeg)]).length - L0.length ≤ R.cells := hRc
        have hRs' : szL (L ++ [((2 : Nat), "", n.toNatClampNeg)]) - szL L0 ≤ R.slots := hRs
        obtain ⟨T', h', cA, X', e', E, Ar, st'⟩ := newP X hx hZ (aty := .long) (hw _ (hasArr_mem ha)) rfl (g := mkF m pc (cl ρ ls) (cs ρ (.int n :: r))) rfl hd rfl hn (cap := n.toNatClampNeg) (Nat.le_refl _) hb (by show L.length - L0.length + 1 ≤ _; omega) (by show szL L - szL L0 + n.toNatClampNeg ≤ _; omega)
        have hup : T'.heap.size ≤ s.heap.size + (L.length - L0.length + 1) := X'.heapSize
        have hlo : T.heap.size < h'.size := Ar.lt
        refine ⟨T', ⟨locs, by rw [← c1, ← c2] at X'; exact X', N, ?_⟩, fun t k => st' t ?_⟩
        · rw [e']
          rw [e'] at hup
          refine Rel.push E (by omega) ⟨fun q => (by cases q), fun q => (by cases q), fun _ => ?_, fun q => (by cases q)⟩ Rl
          refine ⟨_, by rw [← hnew]; exact Ar, sz_new _ _ _, fun k hk => ?_⟩
          have hk' : k < n.toNatClampNeg := hk
          have z1 : ml L.length k = 0 := (Rl.2.2.2 L.length (Nat.le_refl _) k).2.1
          dsimp only
          rw [z1]
          simp [newA, hk']
          rfl
        · rw [hnew]; exact k
      · cases h
    · cases h
  · obtain rfl : len = 2 := by simpa [lenOk] using hl
    split at h
    · rename_i n r
      split at h
      · rename_i hc
        obtain ⟨hn, hb, ha⟩ := hc
        cases h
        have c1 : (L ++ [((3 : Nat), "", n.toNatClampNeg)]).length - L0.length = L.length - L0.length + 1 := by rw [List.length_append]; simp; omega
        have c2 : szL (L ++ [((3 : Nat), "", n.toNatClampNeg)]) - szL L0 = szL L - szL L0 + n.toNatClampNeg := by rw [szL_push]; simp only; omega
        have hRc' : (L ++ [((3 : Nat), "", n.toNatClampNeg)]).length - L0.length ≤ R.cells := hRc
        have hRs' : szL (L ++ [((3 : Nat), "", n.toNatClampNeg)]) - szL L0 ≤ R.slots := hRs
        obtain ⟨T', h', cA, X', e', E, Ar, st'⟩ := newP X hx hZ (aty := .boolean) (hw _ (hasArr_mem ha)) rfl (g := mkF m pc (cl ρ ls) (cs ρ (.int n :: r))) rfl hd rfl hn (cap := n.toNatClampNeg) (Nat.le_refl _) hb (by show L.length - L0.length + 1 ≤ _; omega) (by show szL L - szL L0 + n.toNatClampNeg ≤ _; omega)
        have hup : T'.heap.size ≤ s.heap.size + (L.length - L0.length + 1) := X'.heapSize
        have hlo : T.heap.size < h'.size := Ar.lt
        refine ⟨T', ⟨locs, by rw [← c1, ← c2] at X'; exact X', N, ?_⟩, fun t k => st' t ?_⟩
        · rw [e']
          rw [e'] at hup
          refine Rel.push E (by omega) ⟨fun q => (by cases q), fun q => (by cases q), fun q => (by cases q), fun _ => ?_⟩ Rl
          refine ⟨_, by rw [← hnew]; exact Ar, sz_new _ _ _, fun k hk => ?_⟩
          have hk' : k < n.toNatClampNeg := hk
          have z1 : mi L.length k = 0 := (Rl.2.2.2 L.length (Nat.le_refl _) k).1
          dsimp only
          rw [z1]
          simp [newA, hk']
          rfl
        · rw [hnew]; exact k
      · cases h
    · cases h
  · cases h
end S
end Jvm.OwnEv
namespace Jvm.OwnEv
open Sem ClassFile Op Lib Jvm.Stand Jvm.Free Jvm.LawKit Jvm.RoadKit
/-! PART 5: what the evaluator answers, the model does -/
theorem run_ext {W : List Jvm.Cond} {ro : Nat} : ∀ (n : Nat) {F Lb : Nat} {y : MethodName} {code : ByteArray} {ret : Option FieldType} {pc : Nat} {ls : List Slot} {st : List Value} {M M' : EMem} {v : Option Value},
    run W ro n F Lb y code ret pc ls st M = some (v, M') → M.1.length ≤ M'.1.length ∧ szL M.1 ≤ szL M'.1
  | 0, _, _, _, _, _, _, _, _, _, _, _, h => by simp [run] at h
  | n + 1, F, Lb, y, code, ret, pc, ls, st, M, M', v, h => by
    unfold run at h
    split at h
    · split at h
      · exact run_ext n h
      · split at h
        · rename_i he
          split at he
          · have q1 := execM_ext he
            have q2 := run_ext n h
            exact ⟨Nat.le_trans q1.1 q2.1, Nat.le_trans q1.2 q2.2⟩
          · cases he
        · split at h
          · cases h; exact ⟨Nat.le_refl _, Nat.le_refl _⟩
          · split at h
            · split at h
              · split at h
                · rename_i hr
                  have q1 := run_ext n hr
                  have q2 := run_ext n h
                  exact ⟨Nat.le_trans q1.1 q2.1, Nat.le_trans q1.2 q2.2⟩
                · cases h
              · cases h
            · cases h
    · cases h
theorem callAt_spec {W : List Jvm.Cond} {own : String} {idx kd : Nat} {z : MethodName} {na : Nat} {b : ByteArray} {mx : Nat} {r : Option FieldType} (h : callAt W own idx kd = some (z, na, b, mx, r)) :
    Jvm.Cond.methodLink own idx z ∈ W ∧ Jvm.Cond.code z b mx r ∈ W ∧ Jvm.Cond.initialized z.cls ∈ W ∧ plainName z.cls = true ∧ (z.cls ≠ "java/lang/invoke/MethodHandle" ∧ z.cls ≠ "java/lang/invoke/VarHandle") ∧ (∀ sig, parseMethodDescriptor z.desc = some sig → na = sig.parameters.length) ∧
    ((kd = 0 ∧ hasDecl z W = true ∧ hasSel z W = true ∧ hasInst z W = true) ∨ (kd = 1 ∧ hasPriv z W = true ∧ hasInst z W = true ∧ (instLk z.cls W).isSome = true) ∨ (kd = 2 ∧ z.name = "<init>" ∧ hasInst z W = true ∧ r = none) ∨ (kd = 3 ∧ hasStat z W = true)) := by
  unfold callAt at h
  split at h
  · cases h
  · rename_i z' h1
    split at h
    · rename_i b' n' r' sig h2 h3
      split at h
      · rename_i hc
        cases h
        obtain ⟨c2, c3, c4, c5, c6⟩ := hc
        exact ⟨methodLk_mem h1, codeLk_mem h2, hasInit_mem c2, c3, ⟨c4, c5⟩, fun sig' q => by rw [h3] at q; cases q; rfl, c6⟩
      · cases h
    · cases h
section S
variable {l : Launch} {Z : State} {a0 : Array Value} {W : List Jvm.Cond} {ρ : Nat → Addr} {ro n0 : Nat}
/-- what a run of n steps promises -/
def Good (l : Launch) (Z : State) (W : List Jvm.Cond) (ρ : Nat → Addr) (ro n0 : Nat) (n : Nat) : Prop :=
  ∀ ⦃F Lb : Nat⦄ ⦃y : MethodName⦄ ⦃code : ByteArray⦄ ⦃ret : Option FieldType⦄ ⦃pc : Nat⦄ ⦃ls : List Slot⦄ ⦃st : List Value⦄ ⦃M M' : EMem⦄ ⦃v : Option Value⦄, run W ro n F Lb y code ret pc ls st M = some (v, M') →
    ∀ ⦃p : Program⦄ ⦃e : Env⦄ ⦃R : Room⦄ ⦃s : State⦄ ⦃m : MethodId⦄ ⦃args : Array Value⦄ ⦃below : List Frame⦄ ⦃meth : Method⦄ ⦃c : Code⦄ ⦃L0 : ELay⦄ ⦃T : State⦄, p.tables.exec = Jvm.exec → Z.Warmed39 s.vm → s.vm.findClass y.cls = some m.cls → meth.name = y.name → c.code = code → meth.sig.returnType = ret → meth.locks = false → ls.length = c.maxLocals →
      F ≤ R.frames → Lb ≤ R.locals → M'.1.length - L0.length ≤ R.cells → szL M'.1 - szL L0 ≤ R.slots → L0.length ≤ M.1.length → szL L0 ≤ szL M.1 → s.heap.size = n0 + (L0.length - ro) → ro ≤ L0.length → Here p l e R s m args below meth c Z W ρ ro n0 L0 T M →
      ∃ (s₂ : State) (L : List Loc), Steps p.tables e below (T.setTop (mkF m pc (cl ρ ls) (cs ρ st))) s₂ ∧ s₂.status = .running ∧ Ended s₂ below (.returned (v.map (conc ρ))) ∧ Rel Z W ρ ro n0 s₂.heap M' ∧ Fr n0 L ∧ s.WarmedH s₂.vm ∧
        s.sameButNew ({ s₂ with vm := s.vm } : State) L (M'.1.length - L0.length) (szL M'.1 - szL L0)
theorem met_of {n : Nat} (G : Good l Z W ρ ro n0 n) {F Lb : Nat} {z : MethodName} {b : ByteArray} {r : Option FieldType} {as : List Value} {mx : Nat} {M M' : EMem} {v : Option Value} (h : run W ro n F Lb z b r 0 (entryL as mx) [] M = some (v, M'))
    (hfl : (fillL as).length ≤ mx) (hp : plainName z.cls = true) {h0 : Heap} (Rl : Rel Z W ρ ro n0 h0 M) {R : Room} (hF : F ≤ R.frames) (hLb : Lb ≤ R.locals) (hRc : M'.1.length - M.1.length ≤ R.cells) (hRs : szL M'.1 - szL M.1 ≤ R.slots) (ws : List Jvm.Cond) :
    MetFree l z (head1 (Jvm.Cond.code z b mx r :: ws) R) (fun a U => a = (as.map (conc ρ)).toArray ∧ Z.Warmed39 U.vm ∧ U.heap = h0) (fun _ _ _ _ _ => True)
      (fun _ U o U' => ∃ v' L, o = .returned v' ∧ (v' = v.map (conc ρ) ∧ Rel Z W ρ ro n0 U'.heap M' ∧ Fr n0 L) ∧ FrameEnd U o U' L (M'.1.length - M.1.length) (szL M'.1 - szL M.1)) := by
  refine MetFree.of_bodySF (plainFor_of_name hp) hisR ?_
  intro p e s m args below meth c s₁ Bd hml0 hP hK
  obtain ⟨rfl, hZ, hh⟩ := hP
  have hown : s.vm.findClass z.cls = some m.cls := findClass_of_methodNamed Bd.named
  have hnm := (name_of_methodNamed Bd.named Bd.method).1
  have X0 : Stand p l e R s m (as.map (conc ρ)).toArray below meth c s₁ [] 0 0 := Stand.of_body Bd
  have e0 : s₁.heap = h0 := by rw [← hh, Bd.state]; rfl
  have hH : Here p l e R s m (as.map (conc ρ)).toArray below meth c Z W ρ ro n0 M.1 s₁ M := ⟨[], by rw [Nat.sub_self, Nat.sub_self]; exact X0, Fr.nil n0, by rw [e0]; exact Rl⟩
  obtain ⟨s₂, L, q1, q2, q3, q4, q5, q6, q7⟩ := G h (p := p) (e := e) (R := R) (s := s) (m := m) (below := below) (L0 := M.1) (T := s₁) Bd.exec hZ hown hnm Bd.bytes Bd.returns Bd.notSynchronized (by rw [entryL_len hfl, hml0]) hF hLb hRc hRs (Nat.le_refl _) (Nat.le_refl _) (by rw [hh]; exact Rl.1) Rl.2.1 hH
  refine ⟨s₂, _, castTop ?_ q1, q2, q3, _, L, rfl, ⟨rfl, q4, q5⟩, ⟨_, rfl⟩, q6, q7⟩
  show ({ method := m, pc := 0, locals := argsToLocals (as.map (conc ρ)).toArray mx, stack := [], locked := none } : JFrame) = _
  rw [args_conc]
  rfl
theorem toL_conc (v : Option Value) (rest : List Value) : (v.map (conc ρ)).toList ++ cs ρ rest = cs ρ (v.toList ++ rest) := by cases v <;> simp
theorem split_st {st rest : List Value} {na : Nat} {x : Value} (h : st.drop na = x :: rest) : cs ρ st = ((st.take na).reverse.map (conc ρ)).reverse ++ conc ρ x :: cs ρ rest := by
  have e : st = st.take na ++ (x :: rest) := by rw [← h]; exact (List.take_append_drop na st).symm
  rw [← List.map_reverse, List.reverse_reverse]
  conv => lhs; rw [e]
  simp [cs]
theorem split_st0 {st : List Value} {na : Nat} : cs ρ st = ((st.take na).reverse.map (conc ρ)).reverse ++ cs ρ (st.drop na) := by
  rw [← List.map_reverse, List.reverse_reverse]
  conv => lhs; rw [← List.take_append_drop na st]
  simp [cs]
set_option maxRecDepth 65536 in
set_option maxHeartbeats 40000000 in
/-- a call by the callee's own run -/
theorem call_sound {n : Nat} (G : Good l Z W ρ ro n0 n) (hw : ∀ d ∈ W, d.before a0 Z = true) {p : Program} {e : Env} {R : Room} {s : State} {m : MethodId} {args : Array Value} {below : List Frame} {meth : Method} {c : Code} {L0 : ELay} {T : State} {M M' : EMem} {y : MethodName}
    (H : Here p l e R s m args below meth c Z W ρ ro n0 L0 T M) (hx : p.tables.exec = Jvm.exec) (hZ : Z.Warmed39 s.vm) (hown : s.vm.findClass y.cls = some m.cls) {F Lb : Nat} (hF : F ≤ R.frames) (hLb : Lb ≤ R.locals)
    {ls : List Slot} {st : List Value} {ins : Instr} {pc len : Nat} (hsz : ls.length = c.maxLocals) (hd : decode c.code pc = .ok (ins, len)) {z : MethodName} {as rest : List Value} {b : ByteArray} {mx : Nat} {r : Option FieldType} {v : Option Value}
    (hc : callOf W y ins len st M = some (z, as, rest, b, mx, r)) (h1 : 1 ≤ F) (h2 : wt rest + (mx + 11) ≤ Lb) (h3 : (fillL as).length ≤ mx) (hr : run W ro n (F - 1) (Lb - (wt rest + (mx + 11))) z b r 0 (entryL as mx) [] M = some (v, M'))
    (hL : L0.length ≤ M.1.length) (hS : szL L0 ≤ szL M.1) (hRc : M'.1.length - L0.length ≤ R.cells) (hRs : szL M'.1 - szL L0 ≤ R.slots) :
    ∃ T', Here p l e R s m args below meth c Z W ρ ro n0 L0 T' M' ∧ Steps p.tables e below (T.setTop (mkF m pc (cl ρ ls) (cs ρ st))) (T'.setTop (mkF m (pc + 3) (cl ρ ls) (cs ρ (v.toList ++ rest)))) := by
  obtain ⟨locs, X, N, Rl⟩ := H
  have hext := run_ext n hr
  have hsize : (mkF m pc (cl ρ ls) (cs ρ st)).locals.size = c.maxLocals := by simp [hsz]
  have hW : ∀ q : List Value, q = rest → 2 * (mkF m pc (cl ρ ls) (cs ρ st)).monitorRoom + ((cs ρ q).map fun v => v.category).sum ≤ wt rest := fun q e => by
    subst e
    show 2 * 0 + ((q.map (conc ρ)).map fun v => v.category).sum ≤ _
    rw [wt_conc]; omega
  unfold callOf at hc
  split at hc
  · rename_i hlen
    subst hlen
    split at hc
    · rename_i idx
      split at hc
      · rename_i z' na b' n' r' hca
        split at hc
        · rename_i a rest' hdrop
          split at hc
          · rename_i C u hcell
            split at hc
            · rename_i hcond
              cases hc
              obtain ⟨rfl, hna⟩ := hcond
              obtain ⟨k1, k2, k3, k4, k5, k6, k7⟩ := callAt_spec hca
              rcases k7 with ⟨q, -⟩ | ⟨-, g1, g2, g3⟩ | ⟨q, -⟩ | ⟨q, -⟩
              · cases q
              · obtain ⟨ni, hni⟩ := Option.isSome_iff_exists.mp g3
                have E := ((Rl.2.2.1 _ _ hcell).1 rfl).1
                obtain ⟨cq, q1, q2⟩ := E.cell
                have hpriv : s.PrivateAt z := Cond.privateMethod_at (mvP hZ (hw _ (hasPriv_mem g1)) (args := #[]))
                obtain ⟨ci, ki, i1, i2, i3, i4, -⟩ := Cond.instantiable_spec (mvT (args := args) hZ (hw _ (instLk_mem hni)))
                have hsel : (Jvm.Cond.selects z.cls z z).before args s = true := selects_self_of_private i1 i2 (by simp only [Bool.or_eq_false_iff] at i4; exact i4.1) hpriv (mvT hZ (hw _ (hasInst_mem g2))) k5
                have back := backOf (R := R) (p := p) (e := e) (below := below) (s := s) (args := args) (len := 3) (W := wt rest) (rm := { frames := F - 1, cells := M'.1.length - M.1.length, slots := szL M'.1 - szL M.1, locals := Lb - (wt rest + (mx + 11)) }) (Q := fun v' h' L => v' = v.map (conc ρ) ∧ Rel Z W ρ ro n0 h' M' ∧ Fr n0 L) (met_of G hr h3 k4 Rl (R := { frames := F - 1, cells := M'.1.length - M.1.length, slots := szL M'.1 - szL M.1, locals := Lb - (wt rest + (mx + 11)) }) (Nat.le_refl _) (Nat.le_refl _) (Nat.le_refl _) (Nat.le_refl _) []) hZ (hw _ k2) (hw _ k3) (by show F - 1 + 1 ≤ _; omega) (by show wt rest + (mx + 11) + (Lb - (wt rest + (mx + 11))) ≤ _; omega)
                obtain ⟨v', vm₁, ⟨T', Lq, cq', nq⟩, hW₁, X', ⟨L', ⟨rfl, hR', hN'⟩, l', y', z'⟩, st'⟩ := X.privateBack hx (y := z) hown (mvT hZ (hw _ k1)) (mvT hZ (hw _ (hasInst_mem g2))) hsel hpriv (mvT hZ (hw _ k2)) k5 back (g := mkF m pc (cl ρ ls) (cs ρ st)) rfl hsize (Steps.refl _) (a := ρ a) q1 q2 (argsL := (st.take na).reverse.map (conc ρ)) (rest := cs ρ rest)
                  (fun sig hs => by rw [← k6 sig hs]; simpa using hna) (split_st hdrop) (hW _ rfl) hd (fun _ _ => ⟨by simp [conc], rfl, by show M.1.length - L0.length + (M'.1.length - M.1.length) ≤ _; omega, by show szL M.1 - szL L0 + (szL M'.1 - szL M.1) ≤ _; omega⟩)
                dsimp only [Pt.U, Pt.locs, Pt.cells, Pt.slots] at X' l' y' z' st' hR'
                subst l' y' z'
                refine ⟨T', ⟨_, ?_, Fr.app N hN', hR'⟩, ?_⟩
                · have c1 : M'.1.length - L0.length = M.1.length - L0.length + (M'.1.length - M.1.length) := by omega
                  have c2 : szL M'.1 - szL L0 = szL M.1 - szL L0 + (szL M'.1 - szL M.1) := by omega
                  rw [c1, c2]; exact X'
                · rw [← toL_conc]; exact st'
              · cases q
              · cases q
            · cases hc
          · cases hc
        · cases hc
      · split at hc
        · rename_i z' na b' n' r' hca
          split at hc
          · rename_i a rest' hdrop
            split at hc
            · rename_i C u hcell
              split at hc
              · rename_i hcond
                cases hc
                obtain ⟨rfl, hna⟩ := hcond
                obtain ⟨k1, k2, k3, k4, k5, k6, k7⟩ := callAt_spec hca
                rcases k7 with ⟨-, g1, g2, g3⟩ | ⟨q, -⟩ | ⟨q, -⟩ | ⟨q, -⟩
                · have E := ((Rl.2.2.1 _ _ hcell).1 rfl).1
                  obtain ⟨cB, kB, q1, q2, q3⟩ := isOf (T := T) hZ rfl E
                  have back := backOf (R := R) (p := p) (e := e) (below := below) (s := s) (args := args) (len := 3) (W := wt rest) (rm := { frames := F - 1, cells := M'.1.length - M.1.length, slots := szL M'.1 - szL M.1, locals := Lb - (wt rest + (mx + 11)) }) (Q := fun v' h' L => v' = v.map (conc ρ) ∧ Rel Z W ρ ro n0 h' M' ∧ Fr n0 L) (met_of G hr h3 k4 Rl (R := { frames := F - 1, cells := M'.1.length - M.1.length, slots := szL M'.1 - szL M.1, locals := Lb - (wt rest + (mx + 11)) }) (Nat.le_refl _) (Nat.le_refl _) (Nat.le_refl _) (Nat.le_refl _) []) hZ (hw _ k2) (hw _ k3) (by show F - 1 + 1 ≤ _; omega) (by show wt rest + (mx + 11) + (Lb - (wt rest + (mx + 11))) ≤ _; omega)
                  have hsel : (Jvm.Cond.selects z.cls z z).before args s = true := mvT hZ (hw _ (hasSel_mem g2))
                  obtain ⟨v', vm₁, ⟨T', Lq, cq', nq⟩, hW₁, X', ⟨L', ⟨rfl, hR', hN'⟩, l', y', z'⟩, st'⟩ := X.virtualBack hx (y := z) (z := z) hown (mvT hZ (hw _ k1)) (mvT hZ (hw _ (hasDecl_mem g1))) (notFace_of_selects hsel) hsel (mvT hZ (hw _ (hasInst_mem g3))) k5 back q1 q3 (g := mkF m pc (cl ρ ls) (cs ρ st)) rfl hsize (Steps.refl _) (argsL := (st.take na).reverse.map (conc ρ)) (rest := cs ρ rest)
                    (fun sig hs => by rw [← k6 sig hs]; simpa using hna) (split_st hdrop) (hW _ rfl) hd (fun _ _ => ⟨by simp [conc], rfl, by show M.1.length - L0.length + (M'.1.length - M.1.length) ≤ _; omega, by show szL M.1 - szL L0 + (szL M'.1 - szL M.1) ≤ _; omega⟩)
                  dsimp only [Pt.U, Pt.locs, Pt.cells, Pt.slots] at X' l' y' z' st' hR'
                  subst l' y' z'
                  refine ⟨T', ⟨_, ?_, Fr.app N hN', hR'⟩, ?_⟩
                  · have c1 : M'.1.length - L0.length = M.1.length - L0.length + (M'.1.length - M.1.length) := by omega
                    have c2 : szL M'.1 - szL L0 = szL M.1 - szL L0 + (szL M'.1 - szL M.1) := by omega
                    rw [c1, c2]; exact X'
                  · rw [← toL_conc]; exact st'
                · cases q
                · cases q
                · cases q
              · cases hc
            · cases hc
          · cases hc
        · cases hc
    · rename_i idx
      split at hc
      · rename_i z' na b' n' r' hca
        split at hc
        · rename_i a rest' hdrop
          split at hc
          · rename_i hna
            cases hc
            obtain ⟨k1, k2, k3, k4, k5, k6, k7⟩ := callAt_spec hca
            rcases k7 with ⟨q, -⟩ | ⟨q, -⟩ | ⟨-, g1, g2, g3⟩ | ⟨q, -⟩
            · cases q
            · cases q
            · subst g3
              have back := backOf (R := R) (p := p) (e := e) (below := below) (s := s) (args := args) (len := 3) (W := wt rest) (rm := { frames := F - 1, cells := M'.1.length - M.1.length, slots := szL M'.1 - szL M.1, locals := Lb - (wt rest + (mx + 11)) }) (Q := fun v' h' L => v' = v.map (conc ρ) ∧ Rel Z W ρ ro n0 h' M' ∧ Fr n0 L) (met_of G hr h3 k4 Rl (R := { frames := F - 1, cells := M'.1.length - M.1.length, slots := szL M'.1 - szL M.1, locals := Lb - (wt rest + (mx + 11)) }) (Nat.le_refl _) (Nat.le_refl _) (Nat.le_refl _) (Nat.le_refl _) []) hZ (hw _ k2) (hw _ k3) (by show F - 1 + 1 ≤ _; omega) (by show wt rest + (mx + 11) + (Lb - (wt rest + (mx + 11))) ≤ _; omega)
              obtain ⟨v', vm₁, ⟨T', Lq, cq', nq⟩, hW₁, X', ⟨L', ⟨rfl, hR', hN'⟩, l', y', z'⟩, st'⟩ := X.specialBack hx (y := z) g1 hown (mvT hZ (hw _ k1)) (mvT hZ (hw _ (hasInst_mem g2))) (mvT hZ (hw _ k2)) k5 back (g := mkF m pc (cl ρ ls) (cs ρ st)) rfl hsize (Steps.refl _) (a := ρ a) (argsL := (st.take na).reverse.map (conc ρ)) (rest := cs ρ rest)
                (fun sig hs => by rw [← k6 sig hs]; simpa using hna) (split_st hdrop) (hW _ rfl) hd (fun _ _ => ⟨by simp [conc], rfl, by show M.1.length - L0.length + (M'.1.length - M.1.length) ≤ _; omega, by show szL M.1 - szL L0 + (szL M'.1 - szL M.1) ≤ _; omega⟩)
              dsimp only [Pt.U, Pt.locs, Pt.cells, Pt.slots] at X' l' y' z' st' hR'
              subst l' y' z'
              refine ⟨T', ⟨_, ?_, Fr.app N hN', hR'⟩, ?_⟩
              · have c1 : M'.1.length - L0.length = M.1.length - L0.length + (M'.1.length - M.1.length) := by omega
                have c2 : szL M'.1 - szL L0 = szL M.1 - szL L0 + (szL M'.1 - szL M.1) := by omega
                rw [c1, c2]; exact X'
              · rw [← toL_conc]; exact st'
            · cases q
          · cases hc
        · cases hc
      · cases hc
    · rename_i idx
      split at hc
      · rename_i z' na b' n' r' hca
        split at hc
        · rename_i hna
          cases hc
          obtain ⟨k1, k2, k3, k4, k5, k6, k7⟩ := callAt_spec hca
          rcases k7 with ⟨q, -⟩ | ⟨q, -⟩ | ⟨q, -⟩ | ⟨-, g1⟩
          · cases q
          · cases q
          · cases q
          · have back := backOf (R := R) (p := p) (e := e) (below := below) (s := s) (args := args) (len := 3) (W := wt (st.drop na)) (rm := { frames := F - 1, cells := M'.1.length - M.1.length, slots := szL M'.1 - szL M.1, locals := Lb - (wt (st.drop na) + (mx + 11)) }) (Q := fun v' h' L => v' = v.map (conc ρ) ∧ Rel Z W ρ ro n0 h' M' ∧ Fr n0 L) (met_of G hr h3 k4 Rl (R := { frames := F - 1, cells := M'.1.length - M.1.length, slots := szL M'.1 - szL M.1, locals := Lb - (wt (st.drop na) + (mx + 11)) }) (Nat.le_refl _) (Nat.le_refl _) (Nat.le_refl _) (Nat.le_refl _) []) hZ (hw _ k2) (hw _ k3) (by show F - 1 + 1 ≤ _; omega) (by show wt (st.drop na) + (mx + 11) + (Lb - (wt (st.drop na) + (mx + 11))) ≤ _; omega)
            obtain ⟨v', vm₁, ⟨T', Lq, cq', nq⟩, hW₁, X', ⟨L', ⟨rfl, hR', hN'⟩, l', y', z'⟩, st'⟩ := Jvm.LawKit.callS X hx (y := z) hown (mvT hZ (hw _ k1)) (mvT hZ (hw _ (hasStat_mem g1))) (mvT hZ (hw _ k3)) (mvT hZ (hw _ k2)) k5 back (g := mkF m pc (cl ρ ls) (cs ρ st)) rfl hsize (argsL := (st.take na).reverse.map (conc ρ)) (rest := cs ρ (st.drop na))
              (fun sig hs => by rw [← k6 sig hs]; simpa using hna) split_st0 (hW _ rfl) hd (fun _ _ => ⟨rfl, rfl, by show M.1.length - L0.length + (M'.1.length - M.1.length) ≤ _; omega, by show szL M.1 - szL L0 + (szL M'.1 - szL M.1) ≤ _; omega⟩)
            dsimp only [Pt.U, Pt.locs, Pt.cells, Pt.slots] at X' l' y' z' st' hR'
            subst l' y' z'
            refine ⟨T', ⟨_, ?_, Fr.app N hN', hR'⟩, ?_⟩
            · have c1 : M'.1.length - L0.length = M.1.length - L0.length + (M'.1.length - M.1.length) := by omega
              have c2 : szL M'.1 - szL L0 = szL M.1 - szL L0 + (szL M'.1 - szL M.1) := by omega
              rw [c1, c2]; exact X'
            · rw [← toL_conc]; exact st' _ (Steps.refl _)
        · cases hc
      · cases hc
    · cases hc
  · cases hc
set_option maxRecDepth 65536 in
set_option maxHeartbeats 40000000 in
theorem run_good (hw : ∀ d ∈ W, d.before a0 Z = true) (hρ : ∀ a b, ρ a = ρ b → a = b) (hρn : ∀ a, ro ≤ a → ρ a = n0 + (a - ro)) : ∀ n, Good l Z W ρ ro n0 n
  | 0 => fun F Lb y code ret pc ls st M M' v h => by simp [run] at h
  | n + 1 => by
    have G := run_good hw hρ hρn n
    intro F Lb y code ret pc ls st M M' v h p e R s m args below meth c L0 T hx hZ hown hnm hby hret hlocks hsz hF hLb hRc hRs hL hS hs0 hro H
    unfold run at h
    split at h
    · rename_i ins len hdec
      have hd : decode c.code pc = .ok (ins, len) := by rw [hby]; exact hdec
      split at h
      · rename_i pc' ls' st' hP
        split at hP
        · rename_i hlo
          obtain ⟨g1, T', H', g2⟩ := execP_sound H hx hZ hw hown hF hLb hsz hd hlo hP
          obtain ⟨s₂, L, q1, q⟩ := G h hx hZ hown hnm hby hret hlocks (g1.trans hsz) hF hLb hRc hRs hL hS hs0 hro H'
          exact ⟨s₂, L, g2 _ q1, q⟩
        · cases hP
      · split at h
        · rename_i st' M'' hM
          split at hM
          · rename_i hlo
            have q1 := execM_ext hM
            have q2 := run_ext n h
            obtain ⟨T', H', g2⟩ := execM_sound H hx hZ hw hown hnm hρ hρn hL hS hs0 hro (ls := ls) hd hlo (by omega) (by omega) hM
            obtain ⟨s₂, L, q1, q⟩ := G h hx hZ hown hnm hby hret hlocks hsz hF hLb hRc hRs (by omega) (by omega) hs0 hro H'
            exact ⟨s₂, L, g2 _ q1, q⟩
          · cases hM
        · split at h
          · rename_i v' hv
            cases h
            obtain ⟨locs, X, N, Rl⟩ := H
            unfold retOf at hv
            split at hv
            · rename_i hlen
              subst hlen
              split at hv
              · cases hv
                obtain ⟨fs, hr, hrun, hended, hWm, hsame⟩ := X.leave (v := none) (fun _ => rfl) hlocks
                exact ⟨_, locs, X.returnOut hx hret hd hr, hrun, hended, Rl, N, hWm, hsame⟩
              · rename_i zz _ _
                cases hv
                obtain ⟨fs, hr, hrun, hended, hWm, hsame⟩ := X.leave (v := some (.int zz)) (fun q => by rw [hret] at q; cases q) hlocks
                exact ⟨_, locs, X.ireturnOut hx hret rfl (Or.inl rfl) hd hr, hrun, hended, Rl, N, hWm, hsame⟩
              · rename_i zz _ _
                cases hv
                obtain ⟨fs, hr, hrun, hended, hWm, hsame⟩ := X.leave (v := some (.int (zz &&& 1))) (fun q => by rw [hret] at q; cases q) hlocks
                exact ⟨_, locs, retN X hx (t := .boolean) hret (Or.inl rfl) hd hr, hrun, hended, Rl, N, hWm, hsame⟩
              · rename_i zz _ _
                cases hv
                obtain ⟨fs, hr, hrun, hended, hWm, hsame⟩ := X.leave (v := some (.long zz)) (fun q => by rw [hret] at q; cases q) hlocks
                exact ⟨_, locs, X.lreturnOut hx hret hd hr, hrun, hended, Rl, N, hWm, hsame⟩
              · cases hv
            · cases hv
          · split at h
            · rename_i z as rest b mx r hc
              split at h
              · rename_i hcond
                obtain ⟨h1, h2, h3⟩ := hcond
                split at h
                · rename_i v'' M'' hr
                  have q1 := run_ext n hr
                  have q2 := run_ext n h
                  obtain ⟨T', H', g2⟩ := call_sound G hw H hx hZ hown hF hLb hsz hd hc h1 h2 h3 hr hL hS (by omega) (by omega)
                  obtain ⟨s₂, L, q1, q⟩ := G h hx hZ hown hnm hby hret hlocks hsz hF hLb hRc hRs (by omega) (by omega) hs0 hro H'
                  exact ⟨s₂, L, g2.trans q1, q⟩
                · cases h
              · cases h
            · cases h
    · cases h
end S
end Jvm.OwnEv
namespace Jvm.OwnEv
open Sem ClassFile Op Lib Jvm.Stand Jvm.Free Jvm.LawKit Jvm.RoadKit
/-! PART 6: the run comes to an end that Q says: the rules -/
theorem execP_special {W : List Jvm.Cond} {F Lb : Nat} {y : MethodName} {pc len idx : Nat} {ls : List Slot} {st : List Value} {M : EMem} : execP W F Lb y (.invokespecial idx) pc len ls st M = match st with
    | .ref _ :: r => if objInitAt W y.cls idx = true ∧ 1 ≤ F ∧ wt r + 12 ≤ Lb then some (pc + 3, ls, r) else none
    | _ => none := rfl
theorem objInit_no {W : List Jvm.Cond} {own : String} {idx kd : Nat} {z : MethodName} {na : Nat} {b : ByteArray} {mx : Nat} {r : Option FieldType} (h : callAt W own idx kd = some (z, na, b, mx, r)) : objInitAt W own idx = false := by
  cases q : objInitAt W own idx with
  | false => rfl
  | true =>
    have hm : methodLk own idx W = some Lib.objectInit := by
      unfold objInitAt at q
      split at q
      · rename_i z' b' n' r' h1 h2
        simp only [Bool.and_eq_true, decide_eq_true_eq] at q
        rw [h1, q.1.1.1.1]
      · cases q
    have hpn : plainName Lib.objectInit.cls = false := by decide
    unfold callAt at h
    rw [hm] at h
    simp only at h
    split at h
    · split at h
      · rename_i hc
        rw [hpn] at hc
        simp at hc
      · cases h
    · cases h
theorem run_succ {W : List Jvm.Cond} {ro : Nat} : ∀ (n : Nat) {F Lb : Nat} {y : MethodName} {code : ByteArray} {ret : Option FieldType} {pc : Nat} {ls : List Slot} {st : List Value} {M : EMem} {x : Option Value × EMem} {F' Lb' : Nat}, F ≤ F' → Lb ≤ Lb' →
    run W ro n F Lb y code ret pc ls st M = some x → run W ro (n + 1) F' Lb' y code ret pc ls st M = some x
  | 0, _, _, _, _, _, _, _, _, _, _, _, _, _, _, h => by simp [run] at h
  | n + 1, F, Lb, y, code, ret, pc, ls, st, M, x, F', Lb', hF, hL, h => by
    unfold run at h
    unfold run
    split at h
    · rename_i ins len hd
      split at h
      · rename_i pc' ls' st' hP
        have hP' : (if lenOk len ins = true then execP W F' Lb' y ins pc len ls st M else none) = some (pc', ls', st') := by
          split at hP
          · rename_i hl
            rw [if_pos hl]
            by_cases hi : ∃ idx, ins = .invokespecial idx
            · obtain ⟨idx, rfl⟩ := hi
              rw [execP_special] at hP ⊢
              split at hP
              · split at hP
                · rename_i hc
                  rw [if_pos ⟨hc.1, Nat.le_trans hc.2.1 hF, Nat.le_trans hc.2.2 hL⟩]
                  exact hP
                · cases hP
              · cases hP
            · have e : execP W F' Lb' y ins pc len ls st M = execP W F Lb y ins pc len ls st M := by
                cases ins <;> first | rfl | (exact absurd ⟨_, rfl⟩ hi)
              rw [e]; exact hP
          · cases hP
        rw [hP']
        exact run_succ n hF hL h
      · rename_i hP
        split at h
        · rename_i st' M' hM
          have hP' : (if lenOk len ins = true then execP W F' Lb' y ins pc len ls st M else none) = none := by
            split at hP
            · rename_i hl
              rw [if_pos hl]
              rw [if_pos hl] at hM
              cases ins <;> first | exact hP | (simp [execM] at hM)
            · rename_i hl
              rw [if_neg hl]
          rw [hP']
          exact run_succ n hF hL h
        · rename_i hM
          split at h
          · rename_i v hv
            have hP' : (if lenOk len ins = true then execP W F' Lb' y ins pc len ls st M else none) = none := by
              split at hP
              · rename_i hl
                rw [if_pos hl]
                cases ins <;> first | exact hP | (simp [retOf] at hv)
              · rename_i hl
                rw [if_neg hl]
            rw [hP']
            exact h
          · rename_i hv
            split at h
            · rename_i z as rest b mx r hc
              split at h
              · rename_i hcond
                obtain ⟨h1, h2, h3⟩ := hcond
                split at h
                · rename_i v M' hr
                  have hP' : (if lenOk len ins = true then execP W F' Lb' y ins pc len ls st M else none) = none := by
                    split at hP
                    · rename_i hl
                      rw [if_pos hl]
                      by_cases hi : ∃ idx, ins = .invokespecial idx
                      · obtain ⟨idx, rfl⟩ := hi
                        rw [execP_special]
                        split
                        · rw [if_neg]
                          intro q
                          have hcc : ∃ u, callAt W y.cls idx 2 = some u := by
                            cases hcq : callAt W y.cls idx 2 with
                            | some u => exact ⟨u, rfl⟩
                            | none =>
                              have e : ∀ s' : List Value, callOf W y (.invokespecial idx) len s' M = none := fun s' => by
                                unfold callOf
                                split
                                · simp only [hcq]
                                · rfl
                              rw [e] at hc; cases hc
                          obtain ⟨⟨u1, u2, u3, u4, u5⟩, hu⟩ := hcc
                          have q1 := q.1
                          rw [objInit_no hu] at q1
                          cases q1
                        · rfl
                      · have e : execP W F' Lb' y ins pc len ls st M = execP W F Lb y ins pc len ls st M := by
                          cases ins <;> first | rfl | (exact absurd ⟨_, rfl⟩ hi)
                        rw [e]; exact hP
                    · rename_i hl
                      rw [if_neg hl]
                  rw [hP']
                  simp only
                  rw [if_pos ⟨Nat.le_trans h1 hF, Nat.le_trans h2 hL, h3⟩, run_succ n (by omega) (by omega) hr]
                  exact run_succ n hF hL h
                · cases h
              · cases h
            · cases h
    · cases h
theorem run_mono {W : List Jvm.Cond} {ro n n' F Lb : Nat} {y : MethodName} {code : ByteArray} {ret : Option FieldType} {pc : Nat} {ls : List Slot} {st : List Value} {M : EMem} {x : Option Value × EMem} {F' Lb' : Nat} (hn : n < n') (hF : F ≤ F') (hL : Lb ≤ Lb')
    (h : run W ro n F Lb y code ret pc ls st M = some x) : run W ro n' F' Lb' y code ret pc ls st M = some x := by
  have : ∀ k, run W ro (n + 1 + k) F' Lb' y code ret pc ls st M = some x := fun k => by
    induction k with
    | zero => exact run_succ n hF hL h
    | succ k ih => exact run_succ _ (Nat.le_refl _) (Nat.le_refl _) ih
  have e : n' = n + 1 + (n' - (n + 1)) := by omega
  rw [e]; exact this _
def Wp (W : List Jvm.Cond) (ro F Lb : Nat) (y : MethodName) (code : ByteArray) (ret : Option FieldType) (pc : Nat) (ls : List Slot) (st : List Value) (M : EMem) (Q : Option Value → EMem → Prop) : Prop :=
  ∃ n v M', run W ro n F Lb y code ret pc ls st M = some (v, M') ∧ Q v M'
section Rules
variable {W : List Jvm.Cond} {ro F Lb : Nat} {y : MethodName} {code : ByteArray} {ret : Option FieldType} {pc : Nat} {ls : List Slot} {st : List Value} {M : EMem} {Q : Option Value → EMem → Prop}
theorem Wp.mono {Q' : Option Value → EMem → Prop} (h : Wp W ro F Lb y code ret pc ls st M Q) (q : ∀ v M', Q v M' → Q' v M') : Wp W ro F Lb y code ret pc ls st M Q' := by
  obtain ⟨n, v, M', h1, h2⟩ := h; exact ⟨n, v, M', h1, q _ _ h2⟩
theorem Wp.room {F' Lb' : Nat} (hF : F ≤ F') (hL : Lb ≤ Lb') (h : Wp W ro F Lb y code ret pc ls st M Q) : Wp W ro F' Lb' y code ret pc ls st M Q := by
  obtain ⟨n, v, M', h1, h2⟩ := h; exact ⟨n + 1, v, M', run_succ n hF hL h1, h2⟩
theorem Wp.p {ins : Instr} {len pc' : Nat} {ls' : List Slot} {st' : List Value} (hd : decode code pc = .ok (ins, len)) (hl : lenOk len ins = true) (he : execP W F Lb y ins pc len ls st M = some (pc', ls', st')) (k : Wp W ro F Lb y code ret pc' ls' st' M Q) : Wp W ro F Lb y code ret pc ls st M Q := by
  obtain ⟨n, v, M', h1, h2⟩ := k
  refine ⟨n + 1, v, M', ?_, h2⟩
  unfold run
  rw [hd]
  simp only
  rw [if_pos hl, he]
  exact h1
theorem Wp.m {ins : Instr} {len : Nat} {st' : List Value} {M1 : EMem} (hd : decode code pc = .ok (ins, len)) (hl : lenOk len ins = true) (hp : execP W F Lb y ins pc len ls st M = none) (he : execM W ro y ins st M = some (st', M1)) (k : Wp W ro F Lb y code ret (pc + len) ls st' M1 Q) : Wp W ro F Lb y code ret pc ls st M Q := by
  obtain ⟨n, v, M', h1, h2⟩ := k
  refine ⟨n + 1, v, M', ?_, h2⟩
  unfold run
  rw [hd]
  simp only
  rw [if_pos hl, hp]
  simp only
  rw [if_pos hl, he]
  exact h1
theorem Wp.r {ins : Instr} {len : Nat} {v : Option Value} (hd : decode code pc = .ok (ins, len)) (hp : execP W F Lb y ins pc len ls st M = none) (hm : execM W ro y ins st M = none) (hr : retOf ins len ret st = some v) (q : Q v M) : Wp W ro F Lb y code ret pc ls st M Q := by
  refine ⟨1, v, M, ?_, q⟩
  unfold run
  rw [hd]
  simp only
  rw [hp, ite_self, hm, ite_self]
  simp only
  rw [hr]
theorem Wp.c {ins : Instr} {len : Nat} {z : MethodName} {as rest : List Value} {b : ByteArray} {mx : Nat} {r : Option FieldType} {F' Lb' w : Nat} (hd : decode code pc = .ok (ins, len)) (hp : execP W F Lb y ins pc len ls st M = none) (hm : execM W ro y ins st M = none) (hr : retOf ins len ret st = none)
    (hc : callOf W y ins len st M = some (z, as, rest, b, mx, r)) (hw : wt rest = w) (h1 : F' + 1 ≤ F) (h2 : w + (mx + 11) + Lb' ≤ Lb) (h3 : (fillL as).length ≤ mx) (k : Wp W ro F' Lb' z b r 0 (entryL as mx) [] M fun v M' => Wp W ro F Lb y code ret (pc + 3) ls (v.toList ++ rest) M' Q) : Wp W ro F Lb y code ret pc ls st M Q := by
  obtain ⟨n1, v1, M1, k1, n2, v2, M2, k2, hq⟩ := k
  subst hw
  refine ⟨n1 + n2 + 3, v2, M2, ?_, hq⟩
  unfold run
  rw [hd]
  simp only
  rw [hp, ite_self, hm, ite_self]
  simp only
  rw [hr, hc]
  simp only
  rw [if_pos ⟨by omega, by omega, h3⟩, run_mono (n' := n1 + n2 + 2) (by omega) (by omega) (by omega) k1]
  exact run_mono (by omega) (Nat.le_refl _) (Nat.le_refl _) k2
theorem Wp.icmp {cd : ClassFile.Cond} {o : Int} {t : Nat} {a b : Int32} {r : List Value} (hd : decode code pc = .ok (.if_icmp cd o, 3)) (hj : jump pc o = some t) (k1 : if_icmp.holds cd a b = true → Wp W ro F Lb y code ret t ls r M Q) (k2 : if_icmp.holds cd a b = false → Wp W ro F Lb y code ret (pc + 3) ls r M Q) : Wp W ro F Lb y code ret pc ls (.int b :: .int a :: r) M Q := by
  have he : execP W F Lb y (.if_icmp cd o) pc 3 ls (.int b :: .int a :: r) M = some (if if_icmp.holds cd a b = true then t else pc + 3, ls, r) := by simp only [execP, hj]
  refine Wp.p hd rfl he ?_
  cases h : if_icmp.holds cd a b with
  | true => rw [if_pos rfl]; exact k1 h
  | false => rw [if_neg Bool.false_ne_true]; exact k2 h
theorem Wp.if0 {cd : ClassFile.Cond} {o : Int} {t : Nat} {a : Int32} {r : List Value} (hd : decode code pc = .ok (.ifCond cd o, 3)) (hj : jump pc o = some t) (k1 : if_icmp.holds cd a 0 = true → Wp W ro F Lb y code ret t ls r M Q) (k2 : if_icmp.holds cd a 0 = false → Wp W ro F Lb y code ret (pc + 3) ls r M Q) : Wp W ro F Lb y code ret pc ls (.int a :: r) M Q := by
  have he : execP W F Lb y (.ifCond cd o) pc 3 ls (.int a :: r) M = some (if ifCond.holds cd a = true then t else pc + 3, ls, r) := by simp only [execP, hj]
  refine Wp.p hd rfl he ?_
  rw [RoadKit.if0]
  cases h : if_icmp.holds cd a 0 with
  | true => rw [if_pos rfl]; exact k1 h
  | false => rw [if_neg Bool.false_ne_true]; exact k2 h
theorem Wp.icmp_lt {o : Int} {t : Nat} {a b : Int32} {r : List Value} (hd : decode code pc = .ok (.if_icmp .lt o, 3)) (hj : jump pc o = some t) (k1 : a < b → Wp W ro F Lb y code ret t ls r M Q) (k2 : ¬ a < b → Wp W ro F Lb y code ret (pc + 3) ls r M Q) : Wp W ro F Lb y code ret pc ls (.int b :: .int a :: r) M Q :=
  Wp.icmp hd hj (fun h => k1 (Classical.byContradiction fun q => by rw [(flt (x := a) (y := b) (by exact q)).1] at h; cases h)) (fun h => k2 (Classical.byContradiction fun q => by rw [(tlt (x := a) (y := b) (by simpa using q)).1] at h; cases h))
theorem Wp.if_lt {o : Int} {t : Nat} {a : Int32} {r : List Value} (hd : decode code pc = .ok (.ifCond .lt o, 3)) (hj : jump pc o = some t) (k1 : a < 0 → Wp W ro F Lb y code ret t ls r M Q) (k2 : ¬ a < 0 → Wp W ro F Lb y code ret (pc + 3) ls r M Q) : Wp W ro F Lb y code ret pc ls (.int a :: r) M Q :=
  Wp.if0 hd hj (fun h => k1 (Classical.byContradiction fun q => by rw [(flt (x := a) (y := 0) (by exact q)).1] at h; cases h)) (fun h => k2 (Classical.byContradiction fun q => by rw [(tlt (x := a) (y := 0) (by simpa using q)).1] at h; cases h))
theorem Wp.icmp_ge {o : Int} {t : Nat} {a b : Int32} {r : List Value} (hd : decode code pc = .ok (.if_icmp .ge o, 3)) (hj : jump pc o = some t) (k1 : ¬ a < b → Wp W ro F Lb y code ret t ls r M Q) (k2 : a < b → Wp W ro F Lb y code ret (pc + 3) ls r M Q) : Wp W ro F Lb y code ret pc ls (.int b :: .int a :: r) M Q :=
  Wp.icmp hd hj (fun h => k1 (Classical.byContradiction fun q => by rw [(tlt (x := a) (y := b) (by simpa using q)).2.1] at h; cases h)) (fun h => k2 (Classical.byContradiction fun q => by rw [(flt (x := a) (y := b) (by exact q)).2.1] at h; cases h))
theorem Wp.if_ge {o : Int} {t : Nat} {a : Int32} {r : List Value} (hd : decode code pc = .ok (.ifCond .ge o, 3)) (hj : jump pc o = some t) (k1 : ¬ a < 0 → Wp W ro F Lb y code ret t ls r M Q) (k2 : a < 0 → Wp W ro F Lb y code ret (pc + 3) ls r M Q) : Wp W ro F Lb y code ret pc ls (.int a :: r) M Q :=
  Wp.if0 hd hj (fun h => k1 (Classical.byContradiction fun q => by rw [(tlt (x := a) (y := 0) (by simpa using q)).2.1] at h; cases h)) (fun h => k2 (Classical.byContradiction fun q => by rw [(flt (x := a) (y := 0) (by exact q)).2.1] at h; cases h))
theorem Wp.icmp_gt {o : Int} {t : Nat} {a b : Int32} {r : List Value} (hd : decode code pc = .ok (.if_icmp .gt o, 3)) (hj : jump pc o = some t) (k1 : b < a → Wp W ro F Lb y code ret t ls r M Q) (k2 : ¬ b < a → Wp W ro F Lb y code ret (pc + 3) ls r M Q) : Wp W ro F Lb y code ret pc ls (.int b :: .int a :: r) M Q :=
  Wp.icmp hd hj (fun h => k1 (Classical.byContradiction fun q => by rw [(flt (x := b) (y := a) (by exact q)).2.2.1] at h; cases h)) (fun h => k2 (Classical.byContradiction fun q => by rw [(tlt (x := b) (y := a) (by simpa using q)).2.2.1] at h; cases h))
theorem Wp.if_gt {o : Int} {t : Nat} {a : Int32} {r : List Value} (hd : decode code pc = .ok (.ifCond .gt o, 3)) (hj : jump pc o = some t) (k1 : 0 < a → Wp W ro F Lb y code ret t ls r M Q) (k2 : ¬ 0 < a → Wp W ro F Lb y code ret (pc + 3) ls r M Q) : Wp W ro F Lb y code ret pc ls (.int a :: r) M Q :=
  Wp.if0 hd hj (fun h => k1 (Classical.byContradiction fun q => by rw [(flt (x := 0) (y := a) (by exact q)).2.2.1] at h; cases h)) (fun h => k2 (Classical.byContradiction fun q => by rw [(tlt (x := 0) (y := a) (by simpa using q)).2.2.1] at h; cases h))
theorem Wp.icmp_le {o : Int} {t : Nat} {a b : Int32} {r : List Value} (hd : decode code pc = .ok (.if_icmp .le o, 3)) (hj : jump pc o = some t) (k1 : ¬ b < a → Wp W ro F Lb y code ret t ls r M Q) (k2 : b < a → Wp W ro F Lb y code ret (pc + 3) ls r M Q) : Wp W ro F Lb y code ret pc ls (.int b :: .int a :: r) M Q :=
  Wp.icmp hd hj (fun h => k1 (Classical.byContradiction fun q => by rw [(tlt (x := b) (y := a) (by simpa using q)).2.2.2] at h; cases h)) (fun h => k2 (Classical.byContradiction fun q => by rw [(flt (x := b) (y := a) (by exact q)).2.2.2] at h; cases h))
theorem Wp.if_le {o : Int} {t : Nat} {a : Int32} {r : List Value} (hd : decode code pc = .ok (.ifCond .le o, 3)) (hj : jump pc o = some t) (k1 : ¬ 0 < a → Wp W ro F Lb y code ret t ls r M Q) (k2 : 0 < a → Wp W ro F Lb y code ret (pc + 3) ls r M Q) : Wp W ro F Lb y code ret pc ls (.int a :: r) M Q :=
  Wp.if0 hd hj (fun h => k1 (Classical.byContradiction fun q => by rw [(tlt (x := 0) (y := a) (by simpa using q)).2.2.2] at h; cases h)) (fun h => k2 (Classical.byContradiction fun q => by rw [(flt (x := 0) (y := a) (by exact q)).2.2.2] at h; cases h))
theorem Wp.icmp_eq {o : Int} {t : Nat} {a b : Int32} {r : List Value} (hd : decode code pc = .ok (.if_icmp .eq o, 3)) (hj : jump pc o = some t) (k1 : a = b → Wp W ro F Lb y code ret t ls r M Q) (k2 : ¬ a = b → Wp W ro F Lb y code ret (pc + 3) ls r M Q) : Wp W ro F Lb y code ret pc ls (.int b :: .int a :: r) M Q :=
  Wp.icmp hd hj (fun h => k1 (Classical.byContradiction fun q => by rw [(feq (x := a) (y := b) (by exact q)).1] at h; cases h)) (fun h => k2 (Classical.byContradiction fun q => by rw [(teq (x := a) (y := b) (by simpa using q)).1] at h; cases h))
theorem Wp.if_eq {o : Int} {t : Nat} {a : Int32} {r : List Value} (hd : decode code pc = .ok (.ifCond .eq o, 3)) (hj : jump pc o = some t) (k1 : a = 0 → Wp W ro F Lb y code ret t ls r M Q) (k2 : ¬ a = 0 → Wp W ro F Lb y code ret (pc + 3) ls r M Q) : Wp W ro F Lb y code ret pc ls (.int a :: r) M Q :=
  Wp.if0 hd hj (fun h => k1 (Classical.byContradiction fun q => by rw [(feq (x := a) (y := 0) (by exact q)).1] at h; cases h)) (fun h => k2 (Classical.byContradiction fun q => by rw [(teq (x := a) (y := 0) (by simpa using q)).1] at h; cases h))
theorem Wp.icmp_ne {o : Int} {t : Nat} {a b : Int32} {r : List Value} (hd : decode code pc = .ok (.if_icmp .ne o, 3)) (hj : jump pc o = some t) (k1 : ¬ a = b → Wp W ro F Lb y code ret t ls r M Q) (k2 : a = b → Wp W ro F Lb y code ret (pc + 3) ls r M Q) : Wp W ro F Lb y code ret pc ls (.int b :: .int a :: r) M Q :=
  Wp.icmp hd hj (fun h => k1 (Classical.byContradiction fun q => by rw [(teq (x := a) (y := b) (by simpa using q)).2] at h; cases h)) (fun h => k2 (Classical.byContradiction fun q => by rw [(feq (x := a) (y := b) (by exact q)).2] at h; cases h))
theorem Wp.if_ne {o : Int} {t : Nat} {a : Int32} {r : List Value} (hd : decode code pc = .ok (.ifCond .ne o, 3)) (hj : jump pc o = some t) (k1 : ¬ a = 0 → Wp W ro F Lb y code ret t ls r M Q) (k2 : a = 0 → Wp W ro F Lb y code ret (pc + 3) ls r M Q) : Wp W ro F Lb y code ret pc ls (.int a :: r) M Q :=
  Wp.if0 hd hj (fun h => k1 (Classical.byContradiction fun q => by rw [(teq (x := a) (y := 0) (by simpa using q)).2] at h; cases h)) (fun h => k2 (Classical.byContradiction fun q => by rw [(feq (x := a) (y := 0) (by exact q)).2] at h; cases h))
variable {L : ELay} {mi : Nat → Nat → Int32} {ml : Nat → Nat → Int64} {mr : Nat → Nat → Value}
theorem Wp.iconst {i : Int} {r : List Value} (v : Int32) (hd : decode code pc = .ok (.iconst i, 1)) (hv : Int32.ofInt i = v) (k : Wp W ro F Lb y code ret (pc + 1) ls (.int v :: r) M Q) : Wp W ro F Lb y code ret pc ls r M Q := by
  subst hv; exact Wp.p hd rfl rfl k
theorem Wp.bipush {i : Int} {r : List Value} (v : Int32) (hd : decode code pc = .ok (.bipush i, 2)) (hv : (Int8.ofInt i).toInt32 = v) (k : Wp W ro F Lb y code ret (pc + 2) ls (.int v :: r) M Q) : Wp W ro F Lb y code ret pc ls r M Q := by
  subst hv; exact Wp.p hd rfl rfl k
theorem Wp.sipush {i : Int} {r : List Value} (v : Int32) (hd : decode code pc = .ok (.sipush i, 3)) (hv : (Int16.ofInt i).toInt32 = v) (k : Wp W ro F Lb y code ret (pc + 3) ls (.int v :: r) M Q) : Wp W ro F Lb y code ret pc ls r M Q := by
  subst hv; exact Wp.p hd rfl rfl k
theorem Wp.lconst {i : Fin 2} {r : List Value} (v : Int64) (hd : decode code pc = .ok (.lconst i, 1)) (hv : Int64.ofNat i = v) (k : Wp W ro F Lb y code ret (pc + 1) ls (.long v :: r) M Q) : Wp W ro F Lb y code ret pc ls r M Q := by
  subst hv; exact Wp.p hd rfl rfl k
theorem Wp.iinc {i : Nat} {d : Int} {x : Int32} {l' : List Slot} (v : Int32) (hd : decode code pc = .ok (.iinc i d, 3)) (hv : Int32.ofInt d = v) (hl : ls[i]? = some (.val (.int x))) (hs : storeL ls i (.int (x + v)) = some l') (k : Wp W ro F Lb y code ret (pc + 3) l' st M Q) : Wp W ro F Lb y code ret pc ls st M Q := by
  subst hv
  exact Wp.p hd rfl (by simp only [execP, hl, hs]) k
theorem Wp.ldc {i : Nat} {r : List Value} {v : Int32} (hd : decode code pc = .ok (.ldc i, 2)) (hv : intLk y.cls i W = some v) (k : Wp W ro F Lb y code ret (pc + 2) ls (.int v :: r) M Q) : Wp W ro F Lb y code ret pc ls r M Q :=
  Wp.p hd rfl (by simp only [execP, hv]) k
theorem Wp.ldcw {i : Nat} {r : List Value} {v : Int32} (hd : decode code pc = .ok (.ldc_w i, 3)) (hv : intLk y.cls i W = some v) (k : Wp W ro F Lb y code ret (pc + 3) ls (.int v :: r) M Q) : Wp W ro F Lb y code ret pc ls r M Q :=
  Wp.p hd rfl (by simp only [execP, hv]) k
theorem Wp.ldc2 {i : Nat} {r : List Value} {v : Int64} (hd : decode code pc = .ok (.ldc2_w i, 3)) (hv : longLk y.cls i W = some v) (k : Wp W ro F Lb y code ret (pc + 3) ls (.long v :: r) M Q) : Wp W ro F Lb y code ret pc ls r M Q :=
  Wp.p hd rfl (by simp only [execP, hv]) k
theorem Wp.getI {i a k n : Nat} {C : String} {fin : Bool} {r : List Value} (v : Int32) (hd : decode code pc = .ok (.getfield i, 3)) (hf : fieldAt W y.cls i = some (C, k, 1, fin)) (hc : L[a]? = some (0, C, n)) (hv : mi a k = v) (q : Wp W ro F Lb y code ret (pc + 3) ls (.int v :: r) (L, mi, ml, mr) Q) : Wp W ro F Lb y code ret pc ls (.ref a :: r) (L, mi, ml, mr) Q := by
  subst hv
  exact Wp.p hd rfl (by simp only [execP, hf, hc, getV, if_true]) q
theorem Wp.getZ {i a k n : Nat} {C : String} {fin : Bool} {r : List Value} (v : Int32) (hd : decode code pc = .ok (.getfield i, 3)) (hf : fieldAt W y.cls i = some (C, k, 2, fin)) (hc : L[a]? = some (0, C, n)) (hv : mi a k = v) (q : Wp W ro F Lb y code ret (pc + 3) ls (.int v :: r) (L, mi, ml, mr) Q) : Wp W ro F Lb y code ret pc ls (.ref a :: r) (L, mi, ml, mr) Q := by
  subst hv
  exact Wp.p hd rfl (by simp only [execP, hf, hc, getV, if_true]) q
theorem Wp.getJ {i a k n : Nat} {C : String} {fin : Bool} {r : List Value} (v : Int64) (hd : decode code pc = .ok (.getfield i, 3)) (hf : fieldAt W y.cls i = some (C, k, 3, fin)) (hc : L[a]? = some (0, C, n)) (hv : ml a k = v) (q : Wp W ro F Lb y code ret (pc + 3) ls (.long v :: r) (L, mi, ml, mr) Q) : Wp W ro F Lb y code ret pc ls (.ref a :: r) (L, mi, ml, mr) Q := by
  subst hv
  exact Wp.p hd rfl (by simp only [execP, hf, hc, getV, if_true]) q
theorem Wp.getR {i a k n b : Nat} {C : String} {fin : Bool} {r : List Value} (hd : decode code pc = .ok (.getfield i, 3)) (hf : fieldAt W y.cls i = some (C, k, 4, fin)) (hc : L[a]? = some (0, C, n)) (hr : mr a k = .ref b) (q : Wp W ro F Lb y code ret (pc + 3) ls (.ref b :: r) (L, mi, ml, mr) Q) : Wp W ro F Lb y code ret pc ls (.ref a :: r) (L, mi, ml, mr) Q :=
  Wp.p hd rfl (by simp only [execP, hf, hc, getV, if_true, hr]) q
theorem Wp.len {a n kd : Nat} {u : String} {r : List Value} (hd : decode code pc = .ok (.arraylength, 1)) (hc : L[a]? = some (kd, u, n)) (hk : kd = 1 ∨ kd = 2 ∨ kd = 3) (q : Wp W ro F Lb y code ret (pc + 1) ls (.int n.toInt32 :: r) (L, mi, ml, mr) Q) : Wp W ro F Lb y code ret pc ls (.ref a :: r) (L, mi, ml, mr) Q := by
  rcases hk with rfl | rfl | rfl <;> exact Wp.p hd rfl (by simp only [execP, hc]) q
theorem Wp.iaload {a n k : Nat} {u : String} {j : Int32} {r : List Value} (v : Int32) (hd : decode code pc = .ok (.iaload, 1)) (hc : L[a]? = some (1, u, n)) (hk : j.toNatClampNeg = k) (hj : inb j n = true) (hv : mi a k = v) (q : Wp W ro F Lb y code ret (pc + 1) ls (.int v :: r) (L, mi, ml, mr) Q) : Wp W ro F Lb y code ret pc ls (.int j :: .ref a :: r) (L, mi, ml, mr) Q := by
  subst hk hv
  exact Wp.p hd rfl (by simp only [execP, hc, hj, if_true]) q
theorem Wp.baload {a n k : Nat} {u : String} {j : Int32} {r : List Value} (v : Int32) (hd : decode code pc = .ok (.baload, 1)) (hc : L[a]? = some (3, u, n)) (hk : j.toNatClampNeg = k) (hj : inb j n = true) (hv : mi a k = v) (q : Wp W ro F Lb y code ret (pc + 1) ls (.int v :: r) (L, mi, ml, mr) Q) : Wp W ro F Lb y code ret pc ls (.int j :: .ref a :: r) (L, mi, ml, mr) Q := by
  subst hk hv
  exact Wp.p hd rfl (by simp only [execP, hc, hj, if_true]) q
theorem Wp.laload {a n k : Nat} {u : String} {j : Int32} {r : List Value} (v : Int64) (hd : decode code pc = .ok (.laload, 1)) (hc : L[a]? = some (2, u, n)) (hk : j.toNatClampNeg = k) (hj : inb j n = true) (hv : ml a k = v) (q : Wp W ro F Lb y code ret (pc + 1) ls (.long v :: r) (L, mi, ml, mr) Q) : Wp W ro F Lb y code ret pc ls (.int j :: .ref a :: r) (L, mi, ml, mr) Q := by
  subst hk hv
  exact Wp.p hd rfl (by simp only [execP, hc, hj, if_true]) q
theorem Wp.iastore {a n k : Nat} {u : String} {j x : Int32} {r : List Value} (hd : decode code pc = .ok (.iastore, 1)) (hc : L[a]? = some (1, u, n)) (hk : j.toNatClampNeg = k) (hj : inb j n = true) (ha : ro ≤ a) (q : Wp W ro F Lb y code ret (pc + 1) ls r (L, up mi a k x, ml, mr) Q) : Wp W ro F Lb y code ret pc ls (.int x :: .int j :: .ref a :: r) (L, mi, ml, mr) Q := by
  subst hk
  exact Wp.m hd rfl rfl (by simp only [execM, hc]; rw [if_pos ⟨hj, ha⟩]) q
theorem Wp.bastore {a n k : Nat} {u : String} {j x : Int32} {r : List Value} (v : Int32) (hd : decode code pc = .ok (.bastore, 1)) (hc : L[a]? = some (3, u, n)) (hk : j.toNatClampNeg = k) (hj : inb j n = true) (ha : ro ≤ a) (hv : x &&& 1 = v) (q : Wp W ro F Lb y code ret (pc + 1) ls r (L, up mi a k v, ml, mr) Q) : Wp W ro F Lb y code ret pc ls (.int x :: .int j :: .ref a :: r) (L, mi, ml, mr) Q := by
  subst hk hv
  exact Wp.m hd rfl rfl (by simp only [execM, hc]; rw [if_pos ⟨hj, ha⟩]) q
theorem Wp.lastore {a n k : Nat} {u : String} {j : Int32} {x : Int64} {r : List Value} (hd : decode code pc = .ok (.lastore, 1)) (hc : L[a]? = some (2, u, n)) (hk : j.toNatClampNeg = k) (hj : inb j n = true) (ha : ro ≤ a) (q : Wp W ro F Lb y code ret (pc + 1) ls r (L, mi, up ml a k x, mr) Q) : Wp W ro F Lb y code ret pc ls (.long x :: .int j :: .ref a :: r) (L, mi, ml, mr) Q := by
  subst hk
  exact Wp.m hd rfl rfl (by simp only [execM, hc]; rw [if_pos ⟨hj, ha⟩]) q
theorem Wp.putI {i a k n u : Nat} {C : String} {fin : Bool} {x : Int32} {r : List Value} (hd : decode code pc = .ok (.putfield i, 3)) (hf : fieldAt W y.cls i = some (C, k, 1, fin)) (hc : L[a]? = some (0, C, n)) (ha : ro ≤ a) (hi : instLk C W = some u) (hfin : fin = false ∨ (y.cls = C ∧ y.name = "<init>")) (q : Wp W ro F Lb y code ret (pc + 3) ls r (L, up mi a k x, ml, mr) Q) : Wp W ro F Lb y code ret pc ls (.int x :: .ref a :: r) (L, mi, ml, mr) Q :=
  Wp.m hd rfl rfl (by simp only [execM, hf, hc]; rw [if_pos ⟨trivial, ha, hfin, by rw [hi]; rfl⟩]) q
theorem Wp.putZ {i a k n u : Nat} {C : String} {fin : Bool} {x : Int32} {r : List Value} (v : Int32) (hd : decode code pc = .ok (.putfield i, 3)) (hf : fieldAt W y.cls i = some (C, k, 2, fin)) (hc : L[a]? = some (0, C, n)) (ha : ro ≤ a) (hi : instLk C W = some u) (hfin : fin = false ∨ (y.cls = C ∧ y.name = "<init>")) (hv : x &&& 1 = v) (q : Wp W ro F Lb y code ret (pc + 3) ls r (L, up mi a k v, ml, mr) Q) : Wp W ro F Lb y code ret pc ls (.int x :: .ref a :: r) (L, mi, ml, mr) Q := by
  subst hv
  exact Wp.m hd rfl rfl (by simp only [execM, hf, hc]; rw [if_pos ⟨trivial, ha, hfin, by rw [hi]; rfl⟩]) q
theorem Wp.putJ {i a k n u : Nat} {C : String} {fin : Bool} {x : Int64} {r : List Value} (hd : decode code pc = .ok (.putfield i, 3)) (hf : fieldAt W y.cls i = some (C, k, 3, fin)) (hc : L[a]? = some (0, C, n)) (ha : ro ≤ a) (hi : instLk C W = some u) (hfin : fin = false ∨ (y.cls = C ∧ y.name = "<init>")) (q : Wp W ro F Lb y code ret (pc + 3) ls r (L, mi, up ml a k x, mr) Q) : Wp W ro F Lb y code ret pc ls (.long x :: .ref a :: r) (L, mi, ml, mr) Q :=
  Wp.m hd rfl rfl (by simp only [execM, hf, hc]; rw [if_pos ⟨trivial, ha, hfin, by rw [hi]; rfl⟩]) q
theorem Wp.putR {i a k n u b : Nat} {C : String} {fin : Bool} {r : List Value} (hd : decode code pc = .ok (.putfield i, 3)) (hf : fieldAt W y.cls i = some (C, k, 4, fin)) (hc : L[a]? = some (0, C, n)) (ha : ro ≤ a) (hi : instLk C W = some u) (hfin : fin = false ∨ (y.cls = C ∧ y.name = "<init>")) (q : Wp W ro F Lb y code ret (pc + 3) ls r (L, mi, ml, up mr a k (.ref b)) Q) : Wp W ro F Lb y code ret pc ls (.ref b :: .ref a :: r) (L, mi, ml, mr) Q :=
  Wp.m hd rfl rfl (by simp only [execM, hf, hc]; rw [if_pos ⟨trivial, ha, hfin, by rw [hi]; rfl⟩]) q
theorem Wp.new {i n a : Nat} {L' : ELay} {C : String} {r : List Value} (hd : decode code pc = .ok (.new i, 3)) (hn : newAt W y.cls i = some (C, n)) (ha : L.length = a) (hL : L ++ [(0, C, n)] = L') (q : Wp W ro F Lb y code ret (pc + 3) ls (.ref a :: r) (L', mi, ml, mr) Q) : Wp W ro F Lb y code ret pc ls r (L, mi, ml, mr) Q := by
  subst ha hL
  exact Wp.m hd rfl rfl (by simp only [execM, hn]) q
theorem Wp.new_int {n : Int32} {a z : Nat} {L' : ELay} {r : List Value} (hd : decode code pc = .ok (.newarray .int, 2)) (ha : hasArr .int W = true) (hn : ¬ n < 0 ∧ n.toNatClampNeg * 8 ≤ 536870912) (hz : n.toNatClampNeg = z) (he : L.length = a) (hL : L ++ [(1, "", z)] = L') (q : Wp W ro F Lb y code ret (pc + 2) ls (.ref a :: r) (L', mi, ml, mr) Q) : Wp W ro F Lb y code ret pc ls (.int n :: r) (L, mi, ml, mr) Q := by
  subst hz he hL
  exact Wp.m hd rfl rfl (by simp only [execM]; rw [if_pos ⟨hn.1, hn.2, ha⟩]) q
theorem Wp.new_long {n : Int32} {a z : Nat} {L' : ELay} {r : List Value} (hd : decode code pc = .ok (.newarray .long, 2)) (ha : hasArr .long W = true) (hn : ¬ n < 0 ∧ n.toNatClampNeg * 8 ≤ 536870912) (hz : n.toNatClampNeg = z) (he : L.length = a) (hL : L ++ [(2, "", z)] = L') (q : Wp W ro F Lb y code ret (pc + 2) ls (.ref a :: r) (L', mi, ml, mr) Q) : Wp W ro F Lb y code ret pc ls (.int n :: r) (L, mi, ml, mr) Q := by
  subst hz he hL
  exact Wp.m hd rfl rfl (by simp only [execM]; rw [if_pos ⟨hn.1, hn.2, ha⟩]) q
theorem Wp.new_boolean {n : Int32} {a z : Nat} {L' : ELay} {r : List Value} (hd : decode code pc = .ok (.newarray .boolean, 2)) (ha : hasArr .boolean W = true) (hn : ¬ n < 0 ∧ n.toNatClampNeg * 8 ≤ 536870912) (hz : n.toNatClampNeg = z) (he : L.length = a) (hL : L ++ [(3, "", z)] = L') (q : Wp W ro F Lb y code ret (pc + 2) ls (.ref a :: r) (L', mi, ml, mr) Q) : Wp W ro F Lb y code ret pc ls (.int n :: r) (L, mi, ml, mr) Q := by
  subst hz he hL
  exact Wp.m hd rfl rfl (by simp only [execM]; rw [if_pos ⟨hn.1, hn.2, ha⟩]) q
theorem Wp.objInit {i a w : Nat} {r : List Value} (hd : decode code pc = .ok (.invokespecial i, 3)) (ho : objInitAt W y.cls i = true) (hw : wt r = w) (h1 : 1 ≤ F) (h2 : w + 12 ≤ Lb) (q : Wp W ro F Lb y code ret (pc + 3) ls r M Q) : Wp W ro F Lb y code ret pc ls (.ref a :: r) M Q :=
  Wp.p hd rfl (by simp only [execP]; rw [if_pos ⟨ho, h1, by rw [hw]; exact h2⟩]) q
/-- a private method -/
theorem Wp.callP {i na mx a n F' Lb' w : Nat} {z : MethodName} {b : ByteArray} {rt : Option FieldType} {as rest : List Value} (hd : decode code pc = .ok (.invokevirtual i, 3)) (hc : callAt W y.cls i 1 = some (z, na, b, mx, rt)) (hl : L[a]? = some (0, z.cls, n)) (hs : st = as.reverse ++ .ref a :: rest) (hna : as.length = na) (hw : wt rest = w) (h1 : F' + 1 ≤ F) (h2 : w + (mx + 11) + Lb' ≤ Lb) (h3 : (fillL (.ref a :: as)).length ≤ mx)
    (k : Wp W ro F' Lb' z b rt 0 (entryL (.ref a :: as) mx) [] (L, mi, ml, mr) fun v M' => Wp W ro F Lb y code ret (pc + 3) ls (v.toList ++ rest) M' Q) : Wp W ro F Lb y code ret pc ls st (L, mi, ml, mr) Q := by
  subst hs hna
  refine Wp.c hd rfl rfl rfl ?_ hw h1 h2 h3 k
  have e1 : (as.reverse ++ Value.ref a :: rest).drop as.length = .ref a :: rest := by rw [← List.length_reverse (as := as), List.drop_left]
  have e2 : (as.reverse ++ Value.ref a :: rest).take as.length = as.reverse := by rw [← List.length_reverse (as := as), List.take_left]
  simp only [callOf, if_true, hc, e1, e2, hl, List.length_reverse, and_self, List.reverse_reverse]
theorem Wp.callV {i na mx a n F' Lb' w : Nat} {z : MethodName} {b : ByteArray} {rt : Option FieldType} {as rest : List Value} (hd : decode code pc = .ok (.invokevirtual i, 3)) (hc0 : callAt W y.cls i 1 = none) (hc : callAt W y.cls i 0 = some (z, na, b, mx, rt)) (hl : L[a]? = some (0, z.cls, n)) (hs : st = as.reverse ++ .ref a :: rest) (hna : as.length = na) (hw : wt rest = w) (h1 : F' + 1 ≤ F) (h2 : w + (mx + 11) + Lb' ≤ Lb) (h3 : (fillL (.ref a :: as)).length ≤ mx)
    (k : Wp W ro F' Lb' z b rt 0 (entryL (.ref a :: as) mx) [] (L, mi, ml, mr) fun v M' => Wp W ro F Lb y code ret (pc + 3) ls (v.toList ++ rest) M' Q) : Wp W ro F Lb y code ret pc ls st (L, mi, ml, mr) Q := by
  subst hs hna
  refine Wp.c hd rfl rfl rfl ?_ hw h1 h2 h3 k
  have e1 : (as.reverse ++ Value.ref a :: rest).drop as.length = .ref a :: rest := by rw [← List.length_reverse (as := as), List.drop_left]
  have e2 : (as.reverse ++ Value.ref a :: rest).take as.length = as.reverse := by rw [← List.length_reverse (as := as), List.take_left]
  simp only [callOf, if_true, hc0, hc, e1, e2, hl, List.length_reverse, and_self, List.reverse_reverse]
theorem Wp.callI {i na mx a F' Lb' w : Nat} {z : MethodName} {b : ByteArray} {rt : Option FieldType} {as rest : List Value} (hd : decode code pc = .ok (.invokespecial i, 3)) (ho : objInitAt W y.cls i = false) (hc : callAt W y.cls i 2 = some (z, na, b, mx, rt)) (hs : st = as.reverse ++ .ref a :: rest) (hna : as.length = na) (hw : wt rest = w) (h1 : F' + 1 ≤ F) (h2 : w + (mx + 11) + Lb' ≤ Lb) (h3 : (fillL (.ref a :: as)).length ≤ mx)
    (k : Wp W ro F' Lb' z b rt 0 (entryL (.ref a :: as) mx) [] M fun v M' => Wp W ro F Lb y code ret (pc + 3) ls (v.toList ++ rest) M' Q) : Wp W ro F Lb y code ret pc ls st M Q := by
  subst hs hna
  refine Wp.c hd ?_ rfl rfl ?_ hw h1 h2 h3 k
  · have e : ∀ s' : List Value, execP W F Lb y (.invokespecial i) pc 3 ls s' M = none := fun s' => by
      simp only [execP, ho]
      split
      · rw [if_neg]; intro q; cases q.1
      · rfl
    exact e _
  have e1 : (as.reverse ++ Value.ref a :: rest).drop as.length = .ref a :: rest := by rw [← List.length_reverse (as := as), List.drop_left]
  have e2 : (as.reverse ++ Value.ref a :: rest).take as.length = as.reverse := by rw [← List.length_reverse (as := as), List.take_left]
  simp only [callOf, if_true, hc, e1, e2, List.length_reverse, List.reverse_reverse]
theorem Wp.callS {i na mx F' Lb' w : Nat} {z : MethodName} {b : ByteArray} {rt : Option FieldType} {as rest : List Value} (hd : decode code pc = .ok (.invokestatic i, 3)) (hc : callAt W y.cls i 3 = some (z, na, b, mx, rt)) (hs : st = as.reverse ++ rest) (hna : as.length = na) (hw : wt rest = w) (h1 : F' + 1 ≤ F) (h2 : w + (mx + 11) + Lb' ≤ Lb) (h3 : (fillL as).length ≤ mx)
    (k : Wp W ro F' Lb' z b rt 0 (entryL as mx) [] M fun v M' => Wp W ro F Lb y code ret (pc + 3) ls (v.toList ++ rest) M' Q) : Wp W ro F Lb y code ret pc ls st M Q := by
  subst hs hna
  refine Wp.c hd rfl rfl rfl ?_ hw h1 h2 h3 k
  have e1 : (as.reverse ++ rest).drop as.length = rest := by rw [← List.length_reverse (as := as), List.drop_left]
  have e2 : (as.reverse ++ rest).take as.length = as.reverse := by rw [← List.length_reverse (as := as), List.take_left]
  simp only [callOf, if_true, hc, e1, e2, List.length_reverse, List.reverse_reverse]
theorem Wp.top {a : Int32} {r : List Value} (v : Int32) (h : a = v) (k : Wp W ro F Lb y code ret pc ls (.int v :: r) M Q) : Wp W ro F Lb y code ret pc ls (.int a :: r) M Q := by subst h; exact k
theorem Wp.topJ {a : Int64} {r : List Value} (v : Int64) (h : a = v) (k : Wp W ro F Lb y code ret pc ls (.long v :: r) M Q) : Wp W ro F Lb y code ret pc ls (.long a :: r) M Q := by subst h; exact k
theorem Wp.icmpT {cd : ClassFile.Cond} {o : Int} {t : Nat} {a b : Int32} {r : List Value} (hd : decode code pc = .ok (.if_icmp cd o, 3)) (hj : jump pc o = some t) (h : if_icmp.holds cd a b = true) (k : Wp W ro F Lb y code ret t ls r M Q) : Wp W ro F Lb y code ret pc ls (.int b :: .int a :: r) M Q :=
  Wp.icmp hd hj (fun _ => k) (fun q => by rw [h] at q; cases q)
theorem Wp.icmpF {cd : ClassFile.Cond} {o : Int} {t : Nat} {a b : Int32} {r : List Value} (hd : decode code pc = .ok (.if_icmp cd o, 3)) (hj : jump pc o = some t) (h : if_icmp.holds cd a b = false) (k : Wp W ro F Lb y code ret (pc + 3) ls r M Q) : Wp W ro F Lb y code ret pc ls (.int b :: .int a :: r) M Q :=
  Wp.icmp hd hj (fun q => by rw [h] at q; cases q) (fun _ => k)
theorem Wp.ifT {cd : ClassFile.Cond} {o : Int} {t : Nat} {a : Int32} {r : List Value} (hd : decode code pc = .ok (.ifCond cd o, 3)) (hj : jump pc o = some t) (h : if_icmp.holds cd a 0 = true) (k : Wp W ro F Lb y code ret t ls r M Q) : Wp W ro F Lb y code ret pc ls (.int a :: r) M Q :=
  Wp.if0 hd hj (fun _ => k) (fun q => by rw [h] at q; cases q)
theorem Wp.ifF {cd : ClassFile.Cond} {o : Int} {t : Nat} {a : Int32} {r : List Value} (hd : decode code pc = .ok (.ifCond cd o, 3)) (hj : jump pc o = some t) (h : if_icmp.holds cd a 0 = false) (k : Wp W ro F Lb y code ret (pc + 3) ls r M Q) : Wp W ro F Lb y code ret pc ls (.int a :: r) M Q :=
  Wp.if0 hd hj (fun q => by rw [h] at q; cases q) (fun _ => k)
theorem Wp.idiv {a b : Int32} {r : List Value} (hd : decode code pc = .ok (.idiv, 1)) (hb : ¬ b = 0) (k : Wp W ro F Lb y code ret (pc + 1) ls (.int (a / b) :: r) M Q) : Wp W ro F Lb y code ret pc ls (.int b :: .int a :: r) M Q :=
  Wp.p hd rfl (by simp only [execP]; rw [if_neg hb]) k
theorem Wp.irem {a b : Int32} {r : List Value} (hd : decode code pc = .ok (.irem, 1)) (hb : ¬ b = 0) (k : Wp W ro F Lb y code ret (pc + 1) ls (.int (a - (a / b) * b) :: r) M Q) : Wp W ro F Lb y code ret pc ls (.int b :: .int a :: r) M Q :=
  Wp.p hd rfl (by simp only [execP]; rw [if_neg hb]) k
theorem Wp.ldiv {a b : Int64} {r : List Value} (hd : decode code pc = .ok (.ldiv, 1)) (hb : ¬ b = 0) (k : Wp W ro F Lb y code ret (pc + 1) ls (.long (a / b) :: r) M Q) : Wp W ro F Lb y code ret pc ls (.long b :: .long a :: r) M Q :=
  Wp.p hd rfl (by simp only [execP]; rw [if_neg hb]) k
theorem Wp.lrem {a b : Int64} {r : List Value} (hd : decode code pc = .ok (.lrem, 1)) (hb : ¬ b = 0) (k : Wp W ro F Lb y code ret (pc + 1) ls (.long (a - (a / b) * b) :: r) M Q) : Wp W ro F Lb y code ret pc ls (.long b :: .long a :: r) M Q :=
  Wp.p hd rfl (by simp only [execP]; rw [if_neg hb]) k
theorem storeL_one {l l' : List Slot} {i : Nat} {o : Slot} {v : Value} (h : l[i]? = some o) (ho : One o) (hv : v.category = 1) (hs : setL l i (.val v) = some l') : storeL l i v = some l' := by
  unfold storeL
  rw [h]
  have e : storeSelfL l i v = some l' := by
    unfold storeSelfL
    rw [hs]
    simp [hv]
  rcases ho with rfl | ⟨w, rfl, hw⟩
  · exact e
  · simp [hw, e]
theorem Wp.istoreO {ins : Instr} {i len : Nat} {o : Slot} {x : Int32} {l' : List Slot} {r : List Value} (hd : decode code pc = .ok (ins, len)) (hi : (ins = .istore i ∧ len = 2) ∨ (∃ n : Fin 4, ins = .istore_n n ∧ n.val = i ∧ len = 1)) (h : ls[i]? = some o) (ho : One o) (hs : setL ls i (.val (.int x)) = some l') (k : Wp W ro F Lb y code ret (pc + len) l' r M Q) : Wp W ro F Lb y code ret pc ls (.int x :: r) M Q := by
  rcases hi with ⟨rfl, rfl⟩ | ⟨n, rfl, rfl, rfl⟩
  · exact Wp.p hd rfl (by simp only [execP, storeL_one h ho (v := .int x) rfl hs]) k
  · exact Wp.p hd rfl (by simp only [execP, storeL_one h ho (v := .int x) rfl hs]) k
def OneJ (a b : Slot) : Prop := (a = .unset ∧ b = .unset) ∨ (∃ w, a = .val (.long w) ∧ b = .second)
theorem storeL_oneJ {l l1 l2 : List Slot} {i : Nat} {a b : Slot} {x : Int64} (h : l[i]? = some a) (h' : l[i + 1]? = some b) (ho : OneJ a b) (h1 : setL l i (.val (.long x)) = some l1) (h2 : setL l1 (i + 1) .second = some l2) : storeL l i (.long x) = some l2 := by
  obtain ⟨hi, rfl⟩ := setL_some h1
  obtain ⟨hi2, rfl⟩ := setL_some h2
  have hlen : i + 1 < l.length := by simpa using hi2
  have set_ok : ∀ (l : List Slot) (j : Nat) (y : Slot), j < l.length → setL l j y = some (l.set j y) := fun l => by
    induction l with
    | nil => intro j y hj; simp at hj
    | cons q t ih =>
      intro j y hj
      cases j with
      | zero => rfl
      | succ j => simp only [setL, ih j y (by simpa using hj), List.set_cons_succ]
  rcases ho with ⟨rfl, rfl⟩ | ⟨w, rfl, rfl⟩
  · have e : (l.set i (.val (.long x)))[i + 1]? = some .unset := by rw [List.getElem?_set_ne (by omega)]; exact h'
    simp only [storeL, h, storeSelfL, h1, Value.category, if_true, e]
    exact h2
  · have e0 : setL l (i + 1) .unset = some (l.set (i + 1) .unset) := set_ok _ _ _ hlen
    have e1 : setL (l.set (i + 1) .unset) i (.val (.long x)) = some ((l.set (i + 1) .unset).set i (.val (.long x))) := set_ok _ _ _ (by simpa using hi)
    have e2 : ((l.set (i + 1) .unset).set i (.val (.long x)))[i + 1]? = some .unset := by rw [List.getElem?_set_ne (by omega)]; simp [hlen]
    have e3 : setL ((l.set (i + 1) .unset).set i (.val (.long x))) (i + 1) .second = some (((l.set (i + 1) .unset).set i (.val (.long x))).set (i + 1) .second) := set_ok _ _ _ (by simpa using hlen)
    simp only [storeL, h, storeSelfL, Value.category, if_true, e0, e1, e2, e3]
    congr 1
    apply List.ext_getElem?
    intro j
    by_cases q1 : j = i + 1
    · subst q1; simp [hlen]
    · by_cases q2 : j = i
      · subst q2
        have z1 : (((l.set (j + 1) Slot.unset).set j (.val (.long x))).set (j + 1) .second)[j]? = some (.val (.long x)) := by
          rw [List.getElem?_set_ne (by omega)]; exact List.getElem?_set_self (by simpa using hi)
        have z2 : ((l.set j (Slot.val (.long x))).set (j + 1) .second)[j]? = some (.val (.long x)) := by
          rw [List.getElem?_set_ne (by omega)]; exact List.getElem?_set_self hi
        rw [z1, z2]
      · rw [List.getElem?_set_ne (by omega), List.getElem?_set_ne (by omega), List.getElem?_set_ne (by omega), List.getElem?_set_ne (by omega), List.getElem?_set_ne (by omega)]
theorem Wp.lstoreO {ins : Instr} {i len : Nat} {a b : Slot} {x : Int64} {l1 l2 : List Slot} {r : List Value} (hd : decode code pc = .ok (ins, len)) (hi : (ins = .lstore i ∧ len = 2) ∨ (∃ n : Fin 4, ins = .lstore_n n ∧ n.val = i ∧ len = 1)) (h : ls[i]? = some a) (h' : ls[i + 1]? = some b) (ho : OneJ a b) (h1 : setL ls i (.val (.long x)) = some l1) (h2 : setL l1 (i + 1) .second = some l2) (k : Wp W ro F Lb y code ret (pc + len) l2 r M Q) : Wp W ro F Lb y code ret pc ls (.long x :: r) M Q := by
  rcases hi with ⟨rfl, rfl⟩ | ⟨n, rfl, rfl, rfl⟩
  · exact Wp.p hd rfl (by simp only [execP, storeL_oneJ h h' ho h1 h2]) k
  · exact Wp.p hd rfl (by simp only [execP, storeL_oneJ h h' ho h1 h2]) k
theorem Wp.tswD {dflt low high : Int} {offs : Array Int} {len t : Nat} {i : Int32} {r : List Value} (hd : decode code pc = .ok (.tableswitch dflt low high offs, len)) (hout : i.toInt < low ∨ i.toInt > high) (hj : jump pc dflt = some t) (k : Wp W ro F Lb y code ret t ls r M Q) : Wp W ro F Lb y code ret pc ls (.int i :: r) M Q :=
  Wp.p hd rfl (by simp only [execP]; rw [if_pos hout, hj]) k
theorem Wp.retV (hd : decode code pc = .ok (.return_, 1)) (q : Q none M) : Wp W ro F Lb y code none pc ls [] M Q := Wp.r hd rfl rfl rfl q
theorem Wp.retI {x : Int32} (hd : decode code pc = .ok (.ireturn, 1)) (q : Q (some (.int x)) M) : Wp W ro F Lb y code (some .int) pc ls [.int x] M Q := Wp.r hd rfl rfl rfl q
theorem Wp.retJ {x : Int64} (hd : decode code pc = .ok (.lreturn, 1)) (q : Q (some (.long x)) M) : Wp W ro F Lb y code (some .long) pc ls [.long x] M Q := Wp.r hd rfl rfl rfl q
theorem Wp.retZ {x : Int32} (v : Int32) (hd : decode code pc = .ok (.ireturn, 1)) (hv : x &&& 1 = v) (q : Q (some (.int v)) M) : Wp W ro F Lb y code (some .boolean) pc ls [.int x] M Q := by
  subst hv; exact Wp.r hd rfl rfl rfl q
end Rules
end Jvm.OwnEv
namespace Jvm.OwnEv
open Sem ClassFile Op Lib Jvm.Stand Jvm.Free Jvm.LawKit Jvm.RoadKit
/-! PART 7: from a law's run to its claim -/
theorem law_run {l : Launch} {W : List Jvm.Cond} {x : MethodName} {code : ByteArray} {maxL : Nat} {ret : Option FieldType} {R : Room} {as : List Value} {s : State} {a0 : Array Value} (hw : ∀ d ∈ W, d.before a0 s = true) {ro : Nat} {M0 : EMem} {ρ : Nat → Addr} (hρ : ∀ a b, ρ a = ρ b → a = b) (hρn : ∀ a, ro ≤ a → ρ a = s.heap.size + (a - ro))
    (Rl : Rel s W ρ ro s.heap.size s.heap M0) (hp : plainName x.cls = true) (hfl : (fillL as).length ≤ maxL)
    (h : Wp W ro R.frames R.locals x code ret 0 (entryL as maxL) [] M0 fun v M' => v = some (.int 1) ∧ M'.1.length - M0.1.length ≤ R.cells ∧ szL M'.1 - szL M0.1 ≤ R.slots) (ws : List Jvm.Cond) :
    MetFree l x (head1 (Jvm.Cond.code x code maxL ret :: ws) R) (fun a U => a = (as.map (conc ρ)).toArray ∧ s.Warmed39 U.vm ∧ U.heap = s.heap) (fun _ _ _ _ _ => True)
      (fun _ U o U' => ∃ v' L, o = .returned v' ∧ (v' = some (.int 1) ∧ Fr s.heap.size L) ∧ FrameEnd U o U' L R.cells R.slots) := by
  obtain ⟨n, v, M', h1, rfl, h3, h4⟩ := h
  have M1 := met_of (run_good (l := l) hw hρ hρn n) h1 hfl hp Rl (R := R) (Nat.le_refl _) (Nat.le_refl _) h3 h4 ws
  intro p e ha hc hk s' m args below hf happ hP hK
  obtain ⟨n', o, q1, q2, q3, v', L, q4, ⟨q5, q6, q7⟩, q8⟩ := M1 p e ha hc hk s' m args below hf happ hP hK
  exact ⟨n', o, q1, q2, q3, v', L, q4, ⟨q5, q7⟩, q8.1, q8.2.1, q8.2.2.mono h3 h4⟩
/-- the memory ahead of a law of ints -/
abbrev mem0 : EMem := ([], fun _ _ => 0, fun _ _ => 0, fun _ _ => .null)
theorem rel0 (s : State) (W : List Jvm.Cond) : Rel s W (fun a => s.heap.size + a) 0 s.heap.size s.heap mem0 :=
  ⟨rfl, Nat.le_refl _, fun a c h => by simp at h, fun _ _ _ => ⟨rfl, rfl, rfl⟩⟩
/-- the memory ahead of a law that is handed an array of ints -/
abbrev mem1 (n : Nat) (f : Nat → Int32) : EMem := ([(1, "", n)], fun a k => if a = 0 then f k else 0, fun _ _ => 0, fun _ _ => .null)
def rho1 (sa n0 : Nat) : Nat → Nat := fun a => if a = 0 then sa else n0 + (a - 1)
theorem rho1_inj {sa n0 : Nat} (h : sa < n0) (a b : Nat) (e : rho1 sa n0 a = rho1 sa n0 b) : a = b := by
  unfold rho1 at e
  split at e <;> split at e <;> omega
theorem rho1_n {sa n0 : Nat} (a : Nat) (h : 1 ≤ a) : rho1 sa n0 a = n0 + (a - 1) := by
  unfold rho1
  rw [if_neg (by omega)]
theorem rel1 {s : State} (W : List Jvm.Cond) {sa : Addr} {c : Cell} {f : Nat → Int32} (A : Arr s s.heap sa c .int) (hf : ∀ k, k < c.slots.size → c.slots[k]? = some (.int (f k))) : Rel s W (rho1 sa s.heap.size) 1 s.heap.size s.heap (mem1 c.slots.size f) := by
  refine ⟨rfl, Nat.le_refl _, fun a cc h => ?_, fun a h k => ⟨?_, rfl, rfl⟩⟩
  · cases a with
    | zero =>
      simp at h
      subst h
      exact ⟨fun q => (by cases q), fun _ => ⟨c, A, rfl, fun k hk => by simpa using hf k hk⟩, fun q => (by cases q), fun q => (by cases q)⟩
    | succ a => simp at h
  · have h' : 1 ≤ a := h
    exact if_neg (by omega)
theorem script_start {s : State} {a : Addr} {c : Cell} (hf : Fit s) (A : Arr s s.heap a c .int) (hn : c.slots.size < 2 ^ 31) : ∃ f : Nat → Int32, ∀ k, k < c.slots.size → c.slots[k]? = some (.int (f k)) := by
  refine ⟨fun k => atv c k.toInt32, fun k hk => ?_⟩
  obtain ⟨n, -, S⟩ := Scr.start hf A hn
  have h1 := idx_in hk hn
  have e : k.toInt32.toNatClampNeg = k := by
    have q : k.toInt32.toInt = k := len_toInt (by omega)
    simp only [Int32.toNatClampNeg, q]; rfl
  have h2 := S.2.2.2 k.toInt32 h1
  rw [e] at h2
  exact h2
theorem script_len {s : State} {a : Addr} {c : Cell} (A : Arr s s.heap a c .int) (h : (Jvm.Cond.le (Term.length (Term.arg 0)) (Term.int 260)).value #[Value.ref a] s none s [] = some true) : c.slots.size ≤ 260 := by
  have e := A.fin (Vm.Alike.refl _)
  by_cases hn : c.slots.size < 2 ^ 31
  · have el : (Term.length (Term.arg 0)).eval #[Value.ref a] s none [] s = some (.int c.slots.size.toInt32) := by
      simp [Term.eval, e, hn]
    have q := gotT (Cond.le_ints el (Term.int_eval 260)) h
    rw [Int32.le_iff_toInt_le, len_toInt hn] at q
    simp at q
    omega
  · have el : (Term.length (Term.arg 0)).eval #[Value.ref a] s none [] s = none := by
      simp [Term.eval, e, hn]
    simp [Cond.value, el] at h
end Jvm.OwnEv
namespace Jvm.OwnEv
open Sem ClassFile Op Lib Jvm.Stand Jvm.Free Jvm.LawKit Jvm.RoadKit
/-! PART 8: small facts on words and ints -/
theorem codeLk_at {y : MethodName} {b : ByteArray} {n : Nat} {r : Option FieldType} : ∀ {W : List Jvm.Cond} {i : Nat}, W[i]? = some (.code y b n r) → codeLk y (W.take i) = none → codeLk y W = some (b, n, r)
  | [], i, h, _ => by simp at h
  | w :: t, 0, h, _ => by
    simp at h
    subst h
    have : meq y y = true := by simp [meq]
    simp [codeLk, this]
  | w :: t, i + 1, h, h2 => by
    rw [List.getElem?_cons_succ] at h
    rw [List.take_succ_cons] at h2
    have key : codeLk y (t.take i) = none ∧ codeLk y (w :: t) = codeLk y t := by
      unfold codeLk at h2
      split at h2
      · rename_i heq; cases heq
      · rename_i heq
        cases heq
        split at h2
        · cases h2
        · rename_i hm
          exact ⟨h2, by rw [codeLk, if_neg hm]⟩
      · rename_i hno heq
        cases heq
        refine ⟨h2, ?_⟩
        rw [codeLk]
        exact hno
    rw [key.2]
    exact codeLk_at h key.1
theorem callAt_of {W : List Jvm.Cond} {own : String} {idx kd : Nat} {z : MethodName} {b : ByteArray} {n na : Nat} {r : Option FieldType} {sig : MethodDescriptor} (hm : methodLk own idx W = some z) (hc : codeLk z W = some (b, n, r)) (hp : parseMethodDescriptor z.desc = some sig)
    (h : hasInit z.cls W = true ∧ plainName z.cls = true ∧ z.cls ≠ "java/lang/invoke/MethodHandle" ∧ z.cls ≠ "java/lang/invoke/VarHandle" ∧ ((kd = 0 ∧ hasDecl z W = true ∧ hasSel z W = true ∧ hasInst z W = true) ∨ (kd = 1 ∧ hasPriv z W = true ∧ hasInst z W = true ∧ (instLk z.cls W).isSome = true) ∨ (kd = 2 ∧ z.name = "<init>" ∧ hasInst z W = true ∧ r = none) ∨ (kd = 3 ∧ hasStat z W = true)))
    (hn : sig.parameters.length = na) : callAt W own idx kd = some (z, na, b, n, r) := by
  subst hn
  unfold callAt
  rw [hm]
  simp only
  rw [hc, hp]
  simp only
  rw [if_pos h]
theorem callAt_pub {W : List Jvm.Cond} {own : String} {idx : Nat} {z : MethodName} (hm : methodLk own idx W = some z) (hp : hasPriv z W = false) : callAt W own idx 1 = none := by
  unfold callAt
  rw [hm]
  simp only
  split
  · rw [if_neg]
    rintro ⟨-, -, -, -, h⟩
    rcases h with h | h | h | h
    · cases h.1
    · rw [hp] at h; cases h.2.1
    · cases h.1
    · cases h.1
  · rfl
theorem inb_iff {j : Int32} {n : Nat} : inb j n = true ↔ 0 ≤ j.toInt ∧ j.toInt < n := by
  simp only [inb, Bool.and_eq_true, decide_eq_true_eq, Int32.lt_iff_toInt_lt, Int32.toNatClampNeg, Int32.reduceToInt]
  omega
theorem inb_of {j : Int32} {n : Nat} (h : 0 ≤ j.toInt ∧ j.toInt < n) : inb j n = true := inb_iff.mpr h
theorem inb_lt {j : Int32} {n : Nat} (m : Int32) (h1 : ¬ j < 0) (h2 : j < m) (hm : m.toInt = n) : inb j n = true := by
  rw [inb_iff]
  rw [Int32.lt_iff_toInt_lt] at h1 h2
  simp at h1
  omega
theorem clamp_inj {a b : Int32} (ha : ¬ a < 0) (hb : ¬ b < 0) (h : a.toNatClampNeg = b.toNatClampNeg) : a = b := by
  rw [Int32.lt_iff_toInt_lt] at ha hb
  simp at ha hb
  simp only [Int32.toNatClampNeg] at h
  apply Int32.toInt_inj.mp
  omega
theorem clamp_lt {j : Int32} {n : Nat} (m : Int32) (h1 : ¬ j < 0) (h2 : j < m) (hm : m.toInt = n) : j.toNatClampNeg < n := by
  rw [Int32.lt_iff_toInt_lt] at h1 h2
  simp at h1
  simp only [Int32.toNatClampNeg]
  omega
theorem up_at {α : Type} (f : Nat → Nat → α) (a k : Nat) (v : α) (x y : Nat) : up f a k v x y = if x = a ∧ y = k then v else f x y := rfl
theorem succ_int {x n : Int32} (h : x < n) : (x + 1).toInt = x.toInt + 1 := by
  rw [Int32.lt_iff_toInt_lt] at h
  have h1 := c_iadd x 1
  have h2 := rng32 (x + 1)
  have h3 := rng32 x
  have h4 := rng32 n
  have h5 : (1 : Int32).toInt = 1 := by decide
  omega
theorem succ_nn {x n : Int32} (hx : ¬ x < 0) (h : x < n) : ¬ x + 1 < 0 := by
  have hs := succ_int h
  rw [Int32.lt_iff_toInt_lt] at hx ⊢
  have z : (0 : Int32).toInt = 0 := by decide
  rw [z] at hx ⊢
  omega
theorem succ_dec {x n : Int32} (h : x < n) : (n.toInt - (x + 1).toInt).toNat < (n.toInt - x.toInt).toNat := by
  have hs := succ_int h
  rw [Int32.lt_iff_toInt_lt] at h
  omega
theorem lt_of_succ {a x n : Int32} (h : x < n) (h2 : a < x + 1) (q : ¬ a = x) : a < x := by
  have hs := succ_int h
  rw [Int32.lt_iff_toInt_lt] at h2 ⊢
  have : a.toInt ≠ x.toInt := fun z => q (Int32.toInt_inj.mp z)
  omega
theorem pred_int {x : Int32} (hx : ¬ x < 0) : (x + -1).toInt = x.toInt - 1 := by
  have h1 := c_iadd x (-1)
  have h2 := rng32 (x + -1)
  have h3 := rng32 x
  have h5 : (-1 : Int32).toInt = -1 := by decide
  have z : (0 : Int32).toInt = 0 := by decide
  rw [Int32.lt_iff_toInt_lt, z] at hx
  omega
theorem mul_int {a b : Int32} (h1 : -2147483648 ≤ a.toInt * b.toInt) (h2 : a.toInt * b.toInt < 2147483648) : (a * b).toInt = a.toInt * b.toInt := by
  have h3 := c_imul a b
  have h4 := rng32 (a * b)
  generalize a.toInt * b.toInt = p at *
  omega
theorem add_int {a b : Int32} (h1 : -2147483648 ≤ a.toInt + b.toInt) (h2 : a.toInt + b.toInt < 2147483648) : (a + b).toInt = a.toInt + b.toInt := by
  have h3 := c_iadd a b
  have h4 := rng32 (a + b)
  omega
theorem sub_int {a b : Int32} (h1 : -2147483648 ≤ a.toInt - b.toInt) (h2 : a.toInt - b.toInt < 2147483648) : (a - b).toInt = a.toInt - b.toInt := by
  have h3 := c_isub a b
  have h4 := rng32 (a - b)
  omega
theorem nn_int {a : Int32} (h : ¬ a < 0) : 0 ≤ a.toInt := by
  rw [Int32.lt_iff_toInt_lt] at h
  have z : (0 : Int32).toInt = 0 := by decide
  rw [z] at h; omega
theorem lt_int {a b : Int32} (h : a < b) : a.toInt < b.toInt := Int32.lt_iff_toInt_lt.mp h
theorem ge_int {a b : Int32} (h : ¬ a < b) : b.toInt ≤ a.toInt := by rw [Int32.lt_iff_toInt_lt] at h; omega
/-- a place of a table of rows -/
theorem idx2 {x y w h : Int32} (hx : ¬ x < 0) (hxw : x < w) (hy : ¬ y < 0) (hyh : y < h) (hw : ¬ 16 < w) (hh : ¬ 16 < h) : (y * w + x).toInt = y.toInt * w.toInt + x.toInt ∧ 0 ≤ y.toInt * w.toInt + x.toInt ∧ y.toInt * w.toInt + x.toInt < 256 ∧ y.toInt * w.toInt + x.toInt < h.toInt * w.toInt := by
  have a1 := nn_int hx
  have a2 := nn_int hy
  have a3 := lt_int hxw
  have a4 := lt_int hyh
  have a5 := ge_int hw
  have a6 := ge_int hh
  have c16 : (16 : Int32).toInt = 16 := by decide
  rw [c16] at a5 a6
  have m1 : 0 ≤ y.toInt * w.toInt := Int.mul_nonneg a2 (by omega)
  have m2 : (y.toInt + 1) * w.toInt ≤ h.toInt * w.toInt := Int.mul_le_mul_of_nonneg_right (by omega) (by omega)
  have m3 : h.toInt * w.toInt ≤ 16 * w.toInt := Int.mul_le_mul_of_nonneg_right (by omega) (by omega)
  rw [Int.add_mul] at m2
  have e1 : (y * w).toInt = y.toInt * w.toInt := mul_int (by omega) (by omega)
  have e2 : (y * w + x).toInt = (y * w).toInt + x.toInt := add_int (by rw [e1]; omega) (by rw [e1]; omega)
  rw [e2, e1]
  exact ⟨rfl, by omega, by omega, by omega⟩
theorem and1 {z : Int32} (h : z = 0 ∨ z = 1) : z &&& 1 = z := by rcases h with rfl | rfl <;> decide
theorem set_same {l : List Slot} {i : Nat} {x : Slot} (h : l[i]? = some x) : l.set i x = l := by
  apply List.ext_getElem?
  intro j
  rw [List.getElem?_set]
  by_cases q : i = j
  · subst q
    have : i < l.length := by
      rcases Nat.lt_or_ge i l.length with w | w
      · exact w
      · rw [List.getElem?_eq_none w] at h; cases h
    rw [if_pos rfl, if_pos this, h]
  · rw [if_neg q]
theorem storeL_J1 {l l1 l2 : List Slot} {i : Nat} {a b : Slot} {v : Value} (h : l[i]? = some a) (h' : l[i + 1]? = some b) (ho : OneJ a b) (hv : v.category = 1) (h1 : setL l (i + 1) .unset = some l1) (h2 : setL l1 i (.val v) = some l2) : storeL l i v = some l2 := by
  have e : ∀ m, setL m i (.val v) = some l2 → storeSelfL m i v = some l2 := fun m hm => by
    unfold storeSelfL
    rw [hm]
    simp [hv]
  unfold storeL
  rw [h]
  rcases ho with ⟨rfl, rfl⟩ | ⟨w, rfl, rfl⟩
  · have q := (setL_some h1).2
    rw [set_same h'] at q
    subst q
    exact e _ h2
  · have c : (Value.long w).category = 2 := rfl
    simp only [c, if_true, h1]
    exact e _ h2
theorem storeL_J2 {l l1 l2 : List Slot} {i : Nat} {a b : Slot} {v : Value} (h : l[i]? = some a) (h' : l[i + 1]? = some b) (ho : OneJ a b) (hv : v.category = 1) (h1 : setL l i .unset = some l1) (h2 : setL l1 (i + 1) (.val v) = some l2) : storeL l (i + 1) v = some l2 := by
  have e : ∀ m, setL m (i + 1) (.val v) = some l2 → storeSelfL m (i + 1) v = some l2 := fun m hm => by
    unfold storeSelfL
    rw [hm]
    simp [hv]
  unfold storeL
  rw [h']
  rcases ho with ⟨rfl, rfl⟩ | ⟨w, rfl, rfl⟩
  · have q := (setL_some h1).2
    rw [set_same h] at q
    subst q
    exact e _ h2
  · simp only [Nat.add_sub_cancel, h1]
    exact e _ h2
theorem Wp.istoreJ1 {W : List Jvm.Cond} {ro F Lb : Nat} {y : MethodName} {code : ByteArray} {ret : Option FieldType} {pc : Nat} {ls : List Slot} {M : EMem} {Q : Option Value → EMem → Prop} {ins : Instr} {i len : Nat} {a b : Slot} {x : Int32} {l1 l2 : List Slot} {r : List Value} (hd : decode code pc = .ok (ins, len)) (hi : (ins = .istore i ∧ len = 2) ∨ (∃ n : Fin 4, ins = .istore_n n ∧ n.val = i ∧ len = 1)) (h : ls[i]? = some a) (h' : ls[i + 1]? = some b) (ho : OneJ a b) (h1 : setL ls (i + 1) .unset = some l1) (h2 : setL l1 i (.val (.int x)) = some l2)
    (k : Wp W ro F Lb y code ret (pc + len) l2 r M Q) : Wp W ro F Lb y code ret pc ls (.int x :: r) M Q := by
  rcases hi with ⟨rfl, rfl⟩ | ⟨n, rfl, rfl, rfl⟩
  · exact Wp.p hd rfl (by simp only [execP, storeL_J1 h h' ho (v := .int x) rfl h1 h2]) k
  · exact Wp.p hd rfl (by simp only [execP, storeL_J1 h h' ho (v := .int x) rfl h1 h2]) k
theorem Wp.istoreJ2 {W : List Jvm.Cond} {ro F Lb : Nat} {y : MethodName} {code : ByteArray} {ret : Option FieldType} {pc : Nat} {ls : List Slot} {M : EMem} {Q : Option Value → EMem → Prop} {ins : Instr} {i len : Nat} {a b : Slot} {x : Int32} {l1 l2 : List Slot} {r : List Value} (hd : decode code pc = .ok (ins, len)) (hi : (ins = .istore (i + 1) ∧ len = 2) ∨ (∃ n : Fin 4, ins = .istore_n n ∧ n.val = i + 1 ∧ len = 1)) (h : ls[i]? = some a) (h' : ls[i + 1]? = some b) (ho : OneJ a b) (h1 : setL ls i .unset = some l1) (h2 : setL l1 (i + 1) (.val (.int x)) = some l2)
    (k : Wp W ro F Lb y code ret (pc + len) l2 r M Q) : Wp W ro F Lb y code ret pc ls (.int x :: r) M Q := by
  rcases hi with ⟨rfl, rfl⟩ | ⟨n, rfl, e, rfl⟩
  · exact Wp.p hd rfl (by simp only [execP, storeL_J2 h h' ho (v := .int x) rfl h1 h2]) k
  · exact Wp.p hd rfl (by simp only [execP, e, storeL_J2 h h' ho (v := .int x) rfl h1 h2]) k
theorem storeL_one2 {l l1 l2 : List Slot} {i : Nat} {a b : Slot} {x : Int64} (h : l[i]? = some a) (h' : l[i + 1]? = some b) (ha : One a) (hb : One b) (h1 : setL l i (.val (.long x)) = some l1) (h2 : setL l1 (i + 1) .second = some l2) : storeL l i (.long x) = some l2 := by
  have e : storeSelfL l i (.long x) = some l2 := by
    unfold storeSelfL
    rw [h1]
    have q := (setL_some h1).2
    have e1 : l1[i + 1]? = some b := by rw [q, List.getElem?_set_ne (by omega)]; exact h'
    have c : (Value.long x).category = 2 := rfl
    simp only [c, if_true, e1]
    rcases hb with rfl | ⟨w, rfl, hw⟩
    · exact h2
    · simp only [hw]
      exact h2
  unfold storeL
  rw [h]
  rcases ha with rfl | ⟨w, rfl, hw⟩
  · exact e
  · simp only [hw]
    exact e
theorem Wp.lstoreO2 {W : List Jvm.Cond} {ro F Lb : Nat} {y : MethodName} {code : ByteArray} {ret : Option FieldType} {pc : Nat} {ls : List Slot} {M : EMem} {Q : Option Value → EMem → Prop} {ins : Instr} {i len : Nat} {a b : Slot} {x : Int64} {l1 l2 : List Slot} {r : List Value} (hd : decode code pc = .ok (ins, len)) (hi : (ins = .lstore i ∧ len = 2) ∨ (∃ n : Fin 4, ins = .lstore_n n ∧ n.val = i ∧ len = 1)) (h : ls[i]? = some a) (h' : ls[i + 1]? = some b) (ha : One a) (hb : One b) (h1 : setL ls i (.val (.long x)) = some l1) (h2 : setL l1 (i + 1) .second = some l2)
    (k : Wp W ro F Lb y code ret (pc + len) l2 r M Q) : Wp W ro F Lb y code ret pc ls (.long x :: r) M Q := by
  rcases hi with ⟨rfl, rfl⟩ | ⟨n, rfl, rfl, rfl⟩
  · exact Wp.p hd rfl (by simp only [execP, storeL_one2 h h' ha hb h1 h2]) k
  · exact Wp.p hd rfl (by simp only [execP, storeL_one2 h h' ha hb h1 h2]) k
/-- two slots that hold plain values or a long -/
def Two (a b : Slot) : Prop := (One a ∧ One b) ∨ OneJ a b
theorem Wp.lstoreT {W : List Jvm.Cond} {ro F Lb : Nat} {y : MethodName} {code : ByteArray} {ret : Option FieldType} {pc : Nat} {ls : List Slot} {M : EMem} {Q : Option Value → EMem → Prop} {ins : Instr} {i len : Nat} {a b : Slot} {x : Int64} {l1 l2 : List Slot} {r : List Value} (hd : decode code pc = .ok (ins, len)) (hi : (ins = .lstore i ∧ len = 2) ∨ (∃ n : Fin 4, ins = .lstore_n n ∧ n.val = i ∧ len = 1)) (h : ls[i]? = some a) (h' : ls[i + 1]? = some b) (ho : Two a b) (h1 : setL ls i (.val (.long x)) = some l1) (h2 : setL l1 (i + 1) .second = some l2)
    (k : Wp W ro F Lb y code ret (pc + len) l2 r M Q) : Wp W ro F Lb y code ret pc ls (.long x :: r) M Q := by
  rcases ho with ⟨ha, hb⟩ | ho
  · exact Wp.lstoreO2 hd hi h h' ha hb h1 h2 k
  · exact Wp.lstoreO hd hi h h' ho h1 h2 k
end Jvm.OwnEv
namespace Jvm.Pilot.@@N@@
open Jvm Jvm.ClassFile Sem Op Lib Jvm.Free Jvm.Stand Jvm.LawKit Jvm.RoadKit Jvm.OwnEv Bundle Jvm.Pilot.@@N@@.Jvm.D
abbrev RR1 : Nat → Nat → Value := (up (up (up (up (up (up (up (up (fun _ _ => Value.null) 1 16 (.ref 2)) 1 18 (.ref 3)) 1 20 (.ref 4)) 1 22 (.ref 5)) 1 24 (.ref 6)) 1 26 (.ref 7)) 1 29 (.ref 8)) 1 31 (.ref 9))
abbrev LL1 (n : Nat) : ELay := [(1, "", n), (0, "HtreeDir", 13), (1, "", 128), (1, "", 128), (1, "", 128), (1, "", 32), (1, "", 32), (1, "", 32), (3, "", 4), (1, "", 4)]
abbrev QL (n : Nat) : Option Value → EMem → Prop := fun v M' => v = some (.int 1) ∧ M'.1.length - 1 ≤ room_1.cells ∧ szL M'.1 - szL [(1, "", n)] ≤ room_1.slots
theorem ql1 (n : Nat) {mi : Nat → Nat → Int32} {ml : Nat → Nat → Int64} {v : Int32} (h : v = 1) : QL n (some (.int v)) ((LL1 n), mi, ml, RR1) := ⟨by rw [h], by show (LL1 n).length - 1 ≤ _; simp [room_1], by first | (simp [szL, room_1]; done) | (simp [szL, room_1]; omega)⟩
theorem d_isName_0 : decode prog_1_method_17_code 0 = .ok (.iload_n 1, 1) := by decide +kernel
theorem d_isName_1 : decode prog_1_method_17_code 1 = .ok (.ifCond .lt 13, 3) := by decide +kernel
theorem d_isName_14 : decode prog_1_method_17_code 14 = .ok (.iconst 0, 1) := by decide +kernel
theorem d_isName_4 : decode prog_1_method_17_code 4 = .ok (.iload_n 1, 1) := by decide +kernel
theorem d_isName_5 : decode prog_1_method_17_code 5 = .ok (.ldc 35, 2) := by decide +kernel
theorem ik_c35 : intLk "HtreeDir" 35 tables_1 = some (65535 : Int32) := by decide +kernel
theorem d_isName_10 : decode prog_1_method_17_code 10 = .ok (.iconst 1, 1) := by decide +kernel
theorem d_isName_11 : decode prog_1_method_17_code 11 = .ok (.goto 4, 3) := by decide +kernel
theorem d_isName_7 : decode prog_1_method_17_code 7 = .ok (.if_icmp .gt 7, 3) := by decide +kernel
abbrev W_isName (pc : Nat) (ls : List Slot) (st : List Value) (M : EMem) (Q : Option Value → EMem → Prop) : Prop := Wp tables_1 1 0 0 (⟨"HtreeDir", "isName", "(I)Z"⟩ : MethodName) prog_1_method_17_code (some .boolean) pc ls st M Q
theorem d_isName_15 : decode prog_1_method_17_code 15 = .ok (.ireturn, 1) := by decide +kernel
theorem d_validHandle_0 : decode prog_1_method_18_code 0 = .ok (.iload_n 1, 1) := by decide +kernel
theorem d_validHandle_1 : decode prog_1_method_18_code 1 = .ok (.ifCond .lt 21, 3) := by decide +kernel
theorem d_validHandle_22 : decode prog_1_method_18_code 22 = .ok (.iconst 0, 1) := by decide +kernel
theorem d_validHandle_4 : decode prog_1_method_18_code 4 = .ok (.iload_n 1, 1) := by decide +kernel
theorem d_validHandle_5 : decode prog_1_method_18_code 5 = .ok (.iconst 4, 1) := by decide +kernel
theorem d_validHandle_9 : decode prog_1_method_18_code 9 = .ok (.aload_n 0, 1) := by decide +kernel
theorem d_validHandle_10 : decode prog_1_method_18_code 10 = .ok (.getfield 28, 3) := by decide +kernel
theorem fa_c28 : fieldAt tables_1 "HtreeDir" 28 = some ("HtreeDir", 29, 4, false) := by decide +kernel
theorem d_validHandle_13 : decode prog_1_method_18_code 13 = .ok (.iload_n 1, 1) := by decide +kernel
theorem d_validHandle_14 : decode prog_1_method_18_code 14 = .ok (.baload, 1) := by decide +kernel
theorem d_validHandle_18 : decode prog_1_method_18_code 18 = .ok (.iconst 1, 1) := by decide +kernel
theorem d_validHandle_19 : decode prog_1_method_18_code 19 = .ok (.goto 4, 3) := by decide +kernel
theorem d_validHandle_15 : decode prog_1_method_18_code 15 = .ok (.ifCond .eq 7, 3) := by decide +kernel
theorem d_validHandle_6 : decode prog_1_method_18_code 6 = .ok (.if_icmp .ge 16, 3) := by decide +kernel
abbrev W_validHandle (pc : Nat) (ls : List Slot) (st : List Value) (M : EMem) (Q : Option Value → EMem → Prop) : Prop := Wp tables_1 1 0 0 (⟨"HtreeDir", "validHandle", "(I)Z"⟩ : MethodName) prog_1_method_18_code (some .boolean) pc ls st M Q
theorem d_validHandle_23 : decode prog_1_method_18_code 23 = .ok (.ireturn, 1) := by decide +kernel
theorem d_hash_0 : decode prog_1_method_19_code 0 = .ok (.iload_n 1, 1) := by decide +kernel
theorem d_hash_1 : decode prog_1_method_19_code 1 = .ok (.aload_n 0, 1) := by decide +kernel
theorem d_hash_2 : decode prog_1_method_19_code 2 = .ok (.getfield 36, 3) := by decide +kernel
theorem fa_c36 : fieldAt tables_1 "HtreeDir" 36 = some ("HtreeDir", 34, 1, false) := by decide +kernel
theorem d_hash_5 : decode prog_1_method_19_code 5 = .ok (.ixor, 1) := by decide +kernel
theorem d_hash_6 : decode prog_1_method_19_code 6 = .ok (.ldc 35, 2) := by decide +kernel
theorem d_hash_8 : decode prog_1_method_19_code 8 = .ok (.iand, 1) := by decide +kernel
theorem d_hash_9 : decode prog_1_method_19_code 9 = .ok (.istore_n 2, 1) := by decide +kernel
theorem d_hash_10 : decode prog_1_method_19_code 10 = .ok (.iload_n 2, 1) := by decide +kernel
theorem d_hash_11 : decode prog_1_method_19_code 11 = .ok (.ldc 99, 2) := by decide +kernel
theorem ik_c99 : intLk "HtreeDir" 99 tables_1 = some (40507 : Int32) := by decide +kernel
theorem d_hash_13 : decode prog_1_method_19_code 13 = .ok (.imul, 1) := by decide +kernel
theorem d_hash_14 : decode prog_1_method_19_code 14 = .ok (.ldc 35, 2) := by decide +kernel
theorem d_hash_16 : decode prog_1_method_19_code 16 = .ok (.iand, 1) := by decide +kernel
theorem d_hash_17 : decode prog_1_method_19_code 17 = .ok (.istore_n 2, 1) := by decide +kernel
theorem d_hash_18 : decode prog_1_method_19_code 18 = .ok (.iload_n 2, 1) := by decide +kernel
theorem d_hash_19 : decode prog_1_method_19_code 19 = .ok (.iload_n 2, 1) := by decide +kernel
theorem d_hash_20 : decode prog_1_method_19_code 20 = .ok (.bipush 7, 2) := by decide +kernel
theorem d_hash_22 : decode prog_1_method_19_code 22 = .ok (.iushr, 1) := by decide +kernel
theorem d_hash_23 : decode prog_1_method_19_code 23 = .ok (.ixor, 1) := by decide +kernel
theorem d_hash_24 : decode prog_1_method_19_code 24 = .ok (.istore_n 2, 1) := by decide +kernel
theorem d_hash_25 : decode prog_1_method_19_code 25 = .ok (.iload_n 2, 1) := by decide +kernel
theorem d_hash_26 : decode prog_1_method_19_code 26 = .ok (.sipush 23505, 3) := by decide +kernel
theorem d_hash_29 : decode prog_1_method_19_code 29 = .ok (.imul, 1) := by decide +kernel
theorem d_hash_30 : decode prog_1_method_19_code 30 = .ok (.ldc 35, 2) := by decide +kernel
theorem d_hash_32 : decode prog_1_method_19_code 32 = .ok (.iand, 1) := by decide +kernel
theorem d_hash_33 : decode prog_1_method_19_code 33 = .ok (.istore_n 2, 1) := by decide +kernel
theorem d_hash_34 : decode prog_1_method_19_code 34 = .ok (.iload_n 2, 1) := by decide +kernel
theorem d_hash_35 : decode prog_1_method_19_code 35 = .ok (.iload_n 2, 1) := by decide +kernel
theorem d_hash_36 : decode prog_1_method_19_code 36 = .ok (.bipush 9, 2) := by decide +kernel
theorem d_hash_38 : decode prog_1_method_19_code 38 = .ok (.iushr, 1) := by decide +kernel
theorem d_hash_39 : decode prog_1_method_19_code 39 = .ok (.ixor, 1) := by decide +kernel
theorem d_hash_40 : decode prog_1_method_19_code 40 = .ok (.istore_n 2, 1) := by decide +kernel
theorem d_hash_41 : decode prog_1_method_19_code 41 = .ok (.iload_n 2, 1) := by decide +kernel
theorem d_hash_42 : decode prog_1_method_19_code 42 = .ok (.ireturn, 1) := by decide +kernel
abbrev W_hash (pc : Nat) (ls : List Slot) (st : List Value) (M : EMem) (Q : Option Value → EMem → Prop) : Prop := Wp tables_1 1 0 0 (⟨"HtreeDir", "hash", "(I)I"⟩ : MethodName) prog_1_method_19_code (some .int) pc ls st M Q
theorem d_keyAt_0 : decode prog_1_method_20_code 0 = .ok (.aload_n 0, 1) := by decide +kernel
theorem d_keyAt_1 : decode prog_1_method_20_code 1 = .ok (.getfield 22, 3) := by decide +kernel
theorem fa_c22 : fieldAt tables_1 "HtreeDir" 22 = some ("HtreeDir", 24, 4, false) := by decide +kernel
theorem d_keyAt_4 : decode prog_1_method_20_code 4 = .ok (.iload_n 1, 1) := by decide +kernel
theorem d_keyAt_5 : decode prog_1_method_20_code 5 = .ok (.bipush 31, 2) := by decide +kernel
theorem d_keyAt_7 : decode prog_1_method_20_code 7 = .ok (.iand, 1) := by decide +kernel
theorem d_keyAt_8 : decode prog_1_method_20_code 8 = .ok (.iaload, 1) := by decide +kernel
theorem d_keyAt_9 : decode prog_1_method_20_code 9 = .ok (.istore_n 2, 1) := by decide +kernel
theorem d_keyAt_10 : decode prog_1_method_20_code 10 = .ok (.aload_n 0, 1) := by decide +kernel
theorem d_keyAt_11 : decode prog_1_method_20_code 11 = .ok (.getfield 7, 3) := by decide +kernel
theorem fa_c7 : fieldAt tables_1 "HtreeDir" 7 = some ("HtreeDir", 16, 4, false) := by decide +kernel
theorem d_keyAt_14 : decode prog_1_method_20_code 14 = .ok (.iload_n 2, 1) := by decide +kernel
theorem d_keyAt_15 : decode prog_1_method_20_code 15 = .ok (.iconst 4, 1) := by decide +kernel
theorem d_keyAt_16 : decode prog_1_method_20_code 16 = .ok (.imul, 1) := by decide +kernel
theorem d_keyAt_17 : decode prog_1_method_20_code 17 = .ok (.iaload, 1) := by decide +kernel
theorem d_keyAt_18 : decode prog_1_method_20_code 18 = .ok (.ireturn, 1) := by decide +kernel
abbrev W_keyAt (pc : Nat) (ls : List Slot) (st : List Value) (M : EMem) (Q : Option Value → EMem → Prop) : Prop := Wp tables_1 1 0 0 (⟨"HtreeDir", "keyAt", "(I)I"⟩ : MethodName) prog_1_method_20_code (some .int) pc ls st M Q
theorem d_hashOf_0 : decode prog_1_method_4_code 0 = .ok (.aload_n 0, 1) := by decide +kernel
theorem d_hashOf_1 : decode prog_1_method_4_code 1 = .ok (.iload_n 1, 1) := by decide +kernel
theorem d_hashOf_2 : decode prog_1_method_4_code 2 = .ok (.invokevirtual 52, 3) := by decide +kernel
theorem ml_c52 : methodLk "HtreeDir" 52 tables_1 = some (⟨"HtreeDir", "isName", "(I)Z"⟩ : MethodName) := by decide +kernel
theorem cl_isName : codeLk (⟨"HtreeDir", "isName", "(I)Z"⟩ : MethodName) tables_1 = some (prog_1_method_17_code, 2, (some .boolean)) := codeLk_at (i := 54) rfl (by decide +kernel)
theorem pd_isName : parseMethodDescriptor "(I)Z" = some ⟨[.int], some .boolean⟩ := by decide +kernel
theorem cc_isName_1 : hasInit (⟨"HtreeDir", "isName", "(I)Z"⟩ : MethodName).cls tables_1 = true ∧ plainName (⟨"HtreeDir", "isName", "(I)Z"⟩ : MethodName).cls = true ∧ (⟨"HtreeDir", "isName", "(I)Z"⟩ : MethodName).cls ≠ "java/lang/invoke/MethodHandle" ∧ (⟨"HtreeDir", "isName", "(I)Z"⟩ : MethodName).cls ≠ "java/lang/invoke/VarHandle" ∧ (((1 : Nat) = 0 ∧ hasDecl (⟨"HtreeDir", "isName", "(I)Z"⟩ : MethodName) tables_1 = true ∧ hasSel (⟨"HtreeDir", "isName", "(I)Z"⟩ : MethodName) tables_1 = true ∧ hasInst (⟨"HtreeDir", "isName", "(I)Z"⟩ : MethodName) tables_1 = true) ∨ ((1 : Nat) = 1 ∧ hasPriv (⟨"HtreeDir", "isName", "(I)Z"⟩ : MethodName) tables_1 = true ∧ hasInst (⟨"HtreeDir", "isName", "(I)Z"⟩ : MethodName) tables_1 = true ∧ (instLk (⟨"HtreeDir", "isName", "(I)Z"⟩ : MethodName).cls tables_1).isSome = true) ∨ ((1 : Nat) = 2 ∧ (⟨"HtreeDir", "isName", "(I)Z"⟩ : MethodName).name = "<init>" ∧ hasInst (⟨"HtreeDir", "isName", "(I)Z"⟩ : MethodName) tables_1 = true ∧ ((some .boolean) : Option FieldType) = none) ∨ ((1 : Nat) = 3 ∧ hasStat (⟨"HtreeDir", "isName", "(I)Z"⟩ : MethodName) tables_1 = true)) := by decide +kernel
theorem ca_c52_1 : callAt tables_1 "HtreeDir" 52 1 = some ((⟨"HtreeDir", "isName", "(I)Z"⟩ : MethodName), 1, prog_1_method_17_code, 2, (some .boolean)) := callAt_of ml_c52 cl_isName pd_isName cc_isName_1 rfl
abbrev W_hashOf (pc : Nat) (ls : List Slot) (st : List Value) (M : EMem) (Q : Option Value → EMem → Prop) : Prop := Wp tables_1 1 1 14 (⟨"HtreeDir", "hashOf", "(I)I"⟩ : MethodName) prog_1_method_4_code (some .int) pc ls st M Q
theorem d_hashOf_5 : decode prog_1_method_4_code 5 = .ok (.ifCond .ne 5, 3) := by decide +kernel
theorem d_hashOf_10 : decode prog_1_method_4_code 10 = .ok (.aload_n 0, 1) := by decide +kernel
theorem d_hashOf_11 : decode prog_1_method_4_code 11 = .ok (.iload_n 1, 1) := by decide +kernel
theorem d_hashOf_12 : decode prog_1_method_4_code 12 = .ok (.invokevirtual 56, 3) := by decide +kernel
theorem ml_c56 : methodLk "HtreeDir" 56 tables_1 = some (⟨"HtreeDir", "hash", "(I)I"⟩ : MethodName) := by decide +kernel
theorem cl_hash : codeLk (⟨"HtreeDir", "hash", "(I)I"⟩ : MethodName) tables_1 = some (prog_1_method_19_code, 3, (some .int)) := codeLk_at (i := 63) rfl (by decide +kernel)
theorem pd_hash : parseMethodDescriptor "(I)I" = some ⟨[.int], some .int⟩ := by decide +kernel
theorem cc_hash_1 : hasInit (⟨"HtreeDir", "hash", "(I)I"⟩ : MethodName).cls tables_1 = true ∧ plainName (⟨"HtreeDir", "hash", "(I)I"⟩ : MethodName).cls = true ∧ (⟨"HtreeDir", "hash", "(I)I"⟩ : MethodName).cls ≠ "java/lang/invoke/MethodHandle" ∧ (⟨"HtreeDir", "hash", "(I)I"⟩ : MethodName).cls ≠ "java/lang/invoke/VarHandle" ∧ (((1 : Nat) = 0 ∧ hasDecl (⟨"HtreeDir", "hash", "(I)I"⟩ : MethodName) tables_1 = true ∧ hasSel (⟨"HtreeDir", "hash", "(I)I"⟩ : MethodName) tables_1 = true ∧ hasInst (⟨"HtreeDir", "hash", "(I)I"⟩ : MethodName) tables_1 = true) ∨ ((1 : Nat) = 1 ∧ hasPriv (⟨"HtreeDir", "hash", "(I)I"⟩ : MethodName) tables_1 = true ∧ hasInst (⟨"HtreeDir", "hash", "(I)I"⟩ : MethodName) tables_1 = true ∧ (instLk (⟨"HtreeDir", "hash", "(I)I"⟩ : MethodName).cls tables_1).isSome = true) ∨ ((1 : Nat) = 2 ∧ (⟨"HtreeDir", "hash", "(I)I"⟩ : MethodName).name = "<init>" ∧ hasInst (⟨"HtreeDir", "hash", "(I)I"⟩ : MethodName) tables_1 = true ∧ ((some .int) : Option FieldType) = none) ∨ ((1 : Nat) = 3 ∧ hasStat (⟨"HtreeDir", "hash", "(I)I"⟩ : MethodName) tables_1 = true)) := by decide +kernel
theorem ca_c56_1 : callAt tables_1 "HtreeDir" 56 1 = some ((⟨"HtreeDir", "hash", "(I)I"⟩ : MethodName), 1, prog_1_method_19_code, 3, (some .int)) := callAt_of ml_c56 cl_hash pd_hash cc_hash_1 rfl
theorem d_hashOf_8 : decode prog_1_method_4_code 8 = .ok (.iconst (-1), 1) := by decide +kernel
theorem d_hashOf_9 : decode prog_1_method_4_code 9 = .ok (.ireturn, 1) := by decide +kernel
theorem d_hashOf_15 : decode prog_1_method_4_code 15 = .ok (.ireturn, 1) := by decide +kernel
theorem d_findLeafPos_0 : decode prog_1_method_21_code 0 = .ok (.iconst 0, 1) := by decide +kernel
theorem d_findLeafPos_1 : decode prog_1_method_21_code 1 = .ok (.istore_n 2, 1) := by decide +kernel
theorem d_findLeafPos_2 : decode prog_1_method_21_code 2 = .ok (.aload_n 0, 1) := by decide +kernel
theorem d_findLeafPos_3 : decode prog_1_method_21_code 3 = .ok (.getfield 46, 3) := by decide +kernel
theorem fa_c46 : fieldAt tables_1 "HtreeDir" 46 = some ("HtreeDir", 40, 1, false) := by decide +kernel
theorem d_findLeafPos_6 : decode prog_1_method_21_code 6 = .ok (.iconst 1, 1) := by decide +kernel
theorem d_findLeafPos_7 : decode prog_1_method_21_code 7 = .ok (.isub, 1) := by decide +kernel
theorem d_findLeafPos_8 : decode prog_1_method_21_code 8 = .ok (.istore_n 3, 1) := by decide +kernel
theorem d_findLeafPos_9 : decode prog_1_method_21_code 9 = .ok (.iconst 0, 1) := by decide +kernel
theorem d_findLeafPos_10 : decode prog_1_method_21_code 10 = .ok (.istore 4, 2) := by decide +kernel
theorem d_findLeafPos_12 : decode prog_1_method_21_code 12 = .ok (.iconst 0, 1) := by decide +kernel
theorem d_findLeafPos_13 : decode prog_1_method_21_code 13 = .ok (.istore 5, 2) := by decide +kernel
abbrev W_findLeafPos (pc : Nat) (ls : List Slot) (st : List Value) (M : EMem) (Q : Option Value → EMem → Prop) : Prop := Wp tables_1 1 1 14 (⟨"HtreeDir", "findLeafPos", "(I)I"⟩ : MethodName) prog_1_method_21_code (some .int) pc ls st M Q
theorem d_findLeafPos_15 : decode prog_1_method_21_code 15 = .ok (.iload 5, 2) := by decide +kernel
theorem d_findLeafPos_17 : decode prog_1_method_21_code 17 = .ok (.bipush 8, 2) := by decide +kernel
theorem d_findLeafPos_19 : decode prog_1_method_21_code 19 = .ok (.if_icmp .ge 48, 3) := by decide +kernel
theorem d_findLeafPos_22 : decode prog_1_method_21_code 22 = .ok (.iload_n 2, 1) := by decide +kernel
theorem d_findLeafPos_23 : decode prog_1_method_21_code 23 = .ok (.iload_n 3, 1) := by decide +kernel
theorem d_findLeafPos_27 : decode prog_1_method_21_code 27 = .ok (.iload_n 2, 1) := by decide +kernel
theorem d_findLeafPos_28 : decode prog_1_method_21_code 28 = .ok (.iload_n 3, 1) := by decide +kernel
theorem d_findLeafPos_29 : decode prog_1_method_21_code 29 = .ok (.iadd, 1) := by decide +kernel
theorem d_findLeafPos_30 : decode prog_1_method_21_code 30 = .ok (.iconst 1, 1) := by decide +kernel
theorem d_findLeafPos_31 : decode prog_1_method_21_code 31 = .ok (.iushr, 1) := by decide +kernel
theorem d_findLeafPos_32 : decode prog_1_method_21_code 32 = .ok (.istore 6, 2) := by decide +kernel
theorem d_findLeafPos_34 : decode prog_1_method_21_code 34 = .ok (.aload_n 0, 1) := by decide +kernel
theorem d_findLeafPos_35 : decode prog_1_method_21_code 35 = .ok (.iload 6, 2) := by decide +kernel
theorem d_findLeafPos_67 : decode prog_1_method_21_code 67 = .ok (.iload 4, 2) := by decide +kernel
theorem d_findLeafPos_69 : decode prog_1_method_21_code 69 = .ok (.ireturn, 1) := by decide +kernel
theorem d_findLeafPos_24 : decode prog_1_method_21_code 24 = .ok (.if_icmp .gt 43, 3) := by decide +kernel
theorem d_findLeafPos_37 : decode prog_1_method_21_code 37 = .ok (.invokevirtual 100, 3) := by decide +kernel
theorem ml_c100 : methodLk "HtreeDir" 100 tables_1 = some (⟨"HtreeDir", "keyAt", "(I)I"⟩ : MethodName) := by decide +kernel
theorem cl_keyAt : codeLk (⟨"HtreeDir", "keyAt", "(I)I"⟩ : MethodName) tables_1 = some (prog_1_method_20_code, 3, (some .int)) := codeLk_at (i := 138) rfl (by decide +kernel)
theorem pd_keyAt : parseMethodDescriptor "(I)I" = some ⟨[.int], some .int⟩ := by decide +kernel
theorem cc_keyAt_1 : hasInit (⟨"HtreeDir", "keyAt", "(I)I"⟩ : MethodName).cls tables_1 = true ∧ plainName (⟨"HtreeDir", "keyAt", "(I)I"⟩ : MethodName).cls = true ∧ (⟨"HtreeDir", "keyAt", "(I)I"⟩ : MethodName).cls ≠ "java/lang/invoke/MethodHandle" ∧ (⟨"HtreeDir", "keyAt", "(I)I"⟩ : MethodName).cls ≠ "java/lang/invoke/VarHandle" ∧ (((1 : Nat) = 0 ∧ hasDecl (⟨"HtreeDir", "keyAt", "(I)I"⟩ : MethodName) tables_1 = true ∧ hasSel (⟨"HtreeDir", "keyAt", "(I)I"⟩ : MethodName) tables_1 = true ∧ hasInst (⟨"HtreeDir", "keyAt", "(I)I"⟩ : MethodName) tables_1 = true) ∨ ((1 : Nat) = 1 ∧ hasPriv (⟨"HtreeDir", "keyAt", "(I)I"⟩ : MethodName) tables_1 = true ∧ hasInst (⟨"HtreeDir", "keyAt", "(I)I"⟩ : MethodName) tables_1 = true ∧ (instLk (⟨"HtreeDir", "keyAt", "(I)I"⟩ : MethodName).cls tables_1).isSome = true) ∨ ((1 : Nat) = 2 ∧ (⟨"HtreeDir", "keyAt", "(I)I"⟩ : MethodName).name = "<init>" ∧ hasInst (⟨"HtreeDir", "keyAt", "(I)I"⟩ : MethodName) tables_1 = true ∧ ((some .int) : Option FieldType) = none) ∨ ((1 : Nat) = 3 ∧ hasStat (⟨"HtreeDir", "keyAt", "(I)I"⟩ : MethodName) tables_1 = true)) := by decide +kernel
theorem ca_c100_1 : callAt tables_1 "HtreeDir" 100 1 = some ((⟨"HtreeDir", "keyAt", "(I)I"⟩ : MethodName), 1, prog_1_method_20_code, 3, (some .int)) := callAt_of ml_c100 cl_keyAt pd_keyAt cc_keyAt_1 rfl
theorem d_findLeafPos_40 : decode prog_1_method_21_code 40 = .ok (.iload_n 1, 1) := by decide +kernel
theorem d_findLeafPos_41 : decode prog_1_method_21_code 41 = .ok (.if_icmp .gt 15, 3) := by decide +kernel
theorem d_findLeafPos_56 : decode prog_1_method_21_code 56 = .ok (.iload 6, 2) := by decide +kernel
theorem d_findLeafPos_58 : decode prog_1_method_21_code 58 = .ok (.iconst 1, 1) := by decide +kernel
theorem d_findLeafPos_59 : decode prog_1_method_21_code 59 = .ok (.isub, 1) := by decide +kernel
theorem d_findLeafPos_60 : decode prog_1_method_21_code 60 = .ok (.istore_n 3, 1) := by decide +kernel
theorem d_findLeafPos_44 : decode prog_1_method_21_code 44 = .ok (.iload 6, 2) := by decide +kernel
theorem d_findLeafPos_46 : decode prog_1_method_21_code 46 = .ok (.istore 4, 2) := by decide +kernel
theorem d_findLeafPos_48 : decode prog_1_method_21_code 48 = .ok (.iload 6, 2) := by decide +kernel
theorem d_findLeafPos_50 : decode prog_1_method_21_code 50 = .ok (.iconst 1, 1) := by decide +kernel
theorem d_findLeafPos_51 : decode prog_1_method_21_code 51 = .ok (.iadd, 1) := by decide +kernel
theorem d_findLeafPos_52 : decode prog_1_method_21_code 52 = .ok (.istore_n 2, 1) := by decide +kernel
theorem d_findLeafPos_53 : decode prog_1_method_21_code 53 = .ok (.goto 8, 3) := by decide +kernel
theorem d_findLeafPos_61 : decode prog_1_method_21_code 61 = .ok (.iinc 5 1, 3) := by decide +kernel
theorem d_findLeafPos_64 : decode prog_1_method_21_code 64 = .ok (.goto (-49), 3) := by decide +kernel
theorem d_locate_0 : decode prog_1_method_22_code 0 = .ok (.aload_n 0, 1) := by decide +kernel
theorem d_locate_1 : decode prog_1_method_22_code 1 = .ok (.getfield 46, 3) := by decide +kernel
theorem d_locate_4 : decode prog_1_method_22_code 4 = .ok (.ifCond .gt 5, 3) := by decide +kernel
theorem d_locate_9 : decode prog_1_method_22_code 9 = .ok (.aload_n 0, 1) := by decide +kernel
theorem d_locate_10 : decode prog_1_method_22_code 10 = .ok (.iload_n 1, 1) := by decide +kernel
theorem d_locate_11 : decode prog_1_method_22_code 11 = .ok (.invokevirtual 67, 3) := by decide +kernel
theorem ml_c67 : methodLk "HtreeDir" 67 tables_1 = some (⟨"HtreeDir", "findLeafPos", "(I)I"⟩ : MethodName) := by decide +kernel
theorem cl_findLeafPos : codeLk (⟨"HtreeDir", "findLeafPos", "(I)I"⟩ : MethodName) tables_1 = some (prog_1_method_21_code, 7, (some .int)) := codeLk_at (i := 134) rfl (by decide +kernel)
theorem pd_findLeafPos : parseMethodDescriptor "(I)I" = some ⟨[.int], some .int⟩ := by decide +kernel
theorem cc_findLeafPos_1 : hasInit (⟨"HtreeDir", "findLeafPos", "(I)I"⟩ : MethodName).cls tables_1 = true ∧ plainName (⟨"HtreeDir", "findLeafPos", "(I)I"⟩ : MethodName).cls = true ∧ (⟨"HtreeDir", "findLeafPos", "(I)I"⟩ : MethodName).cls ≠ "java/lang/invoke/MethodHandle" ∧ (⟨"HtreeDir", "findLeafPos", "(I)I"⟩ : MethodName).cls ≠ "java/lang/invoke/VarHandle" ∧ (((1 : Nat) = 0 ∧ hasDecl (⟨"HtreeDir", "findLeafPos", "(I)I"⟩ : MethodName) tables_1 = true ∧ hasSel (⟨"HtreeDir", "findLeafPos", "(I)I"⟩ : MethodName) tables_1 = true ∧ hasInst (⟨"HtreeDir", "findLeafPos", "(I)I"⟩ : MethodName) tables_1 = true) ∨ ((1 : Nat) = 1 ∧ hasPriv (⟨"HtreeDir", "findLeafPos", "(I)I"⟩ : MethodName) tables_1 = true ∧ hasInst (⟨"HtreeDir", "findLeafPos", "(I)I"⟩ : MethodName) tables_1 = true ∧ (instLk (⟨"HtreeDir", "findLeafPos", "(I)I"⟩ : MethodName).cls tables_1).isSome = true) ∨ ((1 : Nat) = 2 ∧ (⟨"HtreeDir", "findLeafPos", "(I)I"⟩ : MethodName).name = "<init>" ∧ hasInst (⟨"HtreeDir", "findLeafPos", "(I)I"⟩ : MethodName) tables_1 = true ∧ ((some .int) : Option FieldType) = none) ∨ ((1 : Nat) = 3 ∧ hasStat (⟨"HtreeDir", "findLeafPos", "(I)I"⟩ : MethodName) tables_1 = true)) := by decide +kernel
theorem ca_c67_1 : callAt tables_1 "HtreeDir" 67 1 = some ((⟨"HtreeDir", "findLeafPos", "(I)I"⟩ : MethodName), 1, prog_1_method_21_code, 7, (some .int)) := callAt_of ml_c67 cl_findLeafPos pd_findLeafPos cc_findLeafPos_1 rfl
theorem d_locate_7 : decode prog_1_method_22_code 7 = .ok (.iconst (-1), 1) := by decide +kernel
theorem d_locate_8 : decode prog_1_method_22_code 8 = .ok (.ireturn, 1) := by decide +kernel
abbrev W_locate (pc : Nat) (ls : List Slot) (st : List Value) (M : EMem) (Q : Option Value → EMem → Prop) : Prop := Wp tables_1 1 2 32 (⟨"HtreeDir", "locate", "(I)I"⟩ : MethodName) prog_1_method_22_code (some .int) pc ls st M Q
theorem d_locate_14 : decode prog_1_method_22_code 14 = .ok (.istore_n 2, 1) := by decide +kernel
theorem d_locate_15 : decode prog_1_method_22_code 15 = .ok (.aload_n 0, 1) := by decide +kernel
theorem d_locate_16 : decode prog_1_method_22_code 16 = .ok (.getfield 22, 3) := by decide +kernel
theorem d_locate_19 : decode prog_1_method_22_code 19 = .ok (.iload_n 2, 1) := by decide +kernel
theorem d_locate_20 : decode prog_1_method_22_code 20 = .ok (.iaload, 1) := by decide +kernel
theorem d_locate_21 : decode prog_1_method_22_code 21 = .ok (.istore_n 3, 1) := by decide +kernel
theorem d_locate_22 : decode prog_1_method_22_code 22 = .ok (.iload_n 3, 1) := by decide +kernel
theorem d_locate_23 : decode prog_1_method_22_code 23 = .ok (.iconst 4, 1) := by decide +kernel
theorem d_locate_24 : decode prog_1_method_22_code 24 = .ok (.imul, 1) := by decide +kernel
theorem d_locate_25 : decode prog_1_method_22_code 25 = .ok (.istore 4, 2) := by decide +kernel
theorem d_locate_27 : decode prog_1_method_22_code 27 = .ok (.aload_n 0, 1) := by decide +kernel
theorem d_locate_28 : decode prog_1_method_22_code 28 = .ok (.getfield 19, 3) := by decide +kernel
theorem fa_c19 : fieldAt tables_1 "HtreeDir" 19 = some ("HtreeDir", 22, 4, false) := by decide +kernel
theorem d_locate_31 : decode prog_1_method_22_code 31 = .ok (.iload_n 3, 1) := by decide +kernel
theorem d_locate_32 : decode prog_1_method_22_code 32 = .ok (.iaload, 1) := by decide +kernel
theorem d_locate_33 : decode prog_1_method_22_code 33 = .ok (.istore 5, 2) := by decide +kernel
theorem d_locate_35 : decode prog_1_method_22_code 35 = .ok (.iconst 0, 1) := by decide +kernel
theorem d_locate_36 : decode prog_1_method_22_code 36 = .ok (.istore 6, 2) := by decide +kernel
theorem d_locate_38 : decode prog_1_method_22_code 38 = .ok (.iload 6, 2) := by decide +kernel
theorem d_locate_40 : decode prog_1_method_22_code 40 = .ok (.iload 5, 2) := by decide +kernel
theorem d_locate_42 : decode prog_1_method_22_code 42 = .ok (.if_icmp .ge 36, 3) := by decide +kernel
theorem d_locate_78 : decode prog_1_method_22_code 78 = .ok (.iconst (-1), 1) := by decide +kernel
theorem d_locate_79 : decode prog_1_method_22_code 79 = .ok (.ireturn, 1) := by decide +kernel
theorem d_locate_45 : decode prog_1_method_22_code 45 = .ok (.iload 6, 2) := by decide +kernel
theorem d_locate_47 : decode prog_1_method_22_code 47 = .ok (.iconst 4, 1) := by decide +kernel
theorem d_locate_51 : decode prog_1_method_22_code 51 = .ok (.aload_n 0, 1) := by decide +kernel
theorem d_locate_52 : decode prog_1_method_22_code 52 = .ok (.getfield 7, 3) := by decide +kernel
theorem d_locate_55 : decode prog_1_method_22_code 55 = .ok (.iload 4, 2) := by decide +kernel
theorem d_locate_57 : decode prog_1_method_22_code 57 = .ok (.iload 6, 2) := by decide +kernel
theorem d_locate_59 : decode prog_1_method_22_code 59 = .ok (.iadd, 1) := by decide +kernel
theorem d_locate_60 : decode prog_1_method_22_code 60 = .ok (.iaload, 1) := by decide +kernel
theorem d_locate_61 : decode prog_1_method_22_code 61 = .ok (.iload_n 1, 1) := by decide +kernel
theorem d_locate_72 : decode prog_1_method_22_code 72 = .ok (.iinc 6 1, 3) := by decide +kernel
theorem d_locate_75 : decode prog_1_method_22_code 75 = .ok (.goto (-37), 3) := by decide +kernel
theorem d_locate_48 : decode prog_1_method_22_code 48 = .ok (.if_icmp .ge 30, 3) := by decide +kernel
theorem d_locate_62 : decode prog_1_method_22_code 62 = .ok (.if_icmp .ne 10, 3) := by decide +kernel
theorem d_locate_65 : decode prog_1_method_22_code 65 = .ok (.iload_n 2, 1) := by decide +kernel
theorem d_locate_66 : decode prog_1_method_22_code 66 = .ok (.iconst 4, 1) := by decide +kernel
theorem d_locate_67 : decode prog_1_method_22_code 67 = .ok (.imul, 1) := by decide +kernel
theorem d_locate_68 : decode prog_1_method_22_code 68 = .ok (.iload 6, 2) := by decide +kernel
theorem d_locate_70 : decode prog_1_method_22_code 70 = .ok (.iadd, 1) := by decide +kernel
theorem d_locate_71 : decode prog_1_method_22_code 71 = .ok (.ireturn, 1) := by decide +kernel
theorem d_firstAtLeast_0 : decode prog_1_method_23_code 0 = .ok (.aload_n 0, 1) := by decide +kernel
theorem d_firstAtLeast_1 : decode prog_1_method_23_code 1 = .ok (.getfield 46, 3) := by decide +kernel
theorem d_firstAtLeast_4 : decode prog_1_method_23_code 4 = .ok (.ifCond .gt 5, 3) := by decide +kernel
theorem d_firstAtLeast_9 : decode prog_1_method_23_code 9 = .ok (.aload_n 0, 1) := by decide +kernel
theorem d_firstAtLeast_10 : decode prog_1_method_23_code 10 = .ok (.iload_n 1, 1) := by decide +kernel
theorem d_firstAtLeast_11 : decode prog_1_method_23_code 11 = .ok (.invokevirtual 67, 3) := by decide +kernel
theorem d_firstAtLeast_7 : decode prog_1_method_23_code 7 = .ok (.iconst (-1), 1) := by decide +kernel
theorem d_firstAtLeast_8 : decode prog_1_method_23_code 8 = .ok (.ireturn, 1) := by decide +kernel
abbrev W_firstAtLeast (pc : Nat) (ls : List Slot) (st : List Value) (M : EMem) (Q : Option Value → EMem → Prop) : Prop := Wp tables_1 1 2 32 (⟨"HtreeDir", "firstAtLeast", "(I)I"⟩ : MethodName) prog_1_method_23_code (some .int) pc ls st M Q
theorem d_firstAtLeast_14 : decode prog_1_method_23_code 14 = .ok (.istore_n 2, 1) := by decide +kernel
theorem d_firstAtLeast_15 : decode prog_1_method_23_code 15 = .ok (.aload_n 0, 1) := by decide +kernel
theorem d_firstAtLeast_16 : decode prog_1_method_23_code 16 = .ok (.getfield 22, 3) := by decide +kernel
theorem d_firstAtLeast_19 : decode prog_1_method_23_code 19 = .ok (.iload_n 2, 1) := by decide +kernel
theorem d_firstAtLeast_20 : decode prog_1_method_23_code 20 = .ok (.iaload, 1) := by decide +kernel
theorem d_firstAtLeast_21 : decode prog_1_method_23_code 21 = .ok (.istore_n 3, 1) := by decide +kernel
theorem d_firstAtLeast_22 : decode prog_1_method_23_code 22 = .ok (.iload_n 3, 1) := by decide +kernel
theorem d_firstAtLeast_23 : decode prog_1_method_23_code 23 = .ok (.iconst 4, 1) := by decide +kernel
theorem d_firstAtLeast_24 : decode prog_1_method_23_code 24 = .ok (.imul, 1) := by decide +kernel
theorem d_firstAtLeast_25 : decode prog_1_method_23_code 25 = .ok (.istore 4, 2) := by decide +kernel
theorem d_firstAtLeast_27 : decode prog_1_method_23_code 27 = .ok (.aload_n 0, 1) := by decide +kernel
theorem d_firstAtLeast_28 : decode prog_1_method_23_code 28 = .ok (.getfield 19, 3) := by decide +kernel
theorem d_firstAtLeast_31 : decode prog_1_method_23_code 31 = .ok (.iload_n 3, 1) := by decide +kernel
theorem d_firstAtLeast_32 : decode prog_1_method_23_code 32 = .ok (.iaload, 1) := by decide +kernel
theorem d_firstAtLeast_33 : decode prog_1_method_23_code 33 = .ok (.istore 5, 2) := by decide +kernel
theorem d_firstAtLeast_35 : decode prog_1_method_23_code 35 = .ok (.iconst 0, 1) := by decide +kernel
theorem d_firstAtLeast_36 : decode prog_1_method_23_code 36 = .ok (.istore 6, 2) := by decide +kernel
theorem d_firstAtLeast_38 : decode prog_1_method_23_code 38 = .ok (.iload 6, 2) := by decide +kernel
theorem d_firstAtLeast_40 : decode prog_1_method_23_code 40 = .ok (.iload 5, 2) := by decide +kernel
theorem d_firstAtLeast_42 : decode prog_1_method_23_code 42 = .ok (.if_icmp .ge 36, 3) := by decide +kernel
theorem d_firstAtLeast_78 : decode prog_1_method_23_code 78 = .ok (.iload_n 2, 1) := by decide +kernel
theorem d_firstAtLeast_79 : decode prog_1_method_23_code 79 = .ok (.iconst 1, 1) := by decide +kernel
theorem d_firstAtLeast_80 : decode prog_1_method_23_code 80 = .ok (.iadd, 1) := by decide +kernel
theorem d_firstAtLeast_81 : decode prog_1_method_23_code 81 = .ok (.aload_n 0, 1) := by decide +kernel
theorem d_firstAtLeast_82 : decode prog_1_method_23_code 82 = .ok (.getfield 46, 3) := by decide +kernel
theorem d_firstAtLeast_94 : decode prog_1_method_23_code 94 = .ok (.iconst (-1), 1) := by decide +kernel
theorem d_firstAtLeast_95 : decode prog_1_method_23_code 95 = .ok (.ireturn, 1) := by decide +kernel
theorem d_firstAtLeast_88 : decode prog_1_method_23_code 88 = .ok (.iload_n 2, 1) := by decide +kernel
theorem d_firstAtLeast_89 : decode prog_1_method_23_code 89 = .ok (.iconst 1, 1) := by decide +kernel
theorem d_firstAtLeast_90 : decode prog_1_method_23_code 90 = .ok (.iadd, 1) := by decide +kernel
theorem d_firstAtLeast_91 : decode prog_1_method_23_code 91 = .ok (.iconst 4, 1) := by decide +kernel
theorem d_firstAtLeast_92 : decode prog_1_method_23_code 92 = .ok (.imul, 1) := by decide +kernel
theorem d_firstAtLeast_93 : decode prog_1_method_23_code 93 = .ok (.ireturn, 1) := by decide +kernel
theorem d_firstAtLeast_85 : decode prog_1_method_23_code 85 = .ok (.if_icmp .ge 9, 3) := by decide +kernel
theorem d_firstAtLeast_45 : decode prog_1_method_23_code 45 = .ok (.iload 6, 2) := by decide +kernel
theorem d_firstAtLeast_47 : decode prog_1_method_23_code 47 = .ok (.iconst 4, 1) := by decide +kernel
theorem d_firstAtLeast_51 : decode prog_1_method_23_code 51 = .ok (.aload_n 0, 1) := by decide +kernel
theorem d_firstAtLeast_52 : decode prog_1_method_23_code 52 = .ok (.getfield 7, 3) := by decide +kernel
theorem d_firstAtLeast_55 : decode prog_1_method_23_code 55 = .ok (.iload 4, 2) := by decide +kernel
theorem d_firstAtLeast_57 : decode prog_1_method_23_code 57 = .ok (.iload 6, 2) := by decide +kernel
theorem d_firstAtLeast_59 : decode prog_1_method_23_code 59 = .ok (.iadd, 1) := by decide +kernel
theorem d_firstAtLeast_60 : decode prog_1_method_23_code 60 = .ok (.iaload, 1) := by decide +kernel
theorem d_firstAtLeast_61 : decode prog_1_method_23_code 61 = .ok (.iload_n 1, 1) := by decide +kernel
theorem d_firstAtLeast_72 : decode prog_1_method_23_code 72 = .ok (.iinc 6 1, 3) := by decide +kernel
theorem d_firstAtLeast_75 : decode prog_1_method_23_code 75 = .ok (.goto (-37), 3) := by decide +kernel
theorem d_firstAtLeast_48 : decode prog_1_method_23_code 48 = .ok (.if_icmp .ge 30, 3) := by decide +kernel
theorem d_firstAtLeast_62 : decode prog_1_method_23_code 62 = .ok (.if_icmp .lt 10, 3) := by decide +kernel
theorem d_firstAtLeast_65 : decode prog_1_method_23_code 65 = .ok (.iload_n 2, 1) := by decide +kernel
theorem d_firstAtLeast_66 : decode prog_1_method_23_code 66 = .ok (.iconst 4, 1) := by decide +kernel
theorem d_firstAtLeast_67 : decode prog_1_method_23_code 67 = .ok (.imul, 1) := by decide +kernel
theorem d_firstAtLeast_68 : decode prog_1_method_23_code 68 = .ok (.iload 6, 2) := by decide +kernel
theorem d_firstAtLeast_70 : decode prog_1_method_23_code 70 = .ok (.iadd, 1) := by decide +kernel
theorem d_firstAtLeast_71 : decode prog_1_method_23_code 71 = .ok (.ireturn, 1) := by decide +kernel
theorem d_entryIndex_0 : decode prog_1_method_24_code 0 = .ok (.aload_n 0, 1) := by decide +kernel
theorem d_entryIndex_1 : decode prog_1_method_24_code 1 = .ok (.getfield 22, 3) := by decide +kernel
theorem d_entryIndex_4 : decode prog_1_method_24_code 4 = .ok (.iload_n 1, 1) := by decide +kernel
theorem d_entryIndex_5 : decode prog_1_method_24_code 5 = .ok (.iconst 2, 1) := by decide +kernel
theorem d_entryIndex_6 : decode prog_1_method_24_code 6 = .ok (.iushr, 1) := by decide +kernel
theorem d_entryIndex_7 : decode prog_1_method_24_code 7 = .ok (.bipush 31, 2) := by decide +kernel
theorem d_entryIndex_9 : decode prog_1_method_24_code 9 = .ok (.iand, 1) := by decide +kernel
theorem d_entryIndex_10 : decode prog_1_method_24_code 10 = .ok (.iaload, 1) := by decide +kernel
theorem d_entryIndex_11 : decode prog_1_method_24_code 11 = .ok (.istore_n 2, 1) := by decide +kernel
theorem d_entryIndex_12 : decode prog_1_method_24_code 12 = .ok (.iload_n 2, 1) := by decide +kernel
theorem d_entryIndex_13 : decode prog_1_method_24_code 13 = .ok (.iconst 4, 1) := by decide +kernel
theorem d_entryIndex_14 : decode prog_1_method_24_code 14 = .ok (.imul, 1) := by decide +kernel
theorem d_entryIndex_15 : decode prog_1_method_24_code 15 = .ok (.iload_n 1, 1) := by decide +kernel
theorem d_entryIndex_16 : decode prog_1_method_24_code 16 = .ok (.iconst 3, 1) := by decide +kernel
theorem d_entryIndex_17 : decode prog_1_method_24_code 17 = .ok (.iand, 1) := by decide +kernel
theorem d_entryIndex_18 : decode prog_1_method_24_code 18 = .ok (.iadd, 1) := by decide +kernel
theorem d_entryIndex_19 : decode prog_1_method_24_code 19 = .ok (.ireturn, 1) := by decide +kernel
abbrev W_entryIndex (pc : Nat) (ls : List Slot) (st : List Value) (M : EMem) (Q : Option Value → EMem → Prop) : Prop := Wp tables_1 1 0 0 (⟨"HtreeDir", "entryIndex", "(I)I"⟩ : MethodName) prog_1_method_24_code (some .int) pc ls st M Q
theorem d_allocLeaf_0 : decode prog_1_method_26_code 0 = .ok (.aload_n 0, 1) := by decide +kernel
theorem d_allocLeaf_1 : decode prog_1_method_26_code 1 = .ok (.getfield 49, 3) := by decide +kernel
theorem fa_c49 : fieldAt tables_1 "HtreeDir" 49 = some ("HtreeDir", 42, 1, false) := by decide +kernel
theorem d_allocLeaf_4 : decode prog_1_method_26_code 4 = .ok (.ifCond .gt 5, 3) := by decide +kernel
theorem d_allocLeaf_9 : decode prog_1_method_26_code 9 = .ok (.aload_n 0, 1) := by decide +kernel
theorem d_allocLeaf_10 : decode prog_1_method_26_code 10 = .ok (.dup, 1) := by decide +kernel
theorem d_allocLeaf_11 : decode prog_1_method_26_code 11 = .ok (.getfield 49, 3) := by decide +kernel
theorem d_allocLeaf_14 : decode prog_1_method_26_code 14 = .ok (.iconst 1, 1) := by decide +kernel
theorem d_allocLeaf_15 : decode prog_1_method_26_code 15 = .ok (.isub, 1) := by decide +kernel
theorem d_allocLeaf_16 : decode prog_1_method_26_code 16 = .ok (.putfield 49, 3) := by decide +kernel
theorem in_HtreeDir : instLk "HtreeDir" tables_1 = some 13 := by decide +kernel
theorem d_allocLeaf_19 : decode prog_1_method_26_code 19 = .ok (.aload_n 0, 1) := by decide +kernel
theorem d_allocLeaf_20 : decode prog_1_method_26_code 20 = .ok (.getfield 25, 3) := by decide +kernel
theorem fa_c25 : fieldAt tables_1 "HtreeDir" 25 = some ("HtreeDir", 26, 4, false) := by decide +kernel
theorem d_allocLeaf_23 : decode prog_1_method_26_code 23 = .ok (.aload_n 0, 1) := by decide +kernel
theorem d_allocLeaf_24 : decode prog_1_method_26_code 24 = .ok (.getfield 49, 3) := by decide +kernel
theorem d_allocLeaf_27 : decode prog_1_method_26_code 27 = .ok (.iaload, 1) := by decide +kernel
theorem d_allocLeaf_28 : decode prog_1_method_26_code 28 = .ok (.bipush 31, 2) := by decide +kernel
theorem d_allocLeaf_30 : decode prog_1_method_26_code 30 = .ok (.iand, 1) := by decide +kernel
theorem d_allocLeaf_31 : decode prog_1_method_26_code 31 = .ok (.istore_n 1, 1) := by decide +kernel
theorem d_allocLeaf_32 : decode prog_1_method_26_code 32 = .ok (.aload_n 0, 1) := by decide +kernel
theorem d_allocLeaf_33 : decode prog_1_method_26_code 33 = .ok (.getfield 19, 3) := by decide +kernel
theorem d_allocLeaf_36 : decode prog_1_method_26_code 36 = .ok (.iload_n 1, 1) := by decide +kernel
theorem d_allocLeaf_37 : decode prog_1_method_26_code 37 = .ok (.iconst 0, 1) := by decide +kernel
theorem d_allocLeaf_38 : decode prog_1_method_26_code 38 = .ok (.iastore, 1) := by decide +kernel
theorem d_allocLeaf_39 : decode prog_1_method_26_code 39 = .ok (.iload_n 1, 1) := by decide +kernel
theorem d_allocLeaf_40 : decode prog_1_method_26_code 40 = .ok (.ireturn, 1) := by decide +kernel
theorem d_allocLeaf_7 : decode prog_1_method_26_code 7 = .ok (.iconst (-1), 1) := by decide +kernel
theorem d_allocLeaf_8 : decode prog_1_method_26_code 8 = .ok (.ireturn, 1) := by decide +kernel
abbrev W_allocLeaf (pc : Nat) (ls : List Slot) (st : List Value) (M : EMem) (Q : Option Value → EMem → Prop) : Prop := Wp tables_1 1 0 0 (⟨"HtreeDir", "allocLeaf", "()I"⟩ : MethodName) prog_1_method_26_code (some .int) pc ls st M Q
theorem d_freeLeaf_0 : decode prog_1_method_27_code 0 = .ok (.aload_n 0, 1) := by decide +kernel
theorem d_freeLeaf_1 : decode prog_1_method_27_code 1 = .ok (.getfield 19, 3) := by decide +kernel
theorem d_freeLeaf_4 : decode prog_1_method_27_code 4 = .ok (.iload_n 1, 1) := by decide +kernel
theorem d_freeLeaf_5 : decode prog_1_method_27_code 5 = .ok (.bipush 31, 2) := by decide +kernel
theorem d_freeLeaf_7 : decode prog_1_method_27_code 7 = .ok (.iand, 1) := by decide +kernel
theorem d_freeLeaf_8 : decode prog_1_method_27_code 8 = .ok (.iconst 0, 1) := by decide +kernel
theorem d_freeLeaf_9 : decode prog_1_method_27_code 9 = .ok (.iastore, 1) := by decide +kernel
theorem d_freeLeaf_10 : decode prog_1_method_27_code 10 = .ok (.aload_n 0, 1) := by decide +kernel
theorem d_freeLeaf_11 : decode prog_1_method_27_code 11 = .ok (.getfield 49, 3) := by decide +kernel
theorem d_freeLeaf_14 : decode prog_1_method_27_code 14 = .ok (.bipush 32, 2) := by decide +kernel
theorem d_freeLeaf_16 : decode prog_1_method_27_code 16 = .ok (.if_icmp .ge 26, 3) := by decide +kernel
theorem d_freeLeaf_19 : decode prog_1_method_27_code 19 = .ok (.aload_n 0, 1) := by decide +kernel
theorem d_freeLeaf_20 : decode prog_1_method_27_code 20 = .ok (.getfield 25, 3) := by decide +kernel
theorem d_freeLeaf_23 : decode prog_1_method_27_code 23 = .ok (.aload_n 0, 1) := by decide +kernel
theorem d_freeLeaf_24 : decode prog_1_method_27_code 24 = .ok (.getfield 49, 3) := by decide +kernel
theorem d_freeLeaf_27 : decode prog_1_method_27_code 27 = .ok (.iload_n 1, 1) := by decide +kernel
theorem d_freeLeaf_28 : decode prog_1_method_27_code 28 = .ok (.bipush 31, 2) := by decide +kernel
theorem d_freeLeaf_30 : decode prog_1_method_27_code 30 = .ok (.iand, 1) := by decide +kernel
theorem d_freeLeaf_42 : decode prog_1_method_27_code 42 = .ok (.return_, 1) := by decide +kernel
theorem d_freeLeaf_31 : decode prog_1_method_27_code 31 = .ok (.iastore, 1) := by decide +kernel
theorem d_freeLeaf_32 : decode prog_1_method_27_code 32 = .ok (.aload_n 0, 1) := by decide +kernel
theorem d_freeLeaf_33 : decode prog_1_method_27_code 33 = .ok (.dup, 1) := by decide +kernel
theorem d_freeLeaf_34 : decode prog_1_method_27_code 34 = .ok (.getfield 49, 3) := by decide +kernel
theorem d_freeLeaf_37 : decode prog_1_method_27_code 37 = .ok (.iconst 1, 1) := by decide +kernel
theorem d_freeLeaf_38 : decode prog_1_method_27_code 38 = .ok (.iadd, 1) := by decide +kernel
theorem d_freeLeaf_39 : decode prog_1_method_27_code 39 = .ok (.putfield 49, 3) := by decide +kernel
abbrev W_freeLeaf (pc : Nat) (ls : List Slot) (st : List Value) (M : EMem) (Q : Option Value → EMem → Prop) : Prop := Wp tables_1 1 0 0 (⟨"HtreeDir", "freeLeaf", "(I)V"⟩ : MethodName) prog_1_method_27_code none pc ls st M Q
theorem d_createFirstLeaf_0 : decode prog_1_method_28_code 0 = .ok (.aload_n 0, 1) := by decide +kernel
theorem d_createFirstLeaf_1 : decode prog_1_method_28_code 1 = .ok (.invokevirtual 103, 3) := by decide +kernel
theorem ml_c103 : methodLk "HtreeDir" 103 tables_1 = some (⟨"HtreeDir", "allocLeaf", "()I"⟩ : MethodName) := by decide +kernel
theorem cl_allocLeaf : codeLk (⟨"HtreeDir", "allocLeaf", "()I"⟩ : MethodName) tables_1 = some (prog_1_method_26_code, 2, (some .int)) := codeLk_at (i := 130) rfl (by decide +kernel)
theorem pd_allocLeaf : parseMethodDescriptor "()I" = some ⟨[], some .int⟩ := by decide +kernel
theorem cc_allocLeaf_1 : hasInit (⟨"HtreeDir", "allocLeaf", "()I"⟩ : MethodName).cls tables_1 = true ∧ plainName (⟨"HtreeDir", "allocLeaf", "()I"⟩ : MethodName).cls = true ∧ (⟨"HtreeDir", "allocLeaf", "()I"⟩ : MethodName).cls ≠ "java/lang/invoke/MethodHandle" ∧ (⟨"HtreeDir", "allocLeaf", "()I"⟩ : MethodName).cls ≠ "java/lang/invoke/VarHandle" ∧ (((1 : Nat) = 0 ∧ hasDecl (⟨"HtreeDir", "allocLeaf", "()I"⟩ : MethodName) tables_1 = true ∧ hasSel (⟨"HtreeDir", "allocLeaf", "()I"⟩ : MethodName) tables_1 = true ∧ hasInst (⟨"HtreeDir", "allocLeaf", "()I"⟩ : MethodName) tables_1 = true) ∨ ((1 : Nat) = 1 ∧ hasPriv (⟨"HtreeDir", "allocLeaf", "()I"⟩ : MethodName) tables_1 = true ∧ hasInst (⟨"HtreeDir", "allocLeaf", "()I"⟩ : MethodName) tables_1 = true ∧ (instLk (⟨"HtreeDir", "allocLeaf", "()I"⟩ : MethodName).cls tables_1).isSome = true) ∨ ((1 : Nat) = 2 ∧ (⟨"HtreeDir", "allocLeaf", "()I"⟩ : MethodName).name = "<init>" ∧ hasInst (⟨"HtreeDir", "allocLeaf", "()I"⟩ : MethodName) tables_1 = true ∧ ((some .int) : Option FieldType) = none) ∨ ((1 : Nat) = 3 ∧ hasStat (⟨"HtreeDir", "allocLeaf", "()I"⟩ : MethodName) tables_1 = true)) := by decide +kernel
theorem ca_c103_1 : callAt tables_1 "HtreeDir" 103 1 = some ((⟨"HtreeDir", "allocLeaf", "()I"⟩ : MethodName), 0, prog_1_method_26_code, 2, (some .int)) := callAt_of ml_c103 cl_allocLeaf pd_allocLeaf cc_allocLeaf_1 rfl
abbrev W_createFirstLeaf (pc : Nat) (ls : List Slot) (st : List Value) (M : EMem) (Q : Option Value → EMem → Prop) : Prop := Wp tables_1 1 1 13 (⟨"HtreeDir", "createFirstLeaf", "()Z"⟩ : MethodName) prog_1_method_28_code (some .boolean) pc ls st M Q
theorem d_createFirstLeaf_4 : decode prog_1_method_28_code 4 = .ok (.istore_n 1, 1) := by decide +kernel
theorem d_createFirstLeaf_5 : decode prog_1_method_28_code 5 = .ok (.iload_n 1, 1) := by decide +kernel
theorem d_createFirstLeaf_6 : decode prog_1_method_28_code 6 = .ok (.ifCond .ge 5, 3) := by decide +kernel
theorem d_createFirstLeaf_11 : decode prog_1_method_28_code 11 = .ok (.aload_n 0, 1) := by decide +kernel
theorem d_createFirstLeaf_12 : decode prog_1_method_28_code 12 = .ok (.getfield 22, 3) := by decide +kernel
theorem d_createFirstLeaf_15 : decode prog_1_method_28_code 15 = .ok (.iconst 0, 1) := by decide +kernel
theorem d_createFirstLeaf_16 : decode prog_1_method_28_code 16 = .ok (.iload_n 1, 1) := by decide +kernel
theorem d_createFirstLeaf_17 : decode prog_1_method_28_code 17 = .ok (.iastore, 1) := by decide +kernel
theorem d_createFirstLeaf_18 : decode prog_1_method_28_code 18 = .ok (.aload_n 0, 1) := by decide +kernel
theorem d_createFirstLeaf_19 : decode prog_1_method_28_code 19 = .ok (.iconst 1, 1) := by decide +kernel
theorem d_createFirstLeaf_20 : decode prog_1_method_28_code 20 = .ok (.putfield 46, 3) := by decide +kernel
theorem d_createFirstLeaf_23 : decode prog_1_method_28_code 23 = .ok (.iconst 1, 1) := by decide +kernel
theorem d_createFirstLeaf_24 : decode prog_1_method_28_code 24 = .ok (.ireturn, 1) := by decide +kernel
theorem d_createFirstLeaf_9 : decode prog_1_method_28_code 9 = .ok (.iconst 0, 1) := by decide +kernel
theorem d_createFirstLeaf_10 : decode prog_1_method_28_code 10 = .ok (.ireturn, 1) := by decide +kernel
theorem d_indexInsert_0 : decode prog_1_method_29_code 0 = .ok (.aload_n 0, 1) := by decide +kernel
theorem d_indexInsert_1 : decode prog_1_method_29_code 1 = .ok (.getfield 46, 3) := by decide +kernel
theorem d_indexInsert_4 : decode prog_1_method_29_code 4 = .ok (.bipush 32, 2) := by decide +kernel
theorem d_indexInsert_6 : decode prog_1_method_29_code 6 = .ok (.if_icmp .ge 15, 3) := by decide +kernel
theorem d_indexInsert_21 : decode prog_1_method_29_code 21 = .ok (.return_, 1) := by decide +kernel
theorem d_indexInsert_9 : decode prog_1_method_29_code 9 = .ok (.iload_n 1, 1) := by decide +kernel
theorem d_indexInsert_10 : decode prog_1_method_29_code 10 = .ok (.ifCond .lt 11, 3) := by decide +kernel
theorem d_indexInsert_13 : decode prog_1_method_29_code 13 = .ok (.iload_n 1, 1) := by decide +kernel
theorem d_indexInsert_14 : decode prog_1_method_29_code 14 = .ok (.aload_n 0, 1) := by decide +kernel
theorem d_indexInsert_15 : decode prog_1_method_29_code 15 = .ok (.getfield 46, 3) := by decide +kernel
theorem d_indexInsert_18 : decode prog_1_method_29_code 18 = .ok (.if_icmp .le 4, 3) := by decide +kernel
theorem d_indexInsert_22 : decode prog_1_method_29_code 22 = .ok (.aload_n 0, 1) := by decide +kernel
theorem d_indexInsert_23 : decode prog_1_method_29_code 23 = .ok (.getfield 46, 3) := by decide +kernel
theorem d_indexInsert_26 : decode prog_1_method_29_code 26 = .ok (.istore_n 3, 1) := by decide +kernel
abbrev W_indexInsert (pc : Nat) (ls : List Slot) (st : List Value) (M : EMem) (Q : Option Value → EMem → Prop) : Prop := Wp tables_1 1 0 0 (⟨"HtreeDir", "indexInsert", "(II)V"⟩ : MethodName) prog_1_method_29_code none pc ls st M Q
theorem d_indexInsert_27 : decode prog_1_method_29_code 27 = .ok (.iload_n 3, 1) := by decide +kernel
theorem d_indexInsert_28 : decode prog_1_method_29_code 28 = .ok (.iload_n 1, 1) := by decide +kernel
theorem d_indexInsert_29 : decode prog_1_method_29_code 29 = .ok (.if_icmp .le 23, 3) := by decide +kernel
theorem d_indexInsert_32 : decode prog_1_method_29_code 32 = .ok (.aload_n 0, 1) := by decide +kernel
theorem d_indexInsert_33 : decode prog_1_method_29_code 33 = .ok (.getfield 22, 3) := by decide +kernel
theorem d_indexInsert_36 : decode prog_1_method_29_code 36 = .ok (.iload_n 3, 1) := by decide +kernel
theorem d_indexInsert_37 : decode prog_1_method_29_code 37 = .ok (.aload_n 0, 1) := by decide +kernel
theorem d_indexInsert_38 : decode prog_1_method_29_code 38 = .ok (.getfield 22, 3) := by decide +kernel
theorem d_indexInsert_41 : decode prog_1_method_29_code 41 = .ok (.iload_n 3, 1) := by decide +kernel
theorem d_indexInsert_42 : decode prog_1_method_29_code 42 = .ok (.iconst 1, 1) := by decide +kernel
theorem d_indexInsert_43 : decode prog_1_method_29_code 43 = .ok (.isub, 1) := by decide +kernel
theorem d_indexInsert_44 : decode prog_1_method_29_code 44 = .ok (.iaload, 1) := by decide +kernel
theorem d_indexInsert_52 : decode prog_1_method_29_code 52 = .ok (.aload_n 0, 1) := by decide +kernel
theorem d_indexInsert_53 : decode prog_1_method_29_code 53 = .ok (.getfield 22, 3) := by decide +kernel
theorem d_indexInsert_56 : decode prog_1_method_29_code 56 = .ok (.iload_n 1, 1) := by decide +kernel
theorem d_indexInsert_57 : decode prog_1_method_29_code 57 = .ok (.iload_n 2, 1) := by decide +kernel
theorem d_indexInsert_58 : decode prog_1_method_29_code 58 = .ok (.iastore, 1) := by decide +kernel
theorem d_indexInsert_59 : decode prog_1_method_29_code 59 = .ok (.aload_n 0, 1) := by decide +kernel
theorem d_indexInsert_60 : decode prog_1_method_29_code 60 = .ok (.dup, 1) := by decide +kernel
theorem d_indexInsert_61 : decode prog_1_method_29_code 61 = .ok (.getfield 46, 3) := by decide +kernel
theorem d_indexInsert_64 : decode prog_1_method_29_code 64 = .ok (.iconst 1, 1) := by decide +kernel
theorem d_indexInsert_65 : decode prog_1_method_29_code 65 = .ok (.iadd, 1) := by decide +kernel
theorem d_indexInsert_66 : decode prog_1_method_29_code 66 = .ok (.putfield 46, 3) := by decide +kernel
theorem d_indexInsert_69 : decode prog_1_method_29_code 69 = .ok (.return_, 1) := by decide +kernel
theorem d_indexInsert_45 : decode prog_1_method_29_code 45 = .ok (.iastore, 1) := by decide +kernel
theorem d_indexInsert_46 : decode prog_1_method_29_code 46 = .ok (.iinc 3 (-1), 3) := by decide +kernel
theorem d_indexInsert_49 : decode prog_1_method_29_code 49 = .ok (.goto (-22), 3) := by decide +kernel
theorem d_indexRemove_0 : decode prog_1_method_30_code 0 = .ok (.iload_n 1, 1) := by decide +kernel
theorem d_indexRemove_1 : decode prog_1_method_30_code 1 = .ok (.ifCond .lt 11, 3) := by decide +kernel
theorem d_indexRemove_12 : decode prog_1_method_30_code 12 = .ok (.return_, 1) := by decide +kernel
theorem d_indexRemove_4 : decode prog_1_method_30_code 4 = .ok (.iload_n 1, 1) := by decide +kernel
theorem d_indexRemove_5 : decode prog_1_method_30_code 5 = .ok (.aload_n 0, 1) := by decide +kernel
theorem d_indexRemove_6 : decode prog_1_method_30_code 6 = .ok (.getfield 46, 3) := by decide +kernel
theorem d_indexRemove_9 : decode prog_1_method_30_code 9 = .ok (.if_icmp .lt 4, 3) := by decide +kernel
theorem d_indexRemove_13 : decode prog_1_method_30_code 13 = .ok (.iload_n 1, 1) := by decide +kernel
theorem d_indexRemove_14 : decode prog_1_method_30_code 14 = .ok (.istore_n 2, 1) := by decide +kernel
abbrev W_indexRemove (pc : Nat) (ls : List Slot) (st : List Value) (M : EMem) (Q : Option Value → EMem → Prop) : Prop := Wp tables_1 1 0 0 (⟨"HtreeDir", "indexRemove", "(I)V"⟩ : MethodName) prog_1_method_30_code none pc ls st M Q
theorem d_indexRemove_15 : decode prog_1_method_30_code 15 = .ok (.iload_n 2, 1) := by decide +kernel
theorem d_indexRemove_16 : decode prog_1_method_30_code 16 = .ok (.aload_n 0, 1) := by decide +kernel
theorem d_indexRemove_17 : decode prog_1_method_30_code 17 = .ok (.getfield 46, 3) := by decide +kernel
theorem d_indexRemove_20 : decode prog_1_method_30_code 20 = .ok (.iconst 1, 1) := by decide +kernel
theorem d_indexRemove_21 : decode prog_1_method_30_code 21 = .ok (.isub, 1) := by decide +kernel
theorem d_indexRemove_22 : decode prog_1_method_30_code 22 = .ok (.if_icmp .ge 29, 3) := by decide +kernel
theorem d_indexRemove_25 : decode prog_1_method_30_code 25 = .ok (.iload_n 2, 1) := by decide +kernel
theorem d_indexRemove_26 : decode prog_1_method_30_code 26 = .ok (.bipush 31, 2) := by decide +kernel
theorem d_indexRemove_31 : decode prog_1_method_30_code 31 = .ok (.aload_n 0, 1) := by decide +kernel
theorem d_indexRemove_32 : decode prog_1_method_30_code 32 = .ok (.getfield 22, 3) := by decide +kernel
theorem d_indexRemove_35 : decode prog_1_method_30_code 35 = .ok (.iload_n 2, 1) := by decide +kernel
theorem d_indexRemove_36 : decode prog_1_method_30_code 36 = .ok (.aload_n 0, 1) := by decide +kernel
theorem d_indexRemove_37 : decode prog_1_method_30_code 37 = .ok (.getfield 22, 3) := by decide +kernel
theorem d_indexRemove_40 : decode prog_1_method_30_code 40 = .ok (.iload_n 2, 1) := by decide +kernel
theorem d_indexRemove_41 : decode prog_1_method_30_code 41 = .ok (.iconst 1, 1) := by decide +kernel
theorem d_indexRemove_42 : decode prog_1_method_30_code 42 = .ok (.iadd, 1) := by decide +kernel
theorem d_indexRemove_43 : decode prog_1_method_30_code 43 = .ok (.iaload, 1) := by decide +kernel
theorem d_indexRemove_28 : decode prog_1_method_30_code 28 = .ok (.if_icmp .ge 23, 3) := by decide +kernel
theorem d_indexRemove_44 : decode prog_1_method_30_code 44 = .ok (.iastore, 1) := by decide +kernel
theorem d_indexRemove_45 : decode prog_1_method_30_code 45 = .ok (.iinc 2 1, 3) := by decide +kernel
theorem d_indexRemove_48 : decode prog_1_method_30_code 48 = .ok (.goto (-33), 3) := by decide +kernel
theorem d_indexRemove_51 : decode prog_1_method_30_code 51 = .ok (.aload_n 0, 1) := by decide +kernel
theorem d_indexRemove_52 : decode prog_1_method_30_code 52 = .ok (.dup, 1) := by decide +kernel
theorem d_indexRemove_53 : decode prog_1_method_30_code 53 = .ok (.getfield 46, 3) := by decide +kernel
theorem d_indexRemove_56 : decode prog_1_method_30_code 56 = .ok (.iconst 1, 1) := by decide +kernel
theorem d_indexRemove_57 : decode prog_1_method_30_code 57 = .ok (.isub, 1) := by decide +kernel
theorem d_indexRemove_58 : decode prog_1_method_30_code 58 = .ok (.putfield 46, 3) := by decide +kernel
theorem d_indexRemove_61 : decode prog_1_method_30_code 61 = .ok (.return_, 1) := by decide +kernel
theorem d_copyEntry_0 : decode prog_1_method_31_code 0 = .ok (.aload_n 0, 1) := by decide +kernel
theorem d_copyEntry_1 : decode prog_1_method_31_code 1 = .ok (.getfield 7, 3) := by decide +kernel
theorem d_copyEntry_4 : decode prog_1_method_31_code 4 = .ok (.iload_n 2, 1) := by decide +kernel
theorem d_copyEntry_5 : decode prog_1_method_31_code 5 = .ok (.aload_n 0, 1) := by decide +kernel
theorem d_copyEntry_6 : decode prog_1_method_31_code 6 = .ok (.getfield 7, 3) := by decide +kernel
theorem d_copyEntry_9 : decode prog_1_method_31_code 9 = .ok (.iload_n 1, 1) := by decide +kernel
theorem d_copyEntry_10 : decode prog_1_method_31_code 10 = .ok (.iaload, 1) := by decide +kernel
theorem d_copyEntry_11 : decode prog_1_method_31_code 11 = .ok (.iastore, 1) := by decide +kernel
theorem d_copyEntry_12 : decode prog_1_method_31_code 12 = .ok (.aload_n 0, 1) := by decide +kernel
theorem d_copyEntry_13 : decode prog_1_method_31_code 13 = .ok (.getfield 13, 3) := by decide +kernel
theorem fa_c13 : fieldAt tables_1 "HtreeDir" 13 = some ("HtreeDir", 18, 4, false) := by decide +kernel
theorem d_copyEntry_16 : decode prog_1_method_31_code 16 = .ok (.iload_n 2, 1) := by decide +kernel
theorem d_copyEntry_17 : decode prog_1_method_31_code 17 = .ok (.aload_n 0, 1) := by decide +kernel
theorem d_copyEntry_18 : decode prog_1_method_31_code 18 = .ok (.getfield 13, 3) := by decide +kernel
theorem d_copyEntry_21 : decode prog_1_method_31_code 21 = .ok (.iload_n 1, 1) := by decide +kernel
theorem d_copyEntry_22 : decode prog_1_method_31_code 22 = .ok (.iaload, 1) := by decide +kernel
theorem d_copyEntry_23 : decode prog_1_method_31_code 23 = .ok (.iastore, 1) := by decide +kernel
theorem d_copyEntry_24 : decode prog_1_method_31_code 24 = .ok (.aload_n 0, 1) := by decide +kernel
theorem d_copyEntry_25 : decode prog_1_method_31_code 25 = .ok (.getfield 16, 3) := by decide +kernel
theorem fa_c16 : fieldAt tables_1 "HtreeDir" 16 = some ("HtreeDir", 20, 4, false) := by decide +kernel
theorem d_copyEntry_28 : decode prog_1_method_31_code 28 = .ok (.iload_n 2, 1) := by decide +kernel
theorem d_copyEntry_29 : decode prog_1_method_31_code 29 = .ok (.aload_n 0, 1) := by decide +kernel
theorem d_copyEntry_30 : decode prog_1_method_31_code 30 = .ok (.getfield 16, 3) := by decide +kernel
theorem d_copyEntry_33 : decode prog_1_method_31_code 33 = .ok (.iload_n 1, 1) := by decide +kernel
theorem d_copyEntry_34 : decode prog_1_method_31_code 34 = .ok (.iaload, 1) := by decide +kernel
theorem d_copyEntry_35 : decode prog_1_method_31_code 35 = .ok (.iastore, 1) := by decide +kernel
theorem d_copyEntry_36 : decode prog_1_method_31_code 36 = .ok (.return_, 1) := by decide +kernel
abbrev W_copyEntry (pc : Nat) (ls : List Slot) (st : List Value) (M : EMem) (Q : Option Value → EMem → Prop) : Prop := Wp tables_1 1 0 0 (⟨"HtreeDir", "copyEntry", "(II)V"⟩ : MethodName) prog_1_method_31_code none pc ls st M Q
theorem d_splitLeaf_0 : decode prog_1_method_32_code 0 = .ok (.aload_n 0, 1) := by decide +kernel
theorem d_splitLeaf_1 : decode prog_1_method_32_code 1 = .ok (.getfield 22, 3) := by decide +kernel
theorem d_splitLeaf_4 : decode prog_1_method_32_code 4 = .ok (.iload_n 1, 1) := by decide +kernel
theorem d_splitLeaf_5 : decode prog_1_method_32_code 5 = .ok (.iaload, 1) := by decide +kernel
theorem d_splitLeaf_6 : decode prog_1_method_32_code 6 = .ok (.istore_n 3, 1) := by decide +kernel
theorem d_splitLeaf_7 : decode prog_1_method_32_code 7 = .ok (.aload_n 0, 1) := by decide +kernel
theorem d_splitLeaf_8 : decode prog_1_method_32_code 8 = .ok (.invokevirtual 103, 3) := by decide +kernel
abbrev W_splitLeaf (pc : Nat) (ls : List Slot) (st : List Value) (M : EMem) (Q : Option Value → EMem → Prop) : Prop := Wp tables_1 1 1 15 (⟨"HtreeDir", "splitLeaf", "(II)I"⟩ : MethodName) prog_1_method_32_code (some .int) pc ls st M Q
theorem d_splitLeaf_11 : decode prog_1_method_32_code 11 = .ok (.istore 4, 2) := by decide +kernel
theorem d_splitLeaf_13 : decode prog_1_method_32_code 13 = .ok (.iload 4, 2) := by decide +kernel
theorem d_splitLeaf_15 : decode prog_1_method_32_code 15 = .ok (.ifCond .ge 5, 3) := by decide +kernel
theorem d_splitLeaf_20 : decode prog_1_method_32_code 20 = .ok (.iload_n 3, 1) := by decide +kernel
theorem d_splitLeaf_21 : decode prog_1_method_32_code 21 = .ok (.iconst 4, 1) := by decide +kernel
theorem d_splitLeaf_22 : decode prog_1_method_32_code 22 = .ok (.imul, 1) := by decide +kernel
theorem d_splitLeaf_23 : decode prog_1_method_32_code 23 = .ok (.istore 5, 2) := by decide +kernel
theorem d_splitLeaf_25 : decode prog_1_method_32_code 25 = .ok (.iload 4, 2) := by decide +kernel
theorem d_splitLeaf_27 : decode prog_1_method_32_code 27 = .ok (.iconst 4, 1) := by decide +kernel
theorem d_splitLeaf_28 : decode prog_1_method_32_code 28 = .ok (.imul, 1) := by decide +kernel
theorem d_splitLeaf_29 : decode prog_1_method_32_code 29 = .ok (.istore 6, 2) := by decide +kernel
theorem d_splitLeaf_31 : decode prog_1_method_32_code 31 = .ok (.iconst 0, 1) := by decide +kernel
theorem d_splitLeaf_32 : decode prog_1_method_32_code 32 = .ok (.istore 7, 2) := by decide +kernel
theorem d_splitLeaf_18 : decode prog_1_method_32_code 18 = .ok (.iload_n 1, 1) := by decide +kernel
theorem d_splitLeaf_19 : decode prog_1_method_32_code 19 = .ok (.ireturn, 1) := by decide +kernel
theorem d_splitLeaf_34 : decode prog_1_method_32_code 34 = .ok (.iload 7, 2) := by decide +kernel
theorem d_splitLeaf_36 : decode prog_1_method_32_code 36 = .ok (.iconst 2, 1) := by decide +kernel
theorem d_splitLeaf_37 : decode prog_1_method_32_code 37 = .ok (.if_icmp .ge 25, 3) := by decide +kernel
theorem d_splitLeaf_40 : decode prog_1_method_32_code 40 = .ok (.aload_n 0, 1) := by decide +kernel
theorem d_splitLeaf_41 : decode prog_1_method_32_code 41 = .ok (.iload 5, 2) := by decide +kernel
theorem d_splitLeaf_43 : decode prog_1_method_32_code 43 = .ok (.iconst 2, 1) := by decide +kernel
theorem d_splitLeaf_44 : decode prog_1_method_32_code 44 = .ok (.iadd, 1) := by decide +kernel
theorem d_splitLeaf_45 : decode prog_1_method_32_code 45 = .ok (.iload 7, 2) := by decide +kernel
theorem d_splitLeaf_47 : decode prog_1_method_32_code 47 = .ok (.iadd, 1) := by decide +kernel
theorem d_splitLeaf_48 : decode prog_1_method_32_code 48 = .ok (.iload 6, 2) := by decide +kernel
theorem d_splitLeaf_50 : decode prog_1_method_32_code 50 = .ok (.iload 7, 2) := by decide +kernel
theorem d_splitLeaf_52 : decode prog_1_method_32_code 52 = .ok (.iadd, 1) := by decide +kernel
theorem d_splitLeaf_62 : decode prog_1_method_32_code 62 = .ok (.aload_n 0, 1) := by decide +kernel
theorem d_splitLeaf_63 : decode prog_1_method_32_code 63 = .ok (.getfield 19, 3) := by decide +kernel
theorem d_splitLeaf_66 : decode prog_1_method_32_code 66 = .ok (.iload_n 3, 1) := by decide +kernel
theorem d_splitLeaf_67 : decode prog_1_method_32_code 67 = .ok (.iconst 2, 1) := by decide +kernel
theorem d_splitLeaf_68 : decode prog_1_method_32_code 68 = .ok (.iastore, 1) := by decide +kernel
theorem d_splitLeaf_69 : decode prog_1_method_32_code 69 = .ok (.aload_n 0, 1) := by decide +kernel
theorem d_splitLeaf_70 : decode prog_1_method_32_code 70 = .ok (.getfield 19, 3) := by decide +kernel
theorem d_splitLeaf_73 : decode prog_1_method_32_code 73 = .ok (.iload 4, 2) := by decide +kernel
theorem d_splitLeaf_75 : decode prog_1_method_32_code 75 = .ok (.iconst 2, 1) := by decide +kernel
theorem d_splitLeaf_76 : decode prog_1_method_32_code 76 = .ok (.iastore, 1) := by decide +kernel
theorem d_splitLeaf_77 : decode prog_1_method_32_code 77 = .ok (.aload_n 0, 1) := by decide +kernel
theorem d_splitLeaf_78 : decode prog_1_method_32_code 78 = .ok (.iload_n 1, 1) := by decide +kernel
theorem d_splitLeaf_79 : decode prog_1_method_32_code 79 = .ok (.iconst 1, 1) := by decide +kernel
theorem d_splitLeaf_80 : decode prog_1_method_32_code 80 = .ok (.iadd, 1) := by decide +kernel
theorem d_splitLeaf_81 : decode prog_1_method_32_code 81 = .ok (.iload 4, 2) := by decide +kernel
theorem d_splitLeaf_83 : decode prog_1_method_32_code 83 = .ok (.invokevirtual 110, 3) := by decide +kernel
theorem ml_c110 : methodLk "HtreeDir" 110 tables_1 = some (⟨"HtreeDir", "indexInsert", "(II)V"⟩ : MethodName) := by decide +kernel
theorem cl_indexInsert : codeLk (⟨"HtreeDir", "indexInsert", "(II)V"⟩ : MethodName) tables_1 = some (prog_1_method_29_code, 4, none) := codeLk_at (i := 184) rfl (by decide +kernel)
theorem pd_indexInsert : parseMethodDescriptor "(II)V" = some ⟨[.int, .int], none⟩ := by decide +kernel
theorem cc_indexInsert_1 : hasInit (⟨"HtreeDir", "indexInsert", "(II)V"⟩ : MethodName).cls tables_1 = true ∧ plainName (⟨"HtreeDir", "indexInsert", "(II)V"⟩ : MethodName).cls = true ∧ (⟨"HtreeDir", "indexInsert", "(II)V"⟩ : MethodName).cls ≠ "java/lang/invoke/MethodHandle" ∧ (⟨"HtreeDir", "indexInsert", "(II)V"⟩ : MethodName).cls ≠ "java/lang/invoke/VarHandle" ∧ (((1 : Nat) = 0 ∧ hasDecl (⟨"HtreeDir", "indexInsert", "(II)V"⟩ : MethodName) tables_1 = true ∧ hasSel (⟨"HtreeDir", "indexInsert", "(II)V"⟩ : MethodName) tables_1 = true ∧ hasInst (⟨"HtreeDir", "indexInsert", "(II)V"⟩ : MethodName) tables_1 = true) ∨ ((1 : Nat) = 1 ∧ hasPriv (⟨"HtreeDir", "indexInsert", "(II)V"⟩ : MethodName) tables_1 = true ∧ hasInst (⟨"HtreeDir", "indexInsert", "(II)V"⟩ : MethodName) tables_1 = true ∧ (instLk (⟨"HtreeDir", "indexInsert", "(II)V"⟩ : MethodName).cls tables_1).isSome = true) ∨ ((1 : Nat) = 2 ∧ (⟨"HtreeDir", "indexInsert", "(II)V"⟩ : MethodName).name = "<init>" ∧ hasInst (⟨"HtreeDir", "indexInsert", "(II)V"⟩ : MethodName) tables_1 = true ∧ (none : Option FieldType) = none) ∨ ((1 : Nat) = 3 ∧ hasStat (⟨"HtreeDir", "indexInsert", "(II)V"⟩ : MethodName) tables_1 = true)) := by decide +kernel
theorem ca_c110_1 : callAt tables_1 "HtreeDir" 110 1 = some ((⟨"HtreeDir", "indexInsert", "(II)V"⟩ : MethodName), 2, prog_1_method_29_code, 4, none) := callAt_of ml_c110 cl_indexInsert pd_indexInsert cc_indexInsert_1 rfl
theorem d_splitLeaf_53 : decode prog_1_method_32_code 53 = .ok (.invokevirtual 107, 3) := by decide +kernel
theorem ml_c107 : methodLk "HtreeDir" 107 tables_1 = some (⟨"HtreeDir", "copyEntry", "(II)V"⟩ : MethodName) := by decide +kernel
theorem cl_copyEntry : codeLk (⟨"HtreeDir", "copyEntry", "(II)V"⟩ : MethodName) tables_1 = some (prog_1_method_31_code, 3, none) := codeLk_at (i := 165) rfl (by decide +kernel)
theorem pd_copyEntry : parseMethodDescriptor "(II)V" = some ⟨[.int, .int], none⟩ := by decide +kernel
theorem cc_copyEntry_1 : hasInit (⟨"HtreeDir", "copyEntry", "(II)V"⟩ : MethodName).cls tables_1 = true ∧ plainName (⟨"HtreeDir", "copyEntry", "(II)V"⟩ : MethodName).cls = true ∧ (⟨"HtreeDir", "copyEntry", "(II)V"⟩ : MethodName).cls ≠ "java/lang/invoke/MethodHandle" ∧ (⟨"HtreeDir", "copyEntry", "(II)V"⟩ : MethodName).cls ≠ "java/lang/invoke/VarHandle" ∧ (((1 : Nat) = 0 ∧ hasDecl (⟨"HtreeDir", "copyEntry", "(II)V"⟩ : MethodName) tables_1 = true ∧ hasSel (⟨"HtreeDir", "copyEntry", "(II)V"⟩ : MethodName) tables_1 = true ∧ hasInst (⟨"HtreeDir", "copyEntry", "(II)V"⟩ : MethodName) tables_1 = true) ∨ ((1 : Nat) = 1 ∧ hasPriv (⟨"HtreeDir", "copyEntry", "(II)V"⟩ : MethodName) tables_1 = true ∧ hasInst (⟨"HtreeDir", "copyEntry", "(II)V"⟩ : MethodName) tables_1 = true ∧ (instLk (⟨"HtreeDir", "copyEntry", "(II)V"⟩ : MethodName).cls tables_1).isSome = true) ∨ ((1 : Nat) = 2 ∧ (⟨"HtreeDir", "copyEntry", "(II)V"⟩ : MethodName).name = "<init>" ∧ hasInst (⟨"HtreeDir", "copyEntry", "(II)V"⟩ : MethodName) tables_1 = true ∧ (none : Option FieldType) = none) ∨ ((1 : Nat) = 3 ∧ hasStat (⟨"HtreeDir", "copyEntry", "(II)V"⟩ : MethodName) tables_1 = true)) := by decide +kernel
theorem ca_c107_1 : callAt tables_1 "HtreeDir" 107 1 = some ((⟨"HtreeDir", "copyEntry", "(II)V"⟩ : MethodName), 2, prog_1_method_31_code, 3, none) := callAt_of ml_c107 cl_copyEntry pd_copyEntry cc_copyEntry_1 rfl
theorem d_splitLeaf_56 : decode prog_1_method_32_code 56 = .ok (.iinc 7 1, 3) := by decide +kernel
theorem d_splitLeaf_59 : decode prog_1_method_32_code 59 = .ok (.goto (-25), 3) := by decide +kernel
theorem d_splitLeaf_86 : decode prog_1_method_32_code 86 = .ok (.iload_n 2, 1) := by decide +kernel
theorem d_splitLeaf_87 : decode prog_1_method_32_code 87 = .ok (.aload_n 0, 1) := by decide +kernel
theorem d_splitLeaf_88 : decode prog_1_method_32_code 88 = .ok (.getfield 7, 3) := by decide +kernel
theorem d_splitLeaf_91 : decode prog_1_method_32_code 91 = .ok (.iload 6, 2) := by decide +kernel
theorem d_splitLeaf_93 : decode prog_1_method_32_code 93 = .ok (.iaload, 1) := by decide +kernel
theorem d_splitLeaf_94 : decode prog_1_method_32_code 94 = .ok (.if_icmp .le 7, 3) := by decide +kernel
theorem d_splitLeaf_101 : decode prog_1_method_32_code 101 = .ok (.iload_n 1, 1) := by decide +kernel
theorem d_splitLeaf_102 : decode prog_1_method_32_code 102 = .ok (.ireturn, 1) := by decide +kernel
theorem d_splitLeaf_97 : decode prog_1_method_32_code 97 = .ok (.iload_n 1, 1) := by decide +kernel
theorem d_splitLeaf_98 : decode prog_1_method_32_code 98 = .ok (.iconst 1, 1) := by decide +kernel
theorem d_splitLeaf_99 : decode prog_1_method_32_code 99 = .ok (.iadd, 1) := by decide +kernel
theorem d_splitLeaf_100 : decode prog_1_method_32_code 100 = .ok (.ireturn, 1) := by decide +kernel
theorem d_insertIntoLeaf_0 : decode prog_1_method_33_code 0 = .ok (.aload_n 0, 1) := by decide +kernel
theorem d_insertIntoLeaf_1 : decode prog_1_method_33_code 1 = .ok (.getfield 19, 3) := by decide +kernel
theorem d_insertIntoLeaf_4 : decode prog_1_method_33_code 4 = .ok (.iload_n 1, 1) := by decide +kernel
theorem d_insertIntoLeaf_5 : decode prog_1_method_33_code 5 = .ok (.iaload, 1) := by decide +kernel
theorem d_insertIntoLeaf_6 : decode prog_1_method_33_code 6 = .ok (.istore 5, 2) := by decide +kernel
theorem d_insertIntoLeaf_8 : decode prog_1_method_33_code 8 = .ok (.iload 5, 2) := by decide +kernel
theorem d_insertIntoLeaf_10 : decode prog_1_method_33_code 10 = .ok (.iconst 4, 1) := by decide +kernel
theorem d_insertIntoLeaf_11 : decode prog_1_method_33_code 11 = .ok (.if_icmp .ge 8, 3) := by decide +kernel
theorem d_insertIntoLeaf_19 : decode prog_1_method_33_code 19 = .ok (.return_, 1) := by decide +kernel
theorem d_insertIntoLeaf_14 : decode prog_1_method_33_code 14 = .ok (.iload 5, 2) := by decide +kernel
theorem d_insertIntoLeaf_16 : decode prog_1_method_33_code 16 = .ok (.ifCond .ge 4, 3) := by decide +kernel
theorem d_insertIntoLeaf_20 : decode prog_1_method_33_code 20 = .ok (.iload_n 1, 1) := by decide +kernel
theorem d_insertIntoLeaf_21 : decode prog_1_method_33_code 21 = .ok (.iconst 4, 1) := by decide +kernel
theorem d_insertIntoLeaf_22 : decode prog_1_method_33_code 22 = .ok (.imul, 1) := by decide +kernel
theorem d_insertIntoLeaf_23 : decode prog_1_method_33_code 23 = .ok (.istore 6, 2) := by decide +kernel
theorem d_insertIntoLeaf_25 : decode prog_1_method_33_code 25 = .ok (.iload 5, 2) := by decide +kernel
theorem d_insertIntoLeaf_27 : decode prog_1_method_33_code 27 = .ok (.istore 7, 2) := by decide +kernel
abbrev W_insertIntoLeaf (pc : Nat) (ls : List Slot) (st : List Value) (M : EMem) (Q : Option Value → EMem → Prop) : Prop := Wp tables_1 1 1 14 (⟨"HtreeDir", "insertIntoLeaf", "(IIII)V"⟩ : MethodName) prog_1_method_33_code none pc ls st M Q
theorem d_insertIntoLeaf_29 : decode prog_1_method_33_code 29 = .ok (.iload 7, 2) := by decide +kernel
theorem d_insertIntoLeaf_31 : decode prog_1_method_33_code 31 = .ok (.ifCond .le 44, 3) := by decide +kernel
theorem d_insertIntoLeaf_34 : decode prog_1_method_33_code 34 = .ok (.aload_n 0, 1) := by decide +kernel
theorem d_insertIntoLeaf_35 : decode prog_1_method_33_code 35 = .ok (.getfield 7, 3) := by decide +kernel
theorem d_insertIntoLeaf_38 : decode prog_1_method_33_code 38 = .ok (.iload 6, 2) := by decide +kernel
theorem d_insertIntoLeaf_40 : decode prog_1_method_33_code 40 = .ok (.iload 7, 2) := by decide +kernel
theorem d_insertIntoLeaf_42 : decode prog_1_method_33_code 42 = .ok (.iadd, 1) := by decide +kernel
theorem d_insertIntoLeaf_43 : decode prog_1_method_33_code 43 = .ok (.iconst 1, 1) := by decide +kernel
theorem d_insertIntoLeaf_44 : decode prog_1_method_33_code 44 = .ok (.isub, 1) := by decide +kernel
theorem d_insertIntoLeaf_45 : decode prog_1_method_33_code 45 = .ok (.iaload, 1) := by decide +kernel
theorem d_insertIntoLeaf_46 : decode prog_1_method_33_code 46 = .ok (.iload_n 2, 1) := by decide +kernel
theorem d_insertIntoLeaf_53 : decode prog_1_method_33_code 53 = .ok (.aload_n 0, 1) := by decide +kernel
theorem d_insertIntoLeaf_54 : decode prog_1_method_33_code 54 = .ok (.iload 6, 2) := by decide +kernel
theorem d_insertIntoLeaf_56 : decode prog_1_method_33_code 56 = .ok (.iload 7, 2) := by decide +kernel
theorem d_insertIntoLeaf_58 : decode prog_1_method_33_code 58 = .ok (.iadd, 1) := by decide +kernel
theorem d_insertIntoLeaf_59 : decode prog_1_method_33_code 59 = .ok (.iconst 1, 1) := by decide +kernel
theorem d_insertIntoLeaf_60 : decode prog_1_method_33_code 60 = .ok (.isub, 1) := by decide +kernel
theorem d_insertIntoLeaf_61 : decode prog_1_method_33_code 61 = .ok (.iload 6, 2) := by decide +kernel
theorem d_insertIntoLeaf_63 : decode prog_1_method_33_code 63 = .ok (.iload 7, 2) := by decide +kernel
theorem d_insertIntoLeaf_65 : decode prog_1_method_33_code 65 = .ok (.iadd, 1) := by decide +kernel
theorem d_insertIntoLeaf_47 : decode prog_1_method_33_code 47 = .ok (.if_icmp .ge 6, 3) := by decide +kernel
theorem d_insertIntoLeaf_66 : decode prog_1_method_33_code 66 = .ok (.invokevirtual 107, 3) := by decide +kernel
theorem d_insertIntoLeaf_69 : decode prog_1_method_33_code 69 = .ok (.iinc 7 (-1), 3) := by decide +kernel
theorem d_insertIntoLeaf_72 : decode prog_1_method_33_code 72 = .ok (.goto (-43), 3) := by decide +kernel
theorem d_insertIntoLeaf_50 : decode prog_1_method_33_code 50 = .ok (.goto 25, 3) := by decide +kernel
theorem d_insertIntoLeaf_75 : decode prog_1_method_33_code 75 = .ok (.aload_n 0, 1) := by decide +kernel
theorem d_insertIntoLeaf_76 : decode prog_1_method_33_code 76 = .ok (.getfield 7, 3) := by decide +kernel
theorem d_insertIntoLeaf_79 : decode prog_1_method_33_code 79 = .ok (.iload 6, 2) := by decide +kernel
theorem d_insertIntoLeaf_81 : decode prog_1_method_33_code 81 = .ok (.iload 7, 2) := by decide +kernel
theorem d_insertIntoLeaf_83 : decode prog_1_method_33_code 83 = .ok (.iadd, 1) := by decide +kernel
theorem d_insertIntoLeaf_84 : decode prog_1_method_33_code 84 = .ok (.iload_n 2, 1) := by decide +kernel
theorem d_insertIntoLeaf_85 : decode prog_1_method_33_code 85 = .ok (.iastore, 1) := by decide +kernel
theorem d_insertIntoLeaf_86 : decode prog_1_method_33_code 86 = .ok (.aload_n 0, 1) := by decide +kernel
theorem d_insertIntoLeaf_87 : decode prog_1_method_33_code 87 = .ok (.getfield 13, 3) := by decide +kernel
theorem d_insertIntoLeaf_90 : decode prog_1_method_33_code 90 = .ok (.iload 6, 2) := by decide +kernel
theorem d_insertIntoLeaf_92 : decode prog_1_method_33_code 92 = .ok (.iload 7, 2) := by decide +kernel
theorem d_insertIntoLeaf_94 : decode prog_1_method_33_code 94 = .ok (.iadd, 1) := by decide +kernel
theorem d_insertIntoLeaf_95 : decode prog_1_method_33_code 95 = .ok (.iload_n 3, 1) := by decide +kernel
theorem d_insertIntoLeaf_96 : decode prog_1_method_33_code 96 = .ok (.iastore, 1) := by decide +kernel
theorem d_insertIntoLeaf_97 : decode prog_1_method_33_code 97 = .ok (.aload_n 0, 1) := by decide +kernel
theorem d_insertIntoLeaf_98 : decode prog_1_method_33_code 98 = .ok (.getfield 16, 3) := by decide +kernel
theorem d_insertIntoLeaf_101 : decode prog_1_method_33_code 101 = .ok (.iload 6, 2) := by decide +kernel
theorem d_insertIntoLeaf_103 : decode prog_1_method_33_code 103 = .ok (.iload 7, 2) := by decide +kernel
theorem d_insertIntoLeaf_105 : decode prog_1_method_33_code 105 = .ok (.iadd, 1) := by decide +kernel
theorem d_insertIntoLeaf_106 : decode prog_1_method_33_code 106 = .ok (.iload 4, 2) := by decide +kernel
theorem d_insertIntoLeaf_108 : decode prog_1_method_33_code 108 = .ok (.iastore, 1) := by decide +kernel
theorem d_insertIntoLeaf_109 : decode prog_1_method_33_code 109 = .ok (.aload_n 0, 1) := by decide +kernel
theorem d_insertIntoLeaf_110 : decode prog_1_method_33_code 110 = .ok (.getfield 19, 3) := by decide +kernel
theorem d_insertIntoLeaf_113 : decode prog_1_method_33_code 113 = .ok (.iload_n 1, 1) := by decide +kernel
theorem d_insertIntoLeaf_114 : decode prog_1_method_33_code 114 = .ok (.iload 5, 2) := by decide +kernel
theorem d_insertIntoLeaf_116 : decode prog_1_method_33_code 116 = .ok (.iconst 1, 1) := by decide +kernel
theorem d_insertIntoLeaf_117 : decode prog_1_method_33_code 117 = .ok (.iadd, 1) := by decide +kernel
theorem d_insertIntoLeaf_118 : decode prog_1_method_33_code 118 = .ok (.iastore, 1) := by decide +kernel
theorem d_insertIntoLeaf_119 : decode prog_1_method_33_code 119 = .ok (.return_, 1) := by decide +kernel
theorem d_deleteFromLeaf_0 : decode prog_1_method_34_code 0 = .ok (.aload_n 0, 1) := by decide +kernel
theorem d_deleteFromLeaf_1 : decode prog_1_method_34_code 1 = .ok (.getfield 19, 3) := by decide +kernel
theorem d_deleteFromLeaf_4 : decode prog_1_method_34_code 4 = .ok (.iload_n 1, 1) := by decide +kernel
theorem d_deleteFromLeaf_5 : decode prog_1_method_34_code 5 = .ok (.iaload, 1) := by decide +kernel
theorem d_deleteFromLeaf_6 : decode prog_1_method_34_code 6 = .ok (.istore_n 3, 1) := by decide +kernel
theorem d_deleteFromLeaf_7 : decode prog_1_method_34_code 7 = .ok (.iload_n 3, 1) := by decide +kernel
theorem d_deleteFromLeaf_8 : decode prog_1_method_34_code 8 = .ok (.ifCond .le 12, 3) := by decide +kernel
theorem d_deleteFromLeaf_20 : decode prog_1_method_34_code 20 = .ok (.return_, 1) := by decide +kernel
theorem d_deleteFromLeaf_11 : decode prog_1_method_34_code 11 = .ok (.iload_n 2, 1) := by decide +kernel
theorem d_deleteFromLeaf_12 : decode prog_1_method_34_code 12 = .ok (.ifCond .lt 8, 3) := by decide +kernel
theorem d_deleteFromLeaf_15 : decode prog_1_method_34_code 15 = .ok (.iload_n 2, 1) := by decide +kernel
theorem d_deleteFromLeaf_16 : decode prog_1_method_34_code 16 = .ok (.iload_n 3, 1) := by decide +kernel
theorem d_deleteFromLeaf_17 : decode prog_1_method_34_code 17 = .ok (.if_icmp .lt 4, 3) := by decide +kernel
theorem d_deleteFromLeaf_21 : decode prog_1_method_34_code 21 = .ok (.iload_n 1, 1) := by decide +kernel
theorem d_deleteFromLeaf_22 : decode prog_1_method_34_code 22 = .ok (.iconst 4, 1) := by decide +kernel
theorem d_deleteFromLeaf_23 : decode prog_1_method_34_code 23 = .ok (.imul, 1) := by decide +kernel
theorem d_deleteFromLeaf_24 : decode prog_1_method_34_code 24 = .ok (.istore 4, 2) := by decide +kernel
theorem d_deleteFromLeaf_26 : decode prog_1_method_34_code 26 = .ok (.iload_n 2, 1) := by decide +kernel
theorem d_deleteFromLeaf_27 : decode prog_1_method_34_code 27 = .ok (.istore 5, 2) := by decide +kernel
abbrev W_deleteFromLeaf (pc : Nat) (ls : List Slot) (st : List Value) (M : EMem) (Q : Option Value → EMem → Prop) : Prop := Wp tables_1 1 1 14 (⟨"HtreeDir", "deleteFromLeaf", "(II)V"⟩ : MethodName) prog_1_method_34_code none pc ls st M Q
theorem d_deleteFromLeaf_29 : decode prog_1_method_34_code 29 = .ok (.iload 5, 2) := by decide +kernel
theorem d_deleteFromLeaf_31 : decode prog_1_method_34_code 31 = .ok (.iload_n 3, 1) := by decide +kernel
theorem d_deleteFromLeaf_32 : decode prog_1_method_34_code 32 = .ok (.iconst 1, 1) := by decide +kernel
theorem d_deleteFromLeaf_33 : decode prog_1_method_34_code 33 = .ok (.isub, 1) := by decide +kernel
theorem d_deleteFromLeaf_34 : decode prog_1_method_34_code 34 = .ok (.if_icmp .ge 31, 3) := by decide +kernel
theorem d_deleteFromLeaf_37 : decode prog_1_method_34_code 37 = .ok (.iload 5, 2) := by decide +kernel
theorem d_deleteFromLeaf_39 : decode prog_1_method_34_code 39 = .ok (.iconst 3, 1) := by decide +kernel
theorem d_deleteFromLeaf_43 : decode prog_1_method_34_code 43 = .ok (.aload_n 0, 1) := by decide +kernel
theorem d_deleteFromLeaf_44 : decode prog_1_method_34_code 44 = .ok (.iload 4, 2) := by decide +kernel
theorem d_deleteFromLeaf_46 : decode prog_1_method_34_code 46 = .ok (.iload 5, 2) := by decide +kernel
theorem d_deleteFromLeaf_48 : decode prog_1_method_34_code 48 = .ok (.iadd, 1) := by decide +kernel
theorem d_deleteFromLeaf_49 : decode prog_1_method_34_code 49 = .ok (.iconst 1, 1) := by decide +kernel
theorem d_deleteFromLeaf_50 : decode prog_1_method_34_code 50 = .ok (.iadd, 1) := by decide +kernel
theorem d_deleteFromLeaf_51 : decode prog_1_method_34_code 51 = .ok (.iload 4, 2) := by decide +kernel
theorem d_deleteFromLeaf_53 : decode prog_1_method_34_code 53 = .ok (.iload 5, 2) := by decide +kernel
theorem d_deleteFromLeaf_55 : decode prog_1_method_34_code 55 = .ok (.iadd, 1) := by decide +kernel
theorem d_deleteFromLeaf_40 : decode prog_1_method_34_code 40 = .ok (.if_icmp .ge 25, 3) := by decide +kernel
theorem d_deleteFromLeaf_56 : decode prog_1_method_34_code 56 = .ok (.invokevirtual 107, 3) := by decide +kernel
theorem d_deleteFromLeaf_59 : decode prog_1_method_34_code 59 = .ok (.iinc 5 1, 3) := by decide +kernel
theorem d_deleteFromLeaf_62 : decode prog_1_method_34_code 62 = .ok (.goto (-33), 3) := by decide +kernel
theorem d_deleteFromLeaf_65 : decode prog_1_method_34_code 65 = .ok (.aload_n 0, 1) := by decide +kernel
theorem d_deleteFromLeaf_66 : decode prog_1_method_34_code 66 = .ok (.getfield 19, 3) := by decide +kernel
theorem d_deleteFromLeaf_69 : decode prog_1_method_34_code 69 = .ok (.iload_n 1, 1) := by decide +kernel
theorem d_deleteFromLeaf_70 : decode prog_1_method_34_code 70 = .ok (.iload_n 3, 1) := by decide +kernel
theorem d_deleteFromLeaf_71 : decode prog_1_method_34_code 71 = .ok (.iconst 1, 1) := by decide +kernel
theorem d_deleteFromLeaf_72 : decode prog_1_method_34_code 72 = .ok (.isub, 1) := by decide +kernel
theorem d_deleteFromLeaf_73 : decode prog_1_method_34_code 73 = .ok (.iastore, 1) := by decide +kernel
theorem d_deleteFromLeaf_74 : decode prog_1_method_34_code 74 = .ok (.return_, 1) := by decide +kernel
theorem d_mergeWithNext_0 : decode prog_1_method_36_code 0 = .ok (.iload_n 1, 1) := by decide +kernel
theorem d_mergeWithNext_1 : decode prog_1_method_36_code 1 = .ok (.ifCond .lt 13, 3) := by decide +kernel
theorem d_mergeWithNext_14 : decode prog_1_method_36_code 14 = .ok (.return_, 1) := by decide +kernel
theorem d_mergeWithNext_4 : decode prog_1_method_36_code 4 = .ok (.iload_n 1, 1) := by decide +kernel
theorem d_mergeWithNext_5 : decode prog_1_method_36_code 5 = .ok (.iconst 1, 1) := by decide +kernel
theorem d_mergeWithNext_6 : decode prog_1_method_36_code 6 = .ok (.iadd, 1) := by decide +kernel
theorem d_mergeWithNext_7 : decode prog_1_method_36_code 7 = .ok (.aload_n 0, 1) := by decide +kernel
theorem d_mergeWithNext_8 : decode prog_1_method_36_code 8 = .ok (.getfield 46, 3) := by decide +kernel
theorem d_mergeWithNext_11 : decode prog_1_method_36_code 11 = .ok (.if_icmp .lt 4, 3) := by decide +kernel
theorem d_mergeWithNext_15 : decode prog_1_method_36_code 15 = .ok (.aload_n 0, 1) := by decide +kernel
theorem d_mergeWithNext_16 : decode prog_1_method_36_code 16 = .ok (.getfield 22, 3) := by decide +kernel
theorem d_mergeWithNext_19 : decode prog_1_method_36_code 19 = .ok (.iload_n 1, 1) := by decide +kernel
theorem d_mergeWithNext_20 : decode prog_1_method_36_code 20 = .ok (.iaload, 1) := by decide +kernel
theorem d_mergeWithNext_21 : decode prog_1_method_36_code 21 = .ok (.istore_n 2, 1) := by decide +kernel
theorem d_mergeWithNext_22 : decode prog_1_method_36_code 22 = .ok (.aload_n 0, 1) := by decide +kernel
theorem d_mergeWithNext_23 : decode prog_1_method_36_code 23 = .ok (.getfield 22, 3) := by decide +kernel
theorem d_mergeWithNext_26 : decode prog_1_method_36_code 26 = .ok (.iload_n 1, 1) := by decide +kernel
theorem d_mergeWithNext_27 : decode prog_1_method_36_code 27 = .ok (.iconst 1, 1) := by decide +kernel
theorem d_mergeWithNext_28 : decode prog_1_method_36_code 28 = .ok (.iadd, 1) := by decide +kernel
theorem d_mergeWithNext_29 : decode prog_1_method_36_code 29 = .ok (.iaload, 1) := by decide +kernel
theorem d_mergeWithNext_30 : decode prog_1_method_36_code 30 = .ok (.istore_n 3, 1) := by decide +kernel
theorem d_mergeWithNext_31 : decode prog_1_method_36_code 31 = .ok (.aload_n 0, 1) := by decide +kernel
theorem d_mergeWithNext_32 : decode prog_1_method_36_code 32 = .ok (.getfield 19, 3) := by decide +kernel
theorem d_mergeWithNext_35 : decode prog_1_method_36_code 35 = .ok (.iload_n 2, 1) := by decide +kernel
theorem d_mergeWithNext_36 : decode prog_1_method_36_code 36 = .ok (.iaload, 1) := by decide +kernel
theorem d_mergeWithNext_37 : decode prog_1_method_36_code 37 = .ok (.istore 4, 2) := by decide +kernel
theorem d_mergeWithNext_39 : decode prog_1_method_36_code 39 = .ok (.aload_n 0, 1) := by decide +kernel
theorem d_mergeWithNext_40 : decode prog_1_method_36_code 40 = .ok (.getfield 19, 3) := by decide +kernel
theorem d_mergeWithNext_43 : decode prog_1_method_36_code 43 = .ok (.iload_n 3, 1) := by decide +kernel
theorem d_mergeWithNext_44 : decode prog_1_method_36_code 44 = .ok (.iaload, 1) := by decide +kernel
theorem d_mergeWithNext_45 : decode prog_1_method_36_code 45 = .ok (.istore 5, 2) := by decide +kernel
theorem d_mergeWithNext_47 : decode prog_1_method_36_code 47 = .ok (.iload 4, 2) := by decide +kernel
theorem d_mergeWithNext_49 : decode prog_1_method_36_code 49 = .ok (.iload 5, 2) := by decide +kernel
theorem d_mergeWithNext_51 : decode prog_1_method_36_code 51 = .ok (.iadd, 1) := by decide +kernel
theorem d_mergeWithNext_52 : decode prog_1_method_36_code 52 = .ok (.iconst 4, 1) := by decide +kernel
theorem d_mergeWithNext_57 : decode prog_1_method_36_code 57 = .ok (.iload_n 2, 1) := by decide +kernel
theorem d_mergeWithNext_58 : decode prog_1_method_36_code 58 = .ok (.iconst 4, 1) := by decide +kernel
theorem d_mergeWithNext_59 : decode prog_1_method_36_code 59 = .ok (.imul, 1) := by decide +kernel
theorem d_mergeWithNext_60 : decode prog_1_method_36_code 60 = .ok (.istore 6, 2) := by decide +kernel
theorem d_mergeWithNext_62 : decode prog_1_method_36_code 62 = .ok (.iload_n 3, 1) := by decide +kernel
theorem d_mergeWithNext_63 : decode prog_1_method_36_code 63 = .ok (.iconst 4, 1) := by decide +kernel
theorem d_mergeWithNext_64 : decode prog_1_method_36_code 64 = .ok (.imul, 1) := by decide +kernel
theorem d_mergeWithNext_65 : decode prog_1_method_36_code 65 = .ok (.istore 7, 2) := by decide +kernel
theorem d_mergeWithNext_67 : decode prog_1_method_36_code 67 = .ok (.iconst 0, 1) := by decide +kernel
theorem d_mergeWithNext_68 : decode prog_1_method_36_code 68 = .ok (.istore 8, 2) := by decide +kernel
theorem d_mergeWithNext_53 : decode prog_1_method_36_code 53 = .ok (.if_icmp .le 4, 3) := by decide +kernel
abbrev W_mergeWithNext (pc : Nat) (ls : List Slot) (st : List Value) (M : EMem) (Q : Option Value → EMem → Prop) : Prop := Wp tables_1 1 1 14 (⟨"HtreeDir", "mergeWithNext", "(I)V"⟩ : MethodName) prog_1_method_36_code none pc ls st M Q
theorem d_mergeWithNext_56 : decode prog_1_method_36_code 56 = .ok (.return_, 1) := by decide +kernel
theorem d_mergeWithNext_70 : decode prog_1_method_36_code 70 = .ok (.iload 8, 2) := by decide +kernel
theorem d_mergeWithNext_72 : decode prog_1_method_36_code 72 = .ok (.iload 5, 2) := by decide +kernel
theorem d_mergeWithNext_74 : decode prog_1_method_36_code 74 = .ok (.if_icmp .ge 35, 3) := by decide +kernel
theorem d_mergeWithNext_77 : decode prog_1_method_36_code 77 = .ok (.iload 4, 2) := by decide +kernel
theorem d_mergeWithNext_79 : decode prog_1_method_36_code 79 = .ok (.iload 8, 2) := by decide +kernel
theorem d_mergeWithNext_81 : decode prog_1_method_36_code 81 = .ok (.iadd, 1) := by decide +kernel
theorem d_mergeWithNext_82 : decode prog_1_method_36_code 82 = .ok (.iconst 4, 1) := by decide +kernel
theorem d_mergeWithNext_86 : decode prog_1_method_36_code 86 = .ok (.aload_n 0, 1) := by decide +kernel
theorem d_mergeWithNext_87 : decode prog_1_method_36_code 87 = .ok (.iload 7, 2) := by decide +kernel
theorem d_mergeWithNext_89 : decode prog_1_method_36_code 89 = .ok (.iload 8, 2) := by decide +kernel
theorem d_mergeWithNext_91 : decode prog_1_method_36_code 91 = .ok (.iadd, 1) := by decide +kernel
theorem d_mergeWithNext_92 : decode prog_1_method_36_code 92 = .ok (.iload 6, 2) := by decide +kernel
theorem d_mergeWithNext_94 : decode prog_1_method_36_code 94 = .ok (.iload 4, 2) := by decide +kernel
theorem d_mergeWithNext_96 : decode prog_1_method_36_code 96 = .ok (.iadd, 1) := by decide +kernel
theorem d_mergeWithNext_97 : decode prog_1_method_36_code 97 = .ok (.iload 8, 2) := by decide +kernel
theorem d_mergeWithNext_99 : decode prog_1_method_36_code 99 = .ok (.iadd, 1) := by decide +kernel
theorem d_mergeWithNext_83 : decode prog_1_method_36_code 83 = .ok (.if_icmp .ge 26, 3) := by decide +kernel
theorem d_mergeWithNext_100 : decode prog_1_method_36_code 100 = .ok (.invokevirtual 107, 3) := by decide +kernel
theorem d_mergeWithNext_103 : decode prog_1_method_36_code 103 = .ok (.iinc 8 1, 3) := by decide +kernel
theorem d_mergeWithNext_106 : decode prog_1_method_36_code 106 = .ok (.goto (-36), 3) := by decide +kernel
theorem d_mergeWithNext_109 : decode prog_1_method_36_code 109 = .ok (.aload_n 0, 1) := by decide +kernel
theorem d_mergeWithNext_110 : decode prog_1_method_36_code 110 = .ok (.getfield 19, 3) := by decide +kernel
theorem d_mergeWithNext_113 : decode prog_1_method_36_code 113 = .ok (.iload_n 2, 1) := by decide +kernel
theorem d_mergeWithNext_114 : decode prog_1_method_36_code 114 = .ok (.iload 4, 2) := by decide +kernel
theorem d_mergeWithNext_116 : decode prog_1_method_36_code 116 = .ok (.iload 5, 2) := by decide +kernel
theorem d_mergeWithNext_118 : decode prog_1_method_36_code 118 = .ok (.iadd, 1) := by decide +kernel
theorem d_mergeWithNext_119 : decode prog_1_method_36_code 119 = .ok (.iastore, 1) := by decide +kernel
theorem d_mergeWithNext_120 : decode prog_1_method_36_code 120 = .ok (.aload_n 0, 1) := by decide +kernel
theorem d_mergeWithNext_121 : decode prog_1_method_36_code 121 = .ok (.iload_n 1, 1) := by decide +kernel
theorem d_mergeWithNext_122 : decode prog_1_method_36_code 122 = .ok (.iconst 1, 1) := by decide +kernel
theorem d_mergeWithNext_123 : decode prog_1_method_36_code 123 = .ok (.iadd, 1) := by decide +kernel
theorem d_mergeWithNext_124 : decode prog_1_method_36_code 124 = .ok (.invokevirtual 113, 3) := by decide +kernel
theorem ml_c113 : methodLk "HtreeDir" 113 tables_1 = some (⟨"HtreeDir", "indexRemove", "(I)V"⟩ : MethodName) := by decide +kernel
theorem cl_indexRemove : codeLk (⟨"HtreeDir", "indexRemove", "(I)V"⟩ : MethodName) tables_1 = some (prog_1_method_30_code, 3, none) := codeLk_at (i := 192) rfl (by decide +kernel)
theorem pd_indexRemove : parseMethodDescriptor "(I)V" = some ⟨[.int], none⟩ := by decide +kernel
theorem cc_indexRemove_1 : hasInit (⟨"HtreeDir", "indexRemove", "(I)V"⟩ : MethodName).cls tables_1 = true ∧ plainName (⟨"HtreeDir", "indexRemove", "(I)V"⟩ : MethodName).cls = true ∧ (⟨"HtreeDir", "indexRemove", "(I)V"⟩ : MethodName).cls ≠ "java/lang/invoke/MethodHandle" ∧ (⟨"HtreeDir", "indexRemove", "(I)V"⟩ : MethodName).cls ≠ "java/lang/invoke/VarHandle" ∧ (((1 : Nat) = 0 ∧ hasDecl (⟨"HtreeDir", "indexRemove", "(I)V"⟩ : MethodName) tables_1 = true ∧ hasSel (⟨"HtreeDir", "indexRemove", "(I)V"⟩ : MethodName) tables_1 = true ∧ hasInst (⟨"HtreeDir", "indexRemove", "(I)V"⟩ : MethodName) tables_1 = true) ∨ ((1 : Nat) = 1 ∧ hasPriv (⟨"HtreeDir", "indexRemove", "(I)V"⟩ : MethodName) tables_1 = true ∧ hasInst (⟨"HtreeDir", "indexRemove", "(I)V"⟩ : MethodName) tables_1 = true ∧ (instLk (⟨"HtreeDir", "indexRemove", "(I)V"⟩ : MethodName).cls tables_1).isSome = true) ∨ ((1 : Nat) = 2 ∧ (⟨"HtreeDir", "indexRemove", "(I)V"⟩ : MethodName).name = "<init>" ∧ hasInst (⟨"HtreeDir", "indexRemove", "(I)V"⟩ : MethodName) tables_1 = true ∧ (none : Option FieldType) = none) ∨ ((1 : Nat) = 3 ∧ hasStat (⟨"HtreeDir", "indexRemove", "(I)V"⟩ : MethodName) tables_1 = true)) := by decide +kernel
theorem ca_c113_1 : callAt tables_1 "HtreeDir" 113 1 = some ((⟨"HtreeDir", "indexRemove", "(I)V"⟩ : MethodName), 1, prog_1_method_30_code, 3, none) := callAt_of ml_c113 cl_indexRemove pd_indexRemove cc_indexRemove_1 rfl
theorem d_mergeWithNext_127 : decode prog_1_method_36_code 127 = .ok (.aload_n 0, 1) := by decide +kernel
theorem d_mergeWithNext_128 : decode prog_1_method_36_code 128 = .ok (.iload_n 3, 1) := by decide +kernel
theorem d_mergeWithNext_129 : decode prog_1_method_36_code 129 = .ok (.invokevirtual 116, 3) := by decide +kernel
theorem ml_c116 : methodLk "HtreeDir" 116 tables_1 = some (⟨"HtreeDir", "freeLeaf", "(I)V"⟩ : MethodName) := by decide +kernel
theorem cl_freeLeaf : codeLk (⟨"HtreeDir", "freeLeaf", "(I)V"⟩ : MethodName) tables_1 = some (prog_1_method_27_code, 2, none) := codeLk_at (i := 196) rfl (by decide +kernel)
theorem pd_freeLeaf : parseMethodDescriptor "(I)V" = some ⟨[.int], none⟩ := by decide +kernel
theorem cc_freeLeaf_1 : hasInit (⟨"HtreeDir", "freeLeaf", "(I)V"⟩ : MethodName).cls tables_1 = true ∧ plainName (⟨"HtreeDir", "freeLeaf", "(I)V"⟩ : MethodName).cls = true ∧ (⟨"HtreeDir", "freeLeaf", "(I)V"⟩ : MethodName).cls ≠ "java/lang/invoke/MethodHandle" ∧ (⟨"HtreeDir", "freeLeaf", "(I)V"⟩ : MethodName).cls ≠ "java/lang/invoke/VarHandle" ∧ (((1 : Nat) = 0 ∧ hasDecl (⟨"HtreeDir", "freeLeaf", "(I)V"⟩ : MethodName) tables_1 = true ∧ hasSel (⟨"HtreeDir", "freeLeaf", "(I)V"⟩ : MethodName) tables_1 = true ∧ hasInst (⟨"HtreeDir", "freeLeaf", "(I)V"⟩ : MethodName) tables_1 = true) ∨ ((1 : Nat) = 1 ∧ hasPriv (⟨"HtreeDir", "freeLeaf", "(I)V"⟩ : MethodName) tables_1 = true ∧ hasInst (⟨"HtreeDir", "freeLeaf", "(I)V"⟩ : MethodName) tables_1 = true ∧ (instLk (⟨"HtreeDir", "freeLeaf", "(I)V"⟩ : MethodName).cls tables_1).isSome = true) ∨ ((1 : Nat) = 2 ∧ (⟨"HtreeDir", "freeLeaf", "(I)V"⟩ : MethodName).name = "<init>" ∧ hasInst (⟨"HtreeDir", "freeLeaf", "(I)V"⟩ : MethodName) tables_1 = true ∧ (none : Option FieldType) = none) ∨ ((1 : Nat) = 3 ∧ hasStat (⟨"HtreeDir", "freeLeaf", "(I)V"⟩ : MethodName) tables_1 = true)) := by decide +kernel
theorem ca_c116_1 : callAt tables_1 "HtreeDir" 116 1 = some ((⟨"HtreeDir", "freeLeaf", "(I)V"⟩ : MethodName), 1, prog_1_method_27_code, 2, none) := callAt_of ml_c116 cl_freeLeaf pd_freeLeaf cc_freeLeaf_1 rfl
theorem d_mergeWithNext_132 : decode prog_1_method_36_code 132 = .ok (.return_, 1) := by decide +kernel
theorem d_rebalance_0 : decode prog_1_method_35_code 0 = .ok (.iload_n 1, 1) := by decide +kernel
theorem d_rebalance_1 : decode prog_1_method_35_code 1 = .ok (.ifCond .lt 11, 3) := by decide +kernel
theorem d_rebalance_12 : decode prog_1_method_35_code 12 = .ok (.return_, 1) := by decide +kernel
theorem d_rebalance_4 : decode prog_1_method_35_code 4 = .ok (.iload_n 1, 1) := by decide +kernel
theorem d_rebalance_5 : decode prog_1_method_35_code 5 = .ok (.aload_n 0, 1) := by decide +kernel
theorem d_rebalance_6 : decode prog_1_method_35_code 6 = .ok (.getfield 46, 3) := by decide +kernel
theorem d_rebalance_9 : decode prog_1_method_35_code 9 = .ok (.if_icmp .lt 4, 3) := by decide +kernel
theorem d_rebalance_13 : decode prog_1_method_35_code 13 = .ok (.aload_n 0, 1) := by decide +kernel
theorem d_rebalance_14 : decode prog_1_method_35_code 14 = .ok (.getfield 22, 3) := by decide +kernel
theorem d_rebalance_17 : decode prog_1_method_35_code 17 = .ok (.iload_n 1, 1) := by decide +kernel
theorem d_rebalance_18 : decode prog_1_method_35_code 18 = .ok (.iaload, 1) := by decide +kernel
theorem d_rebalance_19 : decode prog_1_method_35_code 19 = .ok (.istore_n 2, 1) := by decide +kernel
theorem d_rebalance_20 : decode prog_1_method_35_code 20 = .ok (.aload_n 0, 1) := by decide +kernel
theorem d_rebalance_21 : decode prog_1_method_35_code 21 = .ok (.getfield 19, 3) := by decide +kernel
theorem d_rebalance_24 : decode prog_1_method_35_code 24 = .ok (.iload_n 2, 1) := by decide +kernel
theorem d_rebalance_25 : decode prog_1_method_35_code 25 = .ok (.iaload, 1) := by decide +kernel
theorem d_rebalance_26 : decode prog_1_method_35_code 26 = .ok (.istore_n 3, 1) := by decide +kernel
theorem d_rebalance_27 : decode prog_1_method_35_code 27 = .ok (.iload_n 3, 1) := by decide +kernel
theorem d_rebalance_42 : decode prog_1_method_35_code 42 = .ok (.iload_n 3, 1) := by decide +kernel
theorem d_rebalance_43 : decode prog_1_method_35_code 43 = .ok (.iconst 1, 1) := by decide +kernel
theorem d_rebalance_48 : decode prog_1_method_35_code 48 = .ok (.iload_n 1, 1) := by decide +kernel
theorem d_rebalance_49 : decode prog_1_method_35_code 49 = .ok (.iconst 1, 1) := by decide +kernel
theorem d_rebalance_50 : decode prog_1_method_35_code 50 = .ok (.iadd, 1) := by decide +kernel
theorem d_rebalance_51 : decode prog_1_method_35_code 51 = .ok (.aload_n 0, 1) := by decide +kernel
theorem d_rebalance_52 : decode prog_1_method_35_code 52 = .ok (.getfield 46, 3) := by decide +kernel
theorem d_rebalance_85 : decode prog_1_method_35_code 85 = .ok (.iload_n 1, 1) := by decide +kernel
theorem d_rebalance_28 : decode prog_1_method_35_code 28 = .ok (.ifCond .ne 14, 3) := by decide +kernel
theorem d_rebalance_44 : decode prog_1_method_35_code 44 = .ok (.if_icmp .le 4, 3) := by decide +kernel
theorem d_rebalance_55 : decode prog_1_method_35_code 55 = .ok (.if_icmp .ge 30, 3) := by decide +kernel
theorem d_rebalance_89 : decode prog_1_method_35_code 89 = .ok (.aload_n 0, 1) := by decide +kernel
theorem d_rebalance_90 : decode prog_1_method_35_code 90 = .ok (.getfield 19, 3) := by decide +kernel
theorem d_rebalance_93 : decode prog_1_method_35_code 93 = .ok (.aload_n 0, 1) := by decide +kernel
theorem d_rebalance_94 : decode prog_1_method_35_code 94 = .ok (.getfield 22, 3) := by decide +kernel
theorem d_rebalance_97 : decode prog_1_method_35_code 97 = .ok (.iload_n 1, 1) := by decide +kernel
theorem d_rebalance_98 : decode prog_1_method_35_code 98 = .ok (.iconst 1, 1) := by decide +kernel
theorem d_rebalance_99 : decode prog_1_method_35_code 99 = .ok (.isub, 1) := by decide +kernel
theorem d_rebalance_100 : decode prog_1_method_35_code 100 = .ok (.iaload, 1) := by decide +kernel
theorem d_rebalance_101 : decode prog_1_method_35_code 101 = .ok (.iaload, 1) := by decide +kernel
theorem d_rebalance_102 : decode prog_1_method_35_code 102 = .ok (.iload_n 3, 1) := by decide +kernel
theorem d_rebalance_103 : decode prog_1_method_35_code 103 = .ok (.iadd, 1) := by decide +kernel
theorem d_rebalance_104 : decode prog_1_method_35_code 104 = .ok (.iconst 4, 1) := by decide +kernel
theorem d_rebalance_108 : decode prog_1_method_35_code 108 = .ok (.aload_n 0, 1) := by decide +kernel
theorem d_rebalance_109 : decode prog_1_method_35_code 109 = .ok (.iload_n 1, 1) := by decide +kernel
theorem d_rebalance_110 : decode prog_1_method_35_code 110 = .ok (.iconst 1, 1) := by decide +kernel
theorem d_rebalance_111 : decode prog_1_method_35_code 111 = .ok (.isub, 1) := by decide +kernel
abbrev W_rebalance (pc : Nat) (ls : List Slot) (st : List Value) (M : EMem) (Q : Option Value → EMem → Prop) : Prop := Wp tables_1 1 2 34 (⟨"HtreeDir", "rebalance", "(I)V"⟩ : MethodName) prog_1_method_35_code none pc ls st M Q
theorem d_rebalance_58 : decode prog_1_method_35_code 58 = .ok (.iload_n 3, 1) := by decide +kernel
theorem d_rebalance_59 : decode prog_1_method_35_code 59 = .ok (.aload_n 0, 1) := by decide +kernel
theorem d_rebalance_60 : decode prog_1_method_35_code 60 = .ok (.getfield 19, 3) := by decide +kernel
theorem d_rebalance_63 : decode prog_1_method_35_code 63 = .ok (.aload_n 0, 1) := by decide +kernel
theorem d_rebalance_64 : decode prog_1_method_35_code 64 = .ok (.getfield 22, 3) := by decide +kernel
theorem d_rebalance_67 : decode prog_1_method_35_code 67 = .ok (.iload_n 1, 1) := by decide +kernel
theorem d_rebalance_68 : decode prog_1_method_35_code 68 = .ok (.iconst 1, 1) := by decide +kernel
theorem d_rebalance_69 : decode prog_1_method_35_code 69 = .ok (.iadd, 1) := by decide +kernel
theorem d_rebalance_70 : decode prog_1_method_35_code 70 = .ok (.iaload, 1) := by decide +kernel
theorem d_rebalance_71 : decode prog_1_method_35_code 71 = .ok (.iaload, 1) := by decide +kernel
theorem d_rebalance_72 : decode prog_1_method_35_code 72 = .ok (.iadd, 1) := by decide +kernel
theorem d_rebalance_73 : decode prog_1_method_35_code 73 = .ok (.iconst 4, 1) := by decide +kernel
theorem d_rebalance_74 : decode prog_1_method_35_code 74 = .ok (.if_icmp .gt 11, 3) := by decide +kernel
theorem d_rebalance_77 : decode prog_1_method_35_code 77 = .ok (.aload_n 0, 1) := by decide +kernel
theorem d_rebalance_78 : decode prog_1_method_35_code 78 = .ok (.iload_n 1, 1) := by decide +kernel
theorem d_rebalance_79 : decode prog_1_method_35_code 79 = .ok (.invokevirtual 119, 3) := by decide +kernel
theorem ml_c119 : methodLk "HtreeDir" 119 tables_1 = some (⟨"HtreeDir", "mergeWithNext", "(I)V"⟩ : MethodName) := by decide +kernel
theorem cl_mergeWithNext : codeLk (⟨"HtreeDir", "mergeWithNext", "(I)V"⟩ : MethodName) tables_1 = some (prog_1_method_36_code, 9, none) := codeLk_at (i := 188) rfl (by decide +kernel)
theorem pd_mergeWithNext : parseMethodDescriptor "(I)V" = some ⟨[.int], none⟩ := by decide +kernel
theorem cc_mergeWithNext_1 : hasInit (⟨"HtreeDir", "mergeWithNext", "(I)V"⟩ : MethodName).cls tables_1 = true ∧ plainName (⟨"HtreeDir", "mergeWithNext", "(I)V"⟩ : MethodName).cls = true ∧ (⟨"HtreeDir", "mergeWithNext", "(I)V"⟩ : MethodName).cls ≠ "java/lang/invoke/MethodHandle" ∧ (⟨"HtreeDir", "mergeWithNext", "(I)V"⟩ : MethodName).cls ≠ "java/lang/invoke/VarHandle" ∧ (((1 : Nat) = 0 ∧ hasDecl (⟨"HtreeDir", "mergeWithNext", "(I)V"⟩ : MethodName) tables_1 = true ∧ hasSel (⟨"HtreeDir", "mergeWithNext", "(I)V"⟩ : MethodName) tables_1 = true ∧ hasInst (⟨"HtreeDir", "mergeWithNext", "(I)V"⟩ : MethodName) tables_1 = true) ∨ ((1 : Nat) = 1 ∧ hasPriv (⟨"HtreeDir", "mergeWithNext", "(I)V"⟩ : MethodName) tables_1 = true ∧ hasInst (⟨"HtreeDir", "mergeWithNext", "(I)V"⟩ : MethodName) tables_1 = true ∧ (instLk (⟨"HtreeDir", "mergeWithNext", "(I)V"⟩ : MethodName).cls tables_1).isSome = true) ∨ ((1 : Nat) = 2 ∧ (⟨"HtreeDir", "mergeWithNext", "(I)V"⟩ : MethodName).name = "<init>" ∧ hasInst (⟨"HtreeDir", "mergeWithNext", "(I)V"⟩ : MethodName) tables_1 = true ∧ (none : Option FieldType) = none) ∨ ((1 : Nat) = 3 ∧ hasStat (⟨"HtreeDir", "mergeWithNext", "(I)V"⟩ : MethodName) tables_1 = true)) := by decide +kernel
theorem ca_c119_1 : callAt tables_1 "HtreeDir" 119 1 = some ((⟨"HtreeDir", "mergeWithNext", "(I)V"⟩ : MethodName), 1, prog_1_method_36_code, 9, none) := callAt_of ml_c119 cl_mergeWithNext pd_mergeWithNext cc_mergeWithNext_1 rfl
theorem d_rebalance_47 : decode prog_1_method_35_code 47 = .ok (.return_, 1) := by decide +kernel
theorem d_rebalance_31 : decode prog_1_method_35_code 31 = .ok (.aload_n 0, 1) := by decide +kernel
theorem d_rebalance_32 : decode prog_1_method_35_code 32 = .ok (.iload_n 1, 1) := by decide +kernel
theorem d_rebalance_33 : decode prog_1_method_35_code 33 = .ok (.invokevirtual 113, 3) := by decide +kernel
theorem d_rebalance_36 : decode prog_1_method_35_code 36 = .ok (.aload_n 0, 1) := by decide +kernel
theorem d_rebalance_37 : decode prog_1_method_35_code 37 = .ok (.iload_n 2, 1) := by decide +kernel
theorem d_rebalance_38 : decode prog_1_method_35_code 38 = .ok (.invokevirtual 116, 3) := by decide +kernel
theorem d_rebalance_41 : decode prog_1_method_35_code 41 = .ok (.return_, 1) := by decide +kernel
theorem d_rebalance_82 : decode prog_1_method_35_code 82 = .ok (.goto 33, 3) := by decide +kernel
theorem d_rebalance_86 : decode prog_1_method_35_code 86 = .ok (.ifCond .le 29, 3) := by decide +kernel
theorem d_rebalance_105 : decode prog_1_method_35_code 105 = .ok (.if_icmp .gt 10, 3) := by decide +kernel
theorem d_rebalance_112 : decode prog_1_method_35_code 112 = .ok (.invokevirtual 119, 3) := by decide +kernel
theorem d_rebalance_115 : decode prog_1_method_35_code 115 = .ok (.return_, 1) := by decide +kernel
theorem d_insert_0 : decode prog_1_method_5_code 0 = .ok (.aload_n 0, 1) := by decide +kernel
theorem d_insert_1 : decode prog_1_method_5_code 1 = .ok (.iload_n 1, 1) := by decide +kernel
theorem d_insert_2 : decode prog_1_method_5_code 2 = .ok (.invokevirtual 52, 3) := by decide +kernel
abbrev W_insert (pc : Nat) (ls : List Slot) (st : List Value) (M : EMem) (Q : Option Value → EMem → Prop) : Prop := Wp tables_1 1 3 50 (⟨"HtreeDir", "insert", "(II)I"⟩ : MethodName) prog_1_method_5_code (some .int) pc ls st M Q
theorem d_insert_5 : decode prog_1_method_5_code 5 = .ok (.ifCond .ne 5, 3) := by decide +kernel
theorem d_insert_10 : decode prog_1_method_5_code 10 = .ok (.iload_n 2, 1) := by decide +kernel
theorem d_insert_11 : decode prog_1_method_5_code 11 = .ok (.iconst 1, 1) := by decide +kernel
theorem d_insert_17 : decode prog_1_method_5_code 17 = .ok (.aload_n 0, 1) := by decide +kernel
theorem d_insert_18 : decode prog_1_method_5_code 18 = .ok (.iload_n 1, 1) := by decide +kernel
theorem d_insert_12 : decode prog_1_method_5_code 12 = .ok (.if_icmp .ge 5, 3) := by decide +kernel
theorem d_insert_19 : decode prog_1_method_5_code 19 = .ok (.invokevirtual 56, 3) := by decide +kernel
theorem d_insert_15 : decode prog_1_method_5_code 15 = .ok (.iconst 5, 1) := by decide +kernel
theorem d_insert_16 : decode prog_1_method_5_code 16 = .ok (.ireturn, 1) := by decide +kernel
theorem d_insert_8 : decode prog_1_method_5_code 8 = .ok (.iconst 4, 1) := by decide +kernel
theorem d_insert_9 : decode prog_1_method_5_code 9 = .ok (.ireturn, 1) := by decide +kernel
theorem d_insert_22 : decode prog_1_method_5_code 22 = .ok (.istore_n 3, 1) := by decide +kernel
theorem d_insert_23 : decode prog_1_method_5_code 23 = .ok (.aload_n 0, 1) := by decide +kernel
theorem d_insert_24 : decode prog_1_method_5_code 24 = .ok (.iload_n 3, 1) := by decide +kernel
theorem d_insert_25 : decode prog_1_method_5_code 25 = .ok (.invokevirtual 60, 3) := by decide +kernel
theorem ml_c60 : methodLk "HtreeDir" 60 tables_1 = some (⟨"HtreeDir", "locate", "(I)I"⟩ : MethodName) := by decide +kernel
theorem cl_locate : codeLk (⟨"HtreeDir", "locate", "(I)I"⟩ : MethodName) tables_1 = some (prog_1_method_22_code, 7, (some .int)) := codeLk_at (i := 68) rfl (by decide +kernel)
theorem pd_locate : parseMethodDescriptor "(I)I" = some ⟨[.int], some .int⟩ := by decide +kernel
theorem cc_locate_1 : hasInit (⟨"HtreeDir", "locate", "(I)I"⟩ : MethodName).cls tables_1 = true ∧ plainName (⟨"HtreeDir", "locate", "(I)I"⟩ : MethodName).cls = true ∧ (⟨"HtreeDir", "locate", "(I)I"⟩ : MethodName).cls ≠ "java/lang/invoke/MethodHandle" ∧ (⟨"HtreeDir", "locate", "(I)I"⟩ : MethodName).cls ≠ "java/lang/invoke/VarHandle" ∧ (((1 : Nat) = 0 ∧ hasDecl (⟨"HtreeDir", "locate", "(I)I"⟩ : MethodName) tables_1 = true ∧ hasSel (⟨"HtreeDir", "locate", "(I)I"⟩ : MethodName) tables_1 = true ∧ hasInst (⟨"HtreeDir", "locate", "(I)I"⟩ : MethodName) tables_1 = true) ∨ ((1 : Nat) = 1 ∧ hasPriv (⟨"HtreeDir", "locate", "(I)I"⟩ : MethodName) tables_1 = true ∧ hasInst (⟨"HtreeDir", "locate", "(I)I"⟩ : MethodName) tables_1 = true ∧ (instLk (⟨"HtreeDir", "locate", "(I)I"⟩ : MethodName).cls tables_1).isSome = true) ∨ ((1 : Nat) = 2 ∧ (⟨"HtreeDir", "locate", "(I)I"⟩ : MethodName).name = "<init>" ∧ hasInst (⟨"HtreeDir", "locate", "(I)I"⟩ : MethodName) tables_1 = true ∧ ((some .int) : Option FieldType) = none) ∨ ((1 : Nat) = 3 ∧ hasStat (⟨"HtreeDir", "locate", "(I)I"⟩ : MethodName) tables_1 = true)) := by decide +kernel
theorem ca_c60_1 : callAt tables_1 "HtreeDir" 60 1 = some ((⟨"HtreeDir", "locate", "(I)I"⟩ : MethodName), 1, prog_1_method_22_code, 7, (some .int)) := callAt_of ml_c60 cl_locate pd_locate cc_locate_1 rfl
theorem d_insert_28 : decode prog_1_method_5_code 28 = .ok (.ifCond .lt 5, 3) := by decide +kernel
theorem d_insert_33 : decode prog_1_method_5_code 33 = .ok (.aload_n 0, 1) := by decide +kernel
theorem d_insert_34 : decode prog_1_method_5_code 34 = .ok (.getfield 43, 3) := by decide +kernel
theorem fa_c43 : fieldAt tables_1 "HtreeDir" 43 = some ("HtreeDir", 38, 1, false) := by decide +kernel
theorem d_insert_37 : decode prog_1_method_5_code 37 = .ok (.aload_n 0, 1) := by decide +kernel
theorem d_insert_38 : decode prog_1_method_5_code 38 = .ok (.getfield 40, 3) := by decide +kernel
theorem fa_c40 : fieldAt tables_1 "HtreeDir" 40 = some ("HtreeDir", 36, 1, false) := by decide +kernel
theorem d_insert_41 : decode prog_1_method_5_code 41 = .ok (.if_icmp .lt 5, 3) := by decide +kernel
theorem d_insert_46 : decode prog_1_method_5_code 46 = .ok (.aload_n 0, 1) := by decide +kernel
theorem d_insert_47 : decode prog_1_method_5_code 47 = .ok (.getfield 46, 3) := by decide +kernel
theorem d_insert_62 : decode prog_1_method_5_code 62 = .ok (.aload_n 0, 1) := by decide +kernel
theorem d_insert_63 : decode prog_1_method_5_code 63 = .ok (.iload_n 3, 1) := by decide +kernel
theorem d_insert_50 : decode prog_1_method_5_code 50 = .ok (.ifCond .ne 12, 3) := by decide +kernel
theorem d_insert_53 : decode prog_1_method_5_code 53 = .ok (.aload_n 0, 1) := by decide +kernel
theorem d_insert_54 : decode prog_1_method_5_code 54 = .ok (.invokevirtual 63, 3) := by decide +kernel
theorem ml_c63 : methodLk "HtreeDir" 63 tables_1 = some (⟨"HtreeDir", "createFirstLeaf", "()Z"⟩ : MethodName) := by decide +kernel
theorem cl_createFirstLeaf : codeLk (⟨"HtreeDir", "createFirstLeaf", "()Z"⟩ : MethodName) tables_1 = some (prog_1_method_28_code, 2, (some .boolean)) := codeLk_at (i := 126) rfl (by decide +kernel)
theorem pd_createFirstLeaf : parseMethodDescriptor "()Z" = some ⟨[], some .boolean⟩ := by decide +kernel
theorem cc_createFirstLeaf_1 : hasInit (⟨"HtreeDir", "createFirstLeaf", "()Z"⟩ : MethodName).cls tables_1 = true ∧ plainName (⟨"HtreeDir", "createFirstLeaf", "()Z"⟩ : MethodName).cls = true ∧ (⟨"HtreeDir", "createFirstLeaf", "()Z"⟩ : MethodName).cls ≠ "java/lang/invoke/MethodHandle" ∧ (⟨"HtreeDir", "createFirstLeaf", "()Z"⟩ : MethodName).cls ≠ "java/lang/invoke/VarHandle" ∧ (((1 : Nat) = 0 ∧ hasDecl (⟨"HtreeDir", "createFirstLeaf", "()Z"⟩ : MethodName) tables_1 = true ∧ hasSel (⟨"HtreeDir", "createFirstLeaf", "()Z"⟩ : MethodName) tables_1 = true ∧ hasInst (⟨"HtreeDir", "createFirstLeaf", "()Z"⟩ : MethodName) tables_1 = true) ∨ ((1 : Nat) = 1 ∧ hasPriv (⟨"HtreeDir", "createFirstLeaf", "()Z"⟩ : MethodName) tables_1 = true ∧ hasInst (⟨"HtreeDir", "createFirstLeaf", "()Z"⟩ : MethodName) tables_1 = true ∧ (instLk (⟨"HtreeDir", "createFirstLeaf", "()Z"⟩ : MethodName).cls tables_1).isSome = true) ∨ ((1 : Nat) = 2 ∧ (⟨"HtreeDir", "createFirstLeaf", "()Z"⟩ : MethodName).name = "<init>" ∧ hasInst (⟨"HtreeDir", "createFirstLeaf", "()Z"⟩ : MethodName) tables_1 = true ∧ ((some .boolean) : Option FieldType) = none) ∨ ((1 : Nat) = 3 ∧ hasStat (⟨"HtreeDir", "createFirstLeaf", "()Z"⟩ : MethodName) tables_1 = true)) := by decide +kernel
theorem ca_c63_1 : callAt tables_1 "HtreeDir" 63 1 = some ((⟨"HtreeDir", "createFirstLeaf", "()Z"⟩ : MethodName), 0, prog_1_method_28_code, 2, (some .boolean)) := callAt_of ml_c63 cl_createFirstLeaf pd_createFirstLeaf cc_createFirstLeaf_1 rfl
theorem d_insert_44 : decode prog_1_method_5_code 44 = .ok (.iconst 2, 1) := by decide +kernel
theorem d_insert_45 : decode prog_1_method_5_code 45 = .ok (.ireturn, 1) := by decide +kernel
theorem d_insert_31 : decode prog_1_method_5_code 31 = .ok (.iconst 1, 1) := by decide +kernel
theorem d_insert_32 : decode prog_1_method_5_code 32 = .ok (.ireturn, 1) := by decide +kernel
theorem d_insert_57 : decode prog_1_method_5_code 57 = .ok (.ifCond .ne 5, 3) := by decide +kernel
theorem d_insert_60 : decode prog_1_method_5_code 60 = .ok (.iconst 2, 1) := by decide +kernel
theorem d_insert_61 : decode prog_1_method_5_code 61 = .ok (.ireturn, 1) := by decide +kernel
theorem d_insert_64 : decode prog_1_method_5_code 64 = .ok (.invokevirtual 67, 3) := by decide +kernel
theorem d_insert_67 : decode prog_1_method_5_code 67 = .ok (.istore 4, 2) := by decide +kernel
theorem d_insert_69 : decode prog_1_method_5_code 69 = .ok (.aload_n 0, 1) := by decide +kernel
theorem d_insert_70 : decode prog_1_method_5_code 70 = .ok (.getfield 22, 3) := by decide +kernel
theorem d_insert_73 : decode prog_1_method_5_code 73 = .ok (.iload 4, 2) := by decide +kernel
theorem d_insert_75 : decode prog_1_method_5_code 75 = .ok (.iaload, 1) := by decide +kernel
theorem d_insert_76 : decode prog_1_method_5_code 76 = .ok (.istore 5, 2) := by decide +kernel
theorem d_insert_78 : decode prog_1_method_5_code 78 = .ok (.aload_n 0, 1) := by decide +kernel
theorem d_insert_79 : decode prog_1_method_5_code 79 = .ok (.getfield 19, 3) := by decide +kernel
theorem d_insert_82 : decode prog_1_method_5_code 82 = .ok (.iload 5, 2) := by decide +kernel
theorem d_insert_84 : decode prog_1_method_5_code 84 = .ok (.iaload, 1) := by decide +kernel
theorem d_insert_85 : decode prog_1_method_5_code 85 = .ok (.iconst 4, 1) := by decide +kernel
theorem d_insert_86 : decode prog_1_method_5_code 86 = .ok (.if_icmp .lt 30, 3) := by decide +kernel
theorem d_insert_116 : decode prog_1_method_5_code 116 = .ok (.aload_n 0, 1) := by decide +kernel
theorem d_insert_117 : decode prog_1_method_5_code 117 = .ok (.aload_n 0, 1) := by decide +kernel
theorem d_insert_118 : decode prog_1_method_5_code 118 = .ok (.getfield 22, 3) := by decide +kernel
theorem d_insert_121 : decode prog_1_method_5_code 121 = .ok (.iload 4, 2) := by decide +kernel
theorem d_insert_123 : decode prog_1_method_5_code 123 = .ok (.iaload, 1) := by decide +kernel
theorem d_insert_124 : decode prog_1_method_5_code 124 = .ok (.iload_n 3, 1) := by decide +kernel
theorem d_insert_125 : decode prog_1_method_5_code 125 = .ok (.iload_n 1, 1) := by decide +kernel
theorem d_insert_126 : decode prog_1_method_5_code 126 = .ok (.iload_n 2, 1) := by decide +kernel
theorem d_insert_89 : decode prog_1_method_5_code 89 = .ok (.aload_n 0, 1) := by decide +kernel
theorem d_insert_90 : decode prog_1_method_5_code 90 = .ok (.getfield 49, 3) := by decide +kernel
theorem d_insert_93 : decode prog_1_method_5_code 93 = .ok (.ifCond .le 12, 3) := by decide +kernel
theorem d_insert_105 : decode prog_1_method_5_code 105 = .ok (.iconst 2, 1) := by decide +kernel
theorem d_insert_106 : decode prog_1_method_5_code 106 = .ok (.ireturn, 1) := by decide +kernel
theorem d_insert_96 : decode prog_1_method_5_code 96 = .ok (.aload_n 0, 1) := by decide +kernel
theorem d_insert_97 : decode prog_1_method_5_code 97 = .ok (.getfield 46, 3) := by decide +kernel
theorem d_insert_100 : decode prog_1_method_5_code 100 = .ok (.bipush 32, 2) := by decide +kernel
theorem d_insert_107 : decode prog_1_method_5_code 107 = .ok (.aload_n 0, 1) := by decide +kernel
theorem d_insert_108 : decode prog_1_method_5_code 108 = .ok (.iload 4, 2) := by decide +kernel
theorem d_insert_110 : decode prog_1_method_5_code 110 = .ok (.iload_n 3, 1) := by decide +kernel
theorem d_insert_102 : decode prog_1_method_5_code 102 = .ok (.if_icmp .lt 5, 3) := by decide +kernel
theorem d_insert_111 : decode prog_1_method_5_code 111 = .ok (.invokevirtual 70, 3) := by decide +kernel
theorem ml_c70 : methodLk "HtreeDir" 70 tables_1 = some (⟨"HtreeDir", "splitLeaf", "(II)I"⟩ : MethodName) := by decide +kernel
theorem cl_splitLeaf : codeLk (⟨"HtreeDir", "splitLeaf", "(II)I"⟩ : MethodName) tables_1 = some (prog_1_method_32_code, 8, (some .int)) := codeLk_at (i := 180) rfl (by decide +kernel)
theorem pd_splitLeaf : parseMethodDescriptor "(II)I" = some ⟨[.int, .int], some .int⟩ := by decide +kernel
theorem cc_splitLeaf_1 : hasInit (⟨"HtreeDir", "splitLeaf", "(II)I"⟩ : MethodName).cls tables_1 = true ∧ plainName (⟨"HtreeDir", "splitLeaf", "(II)I"⟩ : MethodName).cls = true ∧ (⟨"HtreeDir", "splitLeaf", "(II)I"⟩ : MethodName).cls ≠ "java/lang/invoke/MethodHandle" ∧ (⟨"HtreeDir", "splitLeaf", "(II)I"⟩ : MethodName).cls ≠ "java/lang/invoke/VarHandle" ∧ (((1 : Nat) = 0 ∧ hasDecl (⟨"HtreeDir", "splitLeaf", "(II)I"⟩ : MethodName) tables_1 = true ∧ hasSel (⟨"HtreeDir", "splitLeaf", "(II)I"⟩ : MethodName) tables_1 = true ∧ hasInst (⟨"HtreeDir", "splitLeaf", "(II)I"⟩ : MethodName) tables_1 = true) ∨ ((1 : Nat) = 1 ∧ hasPriv (⟨"HtreeDir", "splitLeaf", "(II)I"⟩ : MethodName) tables_1 = true ∧ hasInst (⟨"HtreeDir", "splitLeaf", "(II)I"⟩ : MethodName) tables_1 = true ∧ (instLk (⟨"HtreeDir", "splitLeaf", "(II)I"⟩ : MethodName).cls tables_1).isSome = true) ∨ ((1 : Nat) = 2 ∧ (⟨"HtreeDir", "splitLeaf", "(II)I"⟩ : MethodName).name = "<init>" ∧ hasInst (⟨"HtreeDir", "splitLeaf", "(II)I"⟩ : MethodName) tables_1 = true ∧ ((some .int) : Option FieldType) = none) ∨ ((1 : Nat) = 3 ∧ hasStat (⟨"HtreeDir", "splitLeaf", "(II)I"⟩ : MethodName) tables_1 = true)) := by decide +kernel
theorem ca_c70_1 : callAt tables_1 "HtreeDir" 70 1 = some ((⟨"HtreeDir", "splitLeaf", "(II)I"⟩ : MethodName), 2, prog_1_method_32_code, 8, (some .int)) := callAt_of ml_c70 cl_splitLeaf pd_splitLeaf cc_splitLeaf_1 rfl
theorem d_insert_114 : decode prog_1_method_5_code 114 = .ok (.istore 4, 2) := by decide +kernel
theorem d_insert_127 : decode prog_1_method_5_code 127 = .ok (.invokevirtual 74, 3) := by decide +kernel
theorem ml_c74 : methodLk "HtreeDir" 74 tables_1 = some (⟨"HtreeDir", "insertIntoLeaf", "(IIII)V"⟩ : MethodName) := by decide +kernel
theorem cl_insertIntoLeaf : codeLk (⟨"HtreeDir", "insertIntoLeaf", "(IIII)V"⟩ : MethodName) tables_1 = some (prog_1_method_33_code, 8, none) := codeLk_at (i := 142) rfl (by decide +kernel)
theorem pd_insertIntoLeaf : parseMethodDescriptor "(IIII)V" = some ⟨[.int, .int, .int, .int], none⟩ := by decide +kernel
theorem cc_insertIntoLeaf_1 : hasInit (⟨"HtreeDir", "insertIntoLeaf", "(IIII)V"⟩ : MethodName).cls tables_1 = true ∧ plainName (⟨"HtreeDir", "insertIntoLeaf", "(IIII)V"⟩ : MethodName).cls = true ∧ (⟨"HtreeDir", "insertIntoLeaf", "(IIII)V"⟩ : MethodName).cls ≠ "java/lang/invoke/MethodHandle" ∧ (⟨"HtreeDir", "insertIntoLeaf", "(IIII)V"⟩ : MethodName).cls ≠ "java/lang/invoke/VarHandle" ∧ (((1 : Nat) = 0 ∧ hasDecl (⟨"HtreeDir", "insertIntoLeaf", "(IIII)V"⟩ : MethodName) tables_1 = true ∧ hasSel (⟨"HtreeDir", "insertIntoLeaf", "(IIII)V"⟩ : MethodName) tables_1 = true ∧ hasInst (⟨"HtreeDir", "insertIntoLeaf", "(IIII)V"⟩ : MethodName) tables_1 = true) ∨ ((1 : Nat) = 1 ∧ hasPriv (⟨"HtreeDir", "insertIntoLeaf", "(IIII)V"⟩ : MethodName) tables_1 = true ∧ hasInst (⟨"HtreeDir", "insertIntoLeaf", "(IIII)V"⟩ : MethodName) tables_1 = true ∧ (instLk (⟨"HtreeDir", "insertIntoLeaf", "(IIII)V"⟩ : MethodName).cls tables_1).isSome = true) ∨ ((1 : Nat) = 2 ∧ (⟨"HtreeDir", "insertIntoLeaf", "(IIII)V"⟩ : MethodName).name = "<init>" ∧ hasInst (⟨"HtreeDir", "insertIntoLeaf", "(IIII)V"⟩ : MethodName) tables_1 = true ∧ (none : Option FieldType) = none) ∨ ((1 : Nat) = 3 ∧ hasStat (⟨"HtreeDir", "insertIntoLeaf", "(IIII)V"⟩ : MethodName) tables_1 = true)) := by decide +kernel
theorem ca_c74_1 : callAt tables_1 "HtreeDir" 74 1 = some ((⟨"HtreeDir", "insertIntoLeaf", "(IIII)V"⟩ : MethodName), 4, prog_1_method_33_code, 8, none) := callAt_of ml_c74 cl_insertIntoLeaf pd_insertIntoLeaf cc_insertIntoLeaf_1 rfl
theorem d_insert_130 : decode prog_1_method_5_code 130 = .ok (.aload_n 0, 1) := by decide +kernel
theorem d_insert_131 : decode prog_1_method_5_code 131 = .ok (.dup, 1) := by decide +kernel
theorem d_insert_132 : decode prog_1_method_5_code 132 = .ok (.getfield 43, 3) := by decide +kernel
theorem d_insert_135 : decode prog_1_method_5_code 135 = .ok (.iconst 1, 1) := by decide +kernel
theorem d_insert_136 : decode prog_1_method_5_code 136 = .ok (.iadd, 1) := by decide +kernel
theorem d_insert_137 : decode prog_1_method_5_code 137 = .ok (.putfield 43, 3) := by decide +kernel
theorem d_insert_140 : decode prog_1_method_5_code 140 = .ok (.iconst 0, 1) := by decide +kernel
theorem d_insert_141 : decode prog_1_method_5_code 141 = .ok (.ireturn, 1) := by decide +kernel
theorem d_remove_0 : decode prog_1_method_6_code 0 = .ok (.aload_n 0, 1) := by decide +kernel
theorem d_remove_1 : decode prog_1_method_6_code 1 = .ok (.iload_n 1, 1) := by decide +kernel
theorem d_remove_2 : decode prog_1_method_6_code 2 = .ok (.invokevirtual 52, 3) := by decide +kernel
abbrev W_remove (pc : Nat) (ls : List Slot) (st : List Value) (M : EMem) (Q : Option Value → EMem → Prop) : Prop := Wp tables_1 1 3 50 (⟨"HtreeDir", "remove", "(I)I"⟩ : MethodName) prog_1_method_6_code (some .int) pc ls st M Q
theorem d_remove_5 : decode prog_1_method_6_code 5 = .ok (.ifCond .ne 5, 3) := by decide +kernel
theorem d_remove_10 : decode prog_1_method_6_code 10 = .ok (.aload_n 0, 1) := by decide +kernel
theorem d_remove_11 : decode prog_1_method_6_code 11 = .ok (.iload_n 1, 1) := by decide +kernel
theorem d_remove_12 : decode prog_1_method_6_code 12 = .ok (.invokevirtual 56, 3) := by decide +kernel
theorem d_remove_8 : decode prog_1_method_6_code 8 = .ok (.iconst 4, 1) := by decide +kernel
theorem d_remove_9 : decode prog_1_method_6_code 9 = .ok (.ireturn, 1) := by decide +kernel
theorem d_remove_15 : decode prog_1_method_6_code 15 = .ok (.istore_n 2, 1) := by decide +kernel
theorem d_remove_16 : decode prog_1_method_6_code 16 = .ok (.aload_n 0, 1) := by decide +kernel
theorem d_remove_17 : decode prog_1_method_6_code 17 = .ok (.iload_n 2, 1) := by decide +kernel
theorem d_remove_18 : decode prog_1_method_6_code 18 = .ok (.invokevirtual 60, 3) := by decide +kernel
theorem d_remove_21 : decode prog_1_method_6_code 21 = .ok (.istore_n 3, 1) := by decide +kernel
theorem d_remove_22 : decode prog_1_method_6_code 22 = .ok (.iload_n 3, 1) := by decide +kernel
theorem d_remove_23 : decode prog_1_method_6_code 23 = .ok (.ifCond .ge 5, 3) := by decide +kernel
theorem d_remove_28 : decode prog_1_method_6_code 28 = .ok (.iload_n 3, 1) := by decide +kernel
theorem d_remove_29 : decode prog_1_method_6_code 29 = .ok (.iconst 2, 1) := by decide +kernel
theorem d_remove_30 : decode prog_1_method_6_code 30 = .ok (.iushr, 1) := by decide +kernel
theorem d_remove_31 : decode prog_1_method_6_code 31 = .ok (.bipush 31, 2) := by decide +kernel
theorem d_remove_33 : decode prog_1_method_6_code 33 = .ok (.iand, 1) := by decide +kernel
theorem d_remove_34 : decode prog_1_method_6_code 34 = .ok (.istore 4, 2) := by decide +kernel
theorem d_remove_36 : decode prog_1_method_6_code 36 = .ok (.aload_n 0, 1) := by decide +kernel
theorem d_remove_37 : decode prog_1_method_6_code 37 = .ok (.aload_n 0, 1) := by decide +kernel
theorem d_remove_38 : decode prog_1_method_6_code 38 = .ok (.getfield 22, 3) := by decide +kernel
theorem d_remove_41 : decode prog_1_method_6_code 41 = .ok (.iload 4, 2) := by decide +kernel
theorem d_remove_43 : decode prog_1_method_6_code 43 = .ok (.iaload, 1) := by decide +kernel
theorem d_remove_44 : decode prog_1_method_6_code 44 = .ok (.iload_n 3, 1) := by decide +kernel
theorem d_remove_45 : decode prog_1_method_6_code 45 = .ok (.iconst 3, 1) := by decide +kernel
theorem d_remove_46 : decode prog_1_method_6_code 46 = .ok (.iand, 1) := by decide +kernel
theorem d_remove_47 : decode prog_1_method_6_code 47 = .ok (.invokevirtual 78, 3) := by decide +kernel
theorem ml_c78 : methodLk "HtreeDir" 78 tables_1 = some (⟨"HtreeDir", "deleteFromLeaf", "(II)V"⟩ : MethodName) := by decide +kernel
theorem cl_deleteFromLeaf : codeLk (⟨"HtreeDir", "deleteFromLeaf", "(II)V"⟩ : MethodName) tables_1 = some (prog_1_method_34_code, 6, none) := codeLk_at (i := 169) rfl (by decide +kernel)
theorem pd_deleteFromLeaf : parseMethodDescriptor "(II)V" = some ⟨[.int, .int], none⟩ := by decide +kernel
theorem cc_deleteFromLeaf_1 : hasInit (⟨"HtreeDir", "deleteFromLeaf", "(II)V"⟩ : MethodName).cls tables_1 = true ∧ plainName (⟨"HtreeDir", "deleteFromLeaf", "(II)V"⟩ : MethodName).cls = true ∧ (⟨"HtreeDir", "deleteFromLeaf", "(II)V"⟩ : MethodName).cls ≠ "java/lang/invoke/MethodHandle" ∧ (⟨"HtreeDir", "deleteFromLeaf", "(II)V"⟩ : MethodName).cls ≠ "java/lang/invoke/VarHandle" ∧ (((1 : Nat) = 0 ∧ hasDecl (⟨"HtreeDir", "deleteFromLeaf", "(II)V"⟩ : MethodName) tables_1 = true ∧ hasSel (⟨"HtreeDir", "deleteFromLeaf", "(II)V"⟩ : MethodName) tables_1 = true ∧ hasInst (⟨"HtreeDir", "deleteFromLeaf", "(II)V"⟩ : MethodName) tables_1 = true) ∨ ((1 : Nat) = 1 ∧ hasPriv (⟨"HtreeDir", "deleteFromLeaf", "(II)V"⟩ : MethodName) tables_1 = true ∧ hasInst (⟨"HtreeDir", "deleteFromLeaf", "(II)V"⟩ : MethodName) tables_1 = true ∧ (instLk (⟨"HtreeDir", "deleteFromLeaf", "(II)V"⟩ : MethodName).cls tables_1).isSome = true) ∨ ((1 : Nat) = 2 ∧ (⟨"HtreeDir", "deleteFromLeaf", "(II)V"⟩ : MethodName).name = "<init>" ∧ hasInst (⟨"HtreeDir", "deleteFromLeaf", "(II)V"⟩ : MethodName) tables_1 = true ∧ (none : Option FieldType) = none) ∨ ((1 : Nat) = 3 ∧ hasStat (⟨"HtreeDir", "deleteFromLeaf", "(II)V"⟩ : MethodName) tables_1 = true)) := by decide +kernel
theorem ca_c78_1 : callAt tables_1 "HtreeDir" 78 1 = some ((⟨"HtreeDir", "deleteFromLeaf", "(II)V"⟩ : MethodName), 2, prog_1_method_34_code, 6, none) := callAt_of ml_c78 cl_deleteFromLeaf pd_deleteFromLeaf cc_deleteFromLeaf_1 rfl
theorem d_remove_26 : decode prog_1_method_6_code 26 = .ok (.iconst 3, 1) := by decide +kernel
theorem d_remove_27 : decode prog_1_method_6_code 27 = .ok (.ireturn, 1) := by decide +kernel
theorem d_remove_50 : decode prog_1_method_6_code 50 = .ok (.aload_n 0, 1) := by decide +kernel
theorem d_remove_51 : decode prog_1_method_6_code 51 = .ok (.dup, 1) := by decide +kernel
theorem d_remove_52 : decode prog_1_method_6_code 52 = .ok (.getfield 43, 3) := by decide +kernel
theorem d_remove_55 : decode prog_1_method_6_code 55 = .ok (.iconst 1, 1) := by decide +kernel
theorem d_remove_56 : decode prog_1_method_6_code 56 = .ok (.isub, 1) := by decide +kernel
theorem d_remove_57 : decode prog_1_method_6_code 57 = .ok (.putfield 43, 3) := by decide +kernel
theorem d_remove_60 : decode prog_1_method_6_code 60 = .ok (.aload_n 0, 1) := by decide +kernel
theorem d_remove_61 : decode prog_1_method_6_code 61 = .ok (.iload 4, 2) := by decide +kernel
theorem d_remove_63 : decode prog_1_method_6_code 63 = .ok (.invokevirtual 82, 3) := by decide +kernel
theorem ml_c82 : methodLk "HtreeDir" 82 tables_1 = some (⟨"HtreeDir", "rebalance", "(I)V"⟩ : MethodName) := by decide +kernel
theorem cl_rebalance : codeLk (⟨"HtreeDir", "rebalance", "(I)V"⟩ : MethodName) tables_1 = some (prog_1_method_35_code, 4, none) := codeLk_at (i := 173) rfl (by decide +kernel)
theorem pd_rebalance : parseMethodDescriptor "(I)V" = some ⟨[.int], none⟩ := by decide +kernel
theorem cc_rebalance_1 : hasInit (⟨"HtreeDir", "rebalance", "(I)V"⟩ : MethodName).cls tables_1 = true ∧ plainName (⟨"HtreeDir", "rebalance", "(I)V"⟩ : MethodName).cls = true ∧ (⟨"HtreeDir", "rebalance", "(I)V"⟩ : MethodName).cls ≠ "java/lang/invoke/MethodHandle" ∧ (⟨"HtreeDir", "rebalance", "(I)V"⟩ : MethodName).cls ≠ "java/lang/invoke/VarHandle" ∧ (((1 : Nat) = 0 ∧ hasDecl (⟨"HtreeDir", "rebalance", "(I)V"⟩ : MethodName) tables_1 = true ∧ hasSel (⟨"HtreeDir", "rebalance", "(I)V"⟩ : MethodName) tables_1 = true ∧ hasInst (⟨"HtreeDir", "rebalance", "(I)V"⟩ : MethodName) tables_1 = true) ∨ ((1 : Nat) = 1 ∧ hasPriv (⟨"HtreeDir", "rebalance", "(I)V"⟩ : MethodName) tables_1 = true ∧ hasInst (⟨"HtreeDir", "rebalance", "(I)V"⟩ : MethodName) tables_1 = true ∧ (instLk (⟨"HtreeDir", "rebalance", "(I)V"⟩ : MethodName).cls tables_1).isSome = true) ∨ ((1 : Nat) = 2 ∧ (⟨"HtreeDir", "rebalance", "(I)V"⟩ : MethodName).name = "<init>" ∧ hasInst (⟨"HtreeDir", "rebalance", "(I)V"⟩ : MethodName) tables_1 = true ∧ (none : Option FieldType) = none) ∨ ((1 : Nat) = 3 ∧ hasStat (⟨"HtreeDir", "rebalance", "(I)V"⟩ : MethodName) tables_1 = true)) := by decide +kernel
theorem ca_c82_1 : callAt tables_1 "HtreeDir" 82 1 = some ((⟨"HtreeDir", "rebalance", "(I)V"⟩ : MethodName), 1, prog_1_method_35_code, 4, none) := callAt_of ml_c82 cl_rebalance pd_rebalance cc_rebalance_1 rfl
theorem d_remove_66 : decode prog_1_method_6_code 66 = .ok (.iconst 0, 1) := by decide +kernel
theorem d_remove_67 : decode prog_1_method_6_code 67 = .ok (.ireturn, 1) := by decide +kernel
theorem d_setInode_0 : decode prog_1_method_7_code 0 = .ok (.aload_n 0, 1) := by decide +kernel
theorem d_setInode_1 : decode prog_1_method_7_code 1 = .ok (.iload_n 1, 1) := by decide +kernel
theorem d_setInode_2 : decode prog_1_method_7_code 2 = .ok (.invokevirtual 52, 3) := by decide +kernel
abbrev W_setInode (pc : Nat) (ls : List Slot) (st : List Value) (M : EMem) (Q : Option Value → EMem → Prop) : Prop := Wp tables_1 1 3 50 (⟨"HtreeDir", "setInode", "(II)I"⟩ : MethodName) prog_1_method_7_code (some .int) pc ls st M Q
theorem d_setInode_5 : decode prog_1_method_7_code 5 = .ok (.ifCond .ne 5, 3) := by decide +kernel
theorem d_setInode_10 : decode prog_1_method_7_code 10 = .ok (.iload_n 2, 1) := by decide +kernel
theorem d_setInode_11 : decode prog_1_method_7_code 11 = .ok (.iconst 1, 1) := by decide +kernel
theorem d_setInode_17 : decode prog_1_method_7_code 17 = .ok (.aload_n 0, 1) := by decide +kernel
theorem d_setInode_18 : decode prog_1_method_7_code 18 = .ok (.iload_n 1, 1) := by decide +kernel
theorem d_setInode_12 : decode prog_1_method_7_code 12 = .ok (.if_icmp .ge 5, 3) := by decide +kernel
theorem d_setInode_19 : decode prog_1_method_7_code 19 = .ok (.invokevirtual 56, 3) := by decide +kernel
theorem d_setInode_15 : decode prog_1_method_7_code 15 = .ok (.iconst 5, 1) := by decide +kernel
theorem d_setInode_16 : decode prog_1_method_7_code 16 = .ok (.ireturn, 1) := by decide +kernel
theorem d_setInode_8 : decode prog_1_method_7_code 8 = .ok (.iconst 4, 1) := by decide +kernel
theorem d_setInode_9 : decode prog_1_method_7_code 9 = .ok (.ireturn, 1) := by decide +kernel
theorem d_setInode_22 : decode prog_1_method_7_code 22 = .ok (.istore_n 3, 1) := by decide +kernel
theorem d_setInode_23 : decode prog_1_method_7_code 23 = .ok (.aload_n 0, 1) := by decide +kernel
theorem d_setInode_24 : decode prog_1_method_7_code 24 = .ok (.iload_n 3, 1) := by decide +kernel
theorem d_setInode_25 : decode prog_1_method_7_code 25 = .ok (.invokevirtual 60, 3) := by decide +kernel
theorem d_setInode_28 : decode prog_1_method_7_code 28 = .ok (.istore 4, 2) := by decide +kernel
theorem d_setInode_30 : decode prog_1_method_7_code 30 = .ok (.iload 4, 2) := by decide +kernel
theorem d_setInode_32 : decode prog_1_method_7_code 32 = .ok (.ifCond .ge 5, 3) := by decide +kernel
theorem d_setInode_37 : decode prog_1_method_7_code 37 = .ok (.aload_n 0, 1) := by decide +kernel
theorem d_setInode_38 : decode prog_1_method_7_code 38 = .ok (.getfield 16, 3) := by decide +kernel
theorem d_setInode_41 : decode prog_1_method_7_code 41 = .ok (.aload_n 0, 1) := by decide +kernel
theorem d_setInode_42 : decode prog_1_method_7_code 42 = .ok (.iload 4, 2) := by decide +kernel
theorem d_setInode_44 : decode prog_1_method_7_code 44 = .ok (.invokevirtual 86, 3) := by decide +kernel
theorem ml_c86 : methodLk "HtreeDir" 86 tables_1 = some (⟨"HtreeDir", "entryIndex", "(I)I"⟩ : MethodName) := by decide +kernel
theorem cl_entryIndex : codeLk (⟨"HtreeDir", "entryIndex", "(I)I"⟩ : MethodName) tables_1 = some (prog_1_method_24_code, 3, (some .int)) := codeLk_at (i := 150) rfl (by decide +kernel)
theorem pd_entryIndex : parseMethodDescriptor "(I)I" = some ⟨[.int], some .int⟩ := by decide +kernel
theorem cc_entryIndex_1 : hasInit (⟨"HtreeDir", "entryIndex", "(I)I"⟩ : MethodName).cls tables_1 = true ∧ plainName (⟨"HtreeDir", "entryIndex", "(I)I"⟩ : MethodName).cls = true ∧ (⟨"HtreeDir", "entryIndex", "(I)I"⟩ : MethodName).cls ≠ "java/lang/invoke/MethodHandle" ∧ (⟨"HtreeDir", "entryIndex", "(I)I"⟩ : MethodName).cls ≠ "java/lang/invoke/VarHandle" ∧ (((1 : Nat) = 0 ∧ hasDecl (⟨"HtreeDir", "entryIndex", "(I)I"⟩ : MethodName) tables_1 = true ∧ hasSel (⟨"HtreeDir", "entryIndex", "(I)I"⟩ : MethodName) tables_1 = true ∧ hasInst (⟨"HtreeDir", "entryIndex", "(I)I"⟩ : MethodName) tables_1 = true) ∨ ((1 : Nat) = 1 ∧ hasPriv (⟨"HtreeDir", "entryIndex", "(I)I"⟩ : MethodName) tables_1 = true ∧ hasInst (⟨"HtreeDir", "entryIndex", "(I)I"⟩ : MethodName) tables_1 = true ∧ (instLk (⟨"HtreeDir", "entryIndex", "(I)I"⟩ : MethodName).cls tables_1).isSome = true) ∨ ((1 : Nat) = 2 ∧ (⟨"HtreeDir", "entryIndex", "(I)I"⟩ : MethodName).name = "<init>" ∧ hasInst (⟨"HtreeDir", "entryIndex", "(I)I"⟩ : MethodName) tables_1 = true ∧ ((some .int) : Option FieldType) = none) ∨ ((1 : Nat) = 3 ∧ hasStat (⟨"HtreeDir", "entryIndex", "(I)I"⟩ : MethodName) tables_1 = true)) := by decide +kernel
theorem ca_c86_1 : callAt tables_1 "HtreeDir" 86 1 = some ((⟨"HtreeDir", "entryIndex", "(I)I"⟩ : MethodName), 1, prog_1_method_24_code, 3, (some .int)) := callAt_of ml_c86 cl_entryIndex pd_entryIndex cc_entryIndex_1 rfl
theorem d_setInode_47 : decode prog_1_method_7_code 47 = .ok (.iload_n 2, 1) := by decide +kernel
theorem d_setInode_48 : decode prog_1_method_7_code 48 = .ok (.iastore, 1) := by decide +kernel
theorem d_setInode_49 : decode prog_1_method_7_code 49 = .ok (.iconst 0, 1) := by decide +kernel
theorem d_setInode_50 : decode prog_1_method_7_code 50 = .ok (.ireturn, 1) := by decide +kernel
theorem d_setInode_35 : decode prog_1_method_7_code 35 = .ok (.iconst 3, 1) := by decide +kernel
theorem d_setInode_36 : decode prog_1_method_7_code 36 = .ok (.ireturn, 1) := by decide +kernel
theorem d_lookup_0 : decode prog_1_method_8_code 0 = .ok (.aload_n 0, 1) := by decide +kernel
theorem d_lookup_1 : decode prog_1_method_8_code 1 = .ok (.iload_n 1, 1) := by decide +kernel
theorem d_lookup_2 : decode prog_1_method_8_code 2 = .ok (.invokevirtual 52, 3) := by decide +kernel
abbrev W_lookup (pc : Nat) (ls : List Slot) (st : List Value) (M : EMem) (Q : Option Value → EMem → Prop) : Prop := Wp tables_1 1 3 50 (⟨"HtreeDir", "lookup", "(I)I"⟩ : MethodName) prog_1_method_8_code (some .int) pc ls st M Q
theorem d_lookup_5 : decode prog_1_method_8_code 5 = .ok (.ifCond .ne 5, 3) := by decide +kernel
theorem d_lookup_10 : decode prog_1_method_8_code 10 = .ok (.aload_n 0, 1) := by decide +kernel
theorem d_lookup_11 : decode prog_1_method_8_code 11 = .ok (.iload_n 1, 1) := by decide +kernel
theorem d_lookup_12 : decode prog_1_method_8_code 12 = .ok (.invokevirtual 56, 3) := by decide +kernel
theorem d_lookup_8 : decode prog_1_method_8_code 8 = .ok (.iconst 0, 1) := by decide +kernel
theorem d_lookup_9 : decode prog_1_method_8_code 9 = .ok (.ireturn, 1) := by decide +kernel
theorem d_lookup_15 : decode prog_1_method_8_code 15 = .ok (.istore_n 2, 1) := by decide +kernel
theorem d_lookup_16 : decode prog_1_method_8_code 16 = .ok (.aload_n 0, 1) := by decide +kernel
theorem d_lookup_17 : decode prog_1_method_8_code 17 = .ok (.iload_n 2, 1) := by decide +kernel
theorem d_lookup_18 : decode prog_1_method_8_code 18 = .ok (.invokevirtual 60, 3) := by decide +kernel
theorem d_lookup_21 : decode prog_1_method_8_code 21 = .ok (.istore_n 3, 1) := by decide +kernel
theorem d_lookup_22 : decode prog_1_method_8_code 22 = .ok (.iload_n 3, 1) := by decide +kernel
theorem d_lookup_23 : decode prog_1_method_8_code 23 = .ok (.ifCond .ge 5, 3) := by decide +kernel
theorem d_lookup_28 : decode prog_1_method_8_code 28 = .ok (.aload_n 0, 1) := by decide +kernel
theorem d_lookup_29 : decode prog_1_method_8_code 29 = .ok (.getfield 16, 3) := by decide +kernel
theorem d_lookup_32 : decode prog_1_method_8_code 32 = .ok (.aload_n 0, 1) := by decide +kernel
theorem d_lookup_33 : decode prog_1_method_8_code 33 = .ok (.iload_n 3, 1) := by decide +kernel
theorem d_lookup_34 : decode prog_1_method_8_code 34 = .ok (.invokevirtual 86, 3) := by decide +kernel
theorem d_lookup_37 : decode prog_1_method_8_code 37 = .ok (.iaload, 1) := by decide +kernel
theorem d_lookup_38 : decode prog_1_method_8_code 38 = .ok (.ireturn, 1) := by decide +kernel
theorem d_lookup_26 : decode prog_1_method_8_code 26 = .ok (.iconst 0, 1) := by decide +kernel
theorem d_lookup_27 : decode prog_1_method_8_code 27 = .ok (.ireturn, 1) := by decide +kernel
theorem d_openDir_0 : decode prog_1_method_12_code 0 = .ok (.iconst 0, 1) := by decide +kernel
theorem d_openDir_1 : decode prog_1_method_12_code 1 = .ok (.istore_n 1, 1) := by decide +kernel
abbrev W_openDir (pc : Nat) (ls : List Slot) (st : List Value) (M : EMem) (Q : Option Value → EMem → Prop) : Prop := Wp tables_1 1 0 0 (⟨"HtreeDir", "openDir", "()I"⟩ : MethodName) prog_1_method_12_code (some .int) pc ls st M Q
theorem d_openDir_2 : decode prog_1_method_12_code 2 = .ok (.iload_n 1, 1) := by decide +kernel
theorem d_openDir_3 : decode prog_1_method_12_code 3 = .ok (.iconst 4, 1) := by decide +kernel
theorem d_openDir_4 : decode prog_1_method_12_code 4 = .ok (.if_icmp .ge 34, 3) := by decide +kernel
theorem d_openDir_38 : decode prog_1_method_12_code 38 = .ok (.iconst (-1), 1) := by decide +kernel
theorem d_openDir_39 : decode prog_1_method_12_code 39 = .ok (.ireturn, 1) := by decide +kernel
theorem d_openDir_7 : decode prog_1_method_12_code 7 = .ok (.aload_n 0, 1) := by decide +kernel
theorem d_openDir_8 : decode prog_1_method_12_code 8 = .ok (.getfield 28, 3) := by decide +kernel
theorem d_openDir_11 : decode prog_1_method_12_code 11 = .ok (.iload_n 1, 1) := by decide +kernel
theorem d_openDir_12 : decode prog_1_method_12_code 12 = .ok (.baload, 1) := by decide +kernel
theorem d_openDir_32 : decode prog_1_method_12_code 32 = .ok (.iinc 1 1, 3) := by decide +kernel
theorem d_openDir_35 : decode prog_1_method_12_code 35 = .ok (.goto (-33), 3) := by decide +kernel
theorem d_openDir_13 : decode prog_1_method_12_code 13 = .ok (.ifCond .ne 19, 3) := by decide +kernel
theorem d_openDir_16 : decode prog_1_method_12_code 16 = .ok (.aload_n 0, 1) := by decide +kernel
theorem d_openDir_17 : decode prog_1_method_12_code 17 = .ok (.getfield 28, 3) := by decide +kernel
theorem d_openDir_20 : decode prog_1_method_12_code 20 = .ok (.iload_n 1, 1) := by decide +kernel
theorem d_openDir_21 : decode prog_1_method_12_code 21 = .ok (.iconst 1, 1) := by decide +kernel
theorem d_openDir_22 : decode prog_1_method_12_code 22 = .ok (.bastore, 1) := by decide +kernel
theorem d_openDir_23 : decode prog_1_method_12_code 23 = .ok (.aload_n 0, 1) := by decide +kernel
theorem d_openDir_24 : decode prog_1_method_12_code 24 = .ok (.getfield 32, 3) := by decide +kernel
theorem fa_c32 : fieldAt tables_1 "HtreeDir" 32 = some ("HtreeDir", 31, 4, false) := by decide +kernel
theorem d_openDir_27 : decode prog_1_method_12_code 27 = .ok (.iload_n 1, 1) := by decide +kernel
theorem d_openDir_28 : decode prog_1_method_12_code 28 = .ok (.iconst (-1), 1) := by decide +kernel
theorem d_openDir_29 : decode prog_1_method_12_code 29 = .ok (.iastore, 1) := by decide +kernel
theorem d_openDir_30 : decode prog_1_method_12_code 30 = .ok (.iload_n 1, 1) := by decide +kernel
theorem d_openDir_31 : decode prog_1_method_12_code 31 = .ok (.ireturn, 1) := by decide +kernel
theorem d_readNext_0 : decode prog_1_method_13_code 0 = .ok (.aload_n 0, 1) := by decide +kernel
theorem d_readNext_1 : decode prog_1_method_13_code 1 = .ok (.iload_n 1, 1) := by decide +kernel
theorem d_readNext_2 : decode prog_1_method_13_code 2 = .ok (.invokevirtual 93, 3) := by decide +kernel
theorem ml_c93 : methodLk "HtreeDir" 93 tables_1 = some (⟨"HtreeDir", "validHandle", "(I)Z"⟩ : MethodName) := by decide +kernel
theorem cl_validHandle : codeLk (⟨"HtreeDir", "validHandle", "(I)Z"⟩ : MethodName) tables_1 = some (prog_1_method_18_code, 2, (some .boolean)) := codeLk_at (i := 94) rfl (by decide +kernel)
theorem pd_validHandle : parseMethodDescriptor "(I)Z" = some ⟨[.int], some .boolean⟩ := by decide +kernel
theorem cc_validHandle_1 : hasInit (⟨"HtreeDir", "validHandle", "(I)Z"⟩ : MethodName).cls tables_1 = true ∧ plainName (⟨"HtreeDir", "validHandle", "(I)Z"⟩ : MethodName).cls = true ∧ (⟨"HtreeDir", "validHandle", "(I)Z"⟩ : MethodName).cls ≠ "java/lang/invoke/MethodHandle" ∧ (⟨"HtreeDir", "validHandle", "(I)Z"⟩ : MethodName).cls ≠ "java/lang/invoke/VarHandle" ∧ (((1 : Nat) = 0 ∧ hasDecl (⟨"HtreeDir", "validHandle", "(I)Z"⟩ : MethodName) tables_1 = true ∧ hasSel (⟨"HtreeDir", "validHandle", "(I)Z"⟩ : MethodName) tables_1 = true ∧ hasInst (⟨"HtreeDir", "validHandle", "(I)Z"⟩ : MethodName) tables_1 = true) ∨ ((1 : Nat) = 1 ∧ hasPriv (⟨"HtreeDir", "validHandle", "(I)Z"⟩ : MethodName) tables_1 = true ∧ hasInst (⟨"HtreeDir", "validHandle", "(I)Z"⟩ : MethodName) tables_1 = true ∧ (instLk (⟨"HtreeDir", "validHandle", "(I)Z"⟩ : MethodName).cls tables_1).isSome = true) ∨ ((1 : Nat) = 2 ∧ (⟨"HtreeDir", "validHandle", "(I)Z"⟩ : MethodName).name = "<init>" ∧ hasInst (⟨"HtreeDir", "validHandle", "(I)Z"⟩ : MethodName) tables_1 = true ∧ ((some .boolean) : Option FieldType) = none) ∨ ((1 : Nat) = 3 ∧ hasStat (⟨"HtreeDir", "validHandle", "(I)Z"⟩ : MethodName) tables_1 = true)) := by decide +kernel
theorem ca_c93_1 : callAt tables_1 "HtreeDir" 93 1 = some ((⟨"HtreeDir", "validHandle", "(I)Z"⟩ : MethodName), 1, prog_1_method_18_code, 2, (some .boolean)) := callAt_of ml_c93 cl_validHandle pd_validHandle cc_validHandle_1 rfl
abbrev W_readNext (pc : Nat) (ls : List Slot) (st : List Value) (M : EMem) (Q : Option Value → EMem → Prop) : Prop := Wp tables_1 1 3 50 (⟨"HtreeDir", "readNext", "(I)I"⟩ : MethodName) prog_1_method_13_code (some .int) pc ls st M Q
theorem d_readNext_5 : decode prog_1_method_13_code 5 = .ok (.ifCond .ne 6, 3) := by decide +kernel
theorem d_readNext_11 : decode prog_1_method_13_code 11 = .ok (.aload_n 0, 1) := by decide +kernel
theorem d_readNext_12 : decode prog_1_method_13_code 12 = .ok (.getfield 32, 3) := by decide +kernel
theorem d_readNext_15 : decode prog_1_method_13_code 15 = .ok (.iload_n 1, 1) := by decide +kernel
theorem d_readNext_16 : decode prog_1_method_13_code 16 = .ok (.iaload, 1) := by decide +kernel
theorem d_readNext_17 : decode prog_1_method_13_code 17 = .ok (.istore_n 2, 1) := by decide +kernel
theorem d_readNext_18 : decode prog_1_method_13_code 18 = .ok (.iload_n 2, 1) := by decide +kernel
theorem d_readNext_19 : decode prog_1_method_13_code 19 = .ok (.ldc 35, 2) := by decide +kernel
theorem d_readNext_21 : decode prog_1_method_13_code 21 = .ok (.if_icmp .lt 13, 3) := by decide +kernel
theorem d_readNext_34 : decode prog_1_method_13_code 34 = .ok (.aload_n 0, 1) := by decide +kernel
theorem d_readNext_35 : decode prog_1_method_13_code 35 = .ok (.iload_n 2, 1) := by decide +kernel
theorem d_readNext_36 : decode prog_1_method_13_code 36 = .ok (.iconst 1, 1) := by decide +kernel
theorem d_readNext_37 : decode prog_1_method_13_code 37 = .ok (.iadd, 1) := by decide +kernel
theorem d_readNext_38 : decode prog_1_method_13_code 38 = .ok (.invokevirtual 96, 3) := by decide +kernel
theorem ml_c96 : methodLk "HtreeDir" 96 tables_1 = some (⟨"HtreeDir", "firstAtLeast", "(I)I"⟩ : MethodName) := by decide +kernel
theorem cl_firstAtLeast : codeLk (⟨"HtreeDir", "firstAtLeast", "(I)I"⟩ : MethodName) tables_1 = some (prog_1_method_23_code, 7, (some .int)) := codeLk_at (i := 116) rfl (by decide +kernel)
theorem pd_firstAtLeast : parseMethodDescriptor "(I)I" = some ⟨[.int], some .int⟩ := by decide +kernel
theorem cc_firstAtLeast_1 : hasInit (⟨"HtreeDir", "firstAtLeast", "(I)I"⟩ : MethodName).cls tables_1 = true ∧ plainName (⟨"HtreeDir", "firstAtLeast", "(I)I"⟩ : MethodName).cls = true ∧ (⟨"HtreeDir", "firstAtLeast", "(I)I"⟩ : MethodName).cls ≠ "java/lang/invoke/MethodHandle" ∧ (⟨"HtreeDir", "firstAtLeast", "(I)I"⟩ : MethodName).cls ≠ "java/lang/invoke/VarHandle" ∧ (((1 : Nat) = 0 ∧ hasDecl (⟨"HtreeDir", "firstAtLeast", "(I)I"⟩ : MethodName) tables_1 = true ∧ hasSel (⟨"HtreeDir", "firstAtLeast", "(I)I"⟩ : MethodName) tables_1 = true ∧ hasInst (⟨"HtreeDir", "firstAtLeast", "(I)I"⟩ : MethodName) tables_1 = true) ∨ ((1 : Nat) = 1 ∧ hasPriv (⟨"HtreeDir", "firstAtLeast", "(I)I"⟩ : MethodName) tables_1 = true ∧ hasInst (⟨"HtreeDir", "firstAtLeast", "(I)I"⟩ : MethodName) tables_1 = true ∧ (instLk (⟨"HtreeDir", "firstAtLeast", "(I)I"⟩ : MethodName).cls tables_1).isSome = true) ∨ ((1 : Nat) = 2 ∧ (⟨"HtreeDir", "firstAtLeast", "(I)I"⟩ : MethodName).name = "<init>" ∧ hasInst (⟨"HtreeDir", "firstAtLeast", "(I)I"⟩ : MethodName) tables_1 = true ∧ ((some .int) : Option FieldType) = none) ∨ ((1 : Nat) = 3 ∧ hasStat (⟨"HtreeDir", "firstAtLeast", "(I)I"⟩ : MethodName) tables_1 = true)) := by decide +kernel
theorem ca_c96_1 : callAt tables_1 "HtreeDir" 96 1 = some ((⟨"HtreeDir", "firstAtLeast", "(I)I"⟩ : MethodName), 1, prog_1_method_23_code, 7, (some .int)) := callAt_of ml_c96 cl_firstAtLeast pd_firstAtLeast cc_firstAtLeast_1 rfl
theorem d_readNext_24 : decode prog_1_method_13_code 24 = .ok (.aload_n 0, 1) := by decide +kernel
theorem d_readNext_25 : decode prog_1_method_13_code 25 = .ok (.getfield 32, 3) := by decide +kernel
theorem d_readNext_28 : decode prog_1_method_13_code 28 = .ok (.iload_n 1, 1) := by decide +kernel
theorem d_readNext_29 : decode prog_1_method_13_code 29 = .ok (.ldc 89, 2) := by decide +kernel
theorem ik_c89 : intLk "HtreeDir" 89 tables_1 = some (65536 : Int32) := by decide +kernel
theorem d_readNext_31 : decode prog_1_method_13_code 31 = .ok (.iastore, 1) := by decide +kernel
theorem d_readNext_32 : decode prog_1_method_13_code 32 = .ok (.iconst (-1), 1) := by decide +kernel
theorem d_readNext_33 : decode prog_1_method_13_code 33 = .ok (.ireturn, 1) := by decide +kernel
theorem d_readNext_8 : decode prog_1_method_13_code 8 = .ok (.bipush (-2), 2) := by decide +kernel
theorem d_readNext_10 : decode prog_1_method_13_code 10 = .ok (.ireturn, 1) := by decide +kernel
theorem d_readNext_41 : decode prog_1_method_13_code 41 = .ok (.istore_n 3, 1) := by decide +kernel
theorem d_readNext_42 : decode prog_1_method_13_code 42 = .ok (.iload_n 3, 1) := by decide +kernel
theorem d_readNext_43 : decode prog_1_method_13_code 43 = .ok (.ifCond .ge 13, 3) := by decide +kernel
theorem d_readNext_56 : decode prog_1_method_13_code 56 = .ok (.aload_n 0, 1) := by decide +kernel
theorem d_readNext_57 : decode prog_1_method_13_code 57 = .ok (.iload_n 3, 1) := by decide +kernel
theorem d_readNext_58 : decode prog_1_method_13_code 58 = .ok (.invokevirtual 86, 3) := by decide +kernel
theorem d_readNext_61 : decode prog_1_method_13_code 61 = .ok (.istore 4, 2) := by decide +kernel
theorem d_readNext_63 : decode prog_1_method_13_code 63 = .ok (.aload_n 0, 1) := by decide +kernel
theorem d_readNext_64 : decode prog_1_method_13_code 64 = .ok (.getfield 32, 3) := by decide +kernel
theorem d_readNext_67 : decode prog_1_method_13_code 67 = .ok (.iload_n 1, 1) := by decide +kernel
theorem d_readNext_68 : decode prog_1_method_13_code 68 = .ok (.aload_n 0, 1) := by decide +kernel
theorem d_readNext_69 : decode prog_1_method_13_code 69 = .ok (.getfield 7, 3) := by decide +kernel
theorem d_readNext_72 : decode prog_1_method_13_code 72 = .ok (.iload 4, 2) := by decide +kernel
theorem d_readNext_74 : decode prog_1_method_13_code 74 = .ok (.iaload, 1) := by decide +kernel
theorem d_readNext_75 : decode prog_1_method_13_code 75 = .ok (.iastore, 1) := by decide +kernel
theorem d_readNext_76 : decode prog_1_method_13_code 76 = .ok (.aload_n 0, 1) := by decide +kernel
theorem d_readNext_77 : decode prog_1_method_13_code 77 = .ok (.getfield 13, 3) := by decide +kernel
theorem d_readNext_80 : decode prog_1_method_13_code 80 = .ok (.iload 4, 2) := by decide +kernel
theorem d_readNext_82 : decode prog_1_method_13_code 82 = .ok (.iaload, 1) := by decide +kernel
theorem d_readNext_83 : decode prog_1_method_13_code 83 = .ok (.ireturn, 1) := by decide +kernel
theorem d_readNext_46 : decode prog_1_method_13_code 46 = .ok (.aload_n 0, 1) := by decide +kernel
theorem d_readNext_47 : decode prog_1_method_13_code 47 = .ok (.getfield 32, 3) := by decide +kernel
theorem d_readNext_50 : decode prog_1_method_13_code 50 = .ok (.iload_n 1, 1) := by decide +kernel
theorem d_readNext_51 : decode prog_1_method_13_code 51 = .ok (.ldc 89, 2) := by decide +kernel
theorem d_readNext_53 : decode prog_1_method_13_code 53 = .ok (.iastore, 1) := by decide +kernel
theorem d_readNext_54 : decode prog_1_method_13_code 54 = .ok (.iconst (-1), 1) := by decide +kernel
theorem d_readNext_55 : decode prog_1_method_13_code 55 = .ok (.ireturn, 1) := by decide +kernel
theorem d_seekDir_0 : decode prog_1_method_15_code 0 = .ok (.aload_n 0, 1) := by decide +kernel
theorem d_seekDir_1 : decode prog_1_method_15_code 1 = .ok (.iload_n 1, 1) := by decide +kernel
theorem d_seekDir_2 : decode prog_1_method_15_code 2 = .ok (.invokevirtual 93, 3) := by decide +kernel
abbrev W_seekDir (pc : Nat) (ls : List Slot) (st : List Value) (M : EMem) (Q : Option Value → EMem → Prop) : Prop := Wp tables_1 1 1 13 (⟨"HtreeDir", "seekDir", "(II)Z"⟩ : MethodName) prog_1_method_15_code (some .boolean) pc ls st M Q
theorem d_seekDir_5 : decode prog_1_method_15_code 5 = .ok (.ifCond .ne 5, 3) := by decide +kernel
theorem d_seekDir_10 : decode prog_1_method_15_code 10 = .ok (.iload_n 2, 1) := by decide +kernel
theorem d_seekDir_11 : decode prog_1_method_15_code 11 = .ok (.iconst (-1), 1) := by decide +kernel
theorem d_seekDir_12 : decode prog_1_method_15_code 12 = .ok (.if_icmp .lt 9, 3) := by decide +kernel
theorem d_seekDir_21 : decode prog_1_method_15_code 21 = .ok (.iconst 0, 1) := by decide +kernel
theorem d_seekDir_22 : decode prog_1_method_15_code 22 = .ok (.ireturn, 1) := by decide +kernel
theorem d_seekDir_15 : decode prog_1_method_15_code 15 = .ok (.iload_n 2, 1) := by decide +kernel
theorem d_seekDir_16 : decode prog_1_method_15_code 16 = .ok (.ldc 89, 2) := by decide +kernel
theorem d_seekDir_23 : decode prog_1_method_15_code 23 = .ok (.aload_n 0, 1) := by decide +kernel
theorem d_seekDir_24 : decode prog_1_method_15_code 24 = .ok (.getfield 32, 3) := by decide +kernel
theorem d_seekDir_27 : decode prog_1_method_15_code 27 = .ok (.iload_n 1, 1) := by decide +kernel
theorem d_seekDir_28 : decode prog_1_method_15_code 28 = .ok (.iload_n 2, 1) := by decide +kernel
theorem d_seekDir_18 : decode prog_1_method_15_code 18 = .ok (.if_icmp .le 5, 3) := by decide +kernel
theorem d_seekDir_29 : decode prog_1_method_15_code 29 = .ok (.iastore, 1) := by decide +kernel
theorem d_seekDir_30 : decode prog_1_method_15_code 30 = .ok (.iconst 1, 1) := by decide +kernel
theorem d_seekDir_31 : decode prog_1_method_15_code 31 = .ok (.ireturn, 1) := by decide +kernel
theorem d_seekDir_8 : decode prog_1_method_15_code 8 = .ok (.iconst 0, 1) := by decide +kernel
theorem d_seekDir_9 : decode prog_1_method_15_code 9 = .ok (.ireturn, 1) := by decide +kernel
theorem d_closeDir_0 : decode prog_1_method_16_code 0 = .ok (.aload_n 0, 1) := by decide +kernel
theorem d_closeDir_1 : decode prog_1_method_16_code 1 = .ok (.iload_n 1, 1) := by decide +kernel
theorem d_closeDir_2 : decode prog_1_method_16_code 2 = .ok (.invokevirtual 93, 3) := by decide +kernel
abbrev W_closeDir (pc : Nat) (ls : List Slot) (st : List Value) (M : EMem) (Q : Option Value → EMem → Prop) : Prop := Wp tables_1 1 1 13 (⟨"HtreeDir", "closeDir", "(I)Z"⟩ : MethodName) prog_1_method_16_code (some .boolean) pc ls st M Q
theorem d_closeDir_5 : decode prog_1_method_16_code 5 = .ok (.ifCond .ne 5, 3) := by decide +kernel
theorem d_closeDir_10 : decode prog_1_method_16_code 10 = .ok (.aload_n 0, 1) := by decide +kernel
theorem d_closeDir_11 : decode prog_1_method_16_code 11 = .ok (.getfield 28, 3) := by decide +kernel
theorem d_closeDir_14 : decode prog_1_method_16_code 14 = .ok (.iload_n 1, 1) := by decide +kernel
theorem d_closeDir_15 : decode prog_1_method_16_code 15 = .ok (.iconst 0, 1) := by decide +kernel
theorem d_closeDir_16 : decode prog_1_method_16_code 16 = .ok (.bastore, 1) := by decide +kernel
theorem d_closeDir_17 : decode prog_1_method_16_code 17 = .ok (.iconst 1, 1) := by decide +kernel
theorem d_closeDir_18 : decode prog_1_method_16_code 18 = .ok (.ireturn, 1) := by decide +kernel
theorem d_closeDir_8 : decode prog_1_method_16_code 8 = .ok (.iconst 0, 1) := by decide +kernel
theorem d_closeDir_9 : decode prog_1_method_16_code 9 = .ok (.ireturn, 1) := by decide +kernel
theorem d_law_cell_0 : decode method_2_code 0 = .ok (.iload_n 1, 1) := by decide +kernel
theorem d_law_cell_1 : decode method_2_code 1 = .ok (.aload_n 0, 1) := by decide +kernel
theorem d_law_cell_2 : decode method_2_code 2 = .ok (.arraylength, 1) := by decide +kernel
theorem d_law_cell_3 : decode method_2_code 3 = .ok (.if_icmp .ge 9, 3) := by decide +kernel
theorem d_law_cell_12 : decode method_2_code 12 = .ok (.iconst 0, 1) := by decide +kernel
theorem d_law_cell_6 : decode method_2_code 6 = .ok (.aload_n 0, 1) := by decide +kernel
theorem d_law_cell_7 : decode method_2_code 7 = .ok (.iload_n 1, 1) := by decide +kernel
theorem d_law_cell_8 : decode method_2_code 8 = .ok (.iaload, 1) := by decide +kernel
theorem d_law_cell_9 : decode method_2_code 9 = .ok (.goto 4, 3) := by decide +kernel
abbrev W_law_cell (pc : Nat) (ls : List Slot) (st : List Value) (M : EMem) (Q : Option Value → EMem → Prop) : Prop := Wp tables_1 1 0 0 (⟨"HtreeDirOwnLaw", "cell", "([II)I"⟩ : MethodName) method_2_code (some .int) pc ls st M Q
theorem d_law_cell_13 : decode method_2_code 13 = .ok (.ireturn, 1) := by decide +kernel
theorem d_init_0 : decode prog_1_method_1_code 0 = .ok (.aload_n 0, 1) := by decide +kernel
theorem d_init_1 : decode prog_1_method_1_code 1 = .ok (.invokespecial 1, 3) := by decide +kernel
theorem oi_c1 : objInitAt tables_1 "HtreeDir" 1 = true := by decide +kernel
theorem d_init_4 : decode prog_1_method_1_code 4 = .ok (.aload_n 0, 1) := by decide +kernel
theorem d_init_5 : decode prog_1_method_1_code 5 = .ok (.sipush 128, 3) := by decide +kernel
theorem d_init_8 : decode prog_1_method_1_code 8 = .ok (.newarray .int, 2) := by decide +kernel
theorem ar_int : hasArr .int tables_1 = true := by decide +kernel
theorem d_init_10 : decode prog_1_method_1_code 10 = .ok (.putfield 7, 3) := by decide +kernel
theorem d_init_13 : decode prog_1_method_1_code 13 = .ok (.aload_n 0, 1) := by decide +kernel
theorem d_init_14 : decode prog_1_method_1_code 14 = .ok (.sipush 128, 3) := by decide +kernel
theorem d_init_17 : decode prog_1_method_1_code 17 = .ok (.newarray .int, 2) := by decide +kernel
theorem d_init_19 : decode prog_1_method_1_code 19 = .ok (.putfield 13, 3) := by decide +kernel
theorem d_init_22 : decode prog_1_method_1_code 22 = .ok (.aload_n 0, 1) := by decide +kernel
theorem d_init_23 : decode prog_1_method_1_code 23 = .ok (.sipush 128, 3) := by decide +kernel
theorem d_init_26 : decode prog_1_method_1_code 26 = .ok (.newarray .int, 2) := by decide +kernel
theorem d_init_28 : decode prog_1_method_1_code 28 = .ok (.putfield 16, 3) := by decide +kernel
theorem d_init_31 : decode prog_1_method_1_code 31 = .ok (.aload_n 0, 1) := by decide +kernel
theorem d_init_32 : decode prog_1_method_1_code 32 = .ok (.bipush 32, 2) := by decide +kernel
theorem d_init_34 : decode prog_1_method_1_code 34 = .ok (.newarray .int, 2) := by decide +kernel
theorem d_init_36 : decode prog_1_method_1_code 36 = .ok (.putfield 19, 3) := by decide +kernel
theorem d_init_39 : decode prog_1_method_1_code 39 = .ok (.aload_n 0, 1) := by decide +kernel
theorem d_init_40 : decode prog_1_method_1_code 40 = .ok (.bipush 32, 2) := by decide +kernel
theorem d_init_42 : decode prog_1_method_1_code 42 = .ok (.newarray .int, 2) := by decide +kernel
theorem d_init_44 : decode prog_1_method_1_code 44 = .ok (.putfield 22, 3) := by decide +kernel
theorem d_init_47 : decode prog_1_method_1_code 47 = .ok (.aload_n 0, 1) := by decide +kernel
theorem d_init_48 : decode prog_1_method_1_code 48 = .ok (.bipush 32, 2) := by decide +kernel
theorem d_init_50 : decode prog_1_method_1_code 50 = .ok (.newarray .int, 2) := by decide +kernel
theorem d_init_52 : decode prog_1_method_1_code 52 = .ok (.putfield 25, 3) := by decide +kernel
theorem d_init_55 : decode prog_1_method_1_code 55 = .ok (.aload_n 0, 1) := by decide +kernel
theorem d_init_56 : decode prog_1_method_1_code 56 = .ok (.iconst 4, 1) := by decide +kernel
theorem d_init_57 : decode prog_1_method_1_code 57 = .ok (.newarray .boolean, 2) := by decide +kernel
theorem ar_boolean : hasArr .boolean tables_1 = true := by decide +kernel
theorem d_init_59 : decode prog_1_method_1_code 59 = .ok (.putfield 28, 3) := by decide +kernel
theorem d_init_62 : decode prog_1_method_1_code 62 = .ok (.aload_n 0, 1) := by decide +kernel
theorem d_init_63 : decode prog_1_method_1_code 63 = .ok (.iconst 4, 1) := by decide +kernel
theorem d_init_64 : decode prog_1_method_1_code 64 = .ok (.newarray .int, 2) := by decide +kernel
theorem d_init_66 : decode prog_1_method_1_code 66 = .ok (.putfield 32, 3) := by decide +kernel
theorem d_init_69 : decode prog_1_method_1_code 69 = .ok (.iload_n 1, 1) := by decide +kernel
theorem d_init_70 : decode prog_1_method_1_code 70 = .ok (.istore_n 3, 1) := by decide +kernel
theorem d_init_71 : decode prog_1_method_1_code 71 = .ok (.iload_n 3, 1) := by decide +kernel
theorem d_init_72 : decode prog_1_method_1_code 72 = .ok (.ifCond .ge 5, 3) := by decide +kernel
theorem d_init_75 : decode prog_1_method_1_code 75 = .ok (.iconst 0, 1) := by decide +kernel
theorem d_init_76 : decode prog_1_method_1_code 76 = .ok (.istore_n 3, 1) := by decide +kernel
abbrev W_init (pc : Nat) (ls : List Slot) (st : List Value) (M : EMem) (Q : Option Value → EMem → Prop) : Prop := Wp tables_1 1 1 12 (⟨"HtreeDir", "<init>", "(II)V"⟩ : MethodName) prog_1_method_1_code none pc ls st M Q
theorem d_init_77 : decode prog_1_method_1_code 77 = .ok (.iload_n 3, 1) := by decide +kernel
theorem d_init_78 : decode prog_1_method_1_code 78 = .ok (.ldc 35, 2) := by decide +kernel
theorem d_init_80 : decode prog_1_method_1_code 80 = .ok (.if_icmp .le 6, 3) := by decide +kernel
theorem d_init_83 : decode prog_1_method_1_code 83 = .ok (.ldc 35, 2) := by decide +kernel
theorem d_init_85 : decode prog_1_method_1_code 85 = .ok (.istore_n 3, 1) := by decide +kernel
theorem d_init_86 : decode prog_1_method_1_code 86 = .ok (.iload_n 2, 1) := by decide +kernel
theorem d_init_87 : decode prog_1_method_1_code 87 = .ok (.istore 4, 2) := by decide +kernel
theorem d_init_89 : decode prog_1_method_1_code 89 = .ok (.iload 4, 2) := by decide +kernel
theorem d_init_91 : decode prog_1_method_1_code 91 = .ok (.bipush 8, 2) := by decide +kernel
theorem d_init_93 : decode prog_1_method_1_code 93 = .ok (.if_icmp .ge 7, 3) := by decide +kernel
theorem d_init_96 : decode prog_1_method_1_code 96 = .ok (.bipush 8, 2) := by decide +kernel
theorem d_init_98 : decode prog_1_method_1_code 98 = .ok (.istore 4, 2) := by decide +kernel
theorem d_init_100 : decode prog_1_method_1_code 100 = .ok (.iload 4, 2) := by decide +kernel
theorem d_init_102 : decode prog_1_method_1_code 102 = .ok (.bipush 32, 2) := by decide +kernel
theorem d_init_104 : decode prog_1_method_1_code 104 = .ok (.if_icmp .le 7, 3) := by decide +kernel
theorem d_init_107 : decode prog_1_method_1_code 107 = .ok (.bipush 32, 2) := by decide +kernel
theorem d_init_109 : decode prog_1_method_1_code 109 = .ok (.istore 4, 2) := by decide +kernel
theorem d_init_111 : decode prog_1_method_1_code 111 = .ok (.aload_n 0, 1) := by decide +kernel
theorem d_init_112 : decode prog_1_method_1_code 112 = .ok (.iload_n 3, 1) := by decide +kernel
theorem d_init_113 : decode prog_1_method_1_code 113 = .ok (.putfield 36, 3) := by decide +kernel
theorem d_init_116 : decode prog_1_method_1_code 116 = .ok (.aload_n 0, 1) := by decide +kernel
theorem d_init_117 : decode prog_1_method_1_code 117 = .ok (.iload 4, 2) := by decide +kernel
theorem d_init_119 : decode prog_1_method_1_code 119 = .ok (.putfield 40, 3) := by decide +kernel
theorem d_init_122 : decode prog_1_method_1_code 122 = .ok (.aload_n 0, 1) := by decide +kernel
theorem d_init_123 : decode prog_1_method_1_code 123 = .ok (.iconst 0, 1) := by decide +kernel
theorem d_init_124 : decode prog_1_method_1_code 124 = .ok (.putfield 43, 3) := by decide +kernel
theorem d_init_127 : decode prog_1_method_1_code 127 = .ok (.aload_n 0, 1) := by decide +kernel
theorem d_init_128 : decode prog_1_method_1_code 128 = .ok (.iconst 0, 1) := by decide +kernel
theorem d_init_129 : decode prog_1_method_1_code 129 = .ok (.putfield 46, 3) := by decide +kernel
theorem d_init_132 : decode prog_1_method_1_code 132 = .ok (.iconst 0, 1) := by decide +kernel
theorem d_init_133 : decode prog_1_method_1_code 133 = .ok (.istore 5, 2) := by decide +kernel
theorem d_init_135 : decode prog_1_method_1_code 135 = .ok (.iload 5, 2) := by decide +kernel
theorem d_init_137 : decode prog_1_method_1_code 137 = .ok (.bipush 32, 2) := by decide +kernel
theorem d_init_139 : decode prog_1_method_1_code 139 = .ok (.if_icmp .ge 21, 3) := by decide +kernel
theorem d_init_142 : decode prog_1_method_1_code 142 = .ok (.aload_n 0, 1) := by decide +kernel
theorem d_init_143 : decode prog_1_method_1_code 143 = .ok (.getfield 25, 3) := by decide +kernel
theorem d_init_146 : decode prog_1_method_1_code 146 = .ok (.iload 5, 2) := by decide +kernel
theorem d_init_148 : decode prog_1_method_1_code 148 = .ok (.bipush 31, 2) := by decide +kernel
theorem d_init_150 : decode prog_1_method_1_code 150 = .ok (.iload 5, 2) := by decide +kernel
theorem d_init_152 : decode prog_1_method_1_code 152 = .ok (.isub, 1) := by decide +kernel
theorem d_init_160 : decode prog_1_method_1_code 160 = .ok (.aload_n 0, 1) := by decide +kernel
theorem d_init_161 : decode prog_1_method_1_code 161 = .ok (.bipush 32, 2) := by decide +kernel
theorem d_init_163 : decode prog_1_method_1_code 163 = .ok (.putfield 49, 3) := by decide +kernel
theorem d_init_166 : decode prog_1_method_1_code 166 = .ok (.return_, 1) := by decide +kernel
theorem d_init_153 : decode prog_1_method_1_code 153 = .ok (.iastore, 1) := by decide +kernel
theorem d_init_154 : decode prog_1_method_1_code 154 = .ok (.iinc 5 1, 3) := by decide +kernel
theorem d_init_157 : decode prog_1_method_1_code 157 = .ok (.goto (-22), 3) := by decide +kernel
theorem d_law_nameOf_0 : decode method_3_code 0 = .ok (.iload_n 0, 1) := by decide +kernel
theorem d_law_nameOf_1 : decode method_3_code 1 = .ok (.sipush 4099, 3) := by decide +kernel
theorem d_law_nameOf_4 : decode method_3_code 4 = .ok (.imul, 1) := by decide +kernel
theorem d_law_nameOf_5 : decode method_3_code 5 = .ok (.bipush 7, 2) := by decide +kernel
theorem d_law_nameOf_7 : decode method_3_code 7 = .ok (.iadd, 1) := by decide +kernel
theorem d_law_nameOf_8 : decode method_3_code 8 = .ok (.ireturn, 1) := by decide +kernel
abbrev W_law_nameOf (pc : Nat) (ls : List Slot) (st : List Value) (M : EMem) (Q : Option Value → EMem → Prop) : Prop := Wp tables_1 1 0 0 (⟨"HtreeDirOwnLaw", "nameOf", "(I)I"⟩ : MethodName) method_3_code (some .int) pc ls st M Q
theorem d_law_nib_0 : decode method_9_code 0 = .ok (.lload_n 0, 1) := by decide +kernel
theorem d_law_nib_1 : decode method_9_code 1 = .ok (.iconst 4, 1) := by decide +kernel
theorem d_law_nib_2 : decode method_9_code 2 = .ok (.iload_n 2, 1) := by decide +kernel
theorem d_law_nib_3 : decode method_9_code 3 = .ok (.imul, 1) := by decide +kernel
theorem d_law_nib_4 : decode method_9_code 4 = .ok (.lushr, 1) := by decide +kernel
theorem d_law_nib_5 : decode method_9_code 5 = .ok (.ldc2_w 13, 3) := by decide +kernel
theorem lk_w13 : longLk "HtreeDirOwnLaw" 13 tables_1 = some (15 : Int64) := by decide +kernel
theorem d_law_nib_8 : decode method_9_code 8 = .ok (.land, 1) := by decide +kernel
theorem d_law_nib_9 : decode method_9_code 9 = .ok (.l2i, 1) := by decide +kernel
theorem d_law_nib_10 : decode method_9_code 10 = .ok (.ireturn, 1) := by decide +kernel
abbrev W_law_nib (pc : Nat) (ls : List Slot) (st : List Value) (M : EMem) (Q : Option Value → EMem → Prop) : Prop := Wp tables_1 1 0 0 (⟨"HtreeDirOwnLaw", "nib", "(JI)I"⟩ : MethodName) method_9_code (some .int) pc ls st M Q
theorem d_law_pick_0 : decode method_5_code 0 = .ok (.iload 8, 2) := by decide +kernel
theorem d_law_pick_2 : decode method_5_code 2 = .ok (.ifCond .ne 7, 3) := by decide +kernel
theorem d_law_pick_9 : decode method_5_code 9 = .ok (.iload 8, 2) := by decide +kernel
theorem d_law_pick_11 : decode method_5_code 11 = .ok (.iconst 1, 1) := by decide +kernel
theorem d_law_pick_19 : decode method_5_code 19 = .ok (.iload 8, 2) := by decide +kernel
theorem d_law_pick_21 : decode method_5_code 21 = .ok (.iconst 2, 1) := by decide +kernel
theorem d_law_pick_30 : decode method_5_code 30 = .ok (.lload 6, 2) := by decide +kernel
theorem d_law_pick_25 : decode method_5_code 25 = .ok (.lload 4, 2) := by decide +kernel
theorem d_law_pick_27 : decode method_5_code 27 = .ok (.goto 5, 3) := by decide +kernel
theorem d_law_pick_22 : decode method_5_code 22 = .ok (.if_icmp .ne 8, 3) := by decide +kernel
theorem d_law_pick_15 : decode method_5_code 15 = .ok (.lload_n 2, 1) := by decide +kernel
theorem d_law_pick_16 : decode method_5_code 16 = .ok (.goto 16, 3) := by decide +kernel
theorem d_law_pick_12 : decode method_5_code 12 = .ok (.if_icmp .ne 7, 3) := by decide +kernel
theorem d_law_pick_5 : decode method_5_code 5 = .ok (.lload_n 0, 1) := by decide +kernel
theorem d_law_pick_6 : decode method_5_code 6 = .ok (.goto 26, 3) := by decide +kernel
abbrev W_law_pick (pc : Nat) (ls : List Slot) (st : List Value) (M : EMem) (Q : Option Value → EMem → Prop) : Prop := Wp tables_1 1 0 0 (⟨"HtreeDirOwnLaw", "pick", "(JJJJI)J"⟩ : MethodName) method_5_code (some .long) pc ls st M Q
theorem d_law_pick_32 : decode method_5_code 32 = .ok (.lreturn, 1) := by decide +kernel
theorem d_law_active_0 : decode method_7_code 0 = .ok (.lload_n 0, 1) := by decide +kernel
theorem d_law_active_1 : decode method_7_code 1 = .ok (.bipush 49, 2) := by decide +kernel
theorem d_law_active_3 : decode method_7_code 3 = .ok (.lushr, 1) := by decide +kernel
theorem d_law_active_4 : decode method_7_code 4 = .ok (.lconst 1, 1) := by decide +kernel
theorem d_law_active_5 : decode method_7_code 5 = .ok (.land, 1) := by decide +kernel
theorem d_law_active_6 : decode method_7_code 6 = .ok (.lconst 0, 1) := by decide +kernel
theorem d_law_active_7 : decode method_7_code 7 = .ok (.lcmp, 1) := by decide +kernel
theorem d_law_active_8 : decode method_7_code 8 = .ok (.ifCond .eq 7, 3) := by decide +kernel
theorem d_law_active_15 : decode method_7_code 15 = .ok (.iconst 0, 1) := by decide +kernel
theorem d_law_active_11 : decode method_7_code 11 = .ok (.iconst 1, 1) := by decide +kernel
theorem d_law_active_12 : decode method_7_code 12 = .ok (.goto 4, 3) := by decide +kernel
abbrev W_law_active (pc : Nat) (ls : List Slot) (st : List Value) (M : EMem) (Q : Option Value → EMem → Prop) : Prop := Wp tables_1 1 0 0 (⟨"HtreeDirOwnLaw", "active", "(J)Z"⟩ : MethodName) method_7_code (some .boolean) pc ls st M Q
theorem d_law_active_16 : decode method_7_code 16 = .ok (.ireturn, 1) := by decide +kernel
theorem d_law_startWalk_0 : decode method_6_code 0 = .ok (.ldc2_w 7, 3) := by decide +kernel
theorem lk_w7 : longLk "HtreeDirOwnLaw" 7 tables_1 = some (562949953421312 : Int64) := by decide +kernel
theorem d_law_startWalk_3 : decode method_6_code 3 = .ok (.iload_n 0, 1) := by decide +kernel
theorem d_law_startWalk_4 : decode method_6_code 4 = .ok (.i2l, 1) := by decide +kernel
theorem d_law_startWalk_5 : decode method_6_code 5 = .ok (.ldc2_w 9, 3) := by decide +kernel
theorem lk_w9 : longLk "HtreeDirOwnLaw" 9 tables_1 = some (65535 : Int64) := by decide +kernel
theorem d_law_startWalk_8 : decode method_6_code 8 = .ok (.land, 1) := by decide +kernel
theorem d_law_startWalk_9 : decode method_6_code 9 = .ok (.lor, 1) := by decide +kernel
theorem d_law_startWalk_10 : decode method_6_code 10 = .ok (.lreturn, 1) := by decide +kernel
abbrev W_law_startWalk (pc : Nat) (ls : List Slot) (st : List Value) (M : EMem) (Q : Option Value → EMem → Prop) : Prop := Wp tables_1 1 0 0 (⟨"HtreeDirOwnLaw", "startWalk", "(I)J"⟩ : MethodName) method_6_code (some .long) pc ls st M Q
theorem d_law_setNib_0 : decode method_10_code 0 = .ok (.lload_n 0, 1) := by decide +kernel
theorem d_law_setNib_1 : decode method_10_code 1 = .ok (.ldc2_w 13, 3) := by decide +kernel
theorem d_law_setNib_4 : decode method_10_code 4 = .ok (.iconst 4, 1) := by decide +kernel
theorem d_law_setNib_5 : decode method_10_code 5 = .ok (.iload_n 2, 1) := by decide +kernel
theorem d_law_setNib_6 : decode method_10_code 6 = .ok (.imul, 1) := by decide +kernel
theorem d_law_setNib_7 : decode method_10_code 7 = .ok (.lshl, 1) := by decide +kernel
theorem d_law_setNib_8 : decode method_10_code 8 = .ok (.ldc2_w 11, 3) := by decide +kernel
theorem lk_w11 : longLk "HtreeDirOwnLaw" 11 tables_1 = some (-1 : Int64) := by decide +kernel
theorem d_law_setNib_11 : decode method_10_code 11 = .ok (.lxor, 1) := by decide +kernel
theorem d_law_setNib_12 : decode method_10_code 12 = .ok (.land, 1) := by decide +kernel
theorem d_law_setNib_13 : decode method_10_code 13 = .ok (.iload_n 3, 1) := by decide +kernel
theorem d_law_setNib_14 : decode method_10_code 14 = .ok (.i2l, 1) := by decide +kernel
theorem d_law_setNib_15 : decode method_10_code 15 = .ok (.ldc2_w 13, 3) := by decide +kernel
theorem d_law_setNib_18 : decode method_10_code 18 = .ok (.land, 1) := by decide +kernel
theorem d_law_setNib_19 : decode method_10_code 19 = .ok (.iconst 4, 1) := by decide +kernel
theorem d_law_setNib_20 : decode method_10_code 20 = .ok (.iload_n 2, 1) := by decide +kernel
theorem d_law_setNib_21 : decode method_10_code 21 = .ok (.imul, 1) := by decide +kernel
theorem d_law_setNib_22 : decode method_10_code 22 = .ok (.lshl, 1) := by decide +kernel
theorem d_law_setNib_23 : decode method_10_code 23 = .ok (.lor, 1) := by decide +kernel
theorem d_law_setNib_24 : decode method_10_code 24 = .ok (.lreturn, 1) := by decide +kernel
abbrev W_law_setNib (pc : Nat) (ls : List Slot) (st : List Value) (M : EMem) (Q : Option Value → EMem → Prop) : Prop := Wp tables_1 1 0 0 (⟨"HtreeDirOwnLaw", "setNib", "(JII)J"⟩ : MethodName) method_10_code (some .long) pc ls st M Q
theorem d_law_idxOf_0 : decode method_4_code 0 = .ok (.iload_n 0, 1) := by decide +kernel
theorem d_law_idxOf_1 : decode method_4_code 1 = .ok (.bipush 7, 2) := by decide +kernel
theorem d_law_idxOf_3 : decode method_4_code 3 = .ok (.if_icmp .ge 5, 3) := by decide +kernel
theorem d_law_idxOf_8 : decode method_4_code 8 = .ok (.iload_n 0, 1) := by decide +kernel
theorem d_law_idxOf_9 : decode method_4_code 9 = .ok (.bipush 7, 2) := by decide +kernel
theorem d_law_idxOf_11 : decode method_4_code 11 = .ok (.isub, 1) := by decide +kernel
theorem d_law_idxOf_12 : decode method_4_code 12 = .ok (.istore_n 1, 1) := by decide +kernel
theorem d_law_idxOf_13 : decode method_4_code 13 = .ok (.iload_n 1, 1) := by decide +kernel
theorem d_law_idxOf_14 : decode method_4_code 14 = .ok (.sipush 4099, 3) := by decide +kernel
theorem d_law_idxOf_17 : decode method_4_code 17 = .ok (.irem, 1) := by decide +kernel
theorem d_law_idxOf_18 : decode method_4_code 18 = .ok (.ifCond .eq 5, 3) := by decide +kernel
theorem d_law_idxOf_23 : decode method_4_code 23 = .ok (.iload_n 1, 1) := by decide +kernel
theorem d_law_idxOf_24 : decode method_4_code 24 = .ok (.sipush 4099, 3) := by decide +kernel
theorem d_law_idxOf_27 : decode method_4_code 27 = .ok (.idiv, 1) := by decide +kernel
theorem d_law_idxOf_28 : decode method_4_code 28 = .ok (.istore_n 2, 1) := by decide +kernel
theorem d_law_idxOf_29 : decode method_4_code 29 = .ok (.iload_n 2, 1) := by decide +kernel
theorem d_law_idxOf_30 : decode method_4_code 30 = .ok (.bipush 16, 2) := by decide +kernel
theorem d_law_idxOf_32 : decode method_4_code 32 = .ok (.if_icmp .ge 7, 3) := by decide +kernel
theorem d_law_idxOf_39 : decode method_4_code 39 = .ok (.iconst (-1), 1) := by decide +kernel
theorem d_law_idxOf_35 : decode method_4_code 35 = .ok (.iload_n 2, 1) := by decide +kernel
theorem d_law_idxOf_36 : decode method_4_code 36 = .ok (.goto 4, 3) := by decide +kernel
abbrev W_law_idxOf (pc : Nat) (ls : List Slot) (st : List Value) (M : EMem) (Q : Option Value → EMem → Prop) : Prop := Wp tables_1 1 0 0 (⟨"HtreeDirOwnLaw", "idxOf", "(I)I"⟩ : MethodName) method_4_code (some .int) pc ls st M Q
theorem d_law_idxOf_40 : decode method_4_code 40 = .ok (.ireturn, 1) := by decide +kernel
theorem d_law_idxOf_21 : decode method_4_code 21 = .ok (.iconst (-1), 1) := by decide +kernel
theorem d_law_idxOf_22 : decode method_4_code 22 = .ok (.ireturn, 1) := by decide +kernel
theorem d_law_idxOf_6 : decode method_4_code 6 = .ok (.iconst (-1), 1) := by decide +kernel
theorem d_law_idxOf_7 : decode method_4_code 7 = .ok (.ireturn, 1) := by decide +kernel
theorem d_law_dropReq_0 : decode method_8_code 0 = .ok (.lload_n 0, 1) := by decide +kernel
theorem d_law_dropReq_1 : decode method_8_code 1 = .ok (.iload_n 2, 1) := by decide +kernel
theorem d_law_dropReq_2 : decode method_8_code 2 = .ok (.i2l, 1) := by decide +kernel
theorem d_law_dropReq_3 : decode method_8_code 3 = .ok (.ldc2_w 11, 3) := by decide +kernel
theorem d_law_dropReq_6 : decode method_8_code 6 = .ok (.lxor, 1) := by decide +kernel
theorem d_law_dropReq_7 : decode method_8_code 7 = .ok (.land, 1) := by decide +kernel
theorem d_law_dropReq_8 : decode method_8_code 8 = .ok (.lreturn, 1) := by decide +kernel
abbrev W_law_dropReq (pc : Nat) (ls : List Slot) (st : List Value) (M : EMem) (Q : Option Value → EMem → Prop) : Prop := Wp tables_1 1 0 0 (⟨"HtreeDirOwnLaw", "dropReq", "(JI)J"⟩ : MethodName) method_8_code (some .long) pc ls st M Q
theorem d_law_0 : decode code 0 = .ok (.new 15, 3) := by decide +kernel
theorem na_w15 : newAt tables_1 "HtreeDirOwnLaw" 15 = some ("HtreeDir", 13) := by decide +kernel
theorem d_law_3 : decode code 3 = .ok (.dup, 1) := by decide +kernel
theorem d_law_4 : decode code 4 = .ok (.aload_n 0, 1) := by decide +kernel
theorem d_law_5 : decode code 5 = .ok (.iconst 0, 1) := by decide +kernel
theorem d_law_6 : decode code 6 = .ok (.invokestatic 17, 3) := by decide +kernel
theorem ml_w17 : methodLk "HtreeDirOwnLaw" 17 tables_1 = some (⟨"HtreeDirOwnLaw", "cell", "([II)I"⟩ : MethodName) := by decide +kernel
theorem cl_law_cell : codeLk (⟨"HtreeDirOwnLaw", "cell", "([II)I"⟩ : MethodName) tables_1 = some (method_2_code, 2, (some .int)) := codeLk_at (i := 6) rfl (by decide +kernel)
theorem pd_law_cell : parseMethodDescriptor "([II)I" = some ⟨[(.array .int), .int], some .int⟩ := by decide +kernel
theorem cc_law_cell_3 : hasInit (⟨"HtreeDirOwnLaw", "cell", "([II)I"⟩ : MethodName).cls tables_1 = true ∧ plainName (⟨"HtreeDirOwnLaw", "cell", "([II)I"⟩ : MethodName).cls = true ∧ (⟨"HtreeDirOwnLaw", "cell", "([II)I"⟩ : MethodName).cls ≠ "java/lang/invoke/MethodHandle" ∧ (⟨"HtreeDirOwnLaw", "cell", "([II)I"⟩ : MethodName).cls ≠ "java/lang/invoke/VarHandle" ∧ (((3 : Nat) = 0 ∧ hasDecl (⟨"HtreeDirOwnLaw", "cell", "([II)I"⟩ : MethodName) tables_1 = true ∧ hasSel (⟨"HtreeDirOwnLaw", "cell", "([II)I"⟩ : MethodName) tables_1 = true ∧ hasInst (⟨"HtreeDirOwnLaw", "cell", "([II)I"⟩ : MethodName) tables_1 = true) ∨ ((3 : Nat) = 1 ∧ hasPriv (⟨"HtreeDirOwnLaw", "cell", "([II)I"⟩ : MethodName) tables_1 = true ∧ hasInst (⟨"HtreeDirOwnLaw", "cell", "([II)I"⟩ : MethodName) tables_1 = true ∧ (instLk (⟨"HtreeDirOwnLaw", "cell", "([II)I"⟩ : MethodName).cls tables_1).isSome = true) ∨ ((3 : Nat) = 2 ∧ (⟨"HtreeDirOwnLaw", "cell", "([II)I"⟩ : MethodName).name = "<init>" ∧ hasInst (⟨"HtreeDirOwnLaw", "cell", "([II)I"⟩ : MethodName) tables_1 = true ∧ ((some .int) : Option FieldType) = none) ∨ ((3 : Nat) = 3 ∧ hasStat (⟨"HtreeDirOwnLaw", "cell", "([II)I"⟩ : MethodName) tables_1 = true)) := by decide +kernel
theorem ca_w17_3 : callAt tables_1 "HtreeDirOwnLaw" 17 3 = some ((⟨"HtreeDirOwnLaw", "cell", "([II)I"⟩ : MethodName), 2, method_2_code, 2, (some .int)) := callAt_of ml_w17 cl_law_cell pd_law_cell cc_law_cell_3 rfl
abbrev W_law (pc : Nat) (ls : List Slot) (st : List Value) (M : EMem) (Q : Option Value → EMem → Prop) : Prop := Wp tables_1 1 7 176 x code (some .boolean) pc ls st M Q
theorem d_law_9 : decode code 9 = .ok (.ldc 23, 2) := by decide +kernel
theorem ik_w23 : intLk "HtreeDirOwnLaw" 23 tables_1 = some (65535 : Int32) := by decide +kernel
theorem d_law_11 : decode code 11 = .ok (.iand, 1) := by decide +kernel
theorem d_law_12 : decode code 12 = .ok (.bipush 8, 2) := by decide +kernel
theorem d_law_14 : decode code 14 = .ok (.aload_n 0, 1) := by decide +kernel
theorem d_law_15 : decode code 15 = .ok (.iconst 1, 1) := by decide +kernel
theorem d_law_16 : decode code 16 = .ok (.invokestatic 17, 3) := by decide +kernel
theorem d_law_19 : decode code 19 = .ok (.bipush 15, 2) := by decide +kernel
theorem d_law_21 : decode code 21 = .ok (.iand, 1) := by decide +kernel
theorem d_law_22 : decode code 22 = .ok (.iadd, 1) := by decide +kernel
theorem d_law_23 : decode code 23 = .ok (.invokespecial 24, 3) := by decide +kernel
theorem ml_w24 : methodLk "HtreeDirOwnLaw" 24 tables_1 = some (⟨"HtreeDir", "<init>", "(II)V"⟩ : MethodName) := by decide +kernel
theorem cl_init : codeLk (⟨"HtreeDir", "<init>", "(II)V"⟩ : MethodName) tables_1 = some (prog_1_method_1_code, 6, none) := codeLk_at (i := 10) rfl (by decide +kernel)
theorem pd_init : parseMethodDescriptor "(II)V" = some ⟨[.int, .int], none⟩ := by decide +kernel
theorem cc_init_2 : hasInit (⟨"HtreeDir", "<init>", "(II)V"⟩ : MethodName).cls tables_1 = true ∧ plainName (⟨"HtreeDir", "<init>", "(II)V"⟩ : MethodName).cls = true ∧ (⟨"HtreeDir", "<init>", "(II)V"⟩ : MethodName).cls ≠ "java/lang/invoke/MethodHandle" ∧ (⟨"HtreeDir", "<init>", "(II)V"⟩ : MethodName).cls ≠ "java/lang/invoke/VarHandle" ∧ (((2 : Nat) = 0 ∧ hasDecl (⟨"HtreeDir", "<init>", "(II)V"⟩ : MethodName) tables_1 = true ∧ hasSel (⟨"HtreeDir", "<init>", "(II)V"⟩ : MethodName) tables_1 = true ∧ hasInst (⟨"HtreeDir", "<init>", "(II)V"⟩ : MethodName) tables_1 = true) ∨ ((2 : Nat) = 1 ∧ hasPriv (⟨"HtreeDir", "<init>", "(II)V"⟩ : MethodName) tables_1 = true ∧ hasInst (⟨"HtreeDir", "<init>", "(II)V"⟩ : MethodName) tables_1 = true ∧ (instLk (⟨"HtreeDir", "<init>", "(II)V"⟩ : MethodName).cls tables_1).isSome = true) ∨ ((2 : Nat) = 2 ∧ (⟨"HtreeDir", "<init>", "(II)V"⟩ : MethodName).name = "<init>" ∧ hasInst (⟨"HtreeDir", "<init>", "(II)V"⟩ : MethodName) tables_1 = true ∧ (none : Option FieldType) = none) ∨ ((2 : Nat) = 3 ∧ hasStat (⟨"HtreeDir", "<init>", "(II)V"⟩ : MethodName) tables_1 = true)) := by decide +kernel
theorem ca_w24_2 : callAt tables_1 "HtreeDirOwnLaw" 24 2 = some ((⟨"HtreeDir", "<init>", "(II)V"⟩ : MethodName), 2, prog_1_method_1_code, 6, none) := callAt_of ml_w24 cl_init pd_init cc_init_2 rfl
theorem on_w24 : objInitAt tables_1 "HtreeDirOwnLaw" 24 = false := by decide +kernel
theorem d_law_26 : decode code 26 = .ok (.astore_n 1, 1) := by decide +kernel
theorem d_law_27 : decode code 27 = .ok (.iconst 0, 1) := by decide +kernel
theorem d_law_28 : decode code 28 = .ok (.istore_n 2, 1) := by decide +kernel
theorem d_law_29 : decode code 29 = .ok (.lconst 0, 1) := by decide +kernel
theorem d_law_30 : decode code 30 = .ok (.lstore_n 3, 1) := by decide +kernel
theorem d_law_31 : decode code 31 = .ok (.lconst 0, 1) := by decide +kernel
theorem d_law_32 : decode code 32 = .ok (.lstore 5, 2) := by decide +kernel
theorem d_law_34 : decode code 34 = .ok (.lconst 0, 1) := by decide +kernel
theorem d_law_35 : decode code 35 = .ok (.lstore 7, 2) := by decide +kernel
theorem d_law_37 : decode code 37 = .ok (.lconst 0, 1) := by decide +kernel
theorem d_law_38 : decode code 38 = .ok (.lstore 9, 2) := by decide +kernel
theorem d_law_40 : decode code 40 = .ok (.lconst 0, 1) := by decide +kernel
theorem d_law_41 : decode code 41 = .ok (.lstore 11, 2) := by decide +kernel
theorem d_law_43 : decode code 43 = .ok (.iconst 2, 1) := by decide +kernel
theorem d_law_44 : decode code 44 = .ok (.istore 13, 2) := by decide +kernel
theorem d_law_46 : decode code 46 = .ok (.iload 13, 2) := by decide +kernel
theorem d_law_48 : decode code 48 = .ok (.aload_n 0, 1) := by decide +kernel
theorem d_law_49 : decode code 49 = .ok (.arraylength, 1) := by decide +kernel
theorem d_law_50 : decode code 50 = .ok (.if_icmp .ge 638, 3) := by decide +kernel
theorem d_law_688 : decode code 688 = .ok (.iconst 1, 1) := by decide +kernel
theorem d_law_689 : decode code 689 = .ok (.ireturn, 1) := by decide +kernel
theorem d_law_53 : decode code 53 = .ok (.aload_n 0, 1) := by decide +kernel
theorem d_law_54 : decode code 54 = .ok (.iload 13, 2) := by decide +kernel
theorem d_law_56 : decode code 56 = .ok (.iaload, 1) := by decide +kernel
theorem d_law_57 : decode code 57 = .ok (.istore 14, 2) := by decide +kernel
theorem d_law_59 : decode code 59 = .ok (.iload 14, 2) := by decide +kernel
theorem d_law_61 : decode code 61 = .ok (.sipush 255, 3) := by decide +kernel
theorem d_law_64 : decode code 64 = .ok (.iand, 1) := by decide +kernel
theorem d_law_65 : decode code 65 = .ok (.bipush 10, 2) := by decide +kernel
theorem d_law_67 : decode code 67 = .ok (.irem, 1) := by decide +kernel
theorem d_law_68 : decode code 68 = .ok (.istore 15, 2) := by decide +kernel
theorem d_law_70 : decode code 70 = .ok (.iload 14, 2) := by decide +kernel
theorem d_law_72 : decode code 72 = .ok (.bipush 8, 2) := by decide +kernel
theorem d_law_74 : decode code 74 = .ok (.iushr, 1) := by decide +kernel
theorem d_law_75 : decode code 75 = .ok (.bipush 15, 2) := by decide +kernel
theorem d_law_77 : decode code 77 = .ok (.iand, 1) := by decide +kernel
theorem d_law_78 : decode code 78 = .ok (.istore 16, 2) := by decide +kernel
theorem d_law_80 : decode code 80 = .ok (.iload 16, 2) := by decide +kernel
theorem d_law_82 : decode code 82 = .ok (.invokestatic 27, 3) := by decide +kernel
theorem ml_w27 : methodLk "HtreeDirOwnLaw" 27 tables_1 = some (⟨"HtreeDirOwnLaw", "nameOf", "(I)I"⟩ : MethodName) := by decide +kernel
theorem cl_law_nameOf : codeLk (⟨"HtreeDirOwnLaw", "nameOf", "(I)I"⟩ : MethodName) tables_1 = some (method_3_code, 1, (some .int)) := codeLk_at (i := 45) rfl (by decide +kernel)
theorem pd_law_nameOf : parseMethodDescriptor "(I)I" = some ⟨[.int], some .int⟩ := by decide +kernel
theorem cc_law_nameOf_3 : hasInit (⟨"HtreeDirOwnLaw", "nameOf", "(I)I"⟩ : MethodName).cls tables_1 = true ∧ plainName (⟨"HtreeDirOwnLaw", "nameOf", "(I)I"⟩ : MethodName).cls = true ∧ (⟨"HtreeDirOwnLaw", "nameOf", "(I)I"⟩ : MethodName).cls ≠ "java/lang/invoke/MethodHandle" ∧ (⟨"HtreeDirOwnLaw", "nameOf", "(I)I"⟩ : MethodName).cls ≠ "java/lang/invoke/VarHandle" ∧ (((3 : Nat) = 0 ∧ hasDecl (⟨"HtreeDirOwnLaw", "nameOf", "(I)I"⟩ : MethodName) tables_1 = true ∧ hasSel (⟨"HtreeDirOwnLaw", "nameOf", "(I)I"⟩ : MethodName) tables_1 = true ∧ hasInst (⟨"HtreeDirOwnLaw", "nameOf", "(I)I"⟩ : MethodName) tables_1 = true) ∨ ((3 : Nat) = 1 ∧ hasPriv (⟨"HtreeDirOwnLaw", "nameOf", "(I)I"⟩ : MethodName) tables_1 = true ∧ hasInst (⟨"HtreeDirOwnLaw", "nameOf", "(I)I"⟩ : MethodName) tables_1 = true ∧ (instLk (⟨"HtreeDirOwnLaw", "nameOf", "(I)I"⟩ : MethodName).cls tables_1).isSome = true) ∨ ((3 : Nat) = 2 ∧ (⟨"HtreeDirOwnLaw", "nameOf", "(I)I"⟩ : MethodName).name = "<init>" ∧ hasInst (⟨"HtreeDirOwnLaw", "nameOf", "(I)I"⟩ : MethodName) tables_1 = true ∧ ((some .int) : Option FieldType) = none) ∨ ((3 : Nat) = 3 ∧ hasStat (⟨"HtreeDirOwnLaw", "nameOf", "(I)I"⟩ : MethodName) tables_1 = true)) := by decide +kernel
theorem ca_w27_3 : callAt tables_1 "HtreeDirOwnLaw" 27 3 = some ((⟨"HtreeDirOwnLaw", "nameOf", "(I)I"⟩ : MethodName), 1, method_3_code, 1, (some .int)) := callAt_of ml_w27 cl_law_nameOf pd_law_nameOf cc_law_nameOf_3 rfl
theorem d_law_85 : decode code 85 = .ok (.istore 17, 2) := by decide +kernel
theorem d_law_87 : decode code 87 = .ok (.iconst 1, 1) := by decide +kernel
theorem d_law_88 : decode code 88 = .ok (.iload 16, 2) := by decide +kernel
theorem d_law_90 : decode code 90 = .ok (.ishl, 1) := by decide +kernel
theorem d_law_91 : decode code 91 = .ok (.istore 18, 2) := by decide +kernel
theorem d_law_93 : decode code 93 = .ok (.iload 14, 2) := by decide +kernel
theorem d_law_95 : decode code 95 = .ok (.bipush 12, 2) := by decide +kernel
theorem d_law_97 : decode code 97 = .ok (.iushr, 1) := by decide +kernel
theorem d_law_98 : decode code 98 = .ok (.bipush 15, 2) := by decide +kernel
theorem d_law_100 : decode code 100 = .ok (.iand, 1) := by decide +kernel
theorem d_law_101 : decode code 101 = .ok (.istore 19, 2) := by decide +kernel
theorem d_law_103 : decode code 103 = .ok (.iload 14, 2) := by decide +kernel
theorem d_law_105 : decode code 105 = .ok (.bipush 16, 2) := by decide +kernel
theorem d_law_107 : decode code 107 = .ok (.iushr, 1) := by decide +kernel
theorem d_law_108 : decode code 108 = .ok (.iconst 3, 1) := by decide +kernel
theorem d_law_109 : decode code 109 = .ok (.iand, 1) := by decide +kernel
theorem d_law_110 : decode code 110 = .ok (.istore 20, 2) := by decide +kernel
theorem d_law_112 : decode code 112 = .ok (.iconst 0, 1) := by decide +kernel
theorem d_law_113 : decode code 113 = .ok (.istore 21, 2) := by decide +kernel
theorem d_law_115 : decode code 115 = .ok (.lconst 0, 1) := by decide +kernel
theorem d_law_116 : decode code 116 = .ok (.lstore 22, 2) := by decide +kernel
theorem d_law_118 : decode code 118 = .ok (.iload 15, 2) := by decide +kernel
theorem d_law_120 : decode code 120 = .ok (.iconst 1, 1) := by decide +kernel
theorem d_law_121 : decode code 121 = .ok (.if_icmp .gt 31, 3) := by decide +kernel
theorem d_law_152 : decode code 152 = .ok (.iload 15, 2) := by decide +kernel
theorem d_law_154 : decode code 154 = .ok (.iconst 2, 1) := by decide +kernel
theorem d_law_221 : decode code 221 = .ok (.iload 15, 2) := by decide +kernel
theorem d_law_223 : decode code 223 = .ok (.iconst 3, 1) := by decide +kernel
theorem d_law_255 : decode code 255 = .ok (.iload 15, 2) := by decide +kernel
theorem d_law_257 : decode code 257 = .ok (.iconst 4, 1) := by decide +kernel
theorem d_law_294 : decode code 294 = .ok (.iload 15, 2) := by decide +kernel
theorem d_law_296 : decode code 296 = .ok (.bipush 7, 2) := by decide +kernel
theorem d_law_490 : decode code 490 = .ok (.iload 15, 2) := by decide +kernel
theorem d_law_492 : decode code 492 = .ok (.bipush 8, 2) := by decide +kernel
theorem d_law_584 : decode code 584 = .ok (.aload_n 1, 1) := by decide +kernel
theorem d_law_585 : decode code 585 = .ok (.iload 20, 2) := by decide +kernel
theorem d_law_155 : decode code 155 = .ok (.if_icmp .ne 66, 3) := by decide +kernel
theorem d_law_224 : decode code 224 = .ok (.if_icmp .ne 31, 3) := by decide +kernel
theorem d_law_258 : decode code 258 = .ok (.if_icmp .ne 36, 3) := by decide +kernel
theorem d_law_298 : decode code 298 = .ok (.if_icmp .gt 192, 3) := by decide +kernel
theorem d_law_494 : decode code 494 = .ok (.if_icmp .ne 90, 3) := by decide +kernel
theorem d_law_587 : decode code 587 = .ok (.invokevirtual 83, 3) := by decide +kernel
theorem ml_w83 : methodLk "HtreeDirOwnLaw" 83 tables_1 = some (⟨"HtreeDir", "closeDir", "(I)Z"⟩ : MethodName) := by decide +kernel
theorem cl_closeDir : codeLk (⟨"HtreeDir", "closeDir", "(I)Z"⟩ : MethodName) tables_1 = some (prog_1_method_16_code, 2, (some .boolean)) := codeLk_at (i := 122) rfl (by decide +kernel)
theorem pd_closeDir : parseMethodDescriptor "(I)Z" = some ⟨[.int], some .boolean⟩ := by decide +kernel
theorem cc_closeDir_0 : hasInit (⟨"HtreeDir", "closeDir", "(I)Z"⟩ : MethodName).cls tables_1 = true ∧ plainName (⟨"HtreeDir", "closeDir", "(I)Z"⟩ : MethodName).cls = true ∧ (⟨"HtreeDir", "closeDir", "(I)Z"⟩ : MethodName).cls ≠ "java/lang/invoke/MethodHandle" ∧ (⟨"HtreeDir", "closeDir", "(I)Z"⟩ : MethodName).cls ≠ "java/lang/invoke/VarHandle" ∧ (((0 : Nat) = 0 ∧ hasDecl (⟨"HtreeDir", "closeDir", "(I)Z"⟩ : MethodName) tables_1 = true ∧ hasSel (⟨"HtreeDir", "closeDir", "(I)Z"⟩ : MethodName) tables_1 = true ∧ hasInst (⟨"HtreeDir", "closeDir", "(I)Z"⟩ : MethodName) tables_1 = true) ∨ ((0 : Nat) = 1 ∧ hasPriv (⟨"HtreeDir", "closeDir", "(I)Z"⟩ : MethodName) tables_1 = true ∧ hasInst (⟨"HtreeDir", "closeDir", "(I)Z"⟩ : MethodName) tables_1 = true ∧ (instLk (⟨"HtreeDir", "closeDir", "(I)Z"⟩ : MethodName).cls tables_1).isSome = true) ∨ ((0 : Nat) = 2 ∧ (⟨"HtreeDir", "closeDir", "(I)Z"⟩ : MethodName).name = "<init>" ∧ hasInst (⟨"HtreeDir", "closeDir", "(I)Z"⟩ : MethodName) tables_1 = true ∧ ((some .boolean) : Option FieldType) = none) ∨ ((0 : Nat) = 3 ∧ hasStat (⟨"HtreeDir", "closeDir", "(I)Z"⟩ : MethodName) tables_1 = true)) := by decide +kernel
theorem ca_w83_0 : callAt tables_1 "HtreeDirOwnLaw" 83 0 = some ((⟨"HtreeDir", "closeDir", "(I)Z"⟩ : MethodName), 1, prog_1_method_16_code, 2, (some .boolean)) := callAt_of ml_w83 cl_closeDir pd_closeDir cc_closeDir_0 rfl
theorem np_closeDir : hasPriv (⟨"HtreeDir", "closeDir", "(I)Z"⟩ : MethodName) tables_1 = false := by decide +kernel
theorem ca_w83_0n : callAt tables_1 "HtreeDirOwnLaw" 83 1 = none := callAt_pub ml_w83 np_closeDir
theorem d_law_497 : decode code 497 = .ok (.iload 14, 2) := by decide +kernel
theorem d_law_499 : decode code 499 = .ok (.bipush 18, 2) := by decide +kernel
theorem d_law_501 : decode code 501 = .ok (.iushr, 1) := by decide +kernel
theorem d_law_502 : decode code 502 = .ok (.iconst 3, 1) := by decide +kernel
theorem d_law_503 : decode code 503 = .ok (.iand, 1) := by decide +kernel
theorem d_law_504 : decode code 504 = .ok (.istore 24, 2) := by decide +kernel
theorem d_law_506 : decode code 506 = .ok (.iload 24, 2) := by decide +kernel
theorem d_law_508 : decode code 508 = .ok (.ifCond .ne 7, 3) := by decide +kernel
theorem d_law_515 : decode code 515 = .ok (.iload 24, 2) := by decide +kernel
theorem d_law_517 : decode code 517 = .ok (.iconst 1, 1) := by decide +kernel
theorem d_law_530 : decode code 530 = .ok (.iload 24, 2) := by decide +kernel
theorem d_law_532 : decode code 532 = .ok (.iconst 2, 1) := by decide +kernel
theorem d_law_541 : decode code 541 = .ok (.aload_n 1, 1) := by decide +kernel
theorem d_law_542 : decode code 542 = .ok (.iload 17, 2) := by decide +kernel
theorem d_law_518 : decode code 518 = .ok (.if_icmp .ne 12, 3) := by decide +kernel
theorem d_law_533 : decode code 533 = .ok (.if_icmp .ne 8, 3) := by decide +kernel
theorem d_law_544 : decode code 544 = .ok (.invokevirtual 71, 3) := by decide +kernel
theorem ml_w71 : methodLk "HtreeDirOwnLaw" 71 tables_1 = some (⟨"HtreeDir", "hashOf", "(I)I"⟩ : MethodName) := by decide +kernel
theorem cl_hashOf : codeLk (⟨"HtreeDir", "hashOf", "(I)I"⟩ : MethodName) tables_1 = some (prog_1_method_4_code, 2, (some .int)) := codeLk_at (i := 155) rfl (by decide +kernel)
theorem pd_hashOf : parseMethodDescriptor "(I)I" = some ⟨[.int], some .int⟩ := by decide +kernel
theorem cc_hashOf_0 : hasInit (⟨"HtreeDir", "hashOf", "(I)I"⟩ : MethodName).cls tables_1 = true ∧ plainName (⟨"HtreeDir", "hashOf", "(I)I"⟩ : MethodName).cls = true ∧ (⟨"HtreeDir", "hashOf", "(I)I"⟩ : MethodName).cls ≠ "java/lang/invoke/MethodHandle" ∧ (⟨"HtreeDir", "hashOf", "(I)I"⟩ : MethodName).cls ≠ "java/lang/invoke/VarHandle" ∧ (((0 : Nat) = 0 ∧ hasDecl (⟨"HtreeDir", "hashOf", "(I)I"⟩ : MethodName) tables_1 = true ∧ hasSel (⟨"HtreeDir", "hashOf", "(I)I"⟩ : MethodName) tables_1 = true ∧ hasInst (⟨"HtreeDir", "hashOf", "(I)I"⟩ : MethodName) tables_1 = true) ∨ ((0 : Nat) = 1 ∧ hasPriv (⟨"HtreeDir", "hashOf", "(I)I"⟩ : MethodName) tables_1 = true ∧ hasInst (⟨"HtreeDir", "hashOf", "(I)I"⟩ : MethodName) tables_1 = true ∧ (instLk (⟨"HtreeDir", "hashOf", "(I)I"⟩ : MethodName).cls tables_1).isSome = true) ∨ ((0 : Nat) = 2 ∧ (⟨"HtreeDir", "hashOf", "(I)I"⟩ : MethodName).name = "<init>" ∧ hasInst (⟨"HtreeDir", "hashOf", "(I)I"⟩ : MethodName) tables_1 = true ∧ ((some .int) : Option FieldType) = none) ∨ ((0 : Nat) = 3 ∧ hasStat (⟨"HtreeDir", "hashOf", "(I)I"⟩ : MethodName) tables_1 = true)) := by decide +kernel
theorem ca_w71_0 : callAt tables_1 "HtreeDirOwnLaw" 71 0 = some ((⟨"HtreeDir", "hashOf", "(I)I"⟩ : MethodName), 1, prog_1_method_4_code, 2, (some .int)) := callAt_of ml_w71 cl_hashOf pd_hashOf cc_hashOf_0 rfl
theorem np_hashOf : hasPriv (⟨"HtreeDir", "hashOf", "(I)I"⟩ : MethodName) tables_1 = false := by decide +kernel
theorem ca_w71_0n : callAt tables_1 "HtreeDirOwnLaw" 71 1 = none := callAt_pub ml_w71 np_hashOf
theorem d_law_536 : decode code 536 = .ok (.ldc 78, 2) := by decide +kernel
theorem ik_w78 : intLk "HtreeDirOwnLaw" 78 tables_1 = some (65536 : Int32) := by decide +kernel
theorem d_law_538 : decode code 538 = .ok (.goto 11, 3) := by decide +kernel
theorem d_law_521 : decode code 521 = .ok (.aload_n 1, 1) := by decide +kernel
theorem d_law_522 : decode code 522 = .ok (.iload 17, 2) := by decide +kernel
theorem d_law_524 : decode code 524 = .ok (.invokevirtual 71, 3) := by decide +kernel
theorem d_law_511 : decode code 511 = .ok (.iconst (-1), 1) := by decide +kernel
theorem d_law_512 : decode code 512 = .ok (.goto 37, 3) := by decide +kernel
theorem d_law_301 : decode code 301 = .ok (.lload 5, 2) := by decide +kernel
theorem d_law_303 : decode code 303 = .ok (.lload 7, 2) := by decide +kernel
theorem d_law_305 : decode code 305 = .ok (.lload 9, 2) := by decide +kernel
theorem d_law_307 : decode code 307 = .ok (.lload 11, 2) := by decide +kernel
theorem d_law_309 : decode code 309 = .ok (.iload 20, 2) := by decide +kernel
theorem d_law_311 : decode code 311 = .ok (.invokestatic 57, 3) := by decide +kernel
theorem ml_w57 : methodLk "HtreeDirOwnLaw" 57 tables_1 = some (⟨"HtreeDirOwnLaw", "pick", "(JJJJI)J"⟩ : MethodName) := by decide +kernel
theorem cl_law_pick : codeLk (⟨"HtreeDirOwnLaw", "pick", "(JJJJI)J"⟩ : MethodName) tables_1 = some (method_5_code, 9, (some .long)) := codeLk_at (i := 85) rfl (by decide +kernel)
theorem pd_law_pick : parseMethodDescriptor "(JJJJI)J" = some ⟨[.long, .long, .long, .long, .int], some .long⟩ := by decide +kernel
theorem cc_law_pick_3 : hasInit (⟨"HtreeDirOwnLaw", "pick", "(JJJJI)J"⟩ : MethodName).cls tables_1 = true ∧ plainName (⟨"HtreeDirOwnLaw", "pick", "(JJJJI)J"⟩ : MethodName).cls = true ∧ (⟨"HtreeDirOwnLaw", "pick", "(JJJJI)J"⟩ : MethodName).cls ≠ "java/lang/invoke/MethodHandle" ∧ (⟨"HtreeDirOwnLaw", "pick", "(JJJJI)J"⟩ : MethodName).cls ≠ "java/lang/invoke/VarHandle" ∧ (((3 : Nat) = 0 ∧ hasDecl (⟨"HtreeDirOwnLaw", "pick", "(JJJJI)J"⟩ : MethodName) tables_1 = true ∧ hasSel (⟨"HtreeDirOwnLaw", "pick", "(JJJJI)J"⟩ : MethodName) tables_1 = true ∧ hasInst (⟨"HtreeDirOwnLaw", "pick", "(JJJJI)J"⟩ : MethodName) tables_1 = true) ∨ ((3 : Nat) = 1 ∧ hasPriv (⟨"HtreeDirOwnLaw", "pick", "(JJJJI)J"⟩ : MethodName) tables_1 = true ∧ hasInst (⟨"HtreeDirOwnLaw", "pick", "(JJJJI)J"⟩ : MethodName) tables_1 = true ∧ (instLk (⟨"HtreeDirOwnLaw", "pick", "(JJJJI)J"⟩ : MethodName).cls tables_1).isSome = true) ∨ ((3 : Nat) = 2 ∧ (⟨"HtreeDirOwnLaw", "pick", "(JJJJI)J"⟩ : MethodName).name = "<init>" ∧ hasInst (⟨"HtreeDirOwnLaw", "pick", "(JJJJI)J"⟩ : MethodName) tables_1 = true ∧ ((some .long) : Option FieldType) = none) ∨ ((3 : Nat) = 3 ∧ hasStat (⟨"HtreeDirOwnLaw", "pick", "(JJJJI)J"⟩ : MethodName) tables_1 = true)) := by decide +kernel
theorem ca_w57_3 : callAt tables_1 "HtreeDirOwnLaw" 57 3 = some ((⟨"HtreeDirOwnLaw", "pick", "(JJJJI)J"⟩ : MethodName), 5, method_5_code, 9, (some .long)) := callAt_of ml_w57 cl_law_pick pd_law_pick cc_law_pick_3 rfl
theorem d_law_314 : decode code 314 = .ok (.lstore 22, 2) := by decide +kernel
theorem d_law_316 : decode code 316 = .ok (.aload_n 1, 1) := by decide +kernel
theorem d_law_317 : decode code 317 = .ok (.iload 20, 2) := by decide +kernel
theorem d_law_319 : decode code 319 = .ok (.invokevirtual 61, 3) := by decide +kernel
theorem ml_w61 : methodLk "HtreeDirOwnLaw" 61 tables_1 = some (⟨"HtreeDir", "readNext", "(I)I"⟩ : MethodName) := by decide +kernel
theorem cl_readNext : codeLk (⟨"HtreeDir", "readNext", "(I)I"⟩ : MethodName) tables_1 = some (prog_1_method_13_code, 5, (some .int)) := codeLk_at (i := 90) rfl (by decide +kernel)
theorem pd_readNext : parseMethodDescriptor "(I)I" = some ⟨[.int], some .int⟩ := by decide +kernel
theorem cc_readNext_0 : hasInit (⟨"HtreeDir", "readNext", "(I)I"⟩ : MethodName).cls tables_1 = true ∧ plainName (⟨"HtreeDir", "readNext", "(I)I"⟩ : MethodName).cls = true ∧ (⟨"HtreeDir", "readNext", "(I)I"⟩ : MethodName).cls ≠ "java/lang/invoke/MethodHandle" ∧ (⟨"HtreeDir", "readNext", "(I)I"⟩ : MethodName).cls ≠ "java/lang/invoke/VarHandle" ∧ (((0 : Nat) = 0 ∧ hasDecl (⟨"HtreeDir", "readNext", "(I)I"⟩ : MethodName) tables_1 = true ∧ hasSel (⟨"HtreeDir", "readNext", "(I)I"⟩ : MethodName) tables_1 = true ∧ hasInst (⟨"HtreeDir", "readNext", "(I)I"⟩ : MethodName) tables_1 = true) ∨ ((0 : Nat) = 1 ∧ hasPriv (⟨"HtreeDir", "readNext", "(I)I"⟩ : MethodName) tables_1 = true ∧ hasInst (⟨"HtreeDir", "readNext", "(I)I"⟩ : MethodName) tables_1 = true ∧ (instLk (⟨"HtreeDir", "readNext", "(I)I"⟩ : MethodName).cls tables_1).isSome = true) ∨ ((0 : Nat) = 2 ∧ (⟨"HtreeDir", "readNext", "(I)I"⟩ : MethodName).name = "<init>" ∧ hasInst (⟨"HtreeDir", "readNext", "(I)I"⟩ : MethodName) tables_1 = true ∧ ((some .int) : Option FieldType) = none) ∨ ((0 : Nat) = 3 ∧ hasStat (⟨"HtreeDir", "readNext", "(I)I"⟩ : MethodName) tables_1 = true)) := by decide +kernel
theorem ca_w61_0 : callAt tables_1 "HtreeDirOwnLaw" 61 0 = some ((⟨"HtreeDir", "readNext", "(I)I"⟩ : MethodName), 1, prog_1_method_13_code, 5, (some .int)) := callAt_of ml_w61 cl_readNext pd_readNext cc_readNext_0 rfl
theorem np_readNext : hasPriv (⟨"HtreeDir", "readNext", "(I)I"⟩ : MethodName) tables_1 = false := by decide +kernel
theorem ca_w61_0n : callAt tables_1 "HtreeDirOwnLaw" 61 1 = none := callAt_pub ml_w61 np_readNext
theorem d_law_261 : decode code 261 = .ok (.aload_n 1, 1) := by decide +kernel
theorem d_law_262 : decode code 262 = .ok (.invokevirtual 49, 3) := by decide +kernel
theorem ml_w49 : methodLk "HtreeDirOwnLaw" 49 tables_1 = some (⟨"HtreeDir", "openDir", "()I"⟩ : MethodName) := by decide +kernel
theorem cl_openDir : codeLk (⟨"HtreeDir", "openDir", "()I"⟩ : MethodName) tables_1 = some (prog_1_method_12_code, 2, (some .int)) := codeLk_at (i := 107) rfl (by decide +kernel)
theorem pd_openDir : parseMethodDescriptor "()I" = some ⟨[], some .int⟩ := by decide +kernel
theorem cc_openDir_0 : hasInit (⟨"HtreeDir", "openDir", "()I"⟩ : MethodName).cls tables_1 = true ∧ plainName (⟨"HtreeDir", "openDir", "()I"⟩ : MethodName).cls = true ∧ (⟨"HtreeDir", "openDir", "()I"⟩ : MethodName).cls ≠ "java/lang/invoke/MethodHandle" ∧ (⟨"HtreeDir", "openDir", "()I"⟩ : MethodName).cls ≠ "java/lang/invoke/VarHandle" ∧ (((0 : Nat) = 0 ∧ hasDecl (⟨"HtreeDir", "openDir", "()I"⟩ : MethodName) tables_1 = true ∧ hasSel (⟨"HtreeDir", "openDir", "()I"⟩ : MethodName) tables_1 = true ∧ hasInst (⟨"HtreeDir", "openDir", "()I"⟩ : MethodName) tables_1 = true) ∨ ((0 : Nat) = 1 ∧ hasPriv (⟨"HtreeDir", "openDir", "()I"⟩ : MethodName) tables_1 = true ∧ hasInst (⟨"HtreeDir", "openDir", "()I"⟩ : MethodName) tables_1 = true ∧ (instLk (⟨"HtreeDir", "openDir", "()I"⟩ : MethodName).cls tables_1).isSome = true) ∨ ((0 : Nat) = 2 ∧ (⟨"HtreeDir", "openDir", "()I"⟩ : MethodName).name = "<init>" ∧ hasInst (⟨"HtreeDir", "openDir", "()I"⟩ : MethodName) tables_1 = true ∧ ((some .int) : Option FieldType) = none) ∨ ((0 : Nat) = 3 ∧ hasStat (⟨"HtreeDir", "openDir", "()I"⟩ : MethodName) tables_1 = true)) := by decide +kernel
theorem ca_w49_0 : callAt tables_1 "HtreeDirOwnLaw" 49 0 = some ((⟨"HtreeDir", "openDir", "()I"⟩ : MethodName), 0, prog_1_method_12_code, 2, (some .int)) := callAt_of ml_w49 cl_openDir pd_openDir cc_openDir_0 rfl
theorem np_openDir : hasPriv (⟨"HtreeDir", "openDir", "()I"⟩ : MethodName) tables_1 = false := by decide +kernel
theorem ca_w49_0n : callAt tables_1 "HtreeDirOwnLaw" 49 1 = none := callAt_pub ml_w49 np_openDir
theorem d_law_227 : decode code 227 = .ok (.aload_n 1, 1) := by decide +kernel
theorem d_law_228 : decode code 228 = .ok (.iload 17, 2) := by decide +kernel
theorem d_law_230 : decode code 230 = .ok (.iload 19, 2) := by decide +kernel
theorem d_law_232 : decode code 232 = .ok (.invokevirtual 46, 3) := by decide +kernel
theorem ml_w46 : methodLk "HtreeDirOwnLaw" 46 tables_1 = some (⟨"HtreeDir", "setInode", "(II)I"⟩ : MethodName) := by decide +kernel
theorem cl_setInode : codeLk (⟨"HtreeDir", "setInode", "(II)I"⟩ : MethodName) tables_1 = some (prog_1_method_7_code, 5, (some .int)) := codeLk_at (i := 77) rfl (by decide +kernel)
theorem pd_setInode : parseMethodDescriptor "(II)I" = some ⟨[.int, .int], some .int⟩ := by decide +kernel
theorem cc_setInode_0 : hasInit (⟨"HtreeDir", "setInode", "(II)I"⟩ : MethodName).cls tables_1 = true ∧ plainName (⟨"HtreeDir", "setInode", "(II)I"⟩ : MethodName).cls = true ∧ (⟨"HtreeDir", "setInode", "(II)I"⟩ : MethodName).cls ≠ "java/lang/invoke/MethodHandle" ∧ (⟨"HtreeDir", "setInode", "(II)I"⟩ : MethodName).cls ≠ "java/lang/invoke/VarHandle" ∧ (((0 : Nat) = 0 ∧ hasDecl (⟨"HtreeDir", "setInode", "(II)I"⟩ : MethodName) tables_1 = true ∧ hasSel (⟨"HtreeDir", "setInode", "(II)I"⟩ : MethodName) tables_1 = true ∧ hasInst (⟨"HtreeDir", "setInode", "(II)I"⟩ : MethodName) tables_1 = true) ∨ ((0 : Nat) = 1 ∧ hasPriv (⟨"HtreeDir", "setInode", "(II)I"⟩ : MethodName) tables_1 = true ∧ hasInst (⟨"HtreeDir", "setInode", "(II)I"⟩ : MethodName) tables_1 = true ∧ (instLk (⟨"HtreeDir", "setInode", "(II)I"⟩ : MethodName).cls tables_1).isSome = true) ∨ ((0 : Nat) = 2 ∧ (⟨"HtreeDir", "setInode", "(II)I"⟩ : MethodName).name = "<init>" ∧ hasInst (⟨"HtreeDir", "setInode", "(II)I"⟩ : MethodName) tables_1 = true ∧ ((some .int) : Option FieldType) = none) ∨ ((0 : Nat) = 3 ∧ hasStat (⟨"HtreeDir", "setInode", "(II)I"⟩ : MethodName) tables_1 = true)) := by decide +kernel
theorem ca_w46_0 : callAt tables_1 "HtreeDirOwnLaw" 46 0 = some ((⟨"HtreeDir", "setInode", "(II)I"⟩ : MethodName), 2, prog_1_method_7_code, 5, (some .int)) := callAt_of ml_w46 cl_setInode pd_setInode cc_setInode_0 rfl
theorem np_setInode : hasPriv (⟨"HtreeDir", "setInode", "(II)I"⟩ : MethodName) tables_1 = false := by decide +kernel
theorem ca_w46_0n : callAt tables_1 "HtreeDirOwnLaw" 46 1 = none := callAt_pub ml_w46 np_setInode
theorem d_law_158 : decode code 158 = .ok (.aload_n 1, 1) := by decide +kernel
theorem d_law_159 : decode code 159 = .ok (.iload 17, 2) := by decide +kernel
theorem d_law_161 : decode code 161 = .ok (.invokevirtual 39, 3) := by decide +kernel
theorem ml_w39 : methodLk "HtreeDirOwnLaw" 39 tables_1 = some (⟨"HtreeDir", "remove", "(I)I"⟩ : MethodName) := by decide +kernel
theorem cl_remove : codeLk (⟨"HtreeDir", "remove", "(I)I"⟩ : MethodName) tables_1 = some (prog_1_method_6_code, 5, (some .int)) := codeLk_at (i := 82) rfl (by decide +kernel)
theorem pd_remove : parseMethodDescriptor "(I)I" = some ⟨[.int], some .int⟩ := by decide +kernel
theorem cc_remove_0 : hasInit (⟨"HtreeDir", "remove", "(I)I"⟩ : MethodName).cls tables_1 = true ∧ plainName (⟨"HtreeDir", "remove", "(I)I"⟩ : MethodName).cls = true ∧ (⟨"HtreeDir", "remove", "(I)I"⟩ : MethodName).cls ≠ "java/lang/invoke/MethodHandle" ∧ (⟨"HtreeDir", "remove", "(I)I"⟩ : MethodName).cls ≠ "java/lang/invoke/VarHandle" ∧ (((0 : Nat) = 0 ∧ hasDecl (⟨"HtreeDir", "remove", "(I)I"⟩ : MethodName) tables_1 = true ∧ hasSel (⟨"HtreeDir", "remove", "(I)I"⟩ : MethodName) tables_1 = true ∧ hasInst (⟨"HtreeDir", "remove", "(I)I"⟩ : MethodName) tables_1 = true) ∨ ((0 : Nat) = 1 ∧ hasPriv (⟨"HtreeDir", "remove", "(I)I"⟩ : MethodName) tables_1 = true ∧ hasInst (⟨"HtreeDir", "remove", "(I)I"⟩ : MethodName) tables_1 = true ∧ (instLk (⟨"HtreeDir", "remove", "(I)I"⟩ : MethodName).cls tables_1).isSome = true) ∨ ((0 : Nat) = 2 ∧ (⟨"HtreeDir", "remove", "(I)I"⟩ : MethodName).name = "<init>" ∧ hasInst (⟨"HtreeDir", "remove", "(I)I"⟩ : MethodName) tables_1 = true ∧ ((some .int) : Option FieldType) = none) ∨ ((0 : Nat) = 3 ∧ hasStat (⟨"HtreeDir", "remove", "(I)I"⟩ : MethodName) tables_1 = true)) := by decide +kernel
theorem ca_w39_0 : callAt tables_1 "HtreeDirOwnLaw" 39 0 = some ((⟨"HtreeDir", "remove", "(I)I"⟩ : MethodName), 1, prog_1_method_6_code, 5, (some .int)) := callAt_of ml_w39 cl_remove pd_remove cc_remove_0 rfl
theorem np_remove : hasPriv (⟨"HtreeDir", "remove", "(I)I"⟩ : MethodName) tables_1 = false := by decide +kernel
theorem ca_w39_0n : callAt tables_1 "HtreeDirOwnLaw" 39 1 = none := callAt_pub ml_w39 np_remove
theorem d_law_124 : decode code 124 = .ok (.aload_n 1, 1) := by decide +kernel
theorem d_law_125 : decode code 125 = .ok (.iload 17, 2) := by decide +kernel
theorem d_law_127 : decode code 127 = .ok (.iload 19, 2) := by decide +kernel
theorem d_law_129 : decode code 129 = .ok (.invokevirtual 31, 3) := by decide +kernel
theorem ml_w31 : methodLk "HtreeDirOwnLaw" 31 tables_1 = some (⟨"HtreeDir", "insert", "(II)I"⟩ : MethodName) := by decide +kernel
theorem cl_insert : codeLk (⟨"HtreeDir", "insert", "(II)I"⟩ : MethodName) tables_1 = some (prog_1_method_5_code, 6, (some .int)) := codeLk_at (i := 50) rfl (by decide +kernel)
theorem pd_insert : parseMethodDescriptor "(II)I" = some ⟨[.int, .int], some .int⟩ := by decide +kernel
theorem cc_insert_0 : hasInit (⟨"HtreeDir", "insert", "(II)I"⟩ : MethodName).cls tables_1 = true ∧ plainName (⟨"HtreeDir", "insert", "(II)I"⟩ : MethodName).cls = true ∧ (⟨"HtreeDir", "insert", "(II)I"⟩ : MethodName).cls ≠ "java/lang/invoke/MethodHandle" ∧ (⟨"HtreeDir", "insert", "(II)I"⟩ : MethodName).cls ≠ "java/lang/invoke/VarHandle" ∧ (((0 : Nat) = 0 ∧ hasDecl (⟨"HtreeDir", "insert", "(II)I"⟩ : MethodName) tables_1 = true ∧ hasSel (⟨"HtreeDir", "insert", "(II)I"⟩ : MethodName) tables_1 = true ∧ hasInst (⟨"HtreeDir", "insert", "(II)I"⟩ : MethodName) tables_1 = true) ∨ ((0 : Nat) = 1 ∧ hasPriv (⟨"HtreeDir", "insert", "(II)I"⟩ : MethodName) tables_1 = true ∧ hasInst (⟨"HtreeDir", "insert", "(II)I"⟩ : MethodName) tables_1 = true ∧ (instLk (⟨"HtreeDir", "insert", "(II)I"⟩ : MethodName).cls tables_1).isSome = true) ∨ ((0 : Nat) = 2 ∧ (⟨"HtreeDir", "insert", "(II)I"⟩ : MethodName).name = "<init>" ∧ hasInst (⟨"HtreeDir", "insert", "(II)I"⟩ : MethodName) tables_1 = true ∧ ((some .int) : Option FieldType) = none) ∨ ((0 : Nat) = 3 ∧ hasStat (⟨"HtreeDir", "insert", "(II)I"⟩ : MethodName) tables_1 = true)) := by decide +kernel
theorem ca_w31_0 : callAt tables_1 "HtreeDirOwnLaw" 31 0 = some ((⟨"HtreeDir", "insert", "(II)I"⟩ : MethodName), 2, prog_1_method_5_code, 6, (some .int)) := callAt_of ml_w31 cl_insert pd_insert cc_insert_0 rfl
theorem np_insert : hasPriv (⟨"HtreeDir", "insert", "(II)I"⟩ : MethodName) tables_1 = false := by decide +kernel
theorem ca_w31_0n : callAt tables_1 "HtreeDirOwnLaw" 31 1 = none := callAt_pub ml_w31 np_insert
theorem d_law_132 : decode code 132 = .ok (.ifCond .ne 467, 3) := by decide +kernel
theorem d_law_135 : decode code 135 = .ok (.iload_n 2, 1) := by decide +kernel
theorem d_law_136 : decode code 136 = .ok (.iload 18, 2) := by decide +kernel
theorem d_law_138 : decode code 138 = .ok (.ior, 1) := by decide +kernel
theorem d_law_139 : decode code 139 = .ok (.istore_n 2, 1) := by decide +kernel
theorem d_law_140 : decode code 140 = .ok (.lload_n 3, 1) := by decide +kernel
theorem d_law_141 : decode code 141 = .ok (.iload 16, 2) := by decide +kernel
theorem d_law_143 : decode code 143 = .ok (.iload 19, 2) := by decide +kernel
theorem d_law_145 : decode code 145 = .ok (.invokestatic 35, 3) := by decide +kernel
theorem ml_w35 : methodLk "HtreeDirOwnLaw" 35 tables_1 = some (⟨"HtreeDirOwnLaw", "setNib", "(JII)J"⟩ : MethodName) := by decide +kernel
theorem cl_law_setNib : codeLk (⟨"HtreeDirOwnLaw", "setNib", "(JII)J"⟩ : MethodName) tables_1 = some (method_10_code, 4, (some .long)) := codeLk_at (i := 145) rfl (by decide +kernel)
theorem pd_law_setNib : parseMethodDescriptor "(JII)J" = some ⟨[.long, .int, .int], some .long⟩ := by decide +kernel
theorem cc_law_setNib_3 : hasInit (⟨"HtreeDirOwnLaw", "setNib", "(JII)J"⟩ : MethodName).cls tables_1 = true ∧ plainName (⟨"HtreeDirOwnLaw", "setNib", "(JII)J"⟩ : MethodName).cls = true ∧ (⟨"HtreeDirOwnLaw", "setNib", "(JII)J"⟩ : MethodName).cls ≠ "java/lang/invoke/MethodHandle" ∧ (⟨"HtreeDirOwnLaw", "setNib", "(JII)J"⟩ : MethodName).cls ≠ "java/lang/invoke/VarHandle" ∧ (((3 : Nat) = 0 ∧ hasDecl (⟨"HtreeDirOwnLaw", "setNib", "(JII)J"⟩ : MethodName) tables_1 = true ∧ hasSel (⟨"HtreeDirOwnLaw", "setNib", "(JII)J"⟩ : MethodName) tables_1 = true ∧ hasInst (⟨"HtreeDirOwnLaw", "setNib", "(JII)J"⟩ : MethodName) tables_1 = true) ∨ ((3 : Nat) = 1 ∧ hasPriv (⟨"HtreeDirOwnLaw", "setNib", "(JII)J"⟩ : MethodName) tables_1 = true ∧ hasInst (⟨"HtreeDirOwnLaw", "setNib", "(JII)J"⟩ : MethodName) tables_1 = true ∧ (instLk (⟨"HtreeDirOwnLaw", "setNib", "(JII)J"⟩ : MethodName).cls tables_1).isSome = true) ∨ ((3 : Nat) = 2 ∧ (⟨"HtreeDirOwnLaw", "setNib", "(JII)J"⟩ : MethodName).name = "<init>" ∧ hasInst (⟨"HtreeDirOwnLaw", "setNib", "(JII)J"⟩ : MethodName) tables_1 = true ∧ ((some .long) : Option FieldType) = none) ∨ ((3 : Nat) = 3 ∧ hasStat (⟨"HtreeDirOwnLaw", "setNib", "(JII)J"⟩ : MethodName) tables_1 = true)) := by decide +kernel
theorem ca_w35_3 : callAt tables_1 "HtreeDirOwnLaw" 35 3 = some ((⟨"HtreeDirOwnLaw", "setNib", "(JII)J"⟩ : MethodName), 3, method_10_code, 4, (some .long)) := callAt_of ml_w35 cl_law_setNib pd_law_setNib cc_law_setNib_3 rfl
theorem d_law_148 : decode code 148 = .ok (.lstore_n 3, 1) := by decide +kernel
theorem d_law_149 : decode code 149 = .ok (.goto 450, 3) := by decide +kernel
theorem d_law_164 : decode code 164 = .ok (.ifCond .ne 435, 3) := by decide +kernel
theorem d_law_167 : decode code 167 = .ok (.iload_n 2, 1) := by decide +kernel
theorem d_law_168 : decode code 168 = .ok (.iload 18, 2) := by decide +kernel
theorem d_law_170 : decode code 170 = .ok (.iconst (-1), 1) := by decide +kernel
theorem d_law_171 : decode code 171 = .ok (.ixor, 1) := by decide +kernel
theorem d_law_172 : decode code 172 = .ok (.iand, 1) := by decide +kernel
theorem d_law_173 : decode code 173 = .ok (.istore_n 2, 1) := by decide +kernel
theorem d_law_174 : decode code 174 = .ok (.lload_n 3, 1) := by decide +kernel
theorem d_law_175 : decode code 175 = .ok (.iload 16, 2) := by decide +kernel
theorem d_law_177 : decode code 177 = .ok (.iconst 0, 1) := by decide +kernel
theorem d_law_178 : decode code 178 = .ok (.invokestatic 35, 3) := by decide +kernel
theorem d_law_181 : decode code 181 = .ok (.lstore_n 3, 1) := by decide +kernel
theorem d_law_182 : decode code 182 = .ok (.lload 5, 2) := by decide +kernel
theorem d_law_184 : decode code 184 = .ok (.iload 18, 2) := by decide +kernel
theorem d_law_186 : decode code 186 = .ok (.invokestatic 42, 3) := by decide +kernel
theorem ml_w42 : methodLk "HtreeDirOwnLaw" 42 tables_1 = some (⟨"HtreeDirOwnLaw", "dropReq", "(JI)J"⟩ : MethodName) := by decide +kernel
theorem cl_law_dropReq : codeLk (⟨"HtreeDirOwnLaw", "dropReq", "(JI)J"⟩ : MethodName) tables_1 = some (method_8_code, 3, (some .long)) := codeLk_at (i := 176) rfl (by decide +kernel)
theorem pd_law_dropReq : parseMethodDescriptor "(JI)J" = some ⟨[.long, .int], some .long⟩ := by decide +kernel
theorem cc_law_dropReq_3 : hasInit (⟨"HtreeDirOwnLaw", "dropReq", "(JI)J"⟩ : MethodName).cls tables_1 = true ∧ plainName (⟨"HtreeDirOwnLaw", "dropReq", "(JI)J"⟩ : MethodName).cls = true ∧ (⟨"HtreeDirOwnLaw", "dropReq", "(JI)J"⟩ : MethodName).cls ≠ "java/lang/invoke/MethodHandle" ∧ (⟨"HtreeDirOwnLaw", "dropReq", "(JI)J"⟩ : MethodName).cls ≠ "java/lang/invoke/VarHandle" ∧ (((3 : Nat) = 0 ∧ hasDecl (⟨"HtreeDirOwnLaw", "dropReq", "(JI)J"⟩ : MethodName) tables_1 = true ∧ hasSel (⟨"HtreeDirOwnLaw", "dropReq", "(JI)J"⟩ : MethodName) tables_1 = true ∧ hasInst (⟨"HtreeDirOwnLaw", "dropReq", "(JI)J"⟩ : MethodName) tables_1 = true) ∨ ((3 : Nat) = 1 ∧ hasPriv (⟨"HtreeDirOwnLaw", "dropReq", "(JI)J"⟩ : MethodName) tables_1 = true ∧ hasInst (⟨"HtreeDirOwnLaw", "dropReq", "(JI)J"⟩ : MethodName) tables_1 = true ∧ (instLk (⟨"HtreeDirOwnLaw", "dropReq", "(JI)J"⟩ : MethodName).cls tables_1).isSome = true) ∨ ((3 : Nat) = 2 ∧ (⟨"HtreeDirOwnLaw", "dropReq", "(JI)J"⟩ : MethodName).name = "<init>" ∧ hasInst (⟨"HtreeDirOwnLaw", "dropReq", "(JI)J"⟩ : MethodName) tables_1 = true ∧ ((some .long) : Option FieldType) = none) ∨ ((3 : Nat) = 3 ∧ hasStat (⟨"HtreeDirOwnLaw", "dropReq", "(JI)J"⟩ : MethodName) tables_1 = true)) := by decide +kernel
theorem ca_w42_3 : callAt tables_1 "HtreeDirOwnLaw" 42 3 = some ((⟨"HtreeDirOwnLaw", "dropReq", "(JI)J"⟩ : MethodName), 2, method_8_code, 3, (some .long)) := callAt_of ml_w42 cl_law_dropReq pd_law_dropReq cc_law_dropReq_3 rfl
theorem d_law_189 : decode code 189 = .ok (.lstore 5, 2) := by decide +kernel
theorem d_law_191 : decode code 191 = .ok (.lload 7, 2) := by decide +kernel
theorem d_law_193 : decode code 193 = .ok (.iload 18, 2) := by decide +kernel
theorem d_law_195 : decode code 195 = .ok (.invokestatic 42, 3) := by decide +kernel
theorem d_law_198 : decode code 198 = .ok (.lstore 7, 2) := by decide +kernel
theorem d_law_200 : decode code 200 = .ok (.lload 9, 2) := by decide +kernel
theorem d_law_202 : decode code 202 = .ok (.iload 18, 2) := by decide +kernel
theorem d_law_204 : decode code 204 = .ok (.invokestatic 42, 3) := by decide +kernel
theorem d_law_207 : decode code 207 = .ok (.lstore 9, 2) := by decide +kernel
theorem d_law_209 : decode code 209 = .ok (.lload 11, 2) := by decide +kernel
theorem d_law_211 : decode code 211 = .ok (.iload 18, 2) := by decide +kernel
theorem d_law_213 : decode code 213 = .ok (.invokestatic 42, 3) := by decide +kernel
theorem d_law_216 : decode code 216 = .ok (.lstore 11, 2) := by decide +kernel
theorem d_law_218 : decode code 218 = .ok (.goto 381, 3) := by decide +kernel
theorem d_law_235 : decode code 235 = .ok (.ifCond .ne 364, 3) := by decide +kernel
theorem d_law_238 : decode code 238 = .ok (.iload_n 2, 1) := by decide +kernel
theorem d_law_239 : decode code 239 = .ok (.iload 18, 2) := by decide +kernel
theorem d_law_241 : decode code 241 = .ok (.ior, 1) := by decide +kernel
theorem d_law_242 : decode code 242 = .ok (.istore_n 2, 1) := by decide +kernel
theorem d_law_243 : decode code 243 = .ok (.lload_n 3, 1) := by decide +kernel
theorem d_law_244 : decode code 244 = .ok (.iload 16, 2) := by decide +kernel
theorem d_law_246 : decode code 246 = .ok (.iload 19, 2) := by decide +kernel
theorem d_law_248 : decode code 248 = .ok (.invokestatic 35, 3) := by decide +kernel
theorem d_law_251 : decode code 251 = .ok (.lstore_n 3, 1) := by decide +kernel
theorem d_law_252 : decode code 252 = .ok (.goto 347, 3) := by decide +kernel
theorem d_law_265 : decode code 265 = .ok (.istore 24, 2) := by decide +kernel
theorem d_law_267 : decode code 267 = .ok (.iload 24, 2) := by decide +kernel
theorem d_law_269 : decode code 269 = .ok (.ifCond .lt 22, 3) := by decide +kernel
theorem d_law_272 : decode code 272 = .ok (.iload 24, 2) := by decide +kernel
theorem d_law_274 : decode code 274 = .ok (.iconst 4, 1) := by decide +kernel
theorem d_law_278 : decode code 278 = .ok (.iload 24, 2) := by decide +kernel
theorem d_law_280 : decode code 280 = .ok (.istore 20, 2) := by decide +kernel
theorem d_law_282 : decode code 282 = .ok (.iload_n 2, 1) := by decide +kernel
theorem d_law_275 : decode code 275 = .ok (.if_icmp .ge 16, 3) := by decide +kernel
theorem d_law_283 : decode code 283 = .ok (.invokestatic 53, 3) := by decide +kernel
theorem ml_w53 : methodLk "HtreeDirOwnLaw" 53 tables_1 = some (⟨"HtreeDirOwnLaw", "startWalk", "(I)J"⟩ : MethodName) := by decide +kernel
theorem cl_law_startWalk : codeLk (⟨"HtreeDirOwnLaw", "startWalk", "(I)J"⟩ : MethodName) tables_1 = some (method_6_code, 1, (some .long)) := codeLk_at (i := 110) rfl (by decide +kernel)
theorem pd_law_startWalk : parseMethodDescriptor "(I)J" = some ⟨[.int], some .long⟩ := by decide +kernel
theorem cc_law_startWalk_3 : hasInit (⟨"HtreeDirOwnLaw", "startWalk", "(I)J"⟩ : MethodName).cls tables_1 = true ∧ plainName (⟨"HtreeDirOwnLaw", "startWalk", "(I)J"⟩ : MethodName).cls = true ∧ (⟨"HtreeDirOwnLaw", "startWalk", "(I)J"⟩ : MethodName).cls ≠ "java/lang/invoke/MethodHandle" ∧ (⟨"HtreeDirOwnLaw", "startWalk", "(I)J"⟩ : MethodName).cls ≠ "java/lang/invoke/VarHandle" ∧ (((3 : Nat) = 0 ∧ hasDecl (⟨"HtreeDirOwnLaw", "startWalk", "(I)J"⟩ : MethodName) tables_1 = true ∧ hasSel (⟨"HtreeDirOwnLaw", "startWalk", "(I)J"⟩ : MethodName) tables_1 = true ∧ hasInst (⟨"HtreeDirOwnLaw", "startWalk", "(I)J"⟩ : MethodName) tables_1 = true) ∨ ((3 : Nat) = 1 ∧ hasPriv (⟨"HtreeDirOwnLaw", "startWalk", "(I)J"⟩ : MethodName) tables_1 = true ∧ hasInst (⟨"HtreeDirOwnLaw", "startWalk", "(I)J"⟩ : MethodName) tables_1 = true ∧ (instLk (⟨"HtreeDirOwnLaw", "startWalk", "(I)J"⟩ : MethodName).cls tables_1).isSome = true) ∨ ((3 : Nat) = 2 ∧ (⟨"HtreeDirOwnLaw", "startWalk", "(I)J"⟩ : MethodName).name = "<init>" ∧ hasInst (⟨"HtreeDirOwnLaw", "startWalk", "(I)J"⟩ : MethodName) tables_1 = true ∧ ((some .long) : Option FieldType) = none) ∨ ((3 : Nat) = 3 ∧ hasStat (⟨"HtreeDirOwnLaw", "startWalk", "(I)J"⟩ : MethodName) tables_1 = true)) := by decide +kernel
theorem ca_w53_3 : callAt tables_1 "HtreeDirOwnLaw" 53 3 = some ((⟨"HtreeDirOwnLaw", "startWalk", "(I)J"⟩ : MethodName), 1, method_6_code, 1, (some .long)) := callAt_of ml_w53 cl_law_startWalk pd_law_startWalk cc_law_startWalk_3 rfl
theorem d_law_286 : decode code 286 = .ok (.lstore 22, 2) := by decide +kernel
theorem d_law_288 : decode code 288 = .ok (.iconst 1, 1) := by decide +kernel
theorem d_law_289 : decode code 289 = .ok (.istore 21, 2) := by decide +kernel
theorem d_law_291 : decode code 291 = .ok (.goto 308, 3) := by decide +kernel
theorem d_law_322 : decode code 322 = .ok (.istore 24, 2) := by decide +kernel
theorem d_law_324 : decode code 324 = .ok (.lload 22, 2) := by decide +kernel
theorem d_law_326 : decode code 326 = .ok (.invokestatic 64, 3) := by decide +kernel
theorem ml_w64 : methodLk "HtreeDirOwnLaw" 64 tables_1 = some (⟨"HtreeDirOwnLaw", "active", "(J)Z"⟩ : MethodName) := by decide +kernel
theorem cl_law_active : codeLk (⟨"HtreeDirOwnLaw", "active", "(J)Z"⟩ : MethodName) tables_1 = some (method_7_code, 2, (some .boolean)) := codeLk_at (i := 97) rfl (by decide +kernel)
theorem pd_law_active : parseMethodDescriptor "(J)Z" = some ⟨[.long], some .boolean⟩ := by decide +kernel
theorem cc_law_active_3 : hasInit (⟨"HtreeDirOwnLaw", "active", "(J)Z"⟩ : MethodName).cls tables_1 = true ∧ plainName (⟨"HtreeDirOwnLaw", "active", "(J)Z"⟩ : MethodName).cls = true ∧ (⟨"HtreeDirOwnLaw", "active", "(J)Z"⟩ : MethodName).cls ≠ "java/lang/invoke/MethodHandle" ∧ (⟨"HtreeDirOwnLaw", "active", "(J)Z"⟩ : MethodName).cls ≠ "java/lang/invoke/VarHandle" ∧ (((3 : Nat) = 0 ∧ hasDecl (⟨"HtreeDirOwnLaw", "active", "(J)Z"⟩ : MethodName) tables_1 = true ∧ hasSel (⟨"HtreeDirOwnLaw", "active", "(J)Z"⟩ : MethodName) tables_1 = true ∧ hasInst (⟨"HtreeDirOwnLaw", "active", "(J)Z"⟩ : MethodName) tables_1 = true) ∨ ((3 : Nat) = 1 ∧ hasPriv (⟨"HtreeDirOwnLaw", "active", "(J)Z"⟩ : MethodName) tables_1 = true ∧ hasInst (⟨"HtreeDirOwnLaw", "active", "(J)Z"⟩ : MethodName) tables_1 = true ∧ (instLk (⟨"HtreeDirOwnLaw", "active", "(J)Z"⟩ : MethodName).cls tables_1).isSome = true) ∨ ((3 : Nat) = 2 ∧ (⟨"HtreeDirOwnLaw", "active", "(J)Z"⟩ : MethodName).name = "<init>" ∧ hasInst (⟨"HtreeDirOwnLaw", "active", "(J)Z"⟩ : MethodName) tables_1 = true ∧ ((some .boolean) : Option FieldType) = none) ∨ ((3 : Nat) = 3 ∧ hasStat (⟨"HtreeDirOwnLaw", "active", "(J)Z"⟩ : MethodName) tables_1 = true)) := by decide +kernel
theorem ca_w64_3 : callAt tables_1 "HtreeDirOwnLaw" 64 3 = some ((⟨"HtreeDirOwnLaw", "active", "(J)Z"⟩ : MethodName), 1, method_7_code, 2, (some .boolean)) := callAt_of ml_w64 cl_law_active pd_law_active cc_law_active_3 rfl
theorem d_law_329 : decode code 329 = .ok (.ifCond .eq 158, 3) := by decide +kernel
theorem d_law_487 : decode code 487 = .ok (.goto 112, 3) := by decide +kernel
theorem d_law_599 : decode code 599 = .ok (.iload 21, 2) := by decide +kernel
theorem d_law_646 : decode code 646 = .ok (.iconst 0, 1) := by decide +kernel
theorem d_law_647 : decode code 647 = .ok (.istore 24, 2) := by decide +kernel
theorem d_law_332 : decode code 332 = .ok (.iload 24, 2) := by decide +kernel
theorem d_law_334 : decode code 334 = .ok (.iconst (-1), 1) := by decide +kernel
theorem d_law_335 : decode code 335 = .ok (.if_icmp .ne 45, 3) := by decide +kernel
theorem d_law_380 : decode code 380 = .ok (.iload 24, 2) := by decide +kernel
theorem d_law_382 : decode code 382 = .ok (.bipush (-2), 2) := by decide +kernel
theorem d_law_384 : decode code 384 = .ok (.if_icmp .eq 103, 3) := by decide +kernel
theorem d_law_387 : decode code 387 = .ok (.iload 24, 2) := by decide +kernel
theorem d_law_389 : decode code 389 = .ok (.invokestatic 68, 3) := by decide +kernel
theorem ml_w68 : methodLk "HtreeDirOwnLaw" 68 tables_1 = some (⟨"HtreeDirOwnLaw", "idxOf", "(I)I"⟩ : MethodName) := by decide +kernel
theorem cl_law_idxOf : codeLk (⟨"HtreeDirOwnLaw", "idxOf", "(I)I"⟩ : MethodName) tables_1 = some (method_4_code, 3, (some .int)) := codeLk_at (i := 159) rfl (by decide +kernel)
theorem pd_law_idxOf : parseMethodDescriptor "(I)I" = some ⟨[.int], some .int⟩ := by decide +kernel
theorem cc_law_idxOf_3 : hasInit (⟨"HtreeDirOwnLaw", "idxOf", "(I)I"⟩ : MethodName).cls tables_1 = true ∧ plainName (⟨"HtreeDirOwnLaw", "idxOf", "(I)I"⟩ : MethodName).cls = true ∧ (⟨"HtreeDirOwnLaw", "idxOf", "(I)I"⟩ : MethodName).cls ≠ "java/lang/invoke/MethodHandle" ∧ (⟨"HtreeDirOwnLaw", "idxOf", "(I)I"⟩ : MethodName).cls ≠ "java/lang/invoke/VarHandle" ∧ (((3 : Nat) = 0 ∧ hasDecl (⟨"HtreeDirOwnLaw", "idxOf", "(I)I"⟩ : MethodName) tables_1 = true ∧ hasSel (⟨"HtreeDirOwnLaw", "idxOf", "(I)I"⟩ : MethodName) tables_1 = true ∧ hasInst (⟨"HtreeDirOwnLaw", "idxOf", "(I)I"⟩ : MethodName) tables_1 = true) ∨ ((3 : Nat) = 1 ∧ hasPriv (⟨"HtreeDirOwnLaw", "idxOf", "(I)I"⟩ : MethodName) tables_1 = true ∧ hasInst (⟨"HtreeDirOwnLaw", "idxOf", "(I)I"⟩ : MethodName) tables_1 = true ∧ (instLk (⟨"HtreeDirOwnLaw", "idxOf", "(I)I"⟩ : MethodName).cls tables_1).isSome = true) ∨ ((3 : Nat) = 2 ∧ (⟨"HtreeDirOwnLaw", "idxOf", "(I)I"⟩ : MethodName).name = "<init>" ∧ hasInst (⟨"HtreeDirOwnLaw", "idxOf", "(I)I"⟩ : MethodName) tables_1 = true ∧ ((some .int) : Option FieldType) = none) ∨ ((3 : Nat) = 3 ∧ hasStat (⟨"HtreeDirOwnLaw", "idxOf", "(I)I"⟩ : MethodName) tables_1 = true)) := by decide +kernel
theorem ca_w68_3 : callAt tables_1 "HtreeDirOwnLaw" 68 3 = some ((⟨"HtreeDirOwnLaw", "idxOf", "(I)I"⟩ : MethodName), 1, method_4_code, 3, (some .int)) := callAt_of ml_w68 cl_law_idxOf pd_law_idxOf cc_law_idxOf_3 rfl
theorem d_law_338 : decode code 338 = .ok (.lload 22, 2) := by decide +kernel
theorem d_law_340 : decode code 340 = .ok (.ldc2_w 9, 3) := by decide +kernel
theorem d_law_343 : decode code 343 = .ok (.land, 1) := by decide +kernel
theorem d_law_344 : decode code 344 = .ok (.l2i, 1) := by decide +kernel
theorem d_law_345 : decode code 345 = .ok (.istore 25, 2) := by decide +kernel
theorem d_law_347 : decode code 347 = .ok (.lload 22, 2) := by decide +kernel
theorem d_law_349 : decode code 349 = .ok (.bipush 16, 2) := by decide +kernel
theorem d_law_351 : decode code 351 = .ok (.lushr, 1) := by decide +kernel
theorem d_law_352 : decode code 352 = .ok (.ldc2_w 9, 3) := by decide +kernel
theorem d_law_355 : decode code 355 = .ok (.land, 1) := by decide +kernel
theorem d_law_356 : decode code 356 = .ok (.l2i, 1) := by decide +kernel
theorem d_law_357 : decode code 357 = .ok (.istore 26, 2) := by decide +kernel
theorem d_law_359 : decode code 359 = .ok (.iload 25, 2) := by decide +kernel
theorem d_law_361 : decode code 361 = .ok (.iload 26, 2) := by decide +kernel
theorem d_law_363 : decode code 363 = .ok (.iconst (-1), 1) := by decide +kernel
theorem d_law_364 : decode code 364 = .ok (.ixor, 1) := by decide +kernel
theorem d_law_365 : decode code 365 = .ok (.iand, 1) := by decide +kernel
theorem d_law_366 : decode code 366 = .ok (.ifCond .eq 5, 3) := by decide +kernel
theorem d_law_371 : decode code 371 = .ok (.lconst 0, 1) := by decide +kernel
theorem d_law_372 : decode code 372 = .ok (.lstore 22, 2) := by decide +kernel
theorem d_law_374 : decode code 374 = .ok (.iconst 1, 1) := by decide +kernel
theorem d_law_375 : decode code 375 = .ok (.istore 21, 2) := by decide +kernel
theorem d_law_377 : decode code 377 = .ok (.goto 110, 3) := by decide +kernel
theorem d_law_601 : decode code 601 = .ok (.ifCond .eq 45, 3) := by decide +kernel
theorem d_law_604 : decode code 604 = .ok (.iload 20, 2) := by decide +kernel
theorem d_law_616 : decode code 616 = .ok (.iload 20, 2) := by decide +kernel
theorem d_law_618 : decode code 618 = .ok (.iconst 1, 1) := by decide +kernel
theorem d_law_629 : decode code 629 = .ok (.iload 20, 2) := by decide +kernel
theorem d_law_631 : decode code 631 = .ok (.iconst 2, 1) := by decide +kernel
theorem d_law_642 : decode code 642 = .ok (.lload 22, 2) := by decide +kernel
theorem d_law_644 : decode code 644 = .ok (.lstore 11, 2) := by decide +kernel
theorem d_law_369 : decode code 369 = .ok (.iconst 0, 1) := by decide +kernel
theorem d_law_370 : decode code 370 = .ok (.ireturn, 1) := by decide +kernel
theorem d_law_392 : decode code 392 = .ok (.istore 25, 2) := by decide +kernel
theorem d_law_394 : decode code 394 = .ok (.iload 25, 2) := by decide +kernel
theorem d_law_396 : decode code 396 = .ok (.ifCond .lt 12, 3) := by decide +kernel
theorem d_law_408 : decode code 408 = .ok (.iconst 0, 1) := by decide +kernel
theorem d_law_409 : decode code 409 = .ok (.ireturn, 1) := by decide +kernel
theorem d_law_399 : decode code 399 = .ok (.iload_n 2, 1) := by decide +kernel
theorem d_law_400 : decode code 400 = .ok (.iconst 1, 1) := by decide +kernel
theorem d_law_401 : decode code 401 = .ok (.iload 25, 2) := by decide +kernel
theorem d_law_403 : decode code 403 = .ok (.ishl, 1) := by decide +kernel
theorem d_law_404 : decode code 404 = .ok (.iand, 1) := by decide +kernel
theorem d_law_410 : decode code 410 = .ok (.aload_n 1, 1) := by decide +kernel
theorem d_law_411 : decode code 411 = .ok (.iload 24, 2) := by decide +kernel
theorem d_law_405 : decode code 405 = .ok (.ifCond .ne 5, 3) := by decide +kernel
theorem d_law_413 : decode code 413 = .ok (.invokevirtual 71, 3) := by decide +kernel
theorem d_law_416 : decode code 416 = .ok (.istore 26, 2) := by decide +kernel
theorem d_law_418 : decode code 418 = .ok (.lload 22, 2) := by decide +kernel
theorem d_law_420 : decode code 420 = .ok (.bipush 32, 2) := by decide +kernel
theorem d_law_422 : decode code 422 = .ok (.lushr, 1) := by decide +kernel
theorem d_law_423 : decode code 423 = .ok (.ldc2_w 74, 3) := by decide +kernel
theorem lk_w74 : longLk "HtreeDirOwnLaw" 74 tables_1 = some (131071 : Int64) := by decide +kernel
theorem d_law_426 : decode code 426 = .ok (.land, 1) := by decide +kernel
theorem d_law_427 : decode code 427 = .ok (.lconst 1, 1) := by decide +kernel
theorem d_law_428 : decode code 428 = .ok (.lsub, 1) := by decide +kernel
theorem d_law_429 : decode code 429 = .ok (.lstore 27, 2) := by decide +kernel
theorem d_law_431 : decode code 431 = .ok (.iload 26, 2) := by decide +kernel
theorem d_law_433 : decode code 433 = .ok (.i2l, 1) := by decide +kernel
theorem d_law_434 : decode code 434 = .ok (.lload 27, 2) := by decide +kernel
theorem d_law_436 : decode code 436 = .ok (.lcmp, 1) := by decide +kernel
theorem d_law_437 : decode code 437 = .ok (.ifCond .gt 5, 3) := by decide +kernel
theorem d_law_442 : decode code 442 = .ok (.lload 22, 2) := by decide +kernel
theorem d_law_444 : decode code 444 = .ok (.bipush 16, 2) := by decide +kernel
theorem d_law_446 : decode code 446 = .ok (.iload 25, 2) := by decide +kernel
theorem d_law_448 : decode code 448 = .ok (.iadd, 1) := by decide +kernel
theorem d_law_449 : decode code 449 = .ok (.lushr, 1) := by decide +kernel
theorem d_law_450 : decode code 450 = .ok (.lconst 1, 1) := by decide +kernel
theorem d_law_451 : decode code 451 = .ok (.land, 1) := by decide +kernel
theorem d_law_452 : decode code 452 = .ok (.lconst 0, 1) := by decide +kernel
theorem d_law_453 : decode code 453 = .ok (.lcmp, 1) := by decide +kernel
theorem d_law_459 : decode code 459 = .ok (.lload 22, 2) := by decide +kernel
theorem d_law_461 : decode code 461 = .ok (.ldc2_w 76, 3) := by decide +kernel
theorem lk_w76 : longLk "HtreeDirOwnLaw" 76 tables_1 = some (-562945658454017 : Int64) := by decide +kernel
theorem d_law_464 : decode code 464 = .ok (.land, 1) := by decide +kernel
theorem d_law_465 : decode code 465 = .ok (.iload 26, 2) := by decide +kernel
theorem d_law_467 : decode code 467 = .ok (.i2l, 1) := by decide +kernel
theorem d_law_468 : decode code 468 = .ok (.lconst 1, 1) := by decide +kernel
theorem d_law_469 : decode code 469 = .ok (.ladd, 1) := by decide +kernel
theorem d_law_470 : decode code 470 = .ok (.bipush 32, 2) := by decide +kernel
theorem d_law_472 : decode code 472 = .ok (.lshl, 1) := by decide +kernel
theorem d_law_473 : decode code 473 = .ok (.lor, 1) := by decide +kernel
theorem d_law_474 : decode code 474 = .ok (.lconst 1, 1) := by decide +kernel
theorem d_law_475 : decode code 475 = .ok (.bipush 16, 2) := by decide +kernel
theorem d_law_477 : decode code 477 = .ok (.iload 25, 2) := by decide +kernel
theorem d_law_479 : decode code 479 = .ok (.iadd, 1) := by decide +kernel
theorem d_law_480 : decode code 480 = .ok (.lshl, 1) := by decide +kernel
theorem d_law_481 : decode code 481 = .ok (.lor, 1) := by decide +kernel
theorem d_law_482 : decode code 482 = .ok (.lstore 22, 2) := by decide +kernel
theorem d_law_484 : decode code 484 = .ok (.iconst 1, 1) := by decide +kernel
theorem d_law_485 : decode code 485 = .ok (.istore 21, 2) := by decide +kernel
theorem d_law_454 : decode code 454 = .ok (.ifCond .eq 5, 3) := by decide +kernel
theorem d_law_457 : decode code 457 = .ok (.iconst 0, 1) := by decide +kernel
theorem d_law_458 : decode code 458 = .ok (.ireturn, 1) := by decide +kernel
theorem d_law_440 : decode code 440 = .ok (.iconst 0, 1) := by decide +kernel
theorem d_law_441 : decode code 441 = .ok (.ireturn, 1) := by decide +kernel
theorem d_law_527 : decode code 527 = .ok (.goto 22, 3) := by decide +kernel
theorem d_law_547 : decode code 547 = .ok (.iconst 1, 1) := by decide +kernel
theorem d_law_548 : decode code 548 = .ok (.iadd, 1) := by decide +kernel
theorem d_law_549 : decode code 549 = .ok (.istore 25, 2) := by decide +kernel
theorem d_law_551 : decode code 551 = .ok (.aload_n 1, 1) := by decide +kernel
theorem d_law_552 : decode code 552 = .ok (.iload 20, 2) := by decide +kernel
theorem d_law_554 : decode code 554 = .ok (.iload 25, 2) := by decide +kernel
theorem d_law_556 : decode code 556 = .ok (.invokevirtual 79, 3) := by decide +kernel
theorem ml_w79 : methodLk "HtreeDirOwnLaw" 79 tables_1 = some (⟨"HtreeDir", "seekDir", "(II)Z"⟩ : MethodName) := by decide +kernel
theorem cl_seekDir : codeLk (⟨"HtreeDir", "seekDir", "(II)Z"⟩ : MethodName) tables_1 = some (prog_1_method_15_code, 3, (some .boolean)) := codeLk_at (i := 102) rfl (by decide +kernel)
theorem pd_seekDir : parseMethodDescriptor "(II)Z" = some ⟨[.int, .int], some .boolean⟩ := by decide +kernel
theorem cc_seekDir_0 : hasInit (⟨"HtreeDir", "seekDir", "(II)Z"⟩ : MethodName).cls tables_1 = true ∧ plainName (⟨"HtreeDir", "seekDir", "(II)Z"⟩ : MethodName).cls = true ∧ (⟨"HtreeDir", "seekDir", "(II)Z"⟩ : MethodName).cls ≠ "java/lang/invoke/MethodHandle" ∧ (⟨"HtreeDir", "seekDir", "(II)Z"⟩ : MethodName).cls ≠ "java/lang/invoke/VarHandle" ∧ (((0 : Nat) = 0 ∧ hasDecl (⟨"HtreeDir", "seekDir", "(II)Z"⟩ : MethodName) tables_1 = true ∧ hasSel (⟨"HtreeDir", "seekDir", "(II)Z"⟩ : MethodName) tables_1 = true ∧ hasInst (⟨"HtreeDir", "seekDir", "(II)Z"⟩ : MethodName) tables_1 = true) ∨ ((0 : Nat) = 1 ∧ hasPriv (⟨"HtreeDir", "seekDir", "(II)Z"⟩ : MethodName) tables_1 = true ∧ hasInst (⟨"HtreeDir", "seekDir", "(II)Z"⟩ : MethodName) tables_1 = true ∧ (instLk (⟨"HtreeDir", "seekDir", "(II)Z"⟩ : MethodName).cls tables_1).isSome = true) ∨ ((0 : Nat) = 2 ∧ (⟨"HtreeDir", "seekDir", "(II)Z"⟩ : MethodName).name = "<init>" ∧ hasInst (⟨"HtreeDir", "seekDir", "(II)Z"⟩ : MethodName) tables_1 = true ∧ ((some .boolean) : Option FieldType) = none) ∨ ((0 : Nat) = 3 ∧ hasStat (⟨"HtreeDir", "seekDir", "(II)Z"⟩ : MethodName) tables_1 = true)) := by decide +kernel
theorem ca_w79_0 : callAt tables_1 "HtreeDirOwnLaw" 79 0 = some ((⟨"HtreeDir", "seekDir", "(II)Z"⟩ : MethodName), 2, prog_1_method_15_code, 3, (some .boolean)) := callAt_of ml_w79 cl_seekDir pd_seekDir cc_seekDir_0 rfl
theorem np_seekDir : hasPriv (⟨"HtreeDir", "seekDir", "(II)Z"⟩ : MethodName) tables_1 = false := by decide +kernel
theorem ca_w79_0n : callAt tables_1 "HtreeDirOwnLaw" 79 1 = none := callAt_pub ml_w79 np_seekDir
theorem d_law_559 : decode code 559 = .ok (.ifCond .eq 22, 3) := by decide +kernel
theorem d_law_562 : decode code 562 = .ok (.iload 25, 2) := by decide +kernel
theorem d_law_564 : decode code 564 = .ok (.iconst (-1), 1) := by decide +kernel
theorem d_law_565 : decode code 565 = .ok (.if_icmp .ne 10, 3) := by decide +kernel
theorem d_law_575 : decode code 575 = .ok (.lconst 0, 1) := by decide +kernel
theorem d_law_568 : decode code 568 = .ok (.iload_n 2, 1) := by decide +kernel
theorem d_law_569 : decode code 569 = .ok (.invokestatic 53, 3) := by decide +kernel
theorem d_law_572 : decode code 572 = .ok (.goto 4, 3) := by decide +kernel
theorem d_law_576 : decode code 576 = .ok (.lstore 22, 2) := by decide +kernel
theorem d_law_578 : decode code 578 = .ok (.iconst 1, 1) := by decide +kernel
theorem d_law_579 : decode code 579 = .ok (.istore 21, 2) := by decide +kernel
theorem d_law_581 : decode code 581 = .ok (.goto 18, 3) := by decide +kernel
theorem d_law_590 : decode code 590 = .ok (.ifCond .eq 9, 3) := by decide +kernel
theorem d_law_593 : decode code 593 = .ok (.lconst 0, 1) := by decide +kernel
theorem d_law_594 : decode code 594 = .ok (.lstore 22, 2) := by decide +kernel
theorem d_law_596 : decode code 596 = .ok (.iconst 1, 1) := by decide +kernel
theorem d_law_597 : decode code 597 = .ok (.istore 21, 2) := by decide +kernel
theorem d_law_635 : decode code 635 = .ok (.lload 22, 2) := by decide +kernel
theorem d_law_637 : decode code 637 = .ok (.lstore 9, 2) := by decide +kernel
theorem d_law_639 : decode code 639 = .ok (.goto 7, 3) := by decide +kernel
theorem d_law_632 : decode code 632 = .ok (.if_icmp .ne 10, 3) := by decide +kernel
theorem d_law_622 : decode code 622 = .ok (.lload 22, 2) := by decide +kernel
theorem d_law_624 : decode code 624 = .ok (.lstore 7, 2) := by decide +kernel
theorem d_law_626 : decode code 626 = .ok (.goto 20, 3) := by decide +kernel
theorem d_law_619 : decode code 619 = .ok (.if_icmp .ne 10, 3) := by decide +kernel
theorem d_law_609 : decode code 609 = .ok (.lload 22, 2) := by decide +kernel
theorem d_law_611 : decode code 611 = .ok (.lstore 5, 2) := by decide +kernel
theorem d_law_613 : decode code 613 = .ok (.goto 33, 3) := by decide +kernel
theorem d_law_606 : decode code 606 = .ok (.ifCond .ne 10, 3) := by decide +kernel
theorem d_law_649 : decode code 649 = .ok (.iload 24, 2) := by decide +kernel
theorem d_law_651 : decode code 651 = .ok (.bipush 16, 2) := by decide +kernel
theorem d_law_653 : decode code 653 = .ok (.if_icmp .ge 29, 3) := by decide +kernel
theorem d_law_682 : decode code 682 = .ok (.iinc 13 1, 3) := by decide +kernel
theorem d_law_685 : decode code 685 = .ok (.goto (-639), 3) := by decide +kernel
theorem d_law_656 : decode code 656 = .ok (.aload_n 1, 1) := by decide +kernel
theorem d_law_657 : decode code 657 = .ok (.iload 24, 2) := by decide +kernel
theorem d_law_659 : decode code 659 = .ok (.invokestatic 27, 3) := by decide +kernel
theorem d_law_662 : decode code 662 = .ok (.invokevirtual 87, 3) := by decide +kernel
theorem ml_w87 : methodLk "HtreeDirOwnLaw" 87 tables_1 = some (⟨"HtreeDir", "lookup", "(I)I"⟩ : MethodName) := by decide +kernel
theorem cl_lookup : codeLk (⟨"HtreeDir", "lookup", "(I)I"⟩ : MethodName) tables_1 = some (prog_1_method_8_code, 4, (some .int)) := codeLk_at (i := 59) rfl (by decide +kernel)
theorem pd_lookup : parseMethodDescriptor "(I)I" = some ⟨[.int], some .int⟩ := by decide +kernel
theorem cc_lookup_0 : hasInit (⟨"HtreeDir", "lookup", "(I)I"⟩ : MethodName).cls tables_1 = true ∧ plainName (⟨"HtreeDir", "lookup", "(I)I"⟩ : MethodName).cls = true ∧ (⟨"HtreeDir", "lookup", "(I)I"⟩ : MethodName).cls ≠ "java/lang/invoke/MethodHandle" ∧ (⟨"HtreeDir", "lookup", "(I)I"⟩ : MethodName).cls ≠ "java/lang/invoke/VarHandle" ∧ (((0 : Nat) = 0 ∧ hasDecl (⟨"HtreeDir", "lookup", "(I)I"⟩ : MethodName) tables_1 = true ∧ hasSel (⟨"HtreeDir", "lookup", "(I)I"⟩ : MethodName) tables_1 = true ∧ hasInst (⟨"HtreeDir", "lookup", "(I)I"⟩ : MethodName) tables_1 = true) ∨ ((0 : Nat) = 1 ∧ hasPriv (⟨"HtreeDir", "lookup", "(I)I"⟩ : MethodName) tables_1 = true ∧ hasInst (⟨"HtreeDir", "lookup", "(I)I"⟩ : MethodName) tables_1 = true ∧ (instLk (⟨"HtreeDir", "lookup", "(I)I"⟩ : MethodName).cls tables_1).isSome = true) ∨ ((0 : Nat) = 2 ∧ (⟨"HtreeDir", "lookup", "(I)I"⟩ : MethodName).name = "<init>" ∧ hasInst (⟨"HtreeDir", "lookup", "(I)I"⟩ : MethodName) tables_1 = true ∧ ((some .int) : Option FieldType) = none) ∨ ((0 : Nat) = 3 ∧ hasStat (⟨"HtreeDir", "lookup", "(I)I"⟩ : MethodName) tables_1 = true)) := by decide +kernel
theorem ca_w87_0 : callAt tables_1 "HtreeDirOwnLaw" 87 0 = some ((⟨"HtreeDir", "lookup", "(I)I"⟩ : MethodName), 1, prog_1_method_8_code, 4, (some .int)) := callAt_of ml_w87 cl_lookup pd_lookup cc_lookup_0 rfl
theorem np_lookup : hasPriv (⟨"HtreeDir", "lookup", "(I)I"⟩ : MethodName) tables_1 = false := by decide +kernel
theorem ca_w87_0n : callAt tables_1 "HtreeDirOwnLaw" 87 1 = none := callAt_pub ml_w87 np_lookup
theorem d_law_665 : decode code 665 = .ok (.lload_n 3, 1) := by decide +kernel
theorem d_law_666 : decode code 666 = .ok (.iload 24, 2) := by decide +kernel
theorem d_law_668 : decode code 668 = .ok (.invokestatic 90, 3) := by decide +kernel
theorem ml_w90 : methodLk "HtreeDirOwnLaw" 90 tables_1 = some (⟨"HtreeDirOwnLaw", "nib", "(JI)I"⟩ : MethodName) := by decide +kernel
theorem cl_law_nib : codeLk (⟨"HtreeDirOwnLaw", "nib", "(JI)I"⟩ : MethodName) tables_1 = some (method_9_code, 3, (some .int)) := codeLk_at (i := 71) rfl (by decide +kernel)
theorem pd_law_nib : parseMethodDescriptor "(JI)I" = some ⟨[.long, .int], some .int⟩ := by decide +kernel
theorem cc_law_nib_3 : hasInit (⟨"HtreeDirOwnLaw", "nib", "(JI)I"⟩ : MethodName).cls tables_1 = true ∧ plainName (⟨"HtreeDirOwnLaw", "nib", "(JI)I"⟩ : MethodName).cls = true ∧ (⟨"HtreeDirOwnLaw", "nib", "(JI)I"⟩ : MethodName).cls ≠ "java/lang/invoke/MethodHandle" ∧ (⟨"HtreeDirOwnLaw", "nib", "(JI)I"⟩ : MethodName).cls ≠ "java/lang/invoke/VarHandle" ∧ (((3 : Nat) = 0 ∧ hasDecl (⟨"HtreeDirOwnLaw", "nib", "(JI)I"⟩ : MethodName) tables_1 = true ∧ hasSel (⟨"HtreeDirOwnLaw", "nib", "(JI)I"⟩ : MethodName) tables_1 = true ∧ hasInst (⟨"HtreeDirOwnLaw", "nib", "(JI)I"⟩ : MethodName) tables_1 = true) ∨ ((3 : Nat) = 1 ∧ hasPriv (⟨"HtreeDirOwnLaw", "nib", "(JI)I"⟩ : MethodName) tables_1 = true ∧ hasInst (⟨"HtreeDirOwnLaw", "nib", "(JI)I"⟩ : MethodName) tables_1 = true ∧ (instLk (⟨"HtreeDirOwnLaw", "nib", "(JI)I"⟩ : MethodName).cls tables_1).isSome = true) ∨ ((3 : Nat) = 2 ∧ (⟨"HtreeDirOwnLaw", "nib", "(JI)I"⟩ : MethodName).name = "<init>" ∧ hasInst (⟨"HtreeDirOwnLaw", "nib", "(JI)I"⟩ : MethodName) tables_1 = true ∧ ((some .int) : Option FieldType) = none) ∨ ((3 : Nat) = 3 ∧ hasStat (⟨"HtreeDirOwnLaw", "nib", "(JI)I"⟩ : MethodName) tables_1 = true)) := by decide +kernel
theorem ca_w90_3 : callAt tables_1 "HtreeDirOwnLaw" 90 3 = some ((⟨"HtreeDirOwnLaw", "nib", "(JI)I"⟩ : MethodName), 2, method_9_code, 3, (some .int)) := callAt_of ml_w90 cl_law_nib pd_law_nib cc_law_nib_3 rfl
theorem d_law_671 : decode code 671 = .ok (.if_icmp .eq 5, 3) := by decide +kernel
theorem d_law_676 : decode code 676 = .ok (.iinc 24 1, 3) := by decide +kernel
theorem d_law_679 : decode code 679 = .ok (.goto (-30), 3) := by decide +kernel
theorem d_law_674 : decode code 674 = .ok (.iconst 0, 1) := by decide +kernel
theorem d_law_675 : decode code 675 = .ok (.ireturn, 1) := by decide +kernel
set_option maxRecDepth 65536 in
set_option maxHeartbeats 4000000 in
theorem L_isName_0 {n : Nat} {x1 : Int32} {mi : Nat → Nat → Int32} {ml : Nat → Nat → Int64} {Q : Option Value → EMem → Prop}
    (h1 : ∀ v1 : Int32, v1 = (if x1 < (0 : Int32) then (0 : Int32) else (if (65535 : Int32) < x1 then (0 : Int32) else (1 : Int32))) → Q (some (.int (v1 &&& 1))) ((LL1 n), mi, ml, RR1)) :
    W_isName 0 [.val (.ref 1), .val (.int x1)] [] ((LL1 n), mi, ml, RR1) Q := by
  refine Wp.p (pc' := 1) d_isName_0 rfl rfl ?_
  obtain ⟨v1, e1⟩ : ∃ z : Int32, z = (if x1 < (0 : Int32) then (0 : Int32) else (if (65535 : Int32) < x1 then (0 : Int32) else (1 : Int32))) := ⟨_, rfl⟩
  suffices K : W_isName 15 [.val (.ref 1), .val (.int x1)] [.int v1] ((LL1 n), mi, ml, RR1) Q by
    refine Wp.if_lt d_isName_1 rfl (fun q0 => ?_) (fun q0 => ?_)
    ·
      refine Wp.iconst (0 : Int32) d_isName_14 (by decide) ?_
      rw [if_pos q0] at e1; subst e1
      exact K
    ·
      refine Wp.p (pc' := 5) d_isName_4 rfl rfl ?_
      refine Wp.ldc d_isName_5 ik_c35 ?_
      refine Wp.icmp_gt d_isName_7 rfl (fun q1 => ?_) (fun q1 => ?_)
      ·
        refine Wp.iconst (0 : Int32) d_isName_14 (by decide) ?_
        rw [if_neg q0, if_pos q1] at e1; subst e1
        exact K
      ·
        refine Wp.iconst (1 : Int32) d_isName_10 (by decide) ?_
        refine Wp.p (pc' := 15) d_isName_11 rfl rfl ?_
        rw [if_neg q0, if_neg q1] at e1; subst e1
        exact K
  refine Wp.retZ (v1 &&& 1) d_isName_15 (by rfl) ?_
  exact (h1 v1 e1)
set_option maxRecDepth 65536 in
set_option maxHeartbeats 4000000 in
theorem L_validHandle_0 {n : Nat} {x1 : Int32} {mi : Nat → Nat → Int32} {ml : Nat → Nat → Int64} {Q : Option Value → EMem → Prop}
    (b1 : ¬ x1 < (0 : Int32) → x1 < (4 : Int32) → inb x1 4 = true)
    (h1 : ∀ v1 : Int32, v1 = (if x1 < (0 : Int32) then (0 : Int32) else (if x1 < (4 : Int32) then (if (mi 8 (Int32.toNatClampNeg x1)) = (0 : Int32) then (0 : Int32) else (1 : Int32)) else (0 : Int32))) → Q (some (.int (v1 &&& 1))) ((LL1 n), mi, ml, RR1)) :
    W_validHandle 0 [.val (.ref 1), .val (.int x1)] [] ((LL1 n), mi, ml, RR1) Q := by
  refine Wp.p (pc' := 1) d_validHandle_0 rfl rfl ?_
  obtain ⟨v1, e1⟩ : ∃ z : Int32, z = (if x1 < (0 : Int32) then (0 : Int32) else (if x1 < (4 : Int32) then (if (mi 8 (Int32.toNatClampNeg x1)) = (0 : Int32) then (0 : Int32) else (1 : Int32)) else (0 : Int32))) := ⟨_, rfl⟩
  suffices K : W_validHandle 23 [.val (.ref 1), .val (.int x1)] [.int v1] ((LL1 n), mi, ml, RR1) Q by
    refine Wp.if_lt d_validHandle_1 rfl (fun q0 => ?_) (fun q0 => ?_)
    ·
      refine Wp.iconst (0 : Int32) d_validHandle_22 (by decide) ?_
      rw [if_pos q0] at e1; subst e1
      exact K
    ·
      refine Wp.p (pc' := 5) d_validHandle_4 rfl rfl ?_
      refine Wp.iconst (4 : Int32) d_validHandle_5 (by decide) ?_
      refine Wp.icmp_ge d_validHandle_6 rfl (fun q1 => ?_) (fun q1 => ?_)
      ·
        refine Wp.iconst (0 : Int32) d_validHandle_22 (by decide) ?_
        rw [if_neg q0, if_neg q1] at e1; subst e1
        exact K
      ·
        refine Wp.p (pc' := 10) d_validHandle_9 rfl rfl ?_
        refine Wp.getR (b := 8) d_validHandle_10 fa_c28 rfl rfl ?_
        refine Wp.p (pc' := 14) d_validHandle_13 rfl rfl ?_
        refine Wp.baload (mi 8 (Int32.toNatClampNeg x1)) d_validHandle_14 rfl (k := (Int32.toNatClampNeg x1)) rfl (b1 q0 q1) rfl ?_
        refine Wp.if_eq d_validHandle_15 rfl (fun q2 => ?_) (fun q2 => ?_)
        ·
          refine Wp.iconst (0 : Int32) d_validHandle_22 (by decide) ?_
          rw [if_neg q0, if_pos q1, if_pos q2] at e1; subst e1
          exact K
        ·
          refine Wp.iconst (1 : Int32) d_validHandle_18 (by decide) ?_
          refine Wp.p (pc' := 23) d_validHandle_19 rfl rfl ?_
          rw [if_neg q0, if_pos q1, if_neg q2] at e1; subst e1
          exact K
  refine Wp.retZ (v1 &&& 1) d_validHandle_23 (by rfl) ?_
  exact (h1 v1 e1)
set_option maxRecDepth 65536 in
set_option maxHeartbeats 4000000 in
theorem L_hash_0 {n : Nat} {x1 : Int32} {mi : Nat → Nat → Int32} {ml : Nat → Nat → Int64} {Q : Option Value → EMem → Prop}
    (h1 : Q (some (.int ((((((((x1 ^^^ (mi 1 34)) &&& (65535 : Int32)) * (40507 : Int32)) &&& (65535 : Int32)) ^^^ (XT.ushr ((((x1 ^^^ (mi 1 34)) &&& (65535 : Int32)) * (40507 : Int32)) &&& (65535 : Int32)) (7 : Int32))) * (23505 : Int32)) &&& (65535 : Int32)) ^^^ (XT.ushr (((((((x1 ^^^ (mi 1 34)) &&& (65535 : Int32)) * (40507 : Int32)) &&& (65535 : Int32)) ^^^ (XT.ushr ((((x1 ^^^ (mi 1 34)) &&& (65535 : Int32)) * (40507 : Int32)) &&& (65535 : Int32)) (7 : Int32))) * (23505 : Int32)) &&& (65535 : Int32)) (9 : Int32))))) ((LL1 n), mi, ml, RR1)) :
    W_hash 0 [.val (.ref 1), .val (.int x1), .unset] [] ((LL1 n), mi, ml, RR1) Q := by
  refine Wp.p (pc' := 1) d_hash_0 rfl rfl ?_
  refine Wp.p (pc' := 2) d_hash_1 rfl rfl ?_
  refine Wp.getI (mi 1 34) d_hash_2 fa_c36 rfl rfl ?_
  refine Wp.p (pc' := 6) d_hash_5 rfl rfl ?_
  refine Wp.ldc d_hash_6 ik_c35 ?_
  refine Wp.p (pc' := 9) d_hash_8 rfl rfl ?_
  refine Wp.p (pc' := 10) d_hash_9 rfl rfl ?_
  refine Wp.p (pc' := 11) d_hash_10 rfl rfl ?_
  refine Wp.ldc d_hash_11 ik_c99 ?_
  refine Wp.p (pc' := 14) d_hash_13 rfl rfl ?_
  refine Wp.ldc d_hash_14 ik_c35 ?_
  refine Wp.p (pc' := 17) d_hash_16 rfl rfl ?_
  refine Wp.p (pc' := 18) d_hash_17 rfl rfl ?_
  refine Wp.p (pc' := 19) d_hash_18 rfl rfl ?_
  refine Wp.p (pc' := 20) d_hash_19 rfl rfl ?_
  refine Wp.bipush (7 : Int32) d_hash_20 (by decide) ?_
  refine Wp.p (pc' := 23) d_hash_22 rfl rfl ?_
  refine Wp.p (pc' := 24) d_hash_23 rfl rfl ?_
  refine Wp.p (pc' := 25) d_hash_24 rfl rfl ?_
  refine Wp.p (pc' := 26) d_hash_25 rfl rfl ?_
  refine Wp.sipush (23505 : Int32) d_hash_26 (by decide) ?_
  refine Wp.p (pc' := 30) d_hash_29 rfl rfl ?_
  refine Wp.ldc d_hash_30 ik_c35 ?_
  refine Wp.p (pc' := 33) d_hash_32 rfl rfl ?_
  refine Wp.p (pc' := 34) d_hash_33 rfl rfl ?_
  refine Wp.p (pc' := 35) d_hash_34 rfl rfl ?_
  refine Wp.p (pc' := 36) d_hash_35 rfl rfl ?_
  refine Wp.bipush (9 : Int32) d_hash_36 (by decide) ?_
  refine Wp.p (pc' := 39) d_hash_38 rfl rfl ?_
  refine Wp.p (pc' := 40) d_hash_39 rfl rfl ?_
  refine Wp.p (pc' := 41) d_hash_40 rfl rfl ?_
  refine Wp.p (pc' := 42) d_hash_41 rfl rfl ?_
  refine Wp.retI d_hash_42 ?_
  exact h1
set_option maxRecDepth 65536 in
set_option maxHeartbeats 4000000 in
theorem L_keyAt_0 {n : Nat} {x1 : Int32} {mi : Nat → Nat → Int32} {ml : Nat → Nat → Int64} {Q : Option Value → EMem → Prop}
    (b1 : inb (x1 &&& (31 : Int32)) 32 = true)
    (b2 : inb ((mi 6 (Int32.toNatClampNeg (x1 &&& (31 : Int32)))) * (4 : Int32)) 128 = true)
    (h1 : Q (some (.int (mi 2 (Int32.toNatClampNeg ((mi 6 (Int32.toNatClampNeg (x1 &&& (31 : Int32)))) * (4 : Int32)))))) ((LL1 n), mi, ml, RR1)) :
    W_keyAt 0 [.val (.ref 1), .val (.int x1), .unset] [] ((LL1 n), mi, ml, RR1) Q := by
  refine Wp.p (pc' := 1) d_keyAt_0 rfl rfl ?_
  refine Wp.getR (b := 6) d_keyAt_1 fa_c22 rfl rfl ?_
  refine Wp.p (pc' := 5) d_keyAt_4 rfl rfl ?_
  refine Wp.bipush (31 : Int32) d_keyAt_5 (by decide) ?_
  refine Wp.p (pc' := 8) d_keyAt_7 rfl rfl ?_
  refine Wp.iaload (mi 6 (Int32.toNatClampNeg (x1 &&& (31 : Int32)))) d_keyAt_8 rfl (k := (Int32.toNatClampNeg (x1 &&& (31 : Int32)))) rfl b1 rfl ?_
  refine Wp.p (pc' := 10) d_keyAt_9 rfl rfl ?_
  refine Wp.p (pc' := 11) d_keyAt_10 rfl rfl ?_
  refine Wp.getR (b := 2) d_keyAt_11 fa_c7 rfl rfl ?_
  refine Wp.p (pc' := 15) d_keyAt_14 rfl rfl ?_
  refine Wp.iconst (4 : Int32) d_keyAt_15 (by decide) ?_
  refine Wp.p (pc' := 17) d_keyAt_16 rfl rfl ?_
  refine Wp.iaload (mi 2 (Int32.toNatClampNeg ((mi 6 (Int32.toNatClampNeg (x1 &&& (31 : Int32)))) * (4 : Int32)))) d_keyAt_17 rfl (k := (Int32.toNatClampNeg ((mi 6 (Int32.toNatClampNeg (x1 &&& (31 : Int32)))) * (4 : Int32)))) rfl b2 rfl ?_
  refine Wp.retI d_keyAt_18 ?_
  exact h1
set_option maxRecDepth 65536 in
set_option maxHeartbeats 4000000 in
theorem L_hashOf_0 {n : Nat} {x1 : Int32} {mi : Nat → Nat → Int32} {ml : Nat → Nat → Int64} {Q : Option Value → EMem → Prop}
    (h1 : ∀ v1 : Int32, v1 = (if x1 < (0 : Int32) then (0 : Int32) else (if (65535 : Int32) < x1 then (0 : Int32) else (1 : Int32))) → ¬ (v1 &&& 1) = (0 : Int32) → W_hash 0 [.val (.ref 1), .val (.int x1), .unset] [] ((LL1 n), mi, ml, RR1) (fun v M' => W_hashOf 15 [.val (.ref 1), .val (.int x1)] (v.toList ++ []) M' Q))
    (h2 : ∀ v1 : Int32, v1 = (if x1 < (0 : Int32) then (0 : Int32) else (if (65535 : Int32) < x1 then (0 : Int32) else (1 : Int32))) → (v1 &&& 1) = (0 : Int32) → Q (some (.int (-1 : Int32))) ((LL1 n), mi, ml, RR1)) :
    W_hashOf 0 [.val (.ref 1), .val (.int x1)] [] ((LL1 n), mi, ml, RR1) Q := by
  refine Wp.p (pc' := 1) d_hashOf_0 rfl rfl ?_
  refine Wp.p (pc' := 2) d_hashOf_1 rfl rfl ?_
  refine Wp.callP (a := 1) (as := [.int x1]) (rest := []) (w := 0) (F' := 0) (Lb' := 0) d_hashOf_2 ca_c52_1 rfl rfl rfl rfl (by decide) (by decide) (Nat.le_of_ble_eq_true rfl) ?_
  refine L_isName_0 ?_
  intro v1 e1
  show W_hashOf 5 [.val (.ref 1), .val (.int x1)] [.int (v1 &&& 1)] ((LL1 n), mi, ml, RR1) Q
  refine Wp.if_ne d_hashOf_5 rfl (fun c2 => ?_) (fun c2 => ?_)
  ·
    refine Wp.p (pc' := 11) d_hashOf_10 rfl rfl ?_
    refine Wp.p (pc' := 12) d_hashOf_11 rfl rfl ?_
    refine Wp.callP (a := 1) (as := [.int x1]) (rest := []) (w := 0) (F' := 0) (Lb' := 0) d_hashOf_12 ca_c56_1 rfl rfl rfl rfl (by decide) (by decide) (Nat.le_of_ble_eq_true rfl) ?_
    exact (h1 v1 e1 c2)
  ·
    refine Wp.iconst (-1 : Int32) d_hashOf_8 (by decide) ?_
    refine Wp.retI d_hashOf_9 ?_
    exact (h2 v1 e1 c2)
set_option maxRecDepth 65536 in
set_option maxHeartbeats 4000000 in
theorem L_hashOf_15 {n : Nat} {x1 y0 : Int32} {mi : Nat → Nat → Int32} {ml : Nat → Nat → Int64} {Q : Option Value → EMem → Prop}
    (h1 : Q (some (.int y0)) ((LL1 n), mi, ml, RR1)) :
    W_hashOf 15 [.val (.ref 1), .val (.int x1)] [.int y0] ((LL1 n), mi, ml, RR1) Q := by
  refine Wp.retI d_hashOf_15 ?_
  exact h1
set_option maxRecDepth 65536 in
set_option maxHeartbeats 4000000 in
theorem L_findLeafPos_0 {n : Nat} {x1 : Int32} {mi : Nat → Nat → Int32} {ml : Nat → Nat → Int64} {Q : Option Value → EMem → Prop}
    (h1 : W_findLeafPos 15 [.val (.ref 1), .val (.int x1), .val (.int (0 : Int32)), .val (.int ((mi 1 40) - (1 : Int32))), .val (.int (0 : Int32)), .val (.int (0 : Int32)), .unset] [] ((LL1 n), mi, ml, RR1) Q) :
    W_findLeafPos 0 [.val (.ref 1), .val (.int x1), .unset, .unset, .unset, .unset, .unset] [] ((LL1 n), mi, ml, RR1) Q := by
  refine Wp.iconst (0 : Int32) d_findLeafPos_0 (by decide) ?_
  refine Wp.p (pc' := 2) d_findLeafPos_1 rfl rfl ?_
  refine Wp.p (pc' := 3) d_findLeafPos_2 rfl rfl ?_
  refine Wp.getI (mi 1 40) d_findLeafPos_3 fa_c46 rfl rfl ?_
  refine Wp.iconst (1 : Int32) d_findLeafPos_6 (by decide) ?_
  refine Wp.p (pc' := 8) d_findLeafPos_7 rfl rfl ?_
  refine Wp.p (pc' := 9) d_findLeafPos_8 rfl rfl ?_
  refine Wp.iconst (0 : Int32) d_findLeafPos_9 (by decide) ?_
  refine Wp.p (pc' := 12) d_findLeafPos_10 rfl rfl ?_
  refine Wp.iconst (0 : Int32) d_findLeafPos_12 (by decide) ?_
  refine Wp.p (pc' := 15) d_findLeafPos_13 rfl rfl ?_
  exact h1
set_option maxRecDepth 65536 in
set_option maxHeartbeats 4000000 in
theorem L_findLeafPos_15 {n : Nat} {x1 x2 x3 x4 x5 : Int32} {s6 : Slot} {mi : Nat → Nat → Int32} {ml : Nat → Nat → Int64} {Q : Option Value → EMem → Prop} (o6 : One s6)
    (h1 : ¬ x5 < (8 : Int32) → Q (some (.int x4)) ((LL1 n), mi, ml, RR1))
    (h2 : x5 < (8 : Int32) → x3 < x2 → Q (some (.int x4)) ((LL1 n), mi, ml, RR1))
    (b1 : x5 < (8 : Int32) → ¬ x3 < x2 → inb ((XT.ushr (x2 + x3) (1 : Int32)) &&& (31 : Int32)) 32 = true)
    (b2 : x5 < (8 : Int32) → ¬ x3 < x2 → inb ((mi 6 (Int32.toNatClampNeg ((XT.ushr (x2 + x3) (1 : Int32)) &&& (31 : Int32)))) * (4 : Int32)) 128 = true)
    (h3 : x5 < (8 : Int32) → ¬ x3 < x2 → ∀ v3 : Int32, v3 = (if x1 < (mi 2 (Int32.toNatClampNeg ((mi 6 (Int32.toNatClampNeg ((XT.ushr (x2 + x3) (1 : Int32)) &&& (31 : Int32)))) * (4 : Int32)))) then x2 else ((XT.ushr (x2 + x3) (1 : Int32)) + (1 : Int32))) → ∀ v4 : Int32, v4 = (if x1 < (mi 2 (Int32.toNatClampNeg ((mi 6 (Int32.toNatClampNeg ((XT.ushr (x2 + x3) (1 : Int32)) &&& (31 : Int32)))) * (4 : Int32)))) then ((XT.ushr (x2 + x3) (1 : Int32)) - (1 : Int32)) else x3) → ∀ v5 : Int32, v5 = (if x1 < (mi 2 (Int32.toNatClampNeg ((mi 6 (Int32.toNatClampNeg ((XT.ushr (x2 + x3) (1 : Int32)) &&& (31 : Int32)))) * (4 : Int32)))) then x4 else (XT.ushr (x2 + x3) (1 : Int32))) → W_findLeafPos 15 [.val (.ref 1), .val (.int x1), .val (.int v3), .val (.int v4), .val (.int v5), .val (.int (x5 + (1 : Int32))), .val (.int (XT.ushr (x2 + x3) (1 : Int32)))] [] ((LL1 n), mi, ml, RR1) Q) :
    W_findLeafPos 15 [.val (.ref 1), .val (.int x1), .val (.int x2), .val (.int x3), .val (.int x4), .val (.int x5), s6] [] ((LL1 n), mi, ml, RR1) Q := by
  refine Wp.p (pc' := 17) d_findLeafPos_15 rfl rfl ?_
  refine Wp.bipush (8 : Int32) d_findLeafPos_17 (by decide) ?_
  refine Wp.icmp_ge d_findLeafPos_19 rfl (fun c1 => ?_) (fun c1 => ?_)
  ·
    refine Wp.p (pc' := 69) d_findLeafPos_67 rfl rfl ?_
    refine Wp.retI d_findLeafPos_69 ?_
    exact (h1 c1)
  ·
    refine Wp.p (pc' := 23) d_findLeafPos_22 rfl rfl ?_
    refine Wp.p (pc' := 24) d_findLeafPos_23 rfl rfl ?_
    refine Wp.icmp_gt d_findLeafPos_24 rfl (fun c2 => ?_) (fun c2 => ?_)
    ·
      refine Wp.p (pc' := 69) d_findLeafPos_67 rfl rfl ?_
      refine Wp.retI d_findLeafPos_69 ?_
      exact (h2 c1 c2)
    ·
      refine Wp.p (pc' := 28) d_findLeafPos_27 rfl rfl ?_
      refine Wp.p (pc' := 29) d_findLeafPos_28 rfl rfl ?_
      refine Wp.p (pc' := 30) d_findLeafPos_29 rfl rfl ?_
      refine Wp.iconst (1 : Int32) d_findLeafPos_30 (by decide) ?_
      refine Wp.p (pc' := 32) d_findLeafPos_31 rfl rfl ?_
      refine Wp.istoreO (i := 6) d_findLeafPos_32 (Or.inl ⟨rfl, rfl⟩) rfl o6 rfl ?_
      show Wp _ _ _ _ _ _ _ 34 _ _ _ _
      refine Wp.p (pc' := 35) d_findLeafPos_34 rfl rfl ?_
      refine Wp.p (pc' := 37) d_findLeafPos_35 rfl rfl ?_
      refine Wp.callP (a := 1) (as := [.int (XT.ushr (x2 + x3) (1 : Int32))]) (rest := []) (w := 0) (F' := 0) (Lb' := 0) d_findLeafPos_37 ca_c100_1 rfl rfl rfl rfl (by decide) (by decide) (Nat.le_of_ble_eq_true rfl) ?_
      refine L_keyAt_0 ?_ ?_ ?_
      · first | decide | exact (b1 c1 c2) | exact (b2 c1 c2)
      · first | decide | exact (b1 c1 c2) | exact (b2 c1 c2)
      show W_findLeafPos 40 [.val (.ref 1), .val (.int x1), .val (.int x2), .val (.int x3), .val (.int x4), .val (.int x5), .val (.int (XT.ushr (x2 + x3) (1 : Int32)))] [.int (mi 2 (Int32.toNatClampNeg ((mi 6 (Int32.toNatClampNeg ((XT.ushr (x2 + x3) (1 : Int32)) &&& (31 : Int32)))) * (4 : Int32))))] ((LL1 n), mi, ml, RR1) Q
      refine Wp.p (pc' := 41) d_findLeafPos_40 rfl rfl ?_
      obtain ⟨v3, e3⟩ : ∃ z : Int32, z = (if x1 < (mi 2 (Int32.toNatClampNeg ((mi 6 (Int32.toNatClampNeg ((XT.ushr (x2 + x3) (1 : Int32)) &&& (31 : Int32)))) * (4 : Int32)))) then x2 else ((XT.ushr (x2 + x3) (1 : Int32)) + (1 : Int32))) := ⟨_, rfl⟩
      obtain ⟨v4, e4⟩ : ∃ z : Int32, z = (if x1 < (mi 2 (Int32.toNatClampNeg ((mi 6 (Int32.toNatClampNeg ((XT.ushr (x2 + x3) (1 : Int32)) &&& (31 : Int32)))) * (4 : Int32)))) then ((XT.ushr (x2 + x3) (1 : Int32)) - (1 : Int32)) else x3) := ⟨_, rfl⟩
      obtain ⟨v5, e5⟩ : ∃ z : Int32, z = (if x1 < (mi 2 (Int32.toNatClampNeg ((mi 6 (Int32.toNatClampNeg ((XT.ushr (x2 + x3) (1 : Int32)) &&& (31 : Int32)))) * (4 : Int32)))) then x4 else (XT.ushr (x2 + x3) (1 : Int32))) := ⟨_, rfl⟩
      suffices K : W_findLeafPos 61 [.val (.ref 1), .val (.int x1), .val (.int v3), .val (.int v4), .val (.int v5), .val (.int x5), .val (.int (XT.ushr (x2 + x3) (1 : Int32)))] [] ((LL1 n), mi, ml, RR1) Q by
        refine Wp.icmp_gt d_findLeafPos_41 rfl (fun q0 => ?_) (fun q0 => ?_)
        ·
          refine Wp.p (pc' := 58) d_findLeafPos_56 rfl rfl ?_
          refine Wp.iconst (1 : Int32) d_findLeafPos_58 (by decide) ?_
          refine Wp.p (pc' := 60) d_findLeafPos_59 rfl rfl ?_
          refine Wp.p (pc' := 61) d_findLeafPos_60 rfl rfl ?_
          rw [if_pos q0] at e3; subst e3
          rw [if_pos q0] at e4; subst e4
          rw [if_pos q0] at e5; subst e5
          exact K
        ·
          refine Wp.p (pc' := 46) d_findLeafPos_44 rfl rfl ?_
          refine Wp.p (pc' := 48) d_findLeafPos_46 rfl rfl ?_
          refine Wp.p (pc' := 50) d_findLeafPos_48 rfl rfl ?_
          refine Wp.iconst (1 : Int32) d_findLeafPos_50 (by decide) ?_
          refine Wp.p (pc' := 52) d_findLeafPos_51 rfl rfl ?_
          refine Wp.p (pc' := 53) d_findLeafPos_52 rfl rfl ?_
          refine Wp.p (pc' := 61) d_findLeafPos_53 rfl rfl ?_
          rw [if_neg q0] at e3; subst e3
          rw [if_neg q0] at e4; subst e4
          rw [if_neg q0] at e5; subst e5
          exact K
      refine Wp.iinc (1 : Int32) d_findLeafPos_61 (by decide) rfl rfl ?_
      refine Wp.p (pc' := 15) d_findLeafPos_64 rfl rfl ?_
      exact (h3 c1 c2 v3 e3 v4 e4 v5 e5)
set_option maxRecDepth 65536 in
set_option maxHeartbeats 4000000 in
theorem L_locate_0 {n : Nat} {x1 : Int32} {mi : Nat → Nat → Int32} {ml : Nat → Nat → Int64} {Q : Option Value → EMem → Prop}
    (h1 : (0 : Int32) < (mi 1 40) → W_findLeafPos 0 [.val (.ref 1), .val (.int x1), .unset, .unset, .unset, .unset, .unset] [] ((LL1 n), mi, ml, RR1) (fun v M' => W_locate 14 [.val (.ref 1), .val (.int x1), .unset, .unset, .unset, .unset, .unset] (v.toList ++ []) M' Q))
    (h2 : ¬ (0 : Int32) < (mi 1 40) → Q (some (.int (-1 : Int32))) ((LL1 n), mi, ml, RR1)) :
    W_locate 0 [.val (.ref 1), .val (.int x1), .unset, .unset, .unset, .unset, .unset] [] ((LL1 n), mi, ml, RR1) Q := by
  refine Wp.p (pc' := 1) d_locate_0 rfl rfl ?_
  refine Wp.getI (mi 1 40) d_locate_1 fa_c46 rfl rfl ?_
  refine Wp.if_gt d_locate_4 rfl (fun c1 => ?_) (fun c1 => ?_)
  ·
    refine Wp.p (pc' := 10) d_locate_9 rfl rfl ?_
    refine Wp.p (pc' := 11) d_locate_10 rfl rfl ?_
    refine Wp.callP (a := 1) (as := [.int x1]) (rest := []) (w := 0) (F' := 1) (Lb' := 14) d_locate_11 ca_c67_1 rfl rfl rfl rfl (by decide) (by decide) (Nat.le_of_ble_eq_true rfl) ?_
    exact (h1 c1)
  ·
    refine Wp.iconst (-1 : Int32) d_locate_7 (by decide) ?_
    refine Wp.retI d_locate_8 ?_
    exact (h2 c1)
set_option maxRecDepth 65536 in
set_option maxHeartbeats 4000000 in
theorem L_locate_14 {n : Nat} {x1 y0 : Int32} {mi : Nat → Nat → Int32} {ml : Nat → Nat → Int64} {Q : Option Value → EMem → Prop}
    (b1 : inb y0 32 = true)
    (b2 : inb (mi 6 (Int32.toNatClampNeg y0)) 32 = true)
    (h1 : W_locate 38 [.val (.ref 1), .val (.int x1), .val (.int y0), .val (.int (mi 6 (Int32.toNatClampNeg y0))), .val (.int ((mi 6 (Int32.toNatClampNeg y0)) * (4 : Int32))), .val (.int (mi 5 (Int32.toNatClampNeg (mi 6 (Int32.toNatClampNeg y0))))), .val (.int (0 : Int32))] [] ((LL1 n), mi, ml, RR1) Q) :
    W_locate 14 [.val (.ref 1), .val (.int x1), .unset, .unset, .unset, .unset, .unset] [.int y0] ((LL1 n), mi, ml, RR1) Q := by
  refine Wp.p (pc' := 15) d_locate_14 rfl rfl ?_
  refine Wp.p (pc' := 16) d_locate_15 rfl rfl ?_
  refine Wp.getR (b := 6) d_locate_16 fa_c22 rfl rfl ?_
  refine Wp.p (pc' := 20) d_locate_19 rfl rfl ?_
  refine Wp.iaload (mi 6 (Int32.toNatClampNeg y0)) d_locate_20 rfl (k := (Int32.toNatClampNeg y0)) rfl b1 rfl ?_
  refine Wp.p (pc' := 22) d_locate_21 rfl rfl ?_
  refine Wp.p (pc' := 23) d_locate_22 rfl rfl ?_
  refine Wp.iconst (4 : Int32) d_locate_23 (by decide) ?_
  refine Wp.p (pc' := 25) d_locate_24 rfl rfl ?_
  refine Wp.p (pc' := 27) d_locate_25 rfl rfl ?_
  refine Wp.p (pc' := 28) d_locate_27 rfl rfl ?_
  refine Wp.getR (b := 5) d_locate_28 fa_c19 rfl rfl ?_
  refine Wp.p (pc' := 32) d_locate_31 rfl rfl ?_
  refine Wp.iaload (mi 5 (Int32.toNatClampNeg (mi 6 (Int32.toNatClampNeg y0)))) d_locate_32 rfl (k := (Int32.toNatClampNeg (mi 6 (Int32.toNatClampNeg y0)))) rfl b2 rfl ?_
  refine Wp.p (pc' := 35) d_locate_33 rfl rfl ?_
  refine Wp.iconst (0 : Int32) d_locate_35 (by decide) ?_
  refine Wp.p (pc' := 38) d_locate_36 rfl rfl ?_
  exact h1
set_option maxRecDepth 65536 in
set_option maxHeartbeats 4000000 in
theorem L_locate_38 {n : Nat} {x1 x2 x3 x4 x5 x6 : Int32} {mi : Nat → Nat → Int32} {ml : Nat → Nat → Int64} {Q : Option Value → EMem → Prop}
    (h1 : ¬ x6 < x5 → Q (some (.int (-1 : Int32))) ((LL1 n), mi, ml, RR1))
    (h2 : x6 < x5 → ¬ x6 < (4 : Int32) → Q (some (.int (-1 : Int32))) ((LL1 n), mi, ml, RR1))
    (b1 : x6 < x5 → x6 < (4 : Int32) → inb (x4 + x6) 128 = true)
    (h3 : x6 < x5 → x6 < (4 : Int32) → ¬ (mi 2 (Int32.toNatClampNeg (x4 + x6))) = x1 → W_locate 38 [.val (.ref 1), .val (.int x1), .val (.int x2), .val (.int x3), .val (.int x4), .val (.int x5), .val (.int (x6 + (1 : Int32)))] [] ((LL1 n), mi, ml, RR1) Q)
    (h4 : x6 < x5 → x6 < (4 : Int32) → (mi 2 (Int32.toNatClampNeg (x4 + x6))) = x1 → Q (some (.int ((x2 * (4 : Int32)) + x6))) ((LL1 n), mi, ml, RR1)) :
    W_locate 38 [.val (.ref 1), .val (.int x1), .val (.int x2), .val (.int x3), .val (.int x4), .val (.int x5), .val (.int x6)] [] ((LL1 n), mi, ml, RR1) Q := by
  refine Wp.p (pc' := 40) d_locate_38 rfl rfl ?_
  refine Wp.p (pc' := 42) d_locate_40 rfl rfl ?_
  refine Wp.icmp_ge d_locate_42 rfl (fun c1 => ?_) (fun c1 => ?_)
  ·
    refine Wp.iconst (-1 : Int32) d_locate_78 (by decide) ?_
    refine Wp.retI d_locate_79 ?_
    exact (h1 c1)
  ·
    refine Wp.p (pc' := 47) d_locate_45 rfl rfl ?_
    refine Wp.iconst (4 : Int32) d_locate_47 (by decide) ?_
    refine Wp.icmp_ge d_locate_48 rfl (fun c2 => ?_) (fun c2 => ?_)
    ·
      refine Wp.iconst (-1 : Int32) d_locate_78 (by decide) ?_
      refine Wp.retI d_locate_79 ?_
      exact (h2 c1 c2)
    ·
      refine Wp.p (pc' := 52) d_locate_51 rfl rfl ?_
      refine Wp.getR (b := 2) d_locate_52 fa_c7 rfl rfl ?_
      refine Wp.p (pc' := 57) d_locate_55 rfl rfl ?_
      refine Wp.p (pc' := 59) d_locate_57 rfl rfl ?_
      refine Wp.p (pc' := 60) d_locate_59 rfl rfl ?_
      refine Wp.iaload (mi 2 (Int32.toNatClampNeg (x4 + x6))) d_locate_60 rfl (k := (Int32.toNatClampNeg (x4 + x6))) rfl (b1 c1 c2) rfl ?_
      refine Wp.p (pc' := 62) d_locate_61 rfl rfl ?_
      refine Wp.icmp_ne d_locate_62 rfl (fun c3 => ?_) (fun c3 => ?_)
      ·
        refine Wp.iinc (1 : Int32) d_locate_72 (by decide) rfl rfl ?_
        refine Wp.p (pc' := 38) d_locate_75 rfl rfl ?_
        exact (h3 c1 c2 c3)
      ·
        refine Wp.p (pc' := 66) d_locate_65 rfl rfl ?_
        refine Wp.iconst (4 : Int32) d_locate_66 (by decide) ?_
        refine Wp.p (pc' := 68) d_locate_67 rfl rfl ?_
        refine Wp.p (pc' := 70) d_locate_68 rfl rfl ?_
        refine Wp.p (pc' := 71) d_locate_70 rfl rfl ?_
        refine Wp.retI d_locate_71 ?_
        exact (h4 c1 c2 c3)
set_option maxRecDepth 65536 in
set_option maxHeartbeats 4000000 in
theorem L_firstAtLeast_0 {n : Nat} {x1 : Int32} {mi : Nat → Nat → Int32} {ml : Nat → Nat → Int64} {Q : Option Value → EMem → Prop}
    (h1 : (0 : Int32) < (mi 1 40) → W_findLeafPos 0 [.val (.ref 1), .val (.int x1), .unset, .unset, .unset, .unset, .unset] [] ((LL1 n), mi, ml, RR1) (fun v M' => W_firstAtLeast 14 [.val (.ref 1), .val (.int x1), .unset, .unset, .unset, .unset, .unset] (v.toList ++ []) M' Q))
    (h2 : ¬ (0 : Int32) < (mi 1 40) → Q (some (.int (-1 : Int32))) ((LL1 n), mi, ml, RR1)) :
    W_firstAtLeast 0 [.val (.ref 1), .val (.int x1), .unset, .unset, .unset, .unset, .unset] [] ((LL1 n), mi, ml, RR1) Q := by
  refine Wp.p (pc' := 1) d_firstAtLeast_0 rfl rfl ?_
  refine Wp.getI (mi 1 40) d_firstAtLeast_1 fa_c46 rfl rfl ?_
  refine Wp.if_gt d_firstAtLeast_4 rfl (fun c1 => ?_) (fun c1 => ?_)
  ·
    refine Wp.p (pc' := 10) d_firstAtLeast_9 rfl rfl ?_
    refine Wp.p (pc' := 11) d_firstAtLeast_10 rfl rfl ?_
    refine Wp.callP (a := 1) (as := [.int x1]) (rest := []) (w := 0) (F' := 1) (Lb' := 14) d_firstAtLeast_11 ca_c67_1 rfl rfl rfl rfl (by decide) (by decide) (Nat.le_of_ble_eq_true rfl) ?_
    exact (h1 c1)
  ·
    refine Wp.iconst (-1 : Int32) d_firstAtLeast_7 (by decide) ?_
    refine Wp.retI d_firstAtLeast_8 ?_
    exact (h2 c1)
set_option maxRecDepth 65536 in
set_option maxHeartbeats 4000000 in
theorem L_firstAtLeast_14 {n : Nat} {x1 y0 : Int32} {mi : Nat → Nat → Int32} {ml : Nat → Nat → Int64} {Q : Option Value → EMem → Prop}
    (b1 : inb y0 32 = true)
    (b2 : inb (mi 6 (Int32.toNatClampNeg y0)) 32 = true)
    (h1 : W_firstAtLeast 38 [.val (.ref 1), .val (.int x1), .val (.int y0), .val (.int (mi 6 (Int32.toNatClampNeg y0))), .val (.int ((mi 6 (Int32.toNatClampNeg y0)) * (4 : Int32))), .val (.int (mi 5 (Int32.toNatClampNeg (mi 6 (Int32.toNatClampNeg y0))))), .val (.int (0 : Int32))] [] ((LL1 n), mi, ml, RR1) Q) :
    W_firstAtLeast 14 [.val (.ref 1), .val (.int x1), .unset, .unset, .unset, .unset, .unset] [.int y0] ((LL1 n), mi, ml, RR1) Q := by
  refine Wp.p (pc' := 15) d_firstAtLeast_14 rfl rfl ?_
  refine Wp.p (pc' := 16) d_firstAtLeast_15 rfl rfl ?_
  refine Wp.getR (b := 6) d_firstAtLeast_16 fa_c22 rfl rfl ?_
  refine Wp.p (pc' := 20) d_firstAtLeast_19 rfl rfl ?_
  refine Wp.iaload (mi 6 (Int32.toNatClampNeg y0)) d_firstAtLeast_20 rfl (k := (Int32.toNatClampNeg y0)) rfl b1 rfl ?_
  refine Wp.p (pc' := 22) d_firstAtLeast_21 rfl rfl ?_
  refine Wp.p (pc' := 23) d_firstAtLeast_22 rfl rfl ?_
  refine Wp.iconst (4 : Int32) d_firstAtLeast_23 (by decide) ?_
  refine Wp.p (pc' := 25) d_firstAtLeast_24 rfl rfl ?_
  refine Wp.p (pc' := 27) d_firstAtLeast_25 rfl rfl ?_
  refine Wp.p (pc' := 28) d_firstAtLeast_27 rfl rfl ?_
  refine Wp.getR (b := 5) d_firstAtLeast_28 fa_c19 rfl rfl ?_
  refine Wp.p (pc' := 32) d_firstAtLeast_31 rfl rfl ?_
  refine Wp.iaload (mi 5 (Int32.toNatClampNeg (mi 6 (Int32.toNatClampNeg y0)))) d_firstAtLeast_32 rfl (k := (Int32.toNatClampNeg (mi 6 (Int32.toNatClampNeg y0)))) rfl b2 rfl ?_
  refine Wp.p (pc' := 35) d_firstAtLeast_33 rfl rfl ?_
  refine Wp.iconst (0 : Int32) d_firstAtLeast_35 (by decide) ?_
  refine Wp.p (pc' := 38) d_firstAtLeast_36 rfl rfl ?_
  exact h1
set_option maxRecDepth 65536 in
set_option maxHeartbeats 4000000 in
theorem L_firstAtLeast_38 {n : Nat} {x1 x2 x3 x4 x5 x6 : Int32} {mi : Nat → Nat → Int32} {ml : Nat → Nat → Int64} {Q : Option Value → EMem → Prop}
    (h1 : ¬ x6 < x5 → W_firstAtLeast 78 [.val (.ref 1), .val (.int x1), .val (.int x2), .val (.int x3), .val (.int x4), .val (.int x5), .val (.int x6)] [] ((LL1 n), mi, ml, RR1) Q)
    (h2 : x6 < x5 → ¬ x6 < (4 : Int32) → W_firstAtLeast 78 [.val (.ref 1), .val (.int x1), .val (.int x2), .val (.int x3), .val (.int x4), .val (.int x5), .val (.int x6)] [] ((LL1 n), mi, ml, RR1) Q)
    (b1 : x6 < x5 → x6 < (4 : Int32) → inb (x4 + x6) 128 = true)
    (h3 : x6 < x5 → x6 < (4 : Int32) → (mi 2 (Int32.toNatClampNeg (x4 + x6))) < x1 → W_firstAtLeast 38 [.val (.ref 1), .val (.int x1), .val (.int x2), .val (.int x3), .val (.int x4), .val (.int x5), .val (.int (x6 + (1 : Int32)))] [] ((LL1 n), mi, ml, RR1) Q)
    (h4 : x6 < x5 → x6 < (4 : Int32) → ¬ (mi 2 (Int32.toNatClampNeg (x4 + x6))) < x1 → Q (some (.int ((x2 * (4 : Int32)) + x6))) ((LL1 n), mi, ml, RR1)) :
    W_firstAtLeast 38 [.val (.ref 1), .val (.int x1), .val (.int x2), .val (.int x3), .val (.int x4), .val (.int x5), .val (.int x6)] [] ((LL1 n), mi, ml, RR1) Q := by
  refine Wp.p (pc' := 40) d_firstAtLeast_38 rfl rfl ?_
  refine Wp.p (pc' := 42) d_firstAtLeast_40 rfl rfl ?_
  refine Wp.icmp_ge d_firstAtLeast_42 rfl (fun c1 => ?_) (fun c1 => ?_)
  ·
    exact (h1 c1)
  ·
    refine Wp.p (pc' := 47) d_firstAtLeast_45 rfl rfl ?_
    refine Wp.iconst (4 : Int32) d_firstAtLeast_47 (by decide) ?_
    refine Wp.icmp_ge d_firstAtLeast_48 rfl (fun c2 => ?_) (fun c2 => ?_)
    ·
      exact (h2 c1 c2)
    ·
      refine Wp.p (pc' := 52) d_firstAtLeast_51 rfl rfl ?_
      refine Wp.getR (b := 2) d_firstAtLeast_52 fa_c7 rfl rfl ?_
      refine Wp.p (pc' := 57) d_firstAtLeast_55 rfl rfl ?_
      refine Wp.p (pc' := 59) d_firstAtLeast_57 rfl rfl ?_
      refine Wp.p (pc' := 60) d_firstAtLeast_59 rfl rfl ?_
      refine Wp.iaload (mi 2 (Int32.toNatClampNeg (x4 + x6))) d_firstAtLeast_60 rfl (k := (Int32.toNatClampNeg (x4 + x6))) rfl (b1 c1 c2) rfl ?_
      refine Wp.p (pc' := 62) d_firstAtLeast_61 rfl rfl ?_
      refine Wp.icmp_lt d_firstAtLeast_62 rfl (fun c3 => ?_) (fun c3 => ?_)
      ·
        refine Wp.iinc (1 : Int32) d_firstAtLeast_72 (by decide) rfl rfl ?_
        refine Wp.p (pc' := 38) d_firstAtLeast_75 rfl rfl ?_
        exact (h3 c1 c2 c3)
      ·
        refine Wp.p (pc' := 66) d_firstAtLeast_65 rfl rfl ?_
        refine Wp.iconst (4 : Int32) d_firstAtLeast_66 (by decide) ?_
        refine Wp.p (pc' := 68) d_firstAtLeast_67 rfl rfl ?_
        refine Wp.p (pc' := 70) d_firstAtLeast_68 rfl rfl ?_
        refine Wp.p (pc' := 71) d_firstAtLeast_70 rfl rfl ?_
        refine Wp.retI d_firstAtLeast_71 ?_
        exact (h4 c1 c2 c3)
set_option maxRecDepth 65536 in
set_option maxHeartbeats 4000000 in
theorem L_firstAtLeast_78 {n : Nat} {x1 x2 x3 x4 x5 x6 : Int32} {mi : Nat → Nat → Int32} {ml : Nat → Nat → Int64} {Q : Option Value → EMem → Prop}
    (h1 : ∀ v1 : Int32, v1 = (if (x2 + (1 : Int32)) < (mi 1 40) then ((x2 + (1 : Int32)) * (4 : Int32)) else (-1 : Int32)) → Q (some (.int v1)) ((LL1 n), mi, ml, RR1)) :
    W_firstAtLeast 78 [.val (.ref 1), .val (.int x1), .val (.int x2), .val (.int x3), .val (.int x4), .val (.int x5), .val (.int x6)] [] ((LL1 n), mi, ml, RR1) Q := by
  refine Wp.p (pc' := 79) d_firstAtLeast_78 rfl rfl ?_
  refine Wp.iconst (1 : Int32) d_firstAtLeast_79 (by decide) ?_
  refine Wp.p (pc' := 81) d_firstAtLeast_80 rfl rfl ?_
  refine Wp.p (pc' := 82) d_firstAtLeast_81 rfl rfl ?_
  refine Wp.getI (mi 1 40) d_firstAtLeast_82 fa_c46 rfl rfl ?_
  obtain ⟨v1, e1⟩ : ∃ z : Int32, z = (if (x2 + (1 : Int32)) < (mi 1 40) then ((x2 + (1 : Int32)) * (4 : Int32)) else (-1 : Int32)) := ⟨_, rfl⟩
  suffices K : Q (some (.int v1)) ((LL1 n), mi, ml, RR1) by
    refine Wp.icmp_ge d_firstAtLeast_85 rfl (fun q0 => ?_) (fun q0 => ?_)
    ·
      refine Wp.iconst (-1 : Int32) d_firstAtLeast_94 (by decide) ?_
      refine Wp.retI d_firstAtLeast_95 ?_
      rw [if_neg q0] at e1; subst e1
      exact K
    ·
      refine Wp.p (pc' := 89) d_firstAtLeast_88 rfl rfl ?_
      refine Wp.iconst (1 : Int32) d_firstAtLeast_89 (by decide) ?_
      refine Wp.p (pc' := 91) d_firstAtLeast_90 rfl rfl ?_
      refine Wp.iconst (4 : Int32) d_firstAtLeast_91 (by decide) ?_
      refine Wp.p (pc' := 93) d_firstAtLeast_92 rfl rfl ?_
      refine Wp.retI d_firstAtLeast_93 ?_
      rw [if_pos q0] at e1; subst e1
      exact K
  exact (h1 v1 e1)
set_option maxRecDepth 65536 in
set_option maxHeartbeats 4000000 in
theorem L_entryIndex_0 {n : Nat} {x1 : Int32} {mi : Nat → Nat → Int32} {ml : Nat → Nat → Int64} {Q : Option Value → EMem → Prop}
    (b1 : inb ((XT.ushr x1 (2 : Int32)) &&& (31 : Int32)) 32 = true)
    (h1 : Q (some (.int (((mi 6 (Int32.toNatClampNeg ((XT.ushr x1 (2 : Int32)) &&& (31 : Int32)))) * (4 : Int32)) + (x1 &&& (3 : Int32))))) ((LL1 n), mi, ml, RR1)) :
    W_entryIndex 0 [.val (.ref 1), .val (.int x1), .unset] [] ((LL1 n), mi, ml, RR1) Q := by
  refine Wp.p (pc' := 1) d_entryIndex_0 rfl rfl ?_
  refine Wp.getR (b := 6) d_entryIndex_1 fa_c22 rfl rfl ?_
  refine Wp.p (pc' := 5) d_entryIndex_4 rfl rfl ?_
  refine Wp.iconst (2 : Int32) d_entryIndex_5 (by decide) ?_
  refine Wp.p (pc' := 7) d_entryIndex_6 rfl rfl ?_
  refine Wp.bipush (31 : Int32) d_entryIndex_7 (by decide) ?_
  refine Wp.p (pc' := 10) d_entryIndex_9 rfl rfl ?_
  refine Wp.iaload (mi 6 (Int32.toNatClampNeg ((XT.ushr x1 (2 : Int32)) &&& (31 : Int32)))) d_entryIndex_10 rfl (k := (Int32.toNatClampNeg ((XT.ushr x1 (2 : Int32)) &&& (31 : Int32)))) rfl b1 rfl ?_
  refine Wp.p (pc' := 12) d_entryIndex_11 rfl rfl ?_
  refine Wp.p (pc' := 13) d_entryIndex_12 rfl rfl ?_
  refine Wp.iconst (4 : Int32) d_entryIndex_13 (by decide) ?_
  refine Wp.p (pc' := 15) d_entryIndex_14 rfl rfl ?_
  refine Wp.p (pc' := 16) d_entryIndex_15 rfl rfl ?_
  refine Wp.iconst (3 : Int32) d_entryIndex_16 (by decide) ?_
  refine Wp.p (pc' := 18) d_entryIndex_17 rfl rfl ?_
  refine Wp.p (pc' := 19) d_entryIndex_18 rfl rfl ?_
  refine Wp.retI d_entryIndex_19 ?_
  exact h1
set_option maxRecDepth 65536 in
set_option maxHeartbeats 4000000 in
theorem L_allocLeaf_0 {n : Nat} {mi : Nat → Nat → Int32} {ml : Nat → Nat → Int64} {Q : Option Value → EMem → Prop}
    (b1 : (0 : Int32) < (mi 1 42) → inb ((mi 1 42) - (1 : Int32)) 32 = true)
    (b2 : (0 : Int32) < (mi 1 42) → inb ((mi 7 (Int32.toNatClampNeg ((mi 1 42) - (1 : Int32)))) &&& (31 : Int32)) 32 = true)
    (h1 : (0 : Int32) < (mi 1 42) → Q (some (.int ((mi 7 (Int32.toNatClampNeg ((mi 1 42) - (1 : Int32)))) &&& (31 : Int32)))) ((LL1 n), (up (up mi 1 42 ((mi 1 42) - (1 : Int32))) 5 (Int32.toNatClampNeg ((mi 7 (Int32.toNatClampNeg ((mi 1 42) - (1 : Int32)))) &&& (31 : Int32))) (0 : Int32)), ml, RR1))
    (h2 : ¬ (0 : Int32) < (mi 1 42) → Q (some (.int (-1 : Int32))) ((LL1 n), mi, ml, RR1)) :
    W_allocLeaf 0 [.val (.ref 1), .unset] [] ((LL1 n), mi, ml, RR1) Q := by
  refine Wp.p (pc' := 1) d_allocLeaf_0 rfl rfl ?_
  refine Wp.getI (mi 1 42) d_allocLeaf_1 fa_c49 rfl rfl ?_
  refine Wp.if_gt d_allocLeaf_4 rfl (fun c1 => ?_) (fun c1 => ?_)
  ·
    refine Wp.p (pc' := 10) d_allocLeaf_9 rfl rfl ?_
    refine Wp.p (pc' := 11) d_allocLeaf_10 rfl rfl ?_
    refine Wp.getI (mi 1 42) d_allocLeaf_11 fa_c49 rfl rfl ?_
    refine Wp.iconst (1 : Int32) d_allocLeaf_14 (by decide) ?_
    refine Wp.p (pc' := 16) d_allocLeaf_15 rfl rfl ?_
    refine Wp.putI d_allocLeaf_16 fa_c49 rfl (by decide) in_HtreeDir (Or.inl rfl) ?_
    refine Wp.p (pc' := 20) d_allocLeaf_19 rfl rfl ?_
    refine Wp.getR (b := 7) d_allocLeaf_20 fa_c25 rfl rfl ?_
    refine Wp.p (pc' := 24) d_allocLeaf_23 rfl rfl ?_
    refine Wp.getI ((mi 1 42) - (1 : Int32)) d_allocLeaf_24 fa_c49 rfl rfl ?_
    refine Wp.iaload (mi 7 (Int32.toNatClampNeg ((mi 1 42) - (1 : Int32)))) d_allocLeaf_27 rfl (k := (Int32.toNatClampNeg ((mi 1 42) - (1 : Int32)))) rfl (b1 c1) rfl ?_
    refine Wp.bipush (31 : Int32) d_allocLeaf_28 (by decide) ?_
    refine Wp.p (pc' := 31) d_allocLeaf_30 rfl rfl ?_
    refine Wp.p (pc' := 32) d_allocLeaf_31 rfl rfl ?_
    refine Wp.p (pc' := 33) d_allocLeaf_32 rfl rfl ?_
    refine Wp.getR (b := 5) d_allocLeaf_33 fa_c19 rfl rfl ?_
    refine Wp.p (pc' := 37) d_allocLeaf_36 rfl rfl ?_
    refine Wp.iconst (0 : Int32) d_allocLeaf_37 (by decide) ?_
    refine Wp.iastore d_allocLeaf_38 rfl (k := (Int32.toNatClampNeg ((mi 7 (Int32.toNatClampNeg ((mi 1 42) - (1 : Int32)))) &&& (31 : Int32)))) rfl (b2 c1) (by decide) ?_
    refine Wp.p (pc' := 40) d_allocLeaf_39 rfl rfl ?_
    refine Wp.retI d_allocLeaf_40 ?_
    exact (h1 c1)
  ·
    refine Wp.iconst (-1 : Int32) d_allocLeaf_7 (by decide) ?_
    refine Wp.retI d_allocLeaf_8 ?_
    exact (h2 c1)
set_option maxRecDepth 65536 in
set_option maxHeartbeats 4000000 in
theorem L_freeLeaf_0 {n : Nat} {x1 : Int32} {mi : Nat → Nat → Int32} {ml : Nat → Nat → Int64} {Q : Option Value → EMem → Prop}
    (b1 : inb (x1 &&& (31 : Int32)) 32 = true)
    (h1 : ¬ (mi 1 42) < (32 : Int32) → Q none ((LL1 n), (up mi 5 (Int32.toNatClampNeg (x1 &&& (31 : Int32))) (0 : Int32)), ml, RR1))
    (b2 : (mi 1 42) < (32 : Int32) → inb (mi 1 42) 32 = true)
    (h2 : (mi 1 42) < (32 : Int32) → Q none ((LL1 n), (up (up (up mi 5 (Int32.toNatClampNeg (x1 &&& (31 : Int32))) (0 : Int32)) 7 (Int32.toNatClampNeg (mi 1 42)) (x1 &&& (31 : Int32))) 1 42 ((mi 1 42) + (1 : Int32))), ml, RR1)) :
    W_freeLeaf 0 [.val (.ref 1), .val (.int x1)] [] ((LL1 n), mi, ml, RR1) Q := by
  refine Wp.p (pc' := 1) d_freeLeaf_0 rfl rfl ?_
  refine Wp.getR (b := 5) d_freeLeaf_1 fa_c19 rfl rfl ?_
  refine Wp.p (pc' := 5) d_freeLeaf_4 rfl rfl ?_
  refine Wp.bipush (31 : Int32) d_freeLeaf_5 (by decide) ?_
  refine Wp.p (pc' := 8) d_freeLeaf_7 rfl rfl ?_
  refine Wp.iconst (0 : Int32) d_freeLeaf_8 (by decide) ?_
  refine Wp.iastore d_freeLeaf_9 rfl (k := (Int32.toNatClampNeg (x1 &&& (31 : Int32)))) rfl b1 (by decide) ?_
  refine Wp.p (pc' := 11) d_freeLeaf_10 rfl rfl ?_
  refine Wp.getI (mi 1 42) d_freeLeaf_11 fa_c49 rfl rfl ?_
  refine Wp.bipush (32 : Int32) d_freeLeaf_14 (by decide) ?_
  refine Wp.icmp_ge d_freeLeaf_16 rfl (fun c1 => ?_) (fun c1 => ?_)
  ·
    refine Wp.retV d_freeLeaf_42 ?_
    exact (h1 c1)
  ·
    refine Wp.p (pc' := 20) d_freeLeaf_19 rfl rfl ?_
    refine Wp.getR (b := 7) d_freeLeaf_20 fa_c25 rfl rfl ?_
    refine Wp.p (pc' := 24) d_freeLeaf_23 rfl rfl ?_
    refine Wp.getI (mi 1 42) d_freeLeaf_24 fa_c49 rfl rfl ?_
    refine Wp.p (pc' := 28) d_freeLeaf_27 rfl rfl ?_
    refine Wp.bipush (31 : Int32) d_freeLeaf_28 (by decide) ?_
    refine Wp.p (pc' := 31) d_freeLeaf_30 rfl rfl ?_
    refine Wp.iastore d_freeLeaf_31 rfl (k := (Int32.toNatClampNeg (mi 1 42))) rfl (b2 c1) (by decide) ?_
    refine Wp.p (pc' := 33) d_freeLeaf_32 rfl rfl ?_
    refine Wp.p (pc' := 34) d_freeLeaf_33 rfl rfl ?_
    refine Wp.getI (mi 1 42) d_freeLeaf_34 fa_c49 rfl rfl ?_
    refine Wp.iconst (1 : Int32) d_freeLeaf_37 (by decide) ?_
    refine Wp.p (pc' := 39) d_freeLeaf_38 rfl rfl ?_
    refine Wp.putI d_freeLeaf_39 fa_c49 rfl (by decide) in_HtreeDir (Or.inl rfl) ?_
    refine Wp.retV d_freeLeaf_42 ?_
    exact (h2 c1)
set_option maxRecDepth 65536 in
set_option maxHeartbeats 4000000 in
theorem L_createFirstLeaf_0 {n : Nat} {mi : Nat → Nat → Int32} {ml : Nat → Nat → Int64} {Q : Option Value → EMem → Prop}
    (h1 : W_allocLeaf 0 [.val (.ref 1), .unset] [] ((LL1 n), mi, ml, RR1) (fun v M' => W_createFirstLeaf 4 [.val (.ref 1), .unset] (v.toList ++ []) M' Q)) :
    W_createFirstLeaf 0 [.val (.ref 1), .unset] [] ((LL1 n), mi, ml, RR1) Q := by
  refine Wp.p (pc' := 1) d_createFirstLeaf_0 rfl rfl ?_
  refine Wp.callP (a := 1) (as := []) (rest := []) (w := 0) (F' := 0) (Lb' := 0) d_createFirstLeaf_1 ca_c103_1 rfl rfl rfl rfl (by decide) (by decide) (Nat.le_of_ble_eq_true rfl) ?_
  exact h1
set_option maxRecDepth 65536 in
set_option maxHeartbeats 4000000 in
theorem L_createFirstLeaf_4 {n : Nat} {y0 : Int32} {mi : Nat → Nat → Int32} {ml : Nat → Nat → Int64} {Q : Option Value → EMem → Prop}
    (h1 : ¬ y0 < (0 : Int32) → Q (some (.int (1 : Int32))) ((LL1 n), (up (up mi 6 0 y0) 1 40 (1 : Int32)), ml, RR1))
    (h2 : y0 < (0 : Int32) → Q (some (.int (0 : Int32))) ((LL1 n), mi, ml, RR1)) :
    W_createFirstLeaf 4 [.val (.ref 1), .unset] [.int y0] ((LL1 n), mi, ml, RR1) Q := by
  refine Wp.p (pc' := 5) d_createFirstLeaf_4 rfl rfl ?_
  refine Wp.p (pc' := 6) d_createFirstLeaf_5 rfl rfl ?_
  refine Wp.if_ge d_createFirstLeaf_6 rfl (fun c1 => ?_) (fun c1 => ?_)
  ·
    refine Wp.p (pc' := 12) d_createFirstLeaf_11 rfl rfl ?_
    refine Wp.getR (b := 6) d_createFirstLeaf_12 fa_c22 rfl rfl ?_
    refine Wp.iconst (0 : Int32) d_createFirstLeaf_15 (by decide) ?_
    refine Wp.p (pc' := 17) d_createFirstLeaf_16 rfl rfl ?_
    refine Wp.iastore d_createFirstLeaf_17 rfl (k := 0) (by decide) (by decide) (by decide) ?_
    refine Wp.p (pc' := 19) d_createFirstLeaf_18 rfl rfl ?_
    refine Wp.iconst (1 : Int32) d_createFirstLeaf_19 (by decide) ?_
    refine Wp.putI d_createFirstLeaf_20 fa_c46 rfl (by decide) in_HtreeDir (Or.inl rfl) ?_
    refine Wp.iconst (1 : Int32) d_createFirstLeaf_23 (by decide) ?_
    refine Wp.retZ (1 : Int32) d_createFirstLeaf_24 (by decide) ?_
    exact (h1 c1)
  ·
    refine Wp.iconst (0 : Int32) d_createFirstLeaf_9 (by decide) ?_
    refine Wp.retZ (0 : Int32) d_createFirstLeaf_10 (by decide) ?_
    exact (h2 c1)
set_option maxRecDepth 65536 in
set_option maxHeartbeats 4000000 in
theorem L_indexInsert_0 {n : Nat} {x1 x2 : Int32} {mi : Nat → Nat → Int32} {ml : Nat → Nat → Int64} {Q : Option Value → EMem → Prop}
    (h1 : ¬ (mi 1 40) < (32 : Int32) → Q none ((LL1 n), mi, ml, RR1))
    (h2 : (mi 1 40) < (32 : Int32) → x1 < (0 : Int32) → Q none ((LL1 n), mi, ml, RR1))
    (h3 : (mi 1 40) < (32 : Int32) → ¬ x1 < (0 : Int32) → ¬ (mi 1 40) < x1 → W_indexInsert 27 [.val (.ref 1), .val (.int x1), .val (.int x2), .val (.int (mi 1 40))] [] ((LL1 n), mi, ml, RR1) Q)
    (h4 : (mi 1 40) < (32 : Int32) → ¬ x1 < (0 : Int32) → (mi 1 40) < x1 → Q none ((LL1 n), mi, ml, RR1)) :
    W_indexInsert 0 [.val (.ref 1), .val (.int x1), .val (.int x2), .unset] [] ((LL1 n), mi, ml, RR1) Q := by
  refine Wp.p (pc' := 1) d_indexInsert_0 rfl rfl ?_
  refine Wp.getI (mi 1 40) d_indexInsert_1 fa_c46 rfl rfl ?_
  refine Wp.bipush (32 : Int32) d_indexInsert_4 (by decide) ?_
  refine Wp.icmp_ge d_indexInsert_6 rfl (fun c1 => ?_) (fun c1 => ?_)
  ·
    refine Wp.retV d_indexInsert_21 ?_
    exact (h1 c1)
  ·
    refine Wp.p (pc' := 10) d_indexInsert_9 rfl rfl ?_
    refine Wp.if_lt d_indexInsert_10 rfl (fun c2 => ?_) (fun c2 => ?_)
    ·
      refine Wp.retV d_indexInsert_21 ?_
      exact (h2 c1 c2)
    ·
      refine Wp.p (pc' := 14) d_indexInsert_13 rfl rfl ?_
      refine Wp.p (pc' := 15) d_indexInsert_14 rfl rfl ?_
      refine Wp.getI (mi 1 40) d_indexInsert_15 fa_c46 rfl rfl ?_
      refine Wp.icmp_le d_indexInsert_18 rfl (fun c3 => ?_) (fun c3 => ?_)
      ·
        refine Wp.p (pc' := 23) d_indexInsert_22 rfl rfl ?_
        refine Wp.getI (mi 1 40) d_indexInsert_23 fa_c46 rfl rfl ?_
        refine Wp.p (pc' := 27) d_indexInsert_26 rfl rfl ?_
        exact (h3 c1 c2 c3)
      ·
        refine Wp.retV d_indexInsert_21 ?_
        exact (h4 c1 c2 c3)
set_option maxRecDepth 65536 in
set_option maxHeartbeats 4000000 in
theorem L_indexInsert_27 {n : Nat} {x1 x2 x3 : Int32} {mi : Nat → Nat → Int32} {ml : Nat → Nat → Int64} {Q : Option Value → EMem → Prop}
    (b1 : ¬ x1 < x3 → inb x1 32 = true)
    (h1 : ¬ x1 < x3 → Q none ((LL1 n), (up (up mi 6 (Int32.toNatClampNeg x1) x2) 1 40 ((mi 1 40) + (1 : Int32))), ml, RR1))
    (b2 : x1 < x3 → inb (x3 - (1 : Int32)) 32 = true)
    (b3 : x1 < x3 → inb x3 32 = true)
    (h2 : x1 < x3 → W_indexInsert 27 [.val (.ref 1), .val (.int x1), .val (.int x2), .val (.int (x3 + (-1 : Int32)))] [] ((LL1 n), (up mi 6 (Int32.toNatClampNeg x3) (mi 6 (Int32.toNatClampNeg (x3 - (1 : Int32))))), ml, RR1) Q) :
    W_indexInsert 27 [.val (.ref 1), .val (.int x1), .val (.int x2), .val (.int x3)] [] ((LL1 n), mi, ml, RR1) Q := by
  refine Wp.p (pc' := 28) d_indexInsert_27 rfl rfl ?_
  refine Wp.p (pc' := 29) d_indexInsert_28 rfl rfl ?_
  refine Wp.icmp_le d_indexInsert_29 rfl (fun c1 => ?_) (fun c1 => ?_)
  ·
    refine Wp.p (pc' := 53) d_indexInsert_52 rfl rfl ?_
    refine Wp.getR (b := 6) d_indexInsert_53 fa_c22 rfl rfl ?_
    refine Wp.p (pc' := 57) d_indexInsert_56 rfl rfl ?_
    refine Wp.p (pc' := 58) d_indexInsert_57 rfl rfl ?_
    refine Wp.iastore d_indexInsert_58 rfl (k := (Int32.toNatClampNeg x1)) rfl (b1 c1) (by decide) ?_
    refine Wp.p (pc' := 60) d_indexInsert_59 rfl rfl ?_
    refine Wp.p (pc' := 61) d_indexInsert_60 rfl rfl ?_
    refine Wp.getI (mi 1 40) d_indexInsert_61 fa_c46 rfl rfl ?_
    refine Wp.iconst (1 : Int32) d_indexInsert_64 (by decide) ?_
    refine Wp.p (pc' := 66) d_indexInsert_65 rfl rfl ?_
    refine Wp.putI d_indexInsert_66 fa_c46 rfl (by decide) in_HtreeDir (Or.inl rfl) ?_
    refine Wp.retV d_indexInsert_69 ?_
    exact (h1 c1)
  ·
    refine Wp.p (pc' := 33) d_indexInsert_32 rfl rfl ?_
    refine Wp.getR (b := 6) d_indexInsert_33 fa_c22 rfl rfl ?_
    refine Wp.p (pc' := 37) d_indexInsert_36 rfl rfl ?_
    refine Wp.p (pc' := 38) d_indexInsert_37 rfl rfl ?_
    refine Wp.getR (b := 6) d_indexInsert_38 fa_c22 rfl rfl ?_
    refine Wp.p (pc' := 42) d_indexInsert_41 rfl rfl ?_
    refine Wp.iconst (1 : Int32) d_indexInsert_42 (by decide) ?_
    refine Wp.p (pc' := 44) d_indexInsert_43 rfl rfl ?_
    refine Wp.iaload (mi 6 (Int32.toNatClampNeg (x3 - (1 : Int32)))) d_indexInsert_44 rfl (k := (Int32.toNatClampNeg (x3 - (1 : Int32)))) rfl (b2 c1) rfl ?_
    refine Wp.iastore d_indexInsert_45 rfl (k := (Int32.toNatClampNeg x3)) rfl (b3 c1) (by decide) ?_
    refine Wp.iinc (-1 : Int32) d_indexInsert_46 (by decide) rfl rfl ?_
    refine Wp.p (pc' := 27) d_indexInsert_49 rfl rfl ?_
    exact (h2 c1)
set_option maxRecDepth 65536 in
set_option maxHeartbeats 4000000 in
theorem L_indexRemove_0 {n : Nat} {x1 : Int32} {mi : Nat → Nat → Int32} {ml : Nat → Nat → Int64} {Q : Option Value → EMem → Prop}
    (h1 : x1 < (0 : Int32) → Q none ((LL1 n), mi, ml, RR1))
    (h2 : ¬ x1 < (0 : Int32) → x1 < (mi 1 40) → W_indexRemove 15 [.val (.ref 1), .val (.int x1), .val (.int x1)] [] ((LL1 n), mi, ml, RR1) Q)
    (h3 : ¬ x1 < (0 : Int32) → ¬ x1 < (mi 1 40) → Q none ((LL1 n), mi, ml, RR1)) :
    W_indexRemove 0 [.val (.ref 1), .val (.int x1), .unset] [] ((LL1 n), mi, ml, RR1) Q := by
  refine Wp.p (pc' := 1) d_indexRemove_0 rfl rfl ?_
  refine Wp.if_lt d_indexRemove_1 rfl (fun c1 => ?_) (fun c1 => ?_)
  ·
    refine Wp.retV d_indexRemove_12 ?_
    exact (h1 c1)
  ·
    refine Wp.p (pc' := 5) d_indexRemove_4 rfl rfl ?_
    refine Wp.p (pc' := 6) d_indexRemove_5 rfl rfl ?_
    refine Wp.getI (mi 1 40) d_indexRemove_6 fa_c46 rfl rfl ?_
    refine Wp.icmp_lt d_indexRemove_9 rfl (fun c2 => ?_) (fun c2 => ?_)
    ·
      refine Wp.p (pc' := 14) d_indexRemove_13 rfl rfl ?_
      refine Wp.p (pc' := 15) d_indexRemove_14 rfl rfl ?_
      exact (h2 c1 c2)
    ·
      refine Wp.retV d_indexRemove_12 ?_
      exact (h3 c1 c2)
set_option maxRecDepth 65536 in
set_option maxHeartbeats 4000000 in
theorem L_indexRemove_15 {n : Nat} {x1 x2 : Int32} {mi : Nat → Nat → Int32} {ml : Nat → Nat → Int64} {Q : Option Value → EMem → Prop}
    (h1 : ¬ x2 < ((mi 1 40) - (1 : Int32)) → W_indexRemove 51 [.val (.ref 1), .val (.int x1), .val (.int x2)] [] ((LL1 n), mi, ml, RR1) Q)
    (h2 : x2 < ((mi 1 40) - (1 : Int32)) → ¬ x2 < (31 : Int32) → W_indexRemove 51 [.val (.ref 1), .val (.int x1), .val (.int x2)] [] ((LL1 n), mi, ml, RR1) Q)
    (b1 : x2 < ((mi 1 40) - (1 : Int32)) → x2 < (31 : Int32) → inb (x2 + (1 : Int32)) 32 = true)
    (b2 : x2 < ((mi 1 40) - (1 : Int32)) → x2 < (31 : Int32) → inb x2 32 = true)
    (h3 : x2 < ((mi 1 40) - (1 : Int32)) → x2 < (31 : Int32) → W_indexRemove 15 [.val (.ref 1), .val (.int x1), .val (.int (x2 + (1 : Int32)))] [] ((LL1 n), (up mi 6 (Int32.toNatClampNeg x2) (mi 6 (Int32.toNatClampNeg (x2 + (1 : Int32))))), ml, RR1) Q) :
    W_indexRemove 15 [.val (.ref 1), .val (.int x1), .val (.int x2)] [] ((LL1 n), mi, ml, RR1) Q := by
  refine Wp.p (pc' := 16) d_indexRemove_15 rfl rfl ?_
  refine Wp.p (pc' := 17) d_indexRemove_16 rfl rfl ?_
  refine Wp.getI (mi 1 40) d_indexRemove_17 fa_c46 rfl rfl ?_
  refine Wp.iconst (1 : Int32) d_indexRemove_20 (by decide) ?_
  refine Wp.p (pc' := 22) d_indexRemove_21 rfl rfl ?_
  refine Wp.icmp_ge d_indexRemove_22 rfl (fun c1 => ?_) (fun c1 => ?_)
  ·
    exact (h1 c1)
  ·
    refine Wp.p (pc' := 26) d_indexRemove_25 rfl rfl ?_
    refine Wp.bipush (31 : Int32) d_indexRemove_26 (by decide) ?_
    refine Wp.icmp_ge d_indexRemove_28 rfl (fun c2 => ?_) (fun c2 => ?_)
    ·
      exact (h2 c1 c2)
    ·
      refine Wp.p (pc' := 32) d_indexRemove_31 rfl rfl ?_
      refine Wp.getR (b := 6) d_indexRemove_32 fa_c22 rfl rfl ?_
      refine Wp.p (pc' := 36) d_indexRemove_35 rfl rfl ?_
      refine Wp.p (pc' := 37) d_indexRemove_36 rfl rfl ?_
      refine Wp.getR (b := 6) d_indexRemove_37 fa_c22 rfl rfl ?_
      refine Wp.p (pc' := 41) d_indexRemove_40 rfl rfl ?_
      refine Wp.iconst (1 : Int32) d_indexRemove_41 (by decide) ?_
      refine Wp.p (pc' := 43) d_indexRemove_42 rfl rfl ?_
      refine Wp.iaload (mi 6 (Int32.toNatClampNeg (x2 + (1 : Int32)))) d_indexRemove_43 rfl (k := (Int32.toNatClampNeg (x2 + (1 : Int32)))) rfl (b1 c1 c2) rfl ?_
      refine Wp.iastore d_indexRemove_44 rfl (k := (Int32.toNatClampNeg x2)) rfl (b2 c1 c2) (by decide) ?_
      refine Wp.iinc (1 : Int32) d_indexRemove_45 (by decide) rfl rfl ?_
      refine Wp.p (pc' := 15) d_indexRemove_48 rfl rfl ?_
      exact (h3 c1 c2)
set_option maxRecDepth 65536 in
set_option maxHeartbeats 4000000 in
theorem L_indexRemove_51 {n : Nat} {x1 x2 : Int32} {mi : Nat → Nat → Int32} {ml : Nat → Nat → Int64} {Q : Option Value → EMem → Prop}
    (h1 : Q none ((LL1 n), (up mi 1 40 ((mi 1 40) - (1 : Int32))), ml, RR1)) :
    W_indexRemove 51 [.val (.ref 1), .val (.int x1), .val (.int x2)] [] ((LL1 n), mi, ml, RR1) Q := by
  refine Wp.p (pc' := 52) d_indexRemove_51 rfl rfl ?_
  refine Wp.p (pc' := 53) d_indexRemove_52 rfl rfl ?_
  refine Wp.getI (mi 1 40) d_indexRemove_53 fa_c46 rfl rfl ?_
  refine Wp.iconst (1 : Int32) d_indexRemove_56 (by decide) ?_
  refine Wp.p (pc' := 58) d_indexRemove_57 rfl rfl ?_
  refine Wp.putI d_indexRemove_58 fa_c46 rfl (by decide) in_HtreeDir (Or.inl rfl) ?_
  refine Wp.retV d_indexRemove_61 ?_
  exact h1
set_option maxRecDepth 65536 in
set_option maxHeartbeats 4000000 in
theorem L_copyEntry_0 {n : Nat} {x1 x2 : Int32} {mi : Nat → Nat → Int32} {ml : Nat → Nat → Int64} {Q : Option Value → EMem → Prop}
    (b1 : inb x1 128 = true)
    (b2 : inb x2 128 = true)
    (h1 : Q none ((LL1 n), (up (up (up mi 2 (Int32.toNatClampNeg x2) (mi 2 (Int32.toNatClampNeg x1))) 3 (Int32.toNatClampNeg x2) (mi 3 (Int32.toNatClampNeg x1))) 4 (Int32.toNatClampNeg x2) (mi 4 (Int32.toNatClampNeg x1))), ml, RR1)) :
    W_copyEntry 0 [.val (.ref 1), .val (.int x1), .val (.int x2)] [] ((LL1 n), mi, ml, RR1) Q := by
  refine Wp.p (pc' := 1) d_copyEntry_0 rfl rfl ?_
  refine Wp.getR (b := 2) d_copyEntry_1 fa_c7 rfl rfl ?_
  refine Wp.p (pc' := 5) d_copyEntry_4 rfl rfl ?_
  refine Wp.p (pc' := 6) d_copyEntry_5 rfl rfl ?_
  refine Wp.getR (b := 2) d_copyEntry_6 fa_c7 rfl rfl ?_
  refine Wp.p (pc' := 10) d_copyEntry_9 rfl rfl ?_
  refine Wp.iaload (mi 2 (Int32.toNatClampNeg x1)) d_copyEntry_10 rfl (k := (Int32.toNatClampNeg x1)) rfl b1 rfl ?_
  refine Wp.iastore d_copyEntry_11 rfl (k := (Int32.toNatClampNeg x2)) rfl b2 (by decide) ?_
  refine Wp.p (pc' := 13) d_copyEntry_12 rfl rfl ?_
  refine Wp.getR (b := 3) d_copyEntry_13 fa_c13 rfl rfl ?_
  refine Wp.p (pc' := 17) d_copyEntry_16 rfl rfl ?_
  refine Wp.p (pc' := 18) d_copyEntry_17 rfl rfl ?_
  refine Wp.getR (b := 3) d_copyEntry_18 fa_c13 rfl rfl ?_
  refine Wp.p (pc' := 22) d_copyEntry_21 rfl rfl ?_
  refine Wp.iaload (mi 3 (Int32.toNatClampNeg x1)) d_copyEntry_22 rfl (k := (Int32.toNatClampNeg x1)) rfl b1 rfl ?_
  refine Wp.iastore d_copyEntry_23 rfl (k := (Int32.toNatClampNeg x2)) rfl b2 (by decide) ?_
  refine Wp.p (pc' := 25) d_copyEntry_24 rfl rfl ?_
  refine Wp.getR (b := 4) d_copyEntry_25 fa_c16 rfl rfl ?_
  refine Wp.p (pc' := 29) d_copyEntry_28 rfl rfl ?_
  refine Wp.p (pc' := 30) d_copyEntry_29 rfl rfl ?_
  refine Wp.getR (b := 4) d_copyEntry_30 fa_c16 rfl rfl ?_
  refine Wp.p (pc' := 34) d_copyEntry_33 rfl rfl ?_
  refine Wp.iaload (mi 4 (Int32.toNatClampNeg x1)) d_copyEntry_34 rfl (k := (Int32.toNatClampNeg x1)) rfl b1 rfl ?_
  refine Wp.iastore d_copyEntry_35 rfl (k := (Int32.toNatClampNeg x2)) rfl b2 (by decide) ?_
  refine Wp.retV d_copyEntry_36 ?_
  exact h1
set_option maxRecDepth 65536 in
set_option maxHeartbeats 4000000 in
theorem L_splitLeaf_0 {n : Nat} {x1 x2 : Int32} {mi : Nat → Nat → Int32} {ml : Nat → Nat → Int64} {Q : Option Value → EMem → Prop}
    (b1 : inb x1 32 = true)
    (h1 : W_allocLeaf 0 [.val (.ref 1), .unset] [] ((LL1 n), mi, ml, RR1) (fun v M' => W_splitLeaf 11 [.val (.ref 1), .val (.int x1), .val (.int x2), .val (.int (mi 6 (Int32.toNatClampNeg x1))), .unset, .unset, .unset, .unset] (v.toList ++ []) M' Q)) :
    W_splitLeaf 0 [.val (.ref 1), .val (.int x1), .val (.int x2), .unset, .unset, .unset, .unset, .unset] [] ((LL1 n), mi, ml, RR1) Q := by
  refine Wp.p (pc' := 1) d_splitLeaf_0 rfl rfl ?_
  refine Wp.getR (b := 6) d_splitLeaf_1 fa_c22 rfl rfl ?_
  refine Wp.p (pc' := 5) d_splitLeaf_4 rfl rfl ?_
  refine Wp.iaload (mi 6 (Int32.toNatClampNeg x1)) d_splitLeaf_5 rfl (k := (Int32.toNatClampNeg x1)) rfl b1 rfl ?_
  refine Wp.p (pc' := 7) d_splitLeaf_6 rfl rfl ?_
  refine Wp.p (pc' := 8) d_splitLeaf_7 rfl rfl ?_
  refine Wp.callP (a := 1) (as := []) (rest := []) (w := 0) (F' := 0) (Lb' := 0) d_splitLeaf_8 ca_c103_1 rfl rfl rfl rfl (by decide) (by decide) (Nat.le_of_ble_eq_true rfl) ?_
  exact h1
set_option maxRecDepth 65536 in
set_option maxHeartbeats 4000000 in
theorem L_splitLeaf_11 {n : Nat} {x1 x2 x3 y0 : Int32} {mi : Nat → Nat → Int32} {ml : Nat → Nat → Int64} {Q : Option Value → EMem → Prop}
    (h1 : ¬ y0 < (0 : Int32) → W_splitLeaf 34 [.val (.ref 1), .val (.int x1), .val (.int x2), .val (.int x3), .val (.int y0), .val (.int (x3 * (4 : Int32))), .val (.int (y0 * (4 : Int32))), .val (.int (0 : Int32))] [] ((LL1 n), mi, ml, RR1) Q)
    (h2 : y0 < (0 : Int32) → Q (some (.int x1)) ((LL1 n), mi, ml, RR1)) :
    W_splitLeaf 11 [.val (.ref 1), .val (.int x1), .val (.int x2), .val (.int x3), .unset, .unset, .unset, .unset] [.int y0] ((LL1 n), mi, ml, RR1) Q := by
  refine Wp.p (pc' := 13) d_splitLeaf_11 rfl rfl ?_
  refine Wp.p (pc' := 15) d_splitLeaf_13 rfl rfl ?_
  refine Wp.if_ge d_splitLeaf_15 rfl (fun c1 => ?_) (fun c1 => ?_)
  ·
    refine Wp.p (pc' := 21) d_splitLeaf_20 rfl rfl ?_
    refine Wp.iconst (4 : Int32) d_splitLeaf_21 (by decide) ?_
    refine Wp.p (pc' := 23) d_splitLeaf_22 rfl rfl ?_
    refine Wp.p (pc' := 25) d_splitLeaf_23 rfl rfl ?_
    refine Wp.p (pc' := 27) d_splitLeaf_25 rfl rfl ?_
    refine Wp.iconst (4 : Int32) d_splitLeaf_27 (by decide) ?_
    refine Wp.p (pc' := 29) d_splitLeaf_28 rfl rfl ?_
    refine Wp.p (pc' := 31) d_splitLeaf_29 rfl rfl ?_
    refine Wp.iconst (0 : Int32) d_splitLeaf_31 (by decide) ?_
    refine Wp.p (pc' := 34) d_splitLeaf_32 rfl rfl ?_
    exact (h1 c1)
  ·
    refine Wp.p (pc' := 19) d_splitLeaf_18 rfl rfl ?_
    refine Wp.retI d_splitLeaf_19 ?_
    exact (h2 c1)
set_option maxRecDepth 65536 in
set_option maxHeartbeats 4000000 in
theorem L_splitLeaf_34 {n : Nat} {x1 x2 x3 x4 x5 x6 x7 : Int32} {mi : Nat → Nat → Int32} {ml : Nat → Nat → Int64} {Q : Option Value → EMem → Prop}
    (b1 : ¬ x7 < (2 : Int32) → inb x3 32 = true)
    (b2 : ¬ x7 < (2 : Int32) → inb x4 32 = true)
    (h1 : ¬ x7 < (2 : Int32) → W_indexInsert 0 [.val (.ref 1), .val (.int (x1 + (1 : Int32))), .val (.int x4), .unset] [] ((LL1 n), (up (up mi 5 (Int32.toNatClampNeg x3) (2 : Int32)) 5 (Int32.toNatClampNeg x4) (2 : Int32)), ml, RR1) (fun v M' => W_splitLeaf 86 [.val (.ref 1), .val (.int x1), .val (.int x2), .val (.int x3), .val (.int x4), .val (.int x5), .val (.int x6), .val (.int x7)] (v.toList ++ []) M' Q))
    (b3 : x7 < (2 : Int32) → inb ((x5 + (2 : Int32)) + x7) 128 = true)
    (b4 : x7 < (2 : Int32) → inb (x6 + x7) 128 = true)
    (h2 : x7 < (2 : Int32) → W_splitLeaf 34 [.val (.ref 1), .val (.int x1), .val (.int x2), .val (.int x3), .val (.int x4), .val (.int x5), .val (.int x6), .val (.int (x7 + (1 : Int32)))] [] ((LL1 n), (up (up (up mi 2 (Int32.toNatClampNeg (x6 + x7)) (mi 2 (Int32.toNatClampNeg ((x5 + (2 : Int32)) + x7)))) 3 (Int32.toNatClampNeg (x6 + x7)) (mi 3 (Int32.toNatClampNeg ((x5 + (2 : Int32)) + x7)))) 4 (Int32.toNatClampNeg (x6 + x7)) (mi 4 (Int32.toNatClampNeg ((x5 + (2 : Int32)) + x7)))), ml, RR1) Q) :
    W_splitLeaf 34 [.val (.ref 1), .val (.int x1), .val (.int x2), .val (.int x3), .val (.int x4), .val (.int x5), .val (.int x6), .val (.int x7)] [] ((LL1 n), mi, ml, RR1) Q := by
  refine Wp.p (pc' := 36) d_splitLeaf_34 rfl rfl ?_
  refine Wp.iconst (2 : Int32) d_splitLeaf_36 (by decide) ?_
  refine Wp.icmp_ge d_splitLeaf_37 rfl (fun c1 => ?_) (fun c1 => ?_)
  ·
    refine Wp.p (pc' := 63) d_splitLeaf_62 rfl rfl ?_
    refine Wp.getR (b := 5) d_splitLeaf_63 fa_c19 rfl rfl ?_
    refine Wp.p (pc' := 67) d_splitLeaf_66 rfl rfl ?_
    refine Wp.iconst (2 : Int32) d_splitLeaf_67 (by decide) ?_
    refine Wp.iastore d_splitLeaf_68 rfl (k := (Int32.toNatClampNeg x3)) rfl (b1 c1) (by decide) ?_
    refine Wp.p (pc' := 70) d_splitLeaf_69 rfl rfl ?_
    refine Wp.getR (b := 5) d_splitLeaf_70 fa_c19 rfl rfl ?_
    refine Wp.p (pc' := 75) d_splitLeaf_73 rfl rfl ?_
    refine Wp.iconst (2 : Int32) d_splitLeaf_75 (by decide) ?_
    refine Wp.iastore d_splitLeaf_76 rfl (k := (Int32.toNatClampNeg x4)) rfl (b2 c1) (by decide) ?_
    refine Wp.p (pc' := 78) d_splitLeaf_77 rfl rfl ?_
    refine Wp.p (pc' := 79) d_splitLeaf_78 rfl rfl ?_
    refine Wp.iconst (1 : Int32) d_splitLeaf_79 (by decide) ?_
    refine Wp.p (pc' := 81) d_splitLeaf_80 rfl rfl ?_
    refine Wp.p (pc' := 83) d_splitLeaf_81 rfl rfl ?_
    refine Wp.callP (a := 1) (as := [.int (x1 + (1 : Int32)), .int x4]) (rest := []) (w := 0) (F' := 0) (Lb' := 0) d_splitLeaf_83 ca_c110_1 rfl rfl rfl rfl (by decide) (by decide) (Nat.le_of_ble_eq_true rfl) ?_
    exact (h1 c1)
  ·
    refine Wp.p (pc' := 41) d_splitLeaf_40 rfl rfl ?_
    refine Wp.p (pc' := 43) d_splitLeaf_41 rfl rfl ?_
    refine Wp.iconst (2 : Int32) d_splitLeaf_43 (by decide) ?_
    refine Wp.p (pc' := 45) d_splitLeaf_44 rfl rfl ?_
    refine Wp.p (pc' := 47) d_splitLeaf_45 rfl rfl ?_
    refine Wp.p (pc' := 48) d_splitLeaf_47 rfl rfl ?_
    refine Wp.p (pc' := 50) d_splitLeaf_48 rfl rfl ?_
    refine Wp.p (pc' := 52) d_splitLeaf_50 rfl rfl ?_
    refine Wp.p (pc' := 53) d_splitLeaf_52 rfl rfl ?_
    refine Wp.callP (a := 1) (as := [.int ((x5 + (2 : Int32)) + x7), .int (x6 + x7)]) (rest := []) (w := 0) (F' := 0) (Lb' := 0) d_splitLeaf_53 ca_c107_1 rfl rfl rfl rfl (by decide) (by decide) (Nat.le_of_ble_eq_true rfl) ?_
    refine L_copyEntry_0 ?_ ?_ ?_
    · first | decide | exact (b3 c1) | exact (b4 c1)
    · first | decide | exact (b3 c1) | exact (b4 c1)
    show W_splitLeaf 56 [.val (.ref 1), .val (.int x1), .val (.int x2), .val (.int x3), .val (.int x4), .val (.int x5), .val (.int x6), .val (.int x7)] [] ((LL1 n), (up (up (up mi 2 (Int32.toNatClampNeg (x6 + x7)) (mi 2 (Int32.toNatClampNeg ((x5 + (2 : Int32)) + x7)))) 3 (Int32.toNatClampNeg (x6 + x7)) (mi 3 (Int32.toNatClampNeg ((x5 + (2 : Int32)) + x7)))) 4 (Int32.toNatClampNeg (x6 + x7)) (mi 4 (Int32.toNatClampNeg ((x5 + (2 : Int32)) + x7)))), ml, RR1) Q
    refine Wp.iinc (1 : Int32) d_splitLeaf_56 (by decide) rfl rfl ?_
    refine Wp.p (pc' := 34) d_splitLeaf_59 rfl rfl ?_
    exact (h2 c1)
set_option maxRecDepth 65536 in
set_option maxHeartbeats 4000000 in
theorem L_splitLeaf_86 {n : Nat} {x1 x2 x3 x4 x5 x6 x7 : Int32} {mi : Nat → Nat → Int32} {ml : Nat → Nat → Int64} {Q : Option Value → EMem → Prop}
    (b1 : inb x6 128 = true)
    (h1 : ∀ v1 : Int32, v1 = (if (mi 2 (Int32.toNatClampNeg x6)) < x2 then (x1 + (1 : Int32)) else x1) → Q (some (.int v1)) ((LL1 n), mi, ml, RR1)) :
    W_splitLeaf 86 [.val (.ref 1), .val (.int x1), .val (.int x2), .val (.int x3), .val (.int x4), .val (.int x5), .val (.int x6), .val (.int x7)] [] ((LL1 n), mi, ml, RR1) Q := by
  refine Wp.p (pc' := 87) d_splitLeaf_86 rfl rfl ?_
  refine Wp.p (pc' := 88) d_splitLeaf_87 rfl rfl ?_
  refine Wp.getR (b := 2) d_splitLeaf_88 fa_c7 rfl rfl ?_
  refine Wp.p (pc' := 93) d_splitLeaf_91 rfl rfl ?_
  refine Wp.iaload (mi 2 (Int32.toNatClampNeg x6)) d_splitLeaf_93 rfl (k := (Int32.toNatClampNeg x6)) rfl b1 rfl ?_
  obtain ⟨v1, e1⟩ : ∃ z : Int32, z = (if (mi 2 (Int32.toNatClampNeg x6)) < x2 then (x1 + (1 : Int32)) else x1) := ⟨_, rfl⟩
  suffices K : Q (some (.int v1)) ((LL1 n), mi, ml, RR1) by
    refine Wp.icmp_le d_splitLeaf_94 rfl (fun q0 => ?_) (fun q0 => ?_)
    ·
      refine Wp.p (pc' := 102) d_splitLeaf_101 rfl rfl ?_
      refine Wp.retI d_splitLeaf_102 ?_
      rw [if_neg q0] at e1; subst e1
      exact K
    ·
      refine Wp.p (pc' := 98) d_splitLeaf_97 rfl rfl ?_
      refine Wp.iconst (1 : Int32) d_splitLeaf_98 (by decide) ?_
      refine Wp.p (pc' := 100) d_splitLeaf_99 rfl rfl ?_
      refine Wp.retI d_splitLeaf_100 ?_
      rw [if_pos q0] at e1; subst e1
      exact K
  exact (h1 v1 e1)
set_option maxRecDepth 65536 in
set_option maxHeartbeats 4000000 in
theorem L_insertIntoLeaf_0 {n : Nat} {x1 x2 x3 x4 : Int32} {mi : Nat → Nat → Int32} {ml : Nat → Nat → Int64} {Q : Option Value → EMem → Prop}
    (b1 : inb x1 32 = true)
    (h1 : ¬ (mi 5 (Int32.toNatClampNeg x1)) < (4 : Int32) → Q none ((LL1 n), mi, ml, RR1))
    (h2 : (mi 5 (Int32.toNatClampNeg x1)) < (4 : Int32) → ¬ (mi 5 (Int32.toNatClampNeg x1)) < (0 : Int32) → W_insertIntoLeaf 29 [.val (.ref 1), .val (.int x1), .val (.int x2), .val (.int x3), .val (.int x4), .val (.int (mi 5 (Int32.toNatClampNeg x1))), .val (.int (x1 * (4 : Int32))), .val (.int (mi 5 (Int32.toNatClampNeg x1)))] [] ((LL1 n), mi, ml, RR1) Q)
    (h3 : (mi 5 (Int32.toNatClampNeg x1)) < (4 : Int32) → (mi 5 (Int32.toNatClampNeg x1)) < (0 : Int32) → Q none ((LL1 n), mi, ml, RR1)) :
    W_insertIntoLeaf 0 [.val (.ref 1), .val (.int x1), .val (.int x2), .val (.int x3), .val (.int x4), .unset, .unset, .unset] [] ((LL1 n), mi, ml, RR1) Q := by
  refine Wp.p (pc' := 1) d_insertIntoLeaf_0 rfl rfl ?_
  refine Wp.getR (b := 5) d_insertIntoLeaf_1 fa_c19 rfl rfl ?_
  refine Wp.p (pc' := 5) d_insertIntoLeaf_4 rfl rfl ?_
  refine Wp.iaload (mi 5 (Int32.toNatClampNeg x1)) d_insertIntoLeaf_5 rfl (k := (Int32.toNatClampNeg x1)) rfl b1 rfl ?_
  refine Wp.p (pc' := 8) d_insertIntoLeaf_6 rfl rfl ?_
  refine Wp.p (pc' := 10) d_insertIntoLeaf_8 rfl rfl ?_
  refine Wp.iconst (4 : Int32) d_insertIntoLeaf_10 (by decide) ?_
  refine Wp.icmp_ge d_insertIntoLeaf_11 rfl (fun c1 => ?_) (fun c1 => ?_)
  ·
    refine Wp.retV d_insertIntoLeaf_19 ?_
    exact (h1 c1)
  ·
    refine Wp.p (pc' := 16) d_insertIntoLeaf_14 rfl rfl ?_
    refine Wp.if_ge d_insertIntoLeaf_16 rfl (fun c2 => ?_) (fun c2 => ?_)
    ·
      refine Wp.p (pc' := 21) d_insertIntoLeaf_20 rfl rfl ?_
      refine Wp.iconst (4 : Int32) d_insertIntoLeaf_21 (by decide) ?_
      refine Wp.p (pc' := 23) d_insertIntoLeaf_22 rfl rfl ?_
      refine Wp.p (pc' := 25) d_insertIntoLeaf_23 rfl rfl ?_
      refine Wp.p (pc' := 27) d_insertIntoLeaf_25 rfl rfl ?_
      refine Wp.p (pc' := 29) d_insertIntoLeaf_27 rfl rfl ?_
      exact (h2 c1 c2)
    ·
      refine Wp.retV d_insertIntoLeaf_19 ?_
      exact (h3 c1 c2)
set_option maxRecDepth 65536 in
set_option maxHeartbeats 4000000 in
theorem L_insertIntoLeaf_29 {n : Nat} {x1 x2 x3 x4 x5 x6 x7 : Int32} {mi : Nat → Nat → Int32} {ml : Nat → Nat → Int64} {Q : Option Value → EMem → Prop}
    (h1 : ¬ (0 : Int32) < x7 → W_insertIntoLeaf 75 [.val (.ref 1), .val (.int x1), .val (.int x2), .val (.int x3), .val (.int x4), .val (.int x5), .val (.int x6), .val (.int x7)] [] ((LL1 n), mi, ml, RR1) Q)
    (b1 : (0 : Int32) < x7 → inb ((x6 + x7) - (1 : Int32)) 128 = true)
    (b2 : (0 : Int32) < x7 → ¬ (mi 2 (Int32.toNatClampNeg ((x6 + x7) - (1 : Int32)))) < x2 → inb ((x6 + x7) - (1 : Int32)) 128 = true)
    (b3 : (0 : Int32) < x7 → ¬ (mi 2 (Int32.toNatClampNeg ((x6 + x7) - (1 : Int32)))) < x2 → inb (x6 + x7) 128 = true)
    (h2 : (0 : Int32) < x7 → ¬ (mi 2 (Int32.toNatClampNeg ((x6 + x7) - (1 : Int32)))) < x2 → W_insertIntoLeaf 29 [.val (.ref 1), .val (.int x1), .val (.int x2), .val (.int x3), .val (.int x4), .val (.int x5), .val (.int x6), .val (.int (x7 + (-1 : Int32)))] [] ((LL1 n), (up (up (up mi 2 (Int32.toNatClampNeg (x6 + x7)) (mi 2 (Int32.toNatClampNeg ((x6 + x7) - (1 : Int32))))) 3 (Int32.toNatClampNeg (x6 + x7)) (mi 3 (Int32.toNatClampNeg ((x6 + x7) - (1 : Int32))))) 4 (Int32.toNatClampNeg (x6 + x7)) (mi 4 (Int32.toNatClampNeg ((x6 + x7) - (1 : Int32))))), ml, RR1) Q)
    (h3 : (0 : Int32) < x7 → (mi 2 (Int32.toNatClampNeg ((x6 + x7) - (1 : Int32)))) < x2 → W_insertIntoLeaf 75 [.val (.ref 1), .val (.int x1), .val (.int x2), .val (.int x3), .val (.int x4), .val (.int x5), .val (.int x6), .val (.int x7)] [] ((LL1 n), mi, ml, RR1) Q) :
    W_insertIntoLeaf 29 [.val (.ref 1), .val (.int x1), .val (.int x2), .val (.int x3), .val (.int x4), .val (.int x5), .val (.int x6), .val (.int x7)] [] ((LL1 n), mi, ml, RR1) Q := by
  refine Wp.p (pc' := 31) d_insertIntoLeaf_29 rfl rfl ?_
  refine Wp.if_le d_insertIntoLeaf_31 rfl (fun c1 => ?_) (fun c1 => ?_)
  ·
    exact (h1 c1)
  ·
    refine Wp.p (pc' := 35) d_insertIntoLeaf_34 rfl rfl ?_
    refine Wp.getR (b := 2) d_insertIntoLeaf_35 fa_c7 rfl rfl ?_
    refine Wp.p (pc' := 40) d_insertIntoLeaf_38 rfl rfl ?_
    refine Wp.p (pc' := 42) d_insertIntoLeaf_40 rfl rfl ?_
    refine Wp.p (pc' := 43) d_insertIntoLeaf_42 rfl rfl ?_
    refine Wp.iconst (1 : Int32) d_insertIntoLeaf_43 (by decide) ?_
    refine Wp.p (pc' := 45) d_insertIntoLeaf_44 rfl rfl ?_
    refine Wp.iaload (mi 2 (Int32.toNatClampNeg ((x6 + x7) - (1 : Int32)))) d_insertIntoLeaf_45 rfl (k := (Int32.toNatClampNeg ((x6 + x7) - (1 : Int32)))) rfl (b1 c1) rfl ?_
    refine Wp.p (pc' := 47) d_insertIntoLeaf_46 rfl rfl ?_
    refine Wp.icmp_ge d_insertIntoLeaf_47 rfl (fun c2 => ?_) (fun c2 => ?_)
    ·
      refine Wp.p (pc' := 54) d_insertIntoLeaf_53 rfl rfl ?_
      refine Wp.p (pc' := 56) d_insertIntoLeaf_54 rfl rfl ?_
      refine Wp.p (pc' := 58) d_insertIntoLeaf_56 rfl rfl ?_
      refine Wp.p (pc' := 59) d_insertIntoLeaf_58 rfl rfl ?_
      refine Wp.iconst (1 : Int32) d_insertIntoLeaf_59 (by decide) ?_
      refine Wp.p (pc' := 61) d_insertIntoLeaf_60 rfl rfl ?_
      refine Wp.p (pc' := 63) d_insertIntoLeaf_61 rfl rfl ?_
      refine Wp.p (pc' := 65) d_insertIntoLeaf_63 rfl rfl ?_
      refine Wp.p (pc' := 66) d_insertIntoLeaf_65 rfl rfl ?_
      refine Wp.callP (a := 1) (as := [.int ((x6 + x7) - (1 : Int32)), .int (x6 + x7)]) (rest := []) (w := 0) (F' := 0) (Lb' := 0) d_insertIntoLeaf_66 ca_c107_1 rfl rfl rfl rfl (by decide) (by decide) (Nat.le_of_ble_eq_true rfl) ?_
      refine L_copyEntry_0 ?_ ?_ ?_
      · first | decide | exact (b2 c1 c2) | exact (b3 c1 c2)
      · first | decide | exact (b2 c1 c2) | exact (b3 c1 c2)
      show W_insertIntoLeaf 69 [.val (.ref 1), .val (.int x1), .val (.int x2), .val (.int x3), .val (.int x4), .val (.int x5), .val (.int x6), .val (.int x7)] [] ((LL1 n), (up (up (up mi 2 (Int32.toNatClampNeg (x6 + x7)) (mi 2 (Int32.toNatClampNeg ((x6 + x7) - (1 : Int32))))) 3 (Int32.toNatClampNeg (x6 + x7)) (mi 3 (Int32.toNatClampNeg ((x6 + x7) - (1 : Int32))))) 4 (Int32.toNatClampNeg (x6 + x7)) (mi 4 (Int32.toNatClampNeg ((x6 + x7) - (1 : Int32))))), ml, RR1) Q
      refine Wp.iinc (-1 : Int32) d_insertIntoLeaf_69 (by decide) rfl rfl ?_
      refine Wp.p (pc' := 29) d_insertIntoLeaf_72 rfl rfl ?_
      exact (h2 c1 c2)
    ·
      refine Wp.p (pc' := 75) d_insertIntoLeaf_50 rfl rfl ?_
      exact (h3 c1 c2)
set_option maxRecDepth 65536 in
set_option maxHeartbeats 4000000 in
theorem L_insertIntoLeaf_75 {n : Nat} {x1 x2 x3 x4 x5 x6 x7 : Int32} {mi : Nat → Nat → Int32} {ml : Nat → Nat → Int64} {Q : Option Value → EMem → Prop}
    (b1 : inb (x6 + x7) 128 = true)
    (b2 : inb x1 32 = true)
    (h1 : Q none ((LL1 n), (up (up (up (up mi 2 (Int32.toNatClampNeg (x6 + x7)) x2) 3 (Int32.toNatClampNeg (x6 + x7)) x3) 4 (Int32.toNatClampNeg (x6 + x7)) x4) 5 (Int32.toNatClampNeg x1) (x5 + (1 : Int32))), ml, RR1)) :
    W_insertIntoLeaf 75 [.val (.ref 1), .val (.int x1), .val (.int x2), .val (.int x3), .val (.int x4), .val (.int x5), .val (.int x6), .val (.int x7)] [] ((LL1 n), mi, ml, RR1) Q := by
  refine Wp.p (pc' := 76) d_insertIntoLeaf_75 rfl rfl ?_
  refine Wp.getR (b := 2) d_insertIntoLeaf_76 fa_c7 rfl rfl ?_
  refine Wp.p (pc' := 81) d_insertIntoLeaf_79 rfl rfl ?_
  refine Wp.p (pc' := 83) d_insertIntoLeaf_81 rfl rfl ?_
  refine Wp.p (pc' := 84) d_insertIntoLeaf_83 rfl rfl ?_
  refine Wp.p (pc' := 85) d_insertIntoLeaf_84 rfl rfl ?_
  refine Wp.iastore d_insertIntoLeaf_85 rfl (k := (Int32.toNatClampNeg (x6 + x7))) rfl b1 (by decide) ?_
  refine Wp.p (pc' := 87) d_insertIntoLeaf_86 rfl rfl ?_
  refine Wp.getR (b := 3) d_insertIntoLeaf_87 fa_c13 rfl rfl ?_
  refine Wp.p (pc' := 92) d_insertIntoLeaf_90 rfl rfl ?_
  refine Wp.p (pc' := 94) d_insertIntoLeaf_92 rfl rfl ?_
  refine Wp.p (pc' := 95) d_insertIntoLeaf_94 rfl rfl ?_
  refine Wp.p (pc' := 96) d_insertIntoLeaf_95 rfl rfl ?_
  refine Wp.iastore d_insertIntoLeaf_96 rfl (k := (Int32.toNatClampNeg (x6 + x7))) rfl b1 (by decide) ?_
  refine Wp.p (pc' := 98) d_insertIntoLeaf_97 rfl rfl ?_
  refine Wp.getR (b := 4) d_insertIntoLeaf_98 fa_c16 rfl rfl ?_
  refine Wp.p (pc' := 103) d_insertIntoLeaf_101 rfl rfl ?_
  refine Wp.p (pc' := 105) d_insertIntoLeaf_103 rfl rfl ?_
  refine Wp.p (pc' := 106) d_insertIntoLeaf_105 rfl rfl ?_
  refine Wp.p (pc' := 108) d_insertIntoLeaf_106 rfl rfl ?_
  refine Wp.iastore d_insertIntoLeaf_108 rfl (k := (Int32.toNatClampNeg (x6 + x7))) rfl b1 (by decide) ?_
  refine Wp.p (pc' := 110) d_insertIntoLeaf_109 rfl rfl ?_
  refine Wp.getR (b := 5) d_insertIntoLeaf_110 fa_c19 rfl rfl ?_
  refine Wp.p (pc' := 114) d_insertIntoLeaf_113 rfl rfl ?_
  refine Wp.p (pc' := 116) d_insertIntoLeaf_114 rfl rfl ?_
  refine Wp.iconst (1 : Int32) d_insertIntoLeaf_116 (by decide) ?_
  refine Wp.p (pc' := 118) d_insertIntoLeaf_117 rfl rfl ?_
  refine Wp.iastore d_insertIntoLeaf_118 rfl (k := (Int32.toNatClampNeg x1)) rfl b2 (by decide) ?_
  refine Wp.retV d_insertIntoLeaf_119 ?_
  exact h1
set_option maxRecDepth 65536 in
set_option maxHeartbeats 4000000 in
theorem L_deleteFromLeaf_0 {n : Nat} {x1 x2 : Int32} {mi : Nat → Nat → Int32} {ml : Nat → Nat → Int64} {Q : Option Value → EMem → Prop}
    (b1 : inb x1 32 = true)
    (h1 : ¬ (0 : Int32) < (mi 5 (Int32.toNatClampNeg x1)) → Q none ((LL1 n), mi, ml, RR1))
    (h2 : (0 : Int32) < (mi 5 (Int32.toNatClampNeg x1)) → x2 < (0 : Int32) → Q none ((LL1 n), mi, ml, RR1))
    (h3 : (0 : Int32) < (mi 5 (Int32.toNatClampNeg x1)) → ¬ x2 < (0 : Int32) → x2 < (mi 5 (Int32.toNatClampNeg x1)) → W_deleteFromLeaf 29 [.val (.ref 1), .val (.int x1), .val (.int x2), .val (.int (mi 5 (Int32.toNatClampNeg x1))), .val (.int (x1 * (4 : Int32))), .val (.int x2)] [] ((LL1 n), mi, ml, RR1) Q)
    (h4 : (0 : Int32) < (mi 5 (Int32.toNatClampNeg x1)) → ¬ x2 < (0 : Int32) → ¬ x2 < (mi 5 (Int32.toNatClampNeg x1)) → Q none ((LL1 n), mi, ml, RR1)) :
    W_deleteFromLeaf 0 [.val (.ref 1), .val (.int x1), .val (.int x2), .unset, .unset, .unset] [] ((LL1 n), mi, ml, RR1) Q := by
  refine Wp.p (pc' := 1) d_deleteFromLeaf_0 rfl rfl ?_
  refine Wp.getR (b := 5) d_deleteFromLeaf_1 fa_c19 rfl rfl ?_
  refine Wp.p (pc' := 5) d_deleteFromLeaf_4 rfl rfl ?_
  refine Wp.iaload (mi 5 (Int32.toNatClampNeg x1)) d_deleteFromLeaf_5 rfl (k := (Int32.toNatClampNeg x1)) rfl b1 rfl ?_
  refine Wp.p (pc' := 7) d_deleteFromLeaf_6 rfl rfl ?_
  refine Wp.p (pc' := 8) d_deleteFromLeaf_7 rfl rfl ?_
  refine Wp.if_le d_deleteFromLeaf_8 rfl (fun c1 => ?_) (fun c1 => ?_)
  ·
    refine Wp.retV d_deleteFromLeaf_20 ?_
    exact (h1 c1)
  ·
    refine Wp.p (pc' := 12) d_deleteFromLeaf_11 rfl rfl ?_
    refine Wp.if_lt d_deleteFromLeaf_12 rfl (fun c2 => ?_) (fun c2 => ?_)
    ·
      refine Wp.retV d_deleteFromLeaf_20 ?_
      exact (h2 c1 c2)
    ·
      refine Wp.p (pc' := 16) d_deleteFromLeaf_15 rfl rfl ?_
      refine Wp.p (pc' := 17) d_deleteFromLeaf_16 rfl rfl ?_
      refine Wp.icmp_lt d_deleteFromLeaf_17 rfl (fun c3 => ?_) (fun c3 => ?_)
      ·
        refine Wp.p (pc' := 22) d_deleteFromLeaf_21 rfl rfl ?_
        refine Wp.iconst (4 : Int32) d_deleteFromLeaf_22 (by decide) ?_
        refine Wp.p (pc' := 24) d_deleteFromLeaf_23 rfl rfl ?_
        refine Wp.p (pc' := 26) d_deleteFromLeaf_24 rfl rfl ?_
        refine Wp.p (pc' := 27) d_deleteFromLeaf_26 rfl rfl ?_
        refine Wp.p (pc' := 29) d_deleteFromLeaf_27 rfl rfl ?_
        exact (h3 c1 c2 c3)
      ·
        refine Wp.retV d_deleteFromLeaf_20 ?_
        exact (h4 c1 c2 c3)
set_option maxRecDepth 65536 in
set_option maxHeartbeats 4000000 in
theorem L_deleteFromLeaf_29 {n : Nat} {x1 x2 x3 x4 x5 : Int32} {mi : Nat → Nat → Int32} {ml : Nat → Nat → Int64} {Q : Option Value → EMem → Prop}
    (h1 : ¬ x5 < (x3 - (1 : Int32)) → W_deleteFromLeaf 65 [.val (.ref 1), .val (.int x1), .val (.int x2), .val (.int x3), .val (.int x4), .val (.int x5)] [] ((LL1 n), mi, ml, RR1) Q)
    (h2 : x5 < (x3 - (1 : Int32)) → ¬ x5 < (3 : Int32) → W_deleteFromLeaf 65 [.val (.ref 1), .val (.int x1), .val (.int x2), .val (.int x3), .val (.int x4), .val (.int x5)] [] ((LL1 n), mi, ml, RR1) Q)
    (b1 : x5 < (x3 - (1 : Int32)) → x5 < (3 : Int32) → inb ((x4 + x5) + (1 : Int32)) 128 = true)
    (b2 : x5 < (x3 - (1 : Int32)) → x5 < (3 : Int32) → inb (x4 + x5) 128 = true)
    (h3 : x5 < (x3 - (1 : Int32)) → x5 < (3 : Int32) → W_deleteFromLeaf 29 [.val (.ref 1), .val (.int x1), .val (.int x2), .val (.int x3), .val (.int x4), .val (.int (x5 + (1 : Int32)))] [] ((LL1 n), (up (up (up mi 2 (Int32.toNatClampNeg (x4 + x5)) (mi 2 (Int32.toNatClampNeg ((x4 + x5) + (1 : Int32))))) 3 (Int32.toNatClampNeg (x4 + x5)) (mi 3 (Int32.toNatClampNeg ((x4 + x5) + (1 : Int32))))) 4 (Int32.toNatClampNeg (x4 + x5)) (mi 4 (Int32.toNatClampNeg ((x4 + x5) + (1 : Int32))))), ml, RR1) Q) :
    W_deleteFromLeaf 29 [.val (.ref 1), .val (.int x1), .val (.int x2), .val (.int x3), .val (.int x4), .val (.int x5)] [] ((LL1 n), mi, ml, RR1) Q := by
  refine Wp.p (pc' := 31) d_deleteFromLeaf_29 rfl rfl ?_
  refine Wp.p (pc' := 32) d_deleteFromLeaf_31 rfl rfl ?_
  refine Wp.iconst (1 : Int32) d_deleteFromLeaf_32 (by decide) ?_
  refine Wp.p (pc' := 34) d_deleteFromLeaf_33 rfl rfl ?_
  refine Wp.icmp_ge d_deleteFromLeaf_34 rfl (fun c1 => ?_) (fun c1 => ?_)
  ·
    exact (h1 c1)
  ·
    refine Wp.p (pc' := 39) d_deleteFromLeaf_37 rfl rfl ?_
    refine Wp.iconst (3 : Int32) d_deleteFromLeaf_39 (by decide) ?_
    refine Wp.icmp_ge d_deleteFromLeaf_40 rfl (fun c2 => ?_) (fun c2 => ?_)
    ·
      exact (h2 c1 c2)
    ·
      refine Wp.p (pc' := 44) d_deleteFromLeaf_43 rfl rfl ?_
      refine Wp.p (pc' := 46) d_deleteFromLeaf_44 rfl rfl ?_
      refine Wp.p (pc' := 48) d_deleteFromLeaf_46 rfl rfl ?_
      refine Wp.p (pc' := 49) d_deleteFromLeaf_48 rfl rfl ?_
      refine Wp.iconst (1 : Int32) d_deleteFromLeaf_49 (by decide) ?_
      refine Wp.p (pc' := 51) d_deleteFromLeaf_50 rfl rfl ?_
      refine Wp.p (pc' := 53) d_deleteFromLeaf_51 rfl rfl ?_
      refine Wp.p (pc' := 55) d_deleteFromLeaf_53 rfl rfl ?_
      refine Wp.p (pc' := 56) d_deleteFromLeaf_55 rfl rfl ?_
      refine Wp.callP (a := 1) (as := [.int ((x4 + x5) + (1 : Int32)), .int (x4 + x5)]) (rest := []) (w := 0) (F' := 0) (Lb' := 0) d_deleteFromLeaf_56 ca_c107_1 rfl rfl rfl rfl (by decide) (by decide) (Nat.le_of_ble_eq_true rfl) ?_
      refine L_copyEntry_0 ?_ ?_ ?_
      · first | decide | exact (b1 c1 c2) | exact (b2 c1 c2)
      · first | decide | exact (b1 c1 c2) | exact (b2 c1 c2)
      show W_deleteFromLeaf 59 [.val (.ref 1), .val (.int x1), .val (.int x2), .val (.int x3), .val (.int x4), .val (.int x5)] [] ((LL1 n), (up (up (up mi 2 (Int32.toNatClampNeg (x4 + x5)) (mi 2 (Int32.toNatClampNeg ((x4 + x5) + (1 : Int32))))) 3 (Int32.toNatClampNeg (x4 + x5)) (mi 3 (Int32.toNatClampNeg ((x4 + x5) + (1 : Int32))))) 4 (Int32.toNatClampNeg (x4 + x5)) (mi 4 (Int32.toNatClampNeg ((x4 + x5) + (1 : Int32))))), ml, RR1) Q
      refine Wp.iinc (1 : Int32) d_deleteFromLeaf_59 (by decide) rfl rfl ?_
      refine Wp.p (pc' := 29) d_deleteFromLeaf_62 rfl rfl ?_
      exact (h3 c1 c2)
set_option maxRecDepth 65536 in
set_option maxHeartbeats 4000000 in
theorem L_deleteFromLeaf_65 {n : Nat} {x1 x2 x3 x4 x5 : Int32} {mi : Nat → Nat → Int32} {ml : Nat → Nat → Int64} {Q : Option Value → EMem → Prop}
    (b1 : inb x1 32 = true)
    (h1 : Q none ((LL1 n), (up mi 5 (Int32.toNatClampNeg x1) (x3 - (1 : Int32))), ml, RR1)) :
    W_deleteFromLeaf 65 [.val (.ref 1), .val (.int x1), .val (.int x2), .val (.int x3), .val (.int x4), .val (.int x5)] [] ((LL1 n), mi, ml, RR1) Q := by
  refine Wp.p (pc' := 66) d_deleteFromLeaf_65 rfl rfl ?_
  refine Wp.getR (b := 5) d_deleteFromLeaf_66 fa_c19 rfl rfl ?_
  refine Wp.p (pc' := 70) d_deleteFromLeaf_69 rfl rfl ?_
  refine Wp.p (pc' := 71) d_deleteFromLeaf_70 rfl rfl ?_
  refine Wp.iconst (1 : Int32) d_deleteFromLeaf_71 (by decide) ?_
  refine Wp.p (pc' := 73) d_deleteFromLeaf_72 rfl rfl ?_
  refine Wp.iastore d_deleteFromLeaf_73 rfl (k := (Int32.toNatClampNeg x1)) rfl b1 (by decide) ?_
  refine Wp.retV d_deleteFromLeaf_74 ?_
  exact h1
set_option maxRecDepth 65536 in
set_option maxHeartbeats 4000000 in
theorem L_mergeWithNext_0 {n : Nat} {x1 : Int32} {mi : Nat → Nat → Int32} {ml : Nat → Nat → Int64} {Q : Option Value → EMem → Prop}
    (h1 : x1 < (0 : Int32) → Q none ((LL1 n), mi, ml, RR1))
    (b1 : ¬ x1 < (0 : Int32) → (x1 + (1 : Int32)) < (mi 1 40) → inb x1 32 = true)
    (b2 : ¬ x1 < (0 : Int32) → (x1 + (1 : Int32)) < (mi 1 40) → inb (x1 + (1 : Int32)) 32 = true)
    (b3 : ¬ x1 < (0 : Int32) → (x1 + (1 : Int32)) < (mi 1 40) → inb (mi 6 (Int32.toNatClampNeg x1)) 32 = true)
    (b4 : ¬ x1 < (0 : Int32) → (x1 + (1 : Int32)) < (mi 1 40) → inb (mi 6 (Int32.toNatClampNeg (x1 + (1 : Int32)))) 32 = true)
    (h2 : ¬ x1 < (0 : Int32) → (x1 + (1 : Int32)) < (mi 1 40) → ¬ (4 : Int32) < ((mi 5 (Int32.toNatClampNeg (mi 6 (Int32.toNatClampNeg x1)))) + (mi 5 (Int32.toNatClampNeg (mi 6 (Int32.toNatClampNeg (x1 + (1 : Int32))))))) → W_mergeWithNext 70 [.val (.ref 1), .val (.int x1), .val (.int (mi 6 (Int32.toNatClampNeg x1))), .val (.int (mi 6 (Int32.toNatClampNeg (x1 + (1 : Int32))))), .val (.int (mi 5 (Int32.toNatClampNeg (mi 6 (Int32.toNatClampNeg x1))))), .val (.int (mi 5 (Int32.toNatClampNeg (mi 6 (Int32.toNatClampNeg (x1 + (1 : Int32))))))), .val (.int ((mi 6 (Int32.toNatClampNeg x1)) * (4 : Int32))), .val (.int ((mi 6 (Int32.toNatClampNeg (x1 + (1 : Int32)))) * (4 : Int32))), .val (.int (0 : Int32))] [] ((LL1 n), mi, ml, RR1) Q)
    (h3 : ¬ x1 < (0 : Int32) → (x1 + (1 : Int32)) < (mi 1 40) → (4 : Int32) < ((mi 5 (Int32.toNatClampNeg (mi 6 (Int32.toNatClampNeg x1)))) + (mi 5 (Int32.toNatClampNeg (mi 6 (Int32.toNatClampNeg (x1 + (1 : Int32))))))) → Q none ((LL1 n), mi, ml, RR1))
    (h4 : ¬ x1 < (0 : Int32) → ¬ (x1 + (1 : Int32)) < (mi 1 40) → Q none ((LL1 n), mi, ml, RR1)) :
    W_mergeWithNext 0 [.val (.ref 1), .val (.int x1), .unset, .unset, .unset, .unset, .unset, .unset, .unset] [] ((LL1 n), mi, ml, RR1) Q := by
  refine Wp.p (pc' := 1) d_mergeWithNext_0 rfl rfl ?_
  refine Wp.if_lt d_mergeWithNext_1 rfl (fun c1 => ?_) (fun c1 => ?_)
  ·
    refine Wp.retV d_mergeWithNext_14 ?_
    exact (h1 c1)
  ·
    refine Wp.p (pc' := 5) d_mergeWithNext_4 rfl rfl ?_
    refine Wp.iconst (1 : Int32) d_mergeWithNext_5 (by decide) ?_
    refine Wp.p (pc' := 7) d_mergeWithNext_6 rfl rfl ?_
    refine Wp.p (pc' := 8) d_mergeWithNext_7 rfl rfl ?_
    refine Wp.getI (mi 1 40) d_mergeWithNext_8 fa_c46 rfl rfl ?_
    refine Wp.icmp_lt d_mergeWithNext_11 rfl (fun c2 => ?_) (fun c2 => ?_)
    ·
      refine Wp.p (pc' := 16) d_mergeWithNext_15 rfl rfl ?_
      refine Wp.getR (b := 6) d_mergeWithNext_16 fa_c22 rfl rfl ?_
      refine Wp.p (pc' := 20) d_mergeWithNext_19 rfl rfl ?_
      refine Wp.iaload (mi 6 (Int32.toNatClampNeg x1)) d_mergeWithNext_20 rfl (k := (Int32.toNatClampNeg x1)) rfl (b1 c1 c2) rfl ?_
      refine Wp.p (pc' := 22) d_mergeWithNext_21 rfl rfl ?_
      refine Wp.p (pc' := 23) d_mergeWithNext_22 rfl rfl ?_
      refine Wp.getR (b := 6) d_mergeWithNext_23 fa_c22 rfl rfl ?_
      refine Wp.p (pc' := 27) d_mergeWithNext_26 rfl rfl ?_
      refine Wp.iconst (1 : Int32) d_mergeWithNext_27 (by decide) ?_
      refine Wp.p (pc' := 29) d_mergeWithNext_28 rfl rfl ?_
      refine Wp.iaload (mi 6 (Int32.toNatClampNeg (x1 + (1 : Int32)))) d_mergeWithNext_29 rfl (k := (Int32.toNatClampNeg (x1 + (1 : Int32)))) rfl (b2 c1 c2) rfl ?_
      refine Wp.p (pc' := 31) d_mergeWithNext_30 rfl rfl ?_
      refine Wp.p (pc' := 32) d_mergeWithNext_31 rfl rfl ?_
      refine Wp.getR (b := 5) d_mergeWithNext_32 fa_c19 rfl rfl ?_
      refine Wp.p (pc' := 36) d_mergeWithNext_35 rfl rfl ?_
      refine Wp.iaload (mi 5 (Int32.toNatClampNeg (mi 6 (Int32.toNatClampNeg x1)))) d_mergeWithNext_36 rfl (k := (Int32.toNatClampNeg (mi 6 (Int32.toNatClampNeg x1)))) rfl (b3 c1 c2) rfl ?_
      refine Wp.p (pc' := 39) d_mergeWithNext_37 rfl rfl ?_
      refine Wp.p (pc' := 40) d_mergeWithNext_39 rfl rfl ?_
      refine Wp.getR (b := 5) d_mergeWithNext_40 fa_c19 rfl rfl ?_
      refine Wp.p (pc' := 44) d_mergeWithNext_43 rfl rfl ?_
      refine Wp.iaload (mi 5 (Int32.toNatClampNeg (mi 6 (Int32.toNatClampNeg (x1 + (1 : Int32)))))) d_mergeWithNext_44 rfl (k := (Int32.toNatClampNeg (mi 6 (Int32.toNatClampNeg (x1 + (1 : Int32)))))) rfl (b4 c1 c2) rfl ?_
      refine Wp.p (pc' := 47) d_mergeWithNext_45 rfl rfl ?_
      refine Wp.p (pc' := 49) d_mergeWithNext_47 rfl rfl ?_
      refine Wp.p (pc' := 51) d_mergeWithNext_49 rfl rfl ?_
      refine Wp.p (pc' := 52) d_mergeWithNext_51 rfl rfl ?_
      refine Wp.iconst (4 : Int32) d_mergeWithNext_52 (by decide) ?_
      refine Wp.icmp_le d_mergeWithNext_53 rfl (fun c3 => ?_) (fun c3 => ?_)
      ·
        refine Wp.p (pc' := 58) d_mergeWithNext_57 rfl rfl ?_
        refine Wp.iconst (4 : Int32) d_mergeWithNext_58 (by decide) ?_
        refine Wp.p (pc' := 60) d_mergeWithNext_59 rfl rfl ?_
        refine Wp.p (pc' := 62) d_mergeWithNext_60 rfl rfl ?_
        refine Wp.p (pc' := 63) d_mergeWithNext_62 rfl rfl ?_
        refine Wp.iconst (4 : Int32) d_mergeWithNext_63 (by decide) ?_
        refine Wp.p (pc' := 65) d_mergeWithNext_64 rfl rfl ?_
        refine Wp.p (pc' := 67) d_mergeWithNext_65 rfl rfl ?_
        refine Wp.iconst (0 : Int32) d_mergeWithNext_67 (by decide) ?_
        refine Wp.p (pc' := 70) d_mergeWithNext_68 rfl rfl ?_
        exact (h2 c1 c2 c3)
      ·
        refine Wp.retV d_mergeWithNext_56 ?_
        exact (h3 c1 c2 c3)
    ·
      refine Wp.retV d_mergeWithNext_14 ?_
      exact (h4 c1 c2)
set_option maxRecDepth 65536 in
set_option maxHeartbeats 4000000 in
theorem L_mergeWithNext_70 {n : Nat} {x1 x2 x3 x4 x5 x6 x7 x8 : Int32} {mi : Nat → Nat → Int32} {ml : Nat → Nat → Int64} {Q : Option Value → EMem → Prop}
    (h1 : ¬ x8 < x5 → W_mergeWithNext 109 [.val (.ref 1), .val (.int x1), .val (.int x2), .val (.int x3), .val (.int x4), .val (.int x5), .val (.int x6), .val (.int x7), .val (.int x8)] [] ((LL1 n), mi, ml, RR1) Q)
    (h2 : x8 < x5 → ¬ (x4 + x8) < (4 : Int32) → W_mergeWithNext 109 [.val (.ref 1), .val (.int x1), .val (.int x2), .val (.int x3), .val (.int x4), .val (.int x5), .val (.int x6), .val (.int x7), .val (.int x8)] [] ((LL1 n), mi, ml, RR1) Q)
    (b1 : x8 < x5 → (x4 + x8) < (4 : Int32) → inb (x7 + x8) 128 = true)
    (b2 : x8 < x5 → (x4 + x8) < (4 : Int32) → inb ((x6 + x4) + x8) 128 = true)
    (h3 : x8 < x5 → (x4 + x8) < (4 : Int32) → W_mergeWithNext 70 [.val (.ref 1), .val (.int x1), .val (.int x2), .val (.int x3), .val (.int x4), .val (.int x5), .val (.int x6), .val (.int x7), .val (.int (x8 + (1 : Int32)))] [] ((LL1 n), (up (up (up mi 2 (Int32.toNatClampNeg ((x6 + x4) + x8)) (mi 2 (Int32.toNatClampNeg (x7 + x8)))) 3 (Int32.toNatClampNeg ((x6 + x4) + x8)) (mi 3 (Int32.toNatClampNeg (x7 + x8)))) 4 (Int32.toNatClampNeg ((x6 + x4) + x8)) (mi 4 (Int32.toNatClampNeg (x7 + x8)))), ml, RR1) Q) :
    W_mergeWithNext 70 [.val (.ref 1), .val (.int x1), .val (.int x2), .val (.int x3), .val (.int x4), .val (.int x5), .val (.int x6), .val (.int x7), .val (.int x8)] [] ((LL1 n), mi, ml, RR1) Q := by
  refine Wp.p (pc' := 72) d_mergeWithNext_70 rfl rfl ?_
  refine Wp.p (pc' := 74) d_mergeWithNext_72 rfl rfl ?_
  refine Wp.icmp_ge d_mergeWithNext_74 rfl (fun c1 => ?_) (fun c1 => ?_)
  ·
    exact (h1 c1)
  ·
    refine Wp.p (pc' := 79) d_mergeWithNext_77 rfl rfl ?_
    refine Wp.p (pc' := 81) d_mergeWithNext_79 rfl rfl ?_
    refine Wp.p (pc' := 82) d_mergeWithNext_81 rfl rfl ?_
    refine Wp.iconst (4 : Int32) d_mergeWithNext_82 (by decide) ?_
    refine Wp.icmp_ge d_mergeWithNext_83 rfl (fun c2 => ?_) (fun c2 => ?_)
    ·
      exact (h2 c1 c2)
    ·
      refine Wp.p (pc' := 87) d_mergeWithNext_86 rfl rfl ?_
      refine Wp.p (pc' := 89) d_mergeWithNext_87 rfl rfl ?_
      refine Wp.p (pc' := 91) d_mergeWithNext_89 rfl rfl ?_
      refine Wp.p (pc' := 92) d_mergeWithNext_91 rfl rfl ?_
      refine Wp.p (pc' := 94) d_mergeWithNext_92 rfl rfl ?_
      refine Wp.p (pc' := 96) d_mergeWithNext_94 rfl rfl ?_
      refine Wp.p (pc' := 97) d_mergeWithNext_96 rfl rfl ?_
      refine Wp.p (pc' := 99) d_mergeWithNext_97 rfl rfl ?_
      refine Wp.p (pc' := 100) d_mergeWithNext_99 rfl rfl ?_
      refine Wp.callP (a := 1) (as := [.int (x7 + x8), .int ((x6 + x4) + x8)]) (rest := []) (w := 0) (F' := 0) (Lb' := 0) d_mergeWithNext_100 ca_c107_1 rfl rfl rfl rfl (by decide) (by decide) (Nat.le_of_ble_eq_true rfl) ?_
      refine L_copyEntry_0 ?_ ?_ ?_
      · first | decide | exact (b1 c1 c2) | exact (b2 c1 c2)
      · first | decide | exact (b1 c1 c2) | exact (b2 c1 c2)
      show W_mergeWithNext 103 [.val (.ref 1), .val (.int x1), .val (.int x2), .val (.int x3), .val (.int x4), .val (.int x5), .val (.int x6), .val (.int x7), .val (.int x8)] [] ((LL1 n), (up (up (up mi 2 (Int32.toNatClampNeg ((x6 + x4) + x8)) (mi 2 (Int32.toNatClampNeg (x7 + x8)))) 3 (Int32.toNatClampNeg ((x6 + x4) + x8)) (mi 3 (Int32.toNatClampNeg (x7 + x8)))) 4 (Int32.toNatClampNeg ((x6 + x4) + x8)) (mi 4 (Int32.toNatClampNeg (x7 + x8)))), ml, RR1) Q
      refine Wp.iinc (1 : Int32) d_mergeWithNext_103 (by decide) rfl rfl ?_
      refine Wp.p (pc' := 70) d_mergeWithNext_106 rfl rfl ?_
      exact (h3 c1 c2)
set_option maxRecDepth 65536 in
set_option maxHeartbeats 4000000 in
theorem L_mergeWithNext_109 {n : Nat} {x1 x2 x3 x4 x5 x6 x7 x8 : Int32} {mi : Nat → Nat → Int32} {ml : Nat → Nat → Int64} {Q : Option Value → EMem → Prop}
    (b1 : inb x2 32 = true)
    (h1 : W_indexRemove 0 [.val (.ref 1), .val (.int (x1 + (1 : Int32))), .unset] [] ((LL1 n), (up mi 5 (Int32.toNatClampNeg x2) (x4 + x5)), ml, RR1) (fun v M' => W_mergeWithNext 127 [.val (.ref 1), .val (.int x1), .val (.int x2), .val (.int x3), .val (.int x4), .val (.int x5), .val (.int x6), .val (.int x7), .val (.int x8)] (v.toList ++ []) M' Q)) :
    W_mergeWithNext 109 [.val (.ref 1), .val (.int x1), .val (.int x2), .val (.int x3), .val (.int x4), .val (.int x5), .val (.int x6), .val (.int x7), .val (.int x8)] [] ((LL1 n), mi, ml, RR1) Q := by
  refine Wp.p (pc' := 110) d_mergeWithNext_109 rfl rfl ?_
  refine Wp.getR (b := 5) d_mergeWithNext_110 fa_c19 rfl rfl ?_
  refine Wp.p (pc' := 114) d_mergeWithNext_113 rfl rfl ?_
  refine Wp.p (pc' := 116) d_mergeWithNext_114 rfl rfl ?_
  refine Wp.p (pc' := 118) d_mergeWithNext_116 rfl rfl ?_
  refine Wp.p (pc' := 119) d_mergeWithNext_118 rfl rfl ?_
  refine Wp.iastore d_mergeWithNext_119 rfl (k := (Int32.toNatClampNeg x2)) rfl b1 (by decide) ?_
  refine Wp.p (pc' := 121) d_mergeWithNext_120 rfl rfl ?_
  refine Wp.p (pc' := 122) d_mergeWithNext_121 rfl rfl ?_
  refine Wp.iconst (1 : Int32) d_mergeWithNext_122 (by decide) ?_
  refine Wp.p (pc' := 124) d_mergeWithNext_123 rfl rfl ?_
  refine Wp.callP (a := 1) (as := [.int (x1 + (1 : Int32))]) (rest := []) (w := 0) (F' := 0) (Lb' := 0) d_mergeWithNext_124 ca_c113_1 rfl rfl rfl rfl (by decide) (by decide) (Nat.le_of_ble_eq_true rfl) ?_
  exact h1
set_option maxRecDepth 65536 in
set_option maxHeartbeats 4000000 in
theorem L_mergeWithNext_127 {n : Nat} {x1 x2 x3 x4 x5 x6 x7 x8 : Int32} {mi : Nat → Nat → Int32} {ml : Nat → Nat → Int64} {Q : Option Value → EMem → Prop}
    (h1 : W_freeLeaf 0 [.val (.ref 1), .val (.int x3)] [] ((LL1 n), mi, ml, RR1) (fun v M' => W_mergeWithNext 132 [.val (.ref 1), .val (.int x1), .val (.int x2), .val (.int x3), .val (.int x4), .val (.int x5), .val (.int x6), .val (.int x7), .val (.int x8)] (v.toList ++ []) M' Q)) :
    W_mergeWithNext 127 [.val (.ref 1), .val (.int x1), .val (.int x2), .val (.int x3), .val (.int x4), .val (.int x5), .val (.int x6), .val (.int x7), .val (.int x8)] [] ((LL1 n), mi, ml, RR1) Q := by
  refine Wp.p (pc' := 128) d_mergeWithNext_127 rfl rfl ?_
  refine Wp.p (pc' := 129) d_mergeWithNext_128 rfl rfl ?_
  refine Wp.callP (a := 1) (as := [.int x3]) (rest := []) (w := 0) (F' := 0) (Lb' := 0) d_mergeWithNext_129 ca_c116_1 rfl rfl rfl rfl (by decide) (by decide) (Nat.le_of_ble_eq_true rfl) ?_
  exact h1
set_option maxRecDepth 65536 in
set_option maxHeartbeats 4000000 in
theorem L_mergeWithNext_132 {n : Nat} {x1 x2 x3 x4 x5 x6 x7 x8 : Int32} {mi : Nat → Nat → Int32} {ml : Nat → Nat → Int64} {Q : Option Value → EMem → Prop}
    (h1 : Q none ((LL1 n), mi, ml, RR1)) :
    W_mergeWithNext 132 [.val (.ref 1), .val (.int x1), .val (.int x2), .val (.int x3), .val (.int x4), .val (.int x5), .val (.int x6), .val (.int x7), .val (.int x8)] [] ((LL1 n), mi, ml, RR1) Q := by
  refine Wp.retV d_mergeWithNext_132 ?_
  exact h1
set_option maxRecDepth 65536 in
set_option maxHeartbeats 4000000 in
theorem L_rebalance_0 {n : Nat} {x1 : Int32} {mi : Nat → Nat → Int32} {ml : Nat → Nat → Int64} {Q : Option Value → EMem → Prop}
    (h1 : x1 < (0 : Int32) → Q none ((LL1 n), mi, ml, RR1))
    (b1 : ¬ x1 < (0 : Int32) → x1 < (mi 1 40) → inb x1 32 = true)
    (b2 : ¬ x1 < (0 : Int32) → x1 < (mi 1 40) → inb (mi 6 (Int32.toNatClampNeg x1)) 32 = true)
    (h2 : ¬ x1 < (0 : Int32) → x1 < (mi 1 40) → ¬ (mi 5 (Int32.toNatClampNeg (mi 6 (Int32.toNatClampNeg x1)))) = (0 : Int32) → ¬ (1 : Int32) < (mi 5 (Int32.toNatClampNeg (mi 6 (Int32.toNatClampNeg x1)))) → ¬ (x1 + (1 : Int32)) < (mi 1 40) → W_rebalance 85 [.val (.ref 1), .val (.int x1), .val (.int (mi 6 (Int32.toNatClampNeg x1))), .val (.int (mi 5 (Int32.toNatClampNeg (mi 6 (Int32.toNatClampNeg x1)))))] [] ((LL1 n), mi, ml, RR1) Q)
    (b3 : ¬ x1 < (0 : Int32) → x1 < (mi 1 40) → ¬ (mi 5 (Int32.toNatClampNeg (mi 6 (Int32.toNatClampNeg x1)))) = (0 : Int32) → ¬ (1 : Int32) < (mi 5 (Int32.toNatClampNeg (mi 6 (Int32.toNatClampNeg x1)))) → (x1 + (1 : Int32)) < (mi 1 40) → inb (x1 + (1 : Int32)) 32 = true)
    (b4 : ¬ x1 < (0 : Int32) → x1 < (mi 1 40) → ¬ (mi 5 (Int32.toNatClampNeg (mi 6 (Int32.toNatClampNeg x1)))) = (0 : Int32) → ¬ (1 : Int32) < (mi 5 (Int32.toNatClampNeg (mi 6 (Int32.toNatClampNeg x1)))) → (x1 + (1 : Int32)) < (mi 1 40) → inb (mi 6 (Int32.toNatClampNeg (x1 + (1 : Int32)))) 32 = true)
    (h3 : ¬ x1 < (0 : Int32) → x1 < (mi 1 40) → ¬ (mi 5 (Int32.toNatClampNeg (mi 6 (Int32.toNatClampNeg x1)))) = (0 : Int32) → ¬ (1 : Int32) < (mi 5 (Int32.toNatClampNeg (mi 6 (Int32.toNatClampNeg x1)))) → (x1 + (1 : Int32)) < (mi 1 40) → (4 : Int32) < ((mi 5 (Int32.toNatClampNeg (mi 6 (Int32.toNatClampNeg x1)))) + (mi 5 (Int32.toNatClampNeg (mi 6 (Int32.toNatClampNeg (x1 + (1 : Int32))))))) → W_rebalance 85 [.val (.ref 1), .val (.int x1), .val (.int (mi 6 (Int32.toNatClampNeg x1))), .val (.int (mi 5 (Int32.toNatClampNeg (mi 6 (Int32.toNatClampNeg x1)))))] [] ((LL1 n), mi, ml, RR1) Q)
    (h4 : ¬ x1 < (0 : Int32) → x1 < (mi 1 40) → ¬ (mi 5 (Int32.toNatClampNeg (mi 6 (Int32.toNatClampNeg x1)))) = (0 : Int32) → ¬ (1 : Int32) < (mi 5 (Int32.toNatClampNeg (mi 6 (Int32.toNatClampNeg x1)))) → (x1 + (1 : Int32)) < (mi 1 40) → ¬ (4 : Int32) < ((mi 5 (Int32.toNatClampNeg (mi 6 (Int32.toNatClampNeg x1)))) + (mi 5 (Int32.toNatClampNeg (mi 6 (Int32.toNatClampNeg (x1 + (1 : Int32))))))) → W_mergeWithNext 0 [.val (.ref 1), .val (.int x1), .unset, .unset, .unset, .unset, .unset, .unset, .unset] [] ((LL1 n), mi, ml, RR1) (fun v M' => W_rebalance 82 [.val (.ref 1), .val (.int x1), .val (.int (mi 6 (Int32.toNatClampNeg x1))), .val (.int (mi 5 (Int32.toNatClampNeg (mi 6 (Int32.toNatClampNeg x1)))))] (v.toList ++ []) M' Q))
    (h5 : ¬ x1 < (0 : Int32) → x1 < (mi 1 40) → ¬ (mi 5 (Int32.toNatClampNeg (mi 6 (Int32.toNatClampNeg x1)))) = (0 : Int32) → (1 : Int32) < (mi 5 (Int32.toNatClampNeg (mi 6 (Int32.toNatClampNeg x1)))) → Q none ((LL1 n), mi, ml, RR1))
    (h6 : ¬ x1 < (0 : Int32) → x1 < (mi 1 40) → (mi 5 (Int32.toNatClampNeg (mi 6 (Int32.toNatClampNeg x1)))) = (0 : Int32) → W_indexRemove 0 [.val (.ref 1), .val (.int x1), .unset] [] ((LL1 n), mi, ml, RR1) (fun v M' => W_rebalance 36 [.val (.ref 1), .val (.int x1), .val (.int (mi 6 (Int32.toNatClampNeg x1))), .val (.int (mi 5 (Int32.toNatClampNeg (mi 6 (Int32.toNatClampNeg x1)))))] (v.toList ++ []) M' Q))
    (h7 : ¬ x1 < (0 : Int32) → ¬ x1 < (mi 1 40) → Q none ((LL1 n), mi, ml, RR1)) :
    W_rebalance 0 [.val (.ref 1), .val (.int x1), .unset, .unset] [] ((LL1 n), mi, ml, RR1) Q := by
  refine Wp.p (pc' := 1) d_rebalance_0 rfl rfl ?_
  refine Wp.if_lt d_rebalance_1 rfl (fun c1 => ?_) (fun c1 => ?_)
  ·
    refine Wp.retV d_rebalance_12 ?_
    exact (h1 c1)
  ·
    refine Wp.p (pc' := 5) d_rebalance_4 rfl rfl ?_
    refine Wp.p (pc' := 6) d_rebalance_5 rfl rfl ?_
    refine Wp.getI (mi 1 40) d_rebalance_6 fa_c46 rfl rfl ?_
    refine Wp.icmp_lt d_rebalance_9 rfl (fun c2 => ?_) (fun c2 => ?_)
    ·
      refine Wp.p (pc' := 14) d_rebalance_13 rfl rfl ?_
      refine Wp.getR (b := 6) d_rebalance_14 fa_c22 rfl rfl ?_
      refine Wp.p (pc' := 18) d_rebalance_17 rfl rfl ?_
      refine Wp.iaload (mi 6 (Int32.toNatClampNeg x1)) d_rebalance_18 rfl (k := (Int32.toNatClampNeg x1)) rfl (b1 c1 c2) rfl ?_
      refine Wp.p (pc' := 20) d_rebalance_19 rfl rfl ?_
      refine Wp.p (pc' := 21) d_rebalance_20 rfl rfl ?_
      refine Wp.getR (b := 5) d_rebalance_21 fa_c19 rfl rfl ?_
      refine Wp.p (pc' := 25) d_rebalance_24 rfl rfl ?_
      refine Wp.iaload (mi 5 (Int32.toNatClampNeg (mi 6 (Int32.toNatClampNeg x1)))) d_rebalance_25 rfl (k := (Int32.toNatClampNeg (mi 6 (Int32.toNatClampNeg x1)))) rfl (b2 c1 c2) rfl ?_
      refine Wp.p (pc' := 27) d_rebalance_26 rfl rfl ?_
      refine Wp.p (pc' := 28) d_rebalance_27 rfl rfl ?_
      refine Wp.if_ne d_rebalance_28 rfl (fun c3 => ?_) (fun c3 => ?_)
      ·
        refine Wp.p (pc' := 43) d_rebalance_42 rfl rfl ?_
        refine Wp.iconst (1 : Int32) d_rebalance_43 (by decide) ?_
        refine Wp.icmp_le d_rebalance_44 rfl (fun c4 => ?_) (fun c4 => ?_)
        ·
          refine Wp.p (pc' := 49) d_rebalance_48 rfl rfl ?_
          refine Wp.iconst (1 : Int32) d_rebalance_49 (by decide) ?_
          refine Wp.p (pc' := 51) d_rebalance_50 rfl rfl ?_
          refine Wp.p (pc' := 52) d_rebalance_51 rfl rfl ?_
          refine Wp.getI (mi 1 40) d_rebalance_52 fa_c46 rfl rfl ?_
          refine Wp.icmp_ge d_rebalance_55 rfl (fun c5 => ?_) (fun c5 => ?_)
          ·
            exact (h2 c1 c2 c3 c4 c5)
          ·
            refine Wp.p (pc' := 59) d_rebalance_58 rfl rfl ?_
            refine Wp.p (pc' := 60) d_rebalance_59 rfl rfl ?_
            refine Wp.getR (b := 5) d_rebalance_60 fa_c19 rfl rfl ?_
            refine Wp.p (pc' := 64) d_rebalance_63 rfl rfl ?_
            refine Wp.getR (b := 6) d_rebalance_64 fa_c22 rfl rfl ?_
            refine Wp.p (pc' := 68) d_rebalance_67 rfl rfl ?_
            refine Wp.iconst (1 : Int32) d_rebalance_68 (by decide) ?_
            refine Wp.p (pc' := 70) d_rebalance_69 rfl rfl ?_
            refine Wp.iaload (mi 6 (Int32.toNatClampNeg (x1 + (1 : Int32)))) d_rebalance_70 rfl (k := (Int32.toNatClampNeg (x1 + (1 : Int32)))) rfl (b3 c1 c2 c3 c4 c5) rfl ?_
            refine Wp.iaload (mi 5 (Int32.toNatClampNeg (mi 6 (Int32.toNatClampNeg (x1 + (1 : Int32)))))) d_rebalance_71 rfl (k := (Int32.toNatClampNeg (mi 6 (Int32.toNatClampNeg (x1 + (1 : Int32)))))) rfl (b4 c1 c2 c3 c4 c5) rfl ?_
            refine Wp.p (pc' := 73) d_rebalance_72 rfl rfl ?_
            refine Wp.iconst (4 : Int32) d_rebalance_73 (by decide) ?_
            refine Wp.icmp_gt d_rebalance_74 rfl (fun c6 => ?_) (fun c6 => ?_)
            ·
              exact (h3 c1 c2 c3 c4 c5 c6)
            ·
              refine Wp.p (pc' := 78) d_rebalance_77 rfl rfl ?_
              refine Wp.p (pc' := 79) d_rebalance_78 rfl rfl ?_
              refine Wp.callP (a := 1) (as := [.int x1]) (rest := []) (w := 0) (F' := 1) (Lb' := 14) d_rebalance_79 ca_c119_1 rfl rfl rfl rfl (by decide) (by decide) (Nat.le_of_ble_eq_true rfl) ?_
              exact (h4 c1 c2 c3 c4 c5 c6)
        ·
          refine Wp.retV d_rebalance_47 ?_
          exact (h5 c1 c2 c3 c4)
      ·
        refine Wp.p (pc' := 32) d_rebalance_31 rfl rfl ?_
        refine Wp.p (pc' := 33) d_rebalance_32 rfl rfl ?_
        refine Wp.callP (a := 1) (as := [.int x1]) (rest := []) (w := 0) (F' := 0) (Lb' := 0) d_rebalance_33 ca_c113_1 rfl rfl rfl rfl (by decide) (by decide) (Nat.le_of_ble_eq_true rfl) ?_
        exact (h6 c1 c2 c3)
    ·
      refine Wp.retV d_rebalance_12 ?_
      exact (h7 c1 c2)
set_option maxRecDepth 65536 in
set_option maxHeartbeats 4000000 in
theorem L_rebalance_36 {n : Nat} {x1 x2 x3 : Int32} {mi : Nat → Nat → Int32} {ml : Nat → Nat → Int64} {Q : Option Value → EMem → Prop}
    (h1 : W_freeLeaf 0 [.val (.ref 1), .val (.int x2)] [] ((LL1 n), mi, ml, RR1) (fun v M' => W_rebalance 41 [.val (.ref 1), .val (.int x1), .val (.int x2), .val (.int x3)] (v.toList ++ []) M' Q)) :
    W_rebalance 36 [.val (.ref 1), .val (.int x1), .val (.int x2), .val (.int x3)] [] ((LL1 n), mi, ml, RR1) Q := by
  refine Wp.p (pc' := 37) d_rebalance_36 rfl rfl ?_
  refine Wp.p (pc' := 38) d_rebalance_37 rfl rfl ?_
  refine Wp.callP (a := 1) (as := [.int x2]) (rest := []) (w := 0) (F' := 0) (Lb' := 0) d_rebalance_38 ca_c116_1 rfl rfl rfl rfl (by decide) (by decide) (Nat.le_of_ble_eq_true rfl) ?_
  exact h1
set_option maxRecDepth 65536 in
set_option maxHeartbeats 4000000 in
theorem L_rebalance_41 {n : Nat} {x1 x2 x3 : Int32} {mi : Nat → Nat → Int32} {ml : Nat → Nat → Int64} {Q : Option Value → EMem → Prop}
    (h1 : Q none ((LL1 n), mi, ml, RR1)) :
    W_rebalance 41 [.val (.ref 1), .val (.int x1), .val (.int x2), .val (.int x3)] [] ((LL1 n), mi, ml, RR1) Q := by
  refine Wp.retV d_rebalance_41 ?_
  exact h1
set_option maxRecDepth 65536 in
set_option maxHeartbeats 4000000 in
theorem L_rebalance_82 {n : Nat} {x1 x2 x3 : Int32} {mi : Nat → Nat → Int32} {ml : Nat → Nat → Int64} {Q : Option Value → EMem → Prop}
    (h1 : W_rebalance 115 [.val (.ref 1), .val (.int x1), .val (.int x2), .val (.int x3)] [] ((LL1 n), mi, ml, RR1) Q) :
    W_rebalance 82 [.val (.ref 1), .val (.int x1), .val (.int x2), .val (.int x3)] [] ((LL1 n), mi, ml, RR1) Q := by
  refine Wp.p (pc' := 115) d_rebalance_82 rfl rfl ?_
  exact h1
set_option maxRecDepth 65536 in
set_option maxHeartbeats 4000000 in
theorem L_rebalance_85 {n : Nat} {x1 x2 x3 : Int32} {mi : Nat → Nat → Int32} {ml : Nat → Nat → Int64} {Q : Option Value → EMem → Prop}
    (h1 : ¬ (0 : Int32) < x1 → W_rebalance 115 [.val (.ref 1), .val (.int x1), .val (.int x2), .val (.int x3)] [] ((LL1 n), mi, ml, RR1) Q)
    (b1 : (0 : Int32) < x1 → inb (x1 - (1 : Int32)) 32 = true)
    (b2 : (0 : Int32) < x1 → inb (mi 6 (Int32.toNatClampNeg (x1 - (1 : Int32)))) 32 = true)
    (h2 : (0 : Int32) < x1 → (4 : Int32) < ((mi 5 (Int32.toNatClampNeg (mi 6 (Int32.toNatClampNeg (x1 - (1 : Int32)))))) + x3) → W_rebalance 115 [.val (.ref 1), .val (.int x1), .val (.int x2), .val (.int x3)] [] ((LL1 n), mi, ml, RR1) Q)
    (h3 : (0 : Int32) < x1 → ¬ (4 : Int32) < ((mi 5 (Int32.toNatClampNeg (mi 6 (Int32.toNatClampNeg (x1 - (1 : Int32)))))) + x3) → W_mergeWithNext 0 [.val (.ref 1), .val (.int (x1 - (1 : Int32))), .unset, .unset, .unset, .unset, .unset, .unset, .unset] [] ((LL1 n), mi, ml, RR1) (fun v M' => W_rebalance 115 [.val (.ref 1), .val (.int x1), .val (.int x2), .val (.int x3)] (v.toList ++ []) M' Q)) :
    W_rebalance 85 [.val (.ref 1), .val (.int x1), .val (.int x2), .val (.int x3)] [] ((LL1 n), mi, ml, RR1) Q := by
  refine Wp.p (pc' := 86) d_rebalance_85 rfl rfl ?_
  refine Wp.if_le d_rebalance_86 rfl (fun c1 => ?_) (fun c1 => ?_)
  ·
    exact (h1 c1)
  ·
    refine Wp.p (pc' := 90) d_rebalance_89 rfl rfl ?_
    refine Wp.getR (b := 5) d_rebalance_90 fa_c19 rfl rfl ?_
    refine Wp.p (pc' := 94) d_rebalance_93 rfl rfl ?_
    refine Wp.getR (b := 6) d_rebalance_94 fa_c22 rfl rfl ?_
    refine Wp.p (pc' := 98) d_rebalance_97 rfl rfl ?_
    refine Wp.iconst (1 : Int32) d_rebalance_98 (by decide) ?_
    refine Wp.p (pc' := 100) d_rebalance_99 rfl rfl ?_
    refine Wp.iaload (mi 6 (Int32.toNatClampNeg (x1 - (1 : Int32)))) d_rebalance_100 rfl (k := (Int32.toNatClampNeg (x1 - (1 : Int32)))) rfl (b1 c1) rfl ?_
    refine Wp.iaload (mi 5 (Int32.toNatClampNeg (mi 6 (Int32.toNatClampNeg (x1 - (1 : Int32)))))) d_rebalance_101 rfl (k := (Int32.toNatClampNeg (mi 6 (Int32.toNatClampNeg (x1 - (1 : Int32)))))) rfl (b2 c1) rfl ?_
    refine Wp.p (pc' := 103) d_rebalance_102 rfl rfl ?_
    refine Wp.p (pc' := 104) d_rebalance_103 rfl rfl ?_
    refine Wp.iconst (4 : Int32) d_rebalance_104 (by decide) ?_
    refine Wp.icmp_gt d_rebalance_105 rfl (fun c2 => ?_) (fun c2 => ?_)
    ·
      exact (h2 c1 c2)
    ·
      refine Wp.p (pc' := 109) d_rebalance_108 rfl rfl ?_
      refine Wp.p (pc' := 110) d_rebalance_109 rfl rfl ?_
      refine Wp.iconst (1 : Int32) d_rebalance_110 (by decide) ?_
      refine Wp.p (pc' := 112) d_rebalance_111 rfl rfl ?_
      refine Wp.callP (a := 1) (as := [.int (x1 - (1 : Int32))]) (rest := []) (w := 0) (F' := 1) (Lb' := 14) d_rebalance_112 ca_c119_1 rfl rfl rfl rfl (by decide) (by decide) (Nat.le_of_ble_eq_true rfl) ?_
      exact (h3 c1 c2)
set_option maxRecDepth 65536 in
set_option maxHeartbeats 4000000 in
theorem L_rebalance_115 {n : Nat} {x1 x2 x3 : Int32} {mi : Nat → Nat → Int32} {ml : Nat → Nat → Int64} {Q : Option Value → EMem → Prop}
    (h1 : Q none ((LL1 n), mi, ml, RR1)) :
    W_rebalance 115 [.val (.ref 1), .val (.int x1), .val (.int x2), .val (.int x3)] [] ((LL1 n), mi, ml, RR1) Q := by
  refine Wp.retV d_rebalance_115 ?_
  exact h1
set_option maxRecDepth 65536 in
set_option maxHeartbeats 4000000 in
theorem L_insert_0 {n : Nat} {x1 x2 : Int32} {mi : Nat → Nat → Int32} {ml : Nat → Nat → Int64} {Q : Option Value → EMem → Prop}
    (h1 : ∀ v1 : Int32, v1 = (if x1 < (0 : Int32) then (0 : Int32) else (if (65535 : Int32) < x1 then (0 : Int32) else (1 : Int32))) → ¬ (v1 &&& 1) = (0 : Int32) → ¬ x2 < (1 : Int32) → W_hash 0 [.val (.ref 1), .val (.int x1), .unset] [] ((LL1 n), mi, ml, RR1) (fun v M' => W_insert 22 [.val (.ref 1), .val (.int x1), .val (.int x2), .unset, .unset, .unset] (v.toList ++ []) M' Q))
    (h2 : ∀ v1 : Int32, v1 = (if x1 < (0 : Int32) then (0 : Int32) else (if (65535 : Int32) < x1 then (0 : Int32) else (1 : Int32))) → ¬ (v1 &&& 1) = (0 : Int32) → x2 < (1 : Int32) → Q (some (.int (5 : Int32))) ((LL1 n), mi, ml, RR1))
    (h3 : ∀ v1 : Int32, v1 = (if x1 < (0 : Int32) then (0 : Int32) else (if (65535 : Int32) < x1 then (0 : Int32) else (1 : Int32))) → (v1 &&& 1) = (0 : Int32) → Q (some (.int (4 : Int32))) ((LL1 n), mi, ml, RR1)) :
    W_insert 0 [.val (.ref 1), .val (.int x1), .val (.int x2), .unset, .unset, .unset] [] ((LL1 n), mi, ml, RR1) Q := by
  refine Wp.p (pc' := 1) d_insert_0 rfl rfl ?_
  refine Wp.p (pc' := 2) d_insert_1 rfl rfl ?_
  refine Wp.callP (a := 1) (as := [.int x1]) (rest := []) (w := 0) (F' := 0) (Lb' := 0) d_insert_2 ca_c52_1 rfl rfl rfl rfl (by decide) (by decide) (Nat.le_of_ble_eq_true rfl) ?_
  refine L_isName_0 ?_
  intro v1 e1
  show W_insert 5 [.val (.ref 1), .val (.int x1), .val (.int x2), .unset, .unset, .unset] [.int (v1 &&& 1)] ((LL1 n), mi, ml, RR1) Q
  refine Wp.if_ne d_insert_5 rfl (fun c2 => ?_) (fun c2 => ?_)
  ·
    refine Wp.p (pc' := 11) d_insert_10 rfl rfl ?_
    refine Wp.iconst (1 : Int32) d_insert_11 (by decide) ?_
    refine Wp.icmp_ge d_insert_12 rfl (fun c3 => ?_) (fun c3 => ?_)
    ·
      refine Wp.p (pc' := 18) d_insert_17 rfl rfl ?_
      refine Wp.p (pc' := 19) d_insert_18 rfl rfl ?_
      refine Wp.callP (a := 1) (as := [.int x1]) (rest := []) (w := 0) (F' := 0) (Lb' := 0) d_insert_19 ca_c56_1 rfl rfl rfl rfl (by decide) (by decide) (Nat.le_of_ble_eq_true rfl) ?_
      exact (h1 v1 e1 c2 c3)
    ·
      refine Wp.iconst (5 : Int32) d_insert_15 (by decide) ?_
      refine Wp.retI d_insert_16 ?_
      exact (h2 v1 e1 c2 c3)
  ·
    refine Wp.iconst (4 : Int32) d_insert_8 (by decide) ?_
    refine Wp.retI d_insert_9 ?_
    exact (h3 v1 e1 c2)
set_option maxRecDepth 65536 in
set_option maxHeartbeats 4000000 in
theorem L_insert_22 {n : Nat} {x1 x2 y0 : Int32} {mi : Nat → Nat → Int32} {ml : Nat → Nat → Int64} {Q : Option Value → EMem → Prop}
    (h1 : W_locate 0 [.val (.ref 1), .val (.int y0), .unset, .unset, .unset, .unset, .unset] [] ((LL1 n), mi, ml, RR1) (fun v M' => W_insert 28 [.val (.ref 1), .val (.int x1), .val (.int x2), .val (.int y0), .unset, .unset] (v.toList ++ []) M' Q)) :
    W_insert 22 [.val (.ref 1), .val (.int x1), .val (.int x2), .unset, .unset, .unset] [.int y0] ((LL1 n), mi, ml, RR1) Q := by
  refine Wp.p (pc' := 23) d_insert_22 rfl rfl ?_
  refine Wp.p (pc' := 24) d_insert_23 rfl rfl ?_
  refine Wp.p (pc' := 25) d_insert_24 rfl rfl ?_
  refine Wp.callP (a := 1) (as := [.int y0]) (rest := []) (w := 0) (F' := 2) (Lb' := 32) d_insert_25 ca_c60_1 rfl rfl rfl rfl (by decide) (by decide) (Nat.le_of_ble_eq_true rfl) ?_
  exact h1
set_option maxRecDepth 65536 in
set_option maxHeartbeats 4000000 in
theorem L_insert_28 {n : Nat} {x1 x2 x3 y0 : Int32} {mi : Nat → Nat → Int32} {ml : Nat → Nat → Int64} {Q : Option Value → EMem → Prop}
    (h1 : y0 < (0 : Int32) → (mi 1 38) < (mi 1 36) → ¬ (mi 1 40) = (0 : Int32) → W_insert 62 [.val (.ref 1), .val (.int x1), .val (.int x2), .val (.int x3), .unset, .unset] [] ((LL1 n), mi, ml, RR1) Q)
    (h2 : y0 < (0 : Int32) → (mi 1 38) < (mi 1 36) → (mi 1 40) = (0 : Int32) → W_createFirstLeaf 0 [.val (.ref 1), .unset] [] ((LL1 n), mi, ml, RR1) (fun v M' => W_insert 57 [.val (.ref 1), .val (.int x1), .val (.int x2), .val (.int x3), .unset, .unset] (v.toList ++ []) M' Q))
    (h3 : y0 < (0 : Int32) → ¬ (mi 1 38) < (mi 1 36) → Q (some (.int (2 : Int32))) ((LL1 n), mi, ml, RR1))
    (h4 : ¬ y0 < (0 : Int32) → Q (some (.int (1 : Int32))) ((LL1 n), mi, ml, RR1)) :
    W_insert 28 [.val (.ref 1), .val (.int x1), .val (.int x2), .val (.int x3), .unset, .unset] [.int y0] ((LL1 n), mi, ml, RR1) Q := by
  refine Wp.if_lt d_insert_28 rfl (fun c1 => ?_) (fun c1 => ?_)
  ·
    refine Wp.p (pc' := 34) d_insert_33 rfl rfl ?_
    refine Wp.getI (mi 1 38) d_insert_34 fa_c43 rfl rfl ?_
    refine Wp.p (pc' := 38) d_insert_37 rfl rfl ?_
    refine Wp.getI (mi 1 36) d_insert_38 fa_c40 rfl rfl ?_
    refine Wp.icmp_lt d_insert_41 rfl (fun c2 => ?_) (fun c2 => ?_)
    ·
      refine Wp.p (pc' := 47) d_insert_46 rfl rfl ?_
      refine Wp.getI (mi 1 40) d_insert_47 fa_c46 rfl rfl ?_
      refine Wp.if_ne d_insert_50 rfl (fun c3 => ?_) (fun c3 => ?_)
      ·
        exact (h1 c1 c2 c3)
      ·
        refine Wp.p (pc' := 54) d_insert_53 rfl rfl ?_
        refine Wp.callP (a := 1) (as := []) (rest := []) (w := 0) (F' := 1) (Lb' := 13) d_insert_54 ca_c63_1 rfl rfl rfl rfl (by decide) (by decide) (Nat.le_of_ble_eq_true rfl) ?_
        exact (h2 c1 c2 c3)
    ·
      refine Wp.iconst (2 : Int32) d_insert_44 (by decide) ?_
      refine Wp.retI d_insert_45 ?_
      exact (h3 c1 c2)
  ·
    refine Wp.iconst (1 : Int32) d_insert_31 (by decide) ?_
    refine Wp.retI d_insert_32 ?_
    exact (h4 c1)
set_option maxRecDepth 65536 in
set_option maxHeartbeats 4000000 in
theorem L_insert_57 {n : Nat} {x1 x2 x3 y0 : Int32} {mi : Nat → Nat → Int32} {ml : Nat → Nat → Int64} {Q : Option Value → EMem → Prop}
    (h1 : ¬ y0 = (0 : Int32) → W_insert 62 [.val (.ref 1), .val (.int x1), .val (.int x2), .val (.int x3), .unset, .unset] [] ((LL1 n), mi, ml, RR1) Q)
    (h2 : y0 = (0 : Int32) → Q (some (.int (2 : Int32))) ((LL1 n), mi, ml, RR1)) :
    W_insert 57 [.val (.ref 1), .val (.int x1), .val (.int x2), .val (.int x3), .unset, .unset] [.int y0] ((LL1 n), mi, ml, RR1) Q := by
  refine Wp.if_ne d_insert_57 rfl (fun c1 => ?_) (fun c1 => ?_)
  ·
    exact (h1 c1)
  ·
    refine Wp.iconst (2 : Int32) d_insert_60 (by decide) ?_
    refine Wp.retI d_insert_61 ?_
    exact (h2 c1)
set_option maxRecDepth 65536 in
set_option maxHeartbeats 4000000 in
theorem L_insert_62 {n : Nat} {x1 x2 x3 : Int32} {mi : Nat → Nat → Int32} {ml : Nat → Nat → Int64} {Q : Option Value → EMem → Prop}
    (h1 : W_findLeafPos 0 [.val (.ref 1), .val (.int x3), .unset, .unset, .unset, .unset, .unset] [] ((LL1 n), mi, ml, RR1) (fun v M' => W_insert 67 [.val (.ref 1), .val (.int x1), .val (.int x2), .val (.int x3), .unset, .unset] (v.toList ++ []) M' Q)) :
    W_insert 62 [.val (.ref 1), .val (.int x1), .val (.int x2), .val (.int x3), .unset, .unset] [] ((LL1 n), mi, ml, RR1) Q := by
  refine Wp.p (pc' := 63) d_insert_62 rfl rfl ?_
  refine Wp.p (pc' := 64) d_insert_63 rfl rfl ?_
  refine Wp.callP (a := 1) (as := [.int x3]) (rest := []) (w := 0) (F' := 1) (Lb' := 14) d_insert_64 ca_c67_1 rfl rfl rfl rfl (by decide) (by decide) (Nat.le_of_ble_eq_true rfl) ?_
  exact h1
set_option maxRecDepth 65536 in
set_option maxHeartbeats 4000000 in
theorem L_insert_67 {n : Nat} {x1 x2 x3 y0 : Int32} {mi : Nat → Nat → Int32} {ml : Nat → Nat → Int64} {Q : Option Value → EMem → Prop}
    (b1 : inb y0 32 = true)
    (b2 : inb (mi 6 (Int32.toNatClampNeg y0)) 32 = true)
    (h1 : (mi 5 (Int32.toNatClampNeg (mi 6 (Int32.toNatClampNeg y0)))) < (4 : Int32) → W_insert 116 [.val (.ref 1), .val (.int x1), .val (.int x2), .val (.int x3), .val (.int y0), .val (.int (mi 6 (Int32.toNatClampNeg y0)))] [] ((LL1 n), mi, ml, RR1) Q)
    (h2 : ¬ (mi 5 (Int32.toNatClampNeg (mi 6 (Int32.toNatClampNeg y0)))) < (4 : Int32) → ¬ (0 : Int32) < (mi 1 42) → Q (some (.int (2 : Int32))) ((LL1 n), mi, ml, RR1))
    (h3 : ¬ (mi 5 (Int32.toNatClampNeg (mi 6 (Int32.toNatClampNeg y0)))) < (4 : Int32) → (0 : Int32) < (mi 1 42) → (mi 1 40) < (32 : Int32) → W_splitLeaf 0 [.val (.ref 1), .val (.int y0), .val (.int x3), .unset, .unset, .unset, .unset, .unset] [] ((LL1 n), mi, ml, RR1) (fun v M' => W_insert 114 [.val (.ref 1), .val (.int x1), .val (.int x2), .val (.int x3), .val (.int y0), .val (.int (mi 6 (Int32.toNatClampNeg y0)))] (v.toList ++ []) M' Q))
    (h4 : ¬ (mi 5 (Int32.toNatClampNeg (mi 6 (Int32.toNatClampNeg y0)))) < (4 : Int32) → (0 : Int32) < (mi 1 42) → ¬ (mi 1 40) < (32 : Int32) → Q (some (.int (2 : Int32))) ((LL1 n), mi, ml, RR1)) :
    W_insert 67 [.val (.ref 1), .val (.int x1), .val (.int x2), .val (.int x3), .unset, .unset] [.int y0] ((LL1 n), mi, ml, RR1) Q := by
  refine Wp.p (pc' := 69) d_insert_67 rfl rfl ?_
  refine Wp.p (pc' := 70) d_insert_69 rfl rfl ?_
  refine Wp.getR (b := 6) d_insert_70 fa_c22 rfl rfl ?_
  refine Wp.p (pc' := 75) d_insert_73 rfl rfl ?_
  refine Wp.iaload (mi 6 (Int32.toNatClampNeg y0)) d_insert_75 rfl (k := (Int32.toNatClampNeg y0)) rfl b1 rfl ?_
  refine Wp.p (pc' := 78) d_insert_76 rfl rfl ?_
  refine Wp.p (pc' := 79) d_insert_78 rfl rfl ?_
  refine Wp.getR (b := 5) d_insert_79 fa_c19 rfl rfl ?_
  refine Wp.p (pc' := 84) d_insert_82 rfl rfl ?_
  refine Wp.iaload (mi 5 (Int32.toNatClampNeg (mi 6 (Int32.toNatClampNeg y0)))) d_insert_84 rfl (k := (Int32.toNatClampNeg (mi 6 (Int32.toNatClampNeg y0)))) rfl b2 rfl ?_
  refine Wp.iconst (4 : Int32) d_insert_85 (by decide) ?_
  refine Wp.icmp_lt d_insert_86 rfl (fun c1 => ?_) (fun c1 => ?_)
  ·
    exact (h1 c1)
  ·
    refine Wp.p (pc' := 90) d_insert_89 rfl rfl ?_
    refine Wp.getI (mi 1 42) d_insert_90 fa_c49 rfl rfl ?_
    refine Wp.if_le d_insert_93 rfl (fun c2 => ?_) (fun c2 => ?_)
    ·
      refine Wp.iconst (2 : Int32) d_insert_105 (by decide) ?_
      refine Wp.retI d_insert_106 ?_
      exact (h2 c1 c2)
    ·
      refine Wp.p (pc' := 97) d_insert_96 rfl rfl ?_
      refine Wp.getI (mi 1 40) d_insert_97 fa_c46 rfl rfl ?_
      refine Wp.bipush (32 : Int32) d_insert_100 (by decide) ?_
      refine Wp.icmp_lt d_insert_102 rfl (fun c3 => ?_) (fun c3 => ?_)
      ·
        refine Wp.p (pc' := 108) d_insert_107 rfl rfl ?_
        refine Wp.p (pc' := 110) d_insert_108 rfl rfl ?_
        refine Wp.p (pc' := 111) d_insert_110 rfl rfl ?_
        refine Wp.callP (a := 1) (as := [.int y0, .int x3]) (rest := []) (w := 0) (F' := 1) (Lb' := 15) d_insert_111 ca_c70_1 rfl rfl rfl rfl (by decide) (by decide) (Nat.le_of_ble_eq_true rfl) ?_
        exact (h3 c1 c2 c3)
      ·
        refine Wp.iconst (2 : Int32) d_insert_105 (by decide) ?_
        refine Wp.retI d_insert_106 ?_
        exact (h4 c1 c2 c3)
set_option maxRecDepth 65536 in
set_option maxHeartbeats 4000000 in
theorem L_insert_114 {n : Nat} {x1 x2 x3 x4 x5 y0 : Int32} {mi : Nat → Nat → Int32} {ml : Nat → Nat → Int64} {Q : Option Value → EMem → Prop}
    (h1 : W_insert 116 [.val (.ref 1), .val (.int x1), .val (.int x2), .val (.int x3), .val (.int y0), .val (.int x5)] [] ((LL1 n), mi, ml, RR1) Q) :
    W_insert 114 [.val (.ref 1), .val (.int x1), .val (.int x2), .val (.int x3), .val (.int x4), .val (.int x5)] [.int y0] ((LL1 n), mi, ml, RR1) Q := by
  refine Wp.p (pc' := 116) d_insert_114 rfl rfl ?_
  exact h1
set_option maxRecDepth 65536 in
set_option maxHeartbeats 4000000 in
theorem L_insert_116 {n : Nat} {x1 x2 x3 x4 x5 : Int32} {mi : Nat → Nat → Int32} {ml : Nat → Nat → Int64} {Q : Option Value → EMem → Prop}
    (b1 : inb x4 32 = true)
    (h1 : W_insertIntoLeaf 0 [.val (.ref 1), .val (.int (mi 6 (Int32.toNatClampNeg x4))), .val (.int x3), .val (.int x1), .val (.int x2), .unset, .unset, .unset] [] ((LL1 n), mi, ml, RR1) (fun v M' => W_insert 130 [.val (.ref 1), .val (.int x1), .val (.int x2), .val (.int x3), .val (.int x4), .val (.int x5)] (v.toList ++ []) M' Q)) :
    W_insert 116 [.val (.ref 1), .val (.int x1), .val (.int x2), .val (.int x3), .val (.int x4), .val (.int x5)] [] ((LL1 n), mi, ml, RR1) Q := by
  refine Wp.p (pc' := 117) d_insert_116 rfl rfl ?_
  refine Wp.p (pc' := 118) d_insert_117 rfl rfl ?_
  refine Wp.getR (b := 6) d_insert_118 fa_c22 rfl rfl ?_
  refine Wp.p (pc' := 123) d_insert_121 rfl rfl ?_
  refine Wp.iaload (mi 6 (Int32.toNatClampNeg x4)) d_insert_123 rfl (k := (Int32.toNatClampNeg x4)) rfl b1 rfl ?_
  refine Wp.p (pc' := 125) d_insert_124 rfl rfl ?_
  refine Wp.p (pc' := 126) d_insert_125 rfl rfl ?_
  refine Wp.p (pc' := 127) d_insert_126 rfl rfl ?_
  refine Wp.callP (a := 1) (as := [.int (mi 6 (Int32.toNatClampNeg x4)), .int x3, .int x1, .int x2]) (rest := []) (w := 0) (F' := 1) (Lb' := 14) d_insert_127 ca_c74_1 rfl rfl rfl rfl (by decide) (by decide) (Nat.le_of_ble_eq_true rfl) ?_
  exact h1
set_option maxRecDepth 65536 in
set_option maxHeartbeats 4000000 in
theorem L_insert_130 {n : Nat} {x1 x2 x3 x4 x5 : Int32} {mi : Nat → Nat → Int32} {ml : Nat → Nat → Int64} {Q : Option Value → EMem → Prop}
    (h1 : Q (some (.int (0 : Int32))) ((LL1 n), (up mi 1 38 ((mi 1 38) + (1 : Int32))), ml, RR1)) :
    W_insert 130 [.val (.ref 1), .val (.int x1), .val (.int x2), .val (.int x3), .val (.int x4), .val (.int x5)] [] ((LL1 n), mi, ml, RR1) Q := by
  refine Wp.p (pc' := 131) d_insert_130 rfl rfl ?_
  refine Wp.p (pc' := 132) d_insert_131 rfl rfl ?_
  refine Wp.getI (mi 1 38) d_insert_132 fa_c43 rfl rfl ?_
  refine Wp.iconst (1 : Int32) d_insert_135 (by decide) ?_
  refine Wp.p (pc' := 137) d_insert_136 rfl rfl ?_
  refine Wp.putI d_insert_137 fa_c43 rfl (by decide) in_HtreeDir (Or.inl rfl) ?_
  refine Wp.iconst (0 : Int32) d_insert_140 (by decide) ?_
  refine Wp.retI d_insert_141 ?_
  exact h1
set_option maxRecDepth 65536 in
set_option maxHeartbeats 4000000 in
theorem L_remove_0 {n : Nat} {x1 : Int32} {mi : Nat → Nat → Int32} {ml : Nat → Nat → Int64} {Q : Option Value → EMem → Prop}
    (h1 : ∀ v1 : Int32, v1 = (if x1 < (0 : Int32) then (0 : Int32) else (if (65535 : Int32) < x1 then (0 : Int32) else (1 : Int32))) → ¬ (v1 &&& 1) = (0 : Int32) → W_hash 0 [.val (.ref 1), .val (.int x1), .unset] [] ((LL1 n), mi, ml, RR1) (fun v M' => W_remove 15 [.val (.ref 1), .val (.int x1), .unset, .unset, .unset] (v.toList ++ []) M' Q))
    (h2 : ∀ v1 : Int32, v1 = (if x1 < (0 : Int32) then (0 : Int32) else (if (65535 : Int32) < x1 then (0 : Int32) else (1 : Int32))) → (v1 &&& 1) = (0 : Int32) → Q (some (.int (4 : Int32))) ((LL1 n), mi, ml, RR1)) :
    W_remove 0 [.val (.ref 1), .val (.int x1), .unset, .unset, .unset] [] ((LL1 n), mi, ml, RR1) Q := by
  refine Wp.p (pc' := 1) d_remove_0 rfl rfl ?_
  refine Wp.p (pc' := 2) d_remove_1 rfl rfl ?_
  refine Wp.callP (a := 1) (as := [.int x1]) (rest := []) (w := 0) (F' := 0) (Lb' := 0) d_remove_2 ca_c52_1 rfl rfl rfl rfl (by decide) (by decide) (Nat.le_of_ble_eq_true rfl) ?_
  refine L_isName_0 ?_
  intro v1 e1
  show W_remove 5 [.val (.ref 1), .val (.int x1), .unset, .unset, .unset] [.int (v1 &&& 1)] ((LL1 n), mi, ml, RR1) Q
  refine Wp.if_ne d_remove_5 rfl (fun c2 => ?_) (fun c2 => ?_)
  ·
    refine Wp.p (pc' := 11) d_remove_10 rfl rfl ?_
    refine Wp.p (pc' := 12) d_remove_11 rfl rfl ?_
    refine Wp.callP (a := 1) (as := [.int x1]) (rest := []) (w := 0) (F' := 0) (Lb' := 0) d_remove_12 ca_c56_1 rfl rfl rfl rfl (by decide) (by decide) (Nat.le_of_ble_eq_true rfl) ?_
    exact (h1 v1 e1 c2)
  ·
    refine Wp.iconst (4 : Int32) d_remove_8 (by decide) ?_
    refine Wp.retI d_remove_9 ?_
    exact (h2 v1 e1 c2)
set_option maxRecDepth 65536 in
set_option maxHeartbeats 4000000 in
theorem L_remove_15 {n : Nat} {x1 y0 : Int32} {mi : Nat → Nat → Int32} {ml : Nat → Nat → Int64} {Q : Option Value → EMem → Prop}
    (h1 : W_locate 0 [.val (.ref 1), .val (.int y0), .unset, .unset, .unset, .unset, .unset] [] ((LL1 n), mi, ml, RR1) (fun v M' => W_remove 21 [.val (.ref 1), .val (.int x1), .val (.int y0), .unset, .unset] (v.toList ++ []) M' Q)) :
    W_remove 15 [.val (.ref 1), .val (.int x1), .unset, .unset, .unset] [.int y0] ((LL1 n), mi, ml, RR1) Q := by
  refine Wp.p (pc' := 16) d_remove_15 rfl rfl ?_
  refine Wp.p (pc' := 17) d_remove_16 rfl rfl ?_
  refine Wp.p (pc' := 18) d_remove_17 rfl rfl ?_
  refine Wp.callP (a := 1) (as := [.int y0]) (rest := []) (w := 0) (F' := 2) (Lb' := 32) d_remove_18 ca_c60_1 rfl rfl rfl rfl (by decide) (by decide) (Nat.le_of_ble_eq_true rfl) ?_
  exact h1
set_option maxRecDepth 65536 in
set_option maxHeartbeats 4000000 in
theorem L_remove_21 {n : Nat} {x1 x2 y0 : Int32} {mi : Nat → Nat → Int32} {ml : Nat → Nat → Int64} {Q : Option Value → EMem → Prop}
    (b1 : ¬ y0 < (0 : Int32) → inb ((XT.ushr y0 (2 : Int32)) &&& (31 : Int32)) 32 = true)
    (h1 : ¬ y0 < (0 : Int32) → W_deleteFromLeaf 0 [.val (.ref 1), .val (.int (mi 6 (Int32.toNatClampNeg ((XT.ushr y0 (2 : Int32)) &&& (31 : Int32))))), .val (.int (y0 &&& (3 : Int32))), .unset, .unset, .unset] [] ((LL1 n), mi, ml, RR1) (fun v M' => W_remove 50 [.val (.ref 1), .val (.int x1), .val (.int x2), .val (.int y0), .val (.int ((XT.ushr y0 (2 : Int32)) &&& (31 : Int32)))] (v.toList ++ []) M' Q))
    (h2 : y0 < (0 : Int32) → Q (some (.int (3 : Int32))) ((LL1 n), mi, ml, RR1)) :
    W_remove 21 [.val (.ref 1), .val (.int x1), .val (.int x2), .unset, .unset] [.int y0] ((LL1 n), mi, ml, RR1) Q := by
  refine Wp.p (pc' := 22) d_remove_21 rfl rfl ?_
  refine Wp.p (pc' := 23) d_remove_22 rfl rfl ?_
  refine Wp.if_ge d_remove_23 rfl (fun c1 => ?_) (fun c1 => ?_)
  ·
    refine Wp.p (pc' := 29) d_remove_28 rfl rfl ?_
    refine Wp.iconst (2 : Int32) d_remove_29 (by decide) ?_
    refine Wp.p (pc' := 31) d_remove_30 rfl rfl ?_
    refine Wp.bipush (31 : Int32) d_remove_31 (by decide) ?_
    refine Wp.p (pc' := 34) d_remove_33 rfl rfl ?_
    refine Wp.p (pc' := 36) d_remove_34 rfl rfl ?_
    refine Wp.p (pc' := 37) d_remove_36 rfl rfl ?_
    refine Wp.p (pc' := 38) d_remove_37 rfl rfl ?_
    refine Wp.getR (b := 6) d_remove_38 fa_c22 rfl rfl ?_
    refine Wp.p (pc' := 43) d_remove_41 rfl rfl ?_
    refine Wp.iaload (mi 6 (Int32.toNatClampNeg ((XT.ushr y0 (2 : Int32)) &&& (31 : Int32)))) d_remove_43 rfl (k := (Int32.toNatClampNeg ((XT.ushr y0 (2 : Int32)) &&& (31 : Int32)))) rfl (b1 c1) rfl ?_
    refine Wp.p (pc' := 45) d_remove_44 rfl rfl ?_
    refine Wp.iconst (3 : Int32) d_remove_45 (by decide) ?_
    refine Wp.p (pc' := 47) d_remove_46 rfl rfl ?_
    refine Wp.callP (a := 1) (as := [.int (mi 6 (Int32.toNatClampNeg ((XT.ushr y0 (2 : Int32)) &&& (31 : Int32)))), .int (y0 &&& (3 : Int32))]) (rest := []) (w := 0) (F' := 1) (Lb' := 14) d_remove_47 ca_c78_1 rfl rfl rfl rfl (by decide) (by decide) (Nat.le_of_ble_eq_true rfl) ?_
    exact (h1 c1)
  ·
    refine Wp.iconst (3 : Int32) d_remove_26 (by decide) ?_
    refine Wp.retI d_remove_27 ?_
    exact (h2 c1)
set_option maxRecDepth 65536 in
set_option maxHeartbeats 4000000 in
theorem L_remove_50 {n : Nat} {x1 x2 x3 x4 : Int32} {mi : Nat → Nat → Int32} {ml : Nat → Nat → Int64} {Q : Option Value → EMem → Prop}
    (h1 : W_rebalance 0 [.val (.ref 1), .val (.int x4), .unset, .unset] [] ((LL1 n), (up mi 1 38 ((mi 1 38) - (1 : Int32))), ml, RR1) (fun v M' => W_remove 66 [.val (.ref 1), .val (.int x1), .val (.int x2), .val (.int x3), .val (.int x4)] (v.toList ++ []) M' Q)) :
    W_remove 50 [.val (.ref 1), .val (.int x1), .val (.int x2), .val (.int x3), .val (.int x4)] [] ((LL1 n), mi, ml, RR1) Q := by
  refine Wp.p (pc' := 51) d_remove_50 rfl rfl ?_
  refine Wp.p (pc' := 52) d_remove_51 rfl rfl ?_
  refine Wp.getI (mi 1 38) d_remove_52 fa_c43 rfl rfl ?_
  refine Wp.iconst (1 : Int32) d_remove_55 (by decide) ?_
  refine Wp.p (pc' := 57) d_remove_56 rfl rfl ?_
  refine Wp.putI d_remove_57 fa_c43 rfl (by decide) in_HtreeDir (Or.inl rfl) ?_
  refine Wp.p (pc' := 61) d_remove_60 rfl rfl ?_
  refine Wp.p (pc' := 63) d_remove_61 rfl rfl ?_
  refine Wp.callP (a := 1) (as := [.int x4]) (rest := []) (w := 0) (F' := 2) (Lb' := 34) d_remove_63 ca_c82_1 rfl rfl rfl rfl (by decide) (by decide) (Nat.le_of_ble_eq_true rfl) ?_
  exact h1
set_option maxRecDepth 65536 in
set_option maxHeartbeats 4000000 in
theorem L_remove_66 {n : Nat} {x1 x2 x3 x4 : Int32} {mi : Nat → Nat → Int32} {ml : Nat → Nat → Int64} {Q : Option Value → EMem → Prop}
    (h1 : Q (some (.int (0 : Int32))) ((LL1 n), mi, ml, RR1)) :
    W_remove 66 [.val (.ref 1), .val (.int x1), .val (.int x2), .val (.int x3), .val (.int x4)] [] ((LL1 n), mi, ml, RR1) Q := by
  refine Wp.iconst (0 : Int32) d_remove_66 (by decide) ?_
  refine Wp.retI d_remove_67 ?_
  exact h1
set_option maxRecDepth 65536 in
set_option maxHeartbeats 4000000 in
theorem L_setInode_0 {n : Nat} {x1 x2 : Int32} {mi : Nat → Nat → Int32} {ml : Nat → Nat → Int64} {Q : Option Value → EMem → Prop}
    (h1 : ∀ v1 : Int32, v1 = (if x1 < (0 : Int32) then (0 : Int32) else (if (65535 : Int32) < x1 then (0 : Int32) else (1 : Int32))) → ¬ (v1 &&& 1) = (0 : Int32) → ¬ x2 < (1 : Int32) → W_hash 0 [.val (.ref 1), .val (.int x1), .unset] [] ((LL1 n), mi, ml, RR1) (fun v M' => W_setInode 22 [.val (.ref 1), .val (.int x1), .val (.int x2), .unset, .unset] (v.toList ++ []) M' Q))
    (h2 : ∀ v1 : Int32, v1 = (if x1 < (0 : Int32) then (0 : Int32) else (if (65535 : Int32) < x1 then (0 : Int32) else (1 : Int32))) → ¬ (v1 &&& 1) = (0 : Int32) → x2 < (1 : Int32) → Q (some (.int (5 : Int32))) ((LL1 n), mi, ml, RR1))
    (h3 : ∀ v1 : Int32, v1 = (if x1 < (0 : Int32) then (0 : Int32) else (if (65535 : Int32) < x1 then (0 : Int32) else (1 : Int32))) → (v1 &&& 1) = (0 : Int32) → Q (some (.int (4 : Int32))) ((LL1 n), mi, ml, RR1)) :
    W_setInode 0 [.val (.ref 1), .val (.int x1), .val (.int x2), .unset, .unset] [] ((LL1 n), mi, ml, RR1) Q := by
  refine Wp.p (pc' := 1) d_setInode_0 rfl rfl ?_
  refine Wp.p (pc' := 2) d_setInode_1 rfl rfl ?_
  refine Wp.callP (a := 1) (as := [.int x1]) (rest := []) (w := 0) (F' := 0) (Lb' := 0) d_setInode_2 ca_c52_1 rfl rfl rfl rfl (by decide) (by decide) (Nat.le_of_ble_eq_true rfl) ?_
  refine L_isName_0 ?_
  intro v1 e1
  show W_setInode 5 [.val (.ref 1), .val (.int x1), .val (.int x2), .unset, .unset] [.int (v1 &&& 1)] ((LL1 n), mi, ml, RR1) Q
  refine Wp.if_ne d_setInode_5 rfl (fun c2 => ?_) (fun c2 => ?_)
  ·
    refine Wp.p (pc' := 11) d_setInode_10 rfl rfl ?_
    refine Wp.iconst (1 : Int32) d_setInode_11 (by decide) ?_
    refine Wp.icmp_ge d_setInode_12 rfl (fun c3 => ?_) (fun c3 => ?_)
    ·
      refine Wp.p (pc' := 18) d_setInode_17 rfl rfl ?_
      refine Wp.p (pc' := 19) d_setInode_18 rfl rfl ?_
      refine Wp.callP (a := 1) (as := [.int x1]) (rest := []) (w := 0) (F' := 0) (Lb' := 0) d_setInode_19 ca_c56_1 rfl rfl rfl rfl (by decide) (by decide) (Nat.le_of_ble_eq_true rfl) ?_
      exact (h1 v1 e1 c2 c3)
    ·
      refine Wp.iconst (5 : Int32) d_setInode_15 (by decide) ?_
      refine Wp.retI d_setInode_16 ?_
      exact (h2 v1 e1 c2 c3)
  ·
    refine Wp.iconst (4 : Int32) d_setInode_8 (by decide) ?_
    refine Wp.retI d_setInode_9 ?_
    exact (h3 v1 e1 c2)
set_option maxRecDepth 65536 in
set_option maxHeartbeats 4000000 in
theorem L_setInode_22 {n : Nat} {x1 x2 y0 : Int32} {mi : Nat → Nat → Int32} {ml : Nat → Nat → Int64} {Q : Option Value → EMem → Prop}
    (h1 : W_locate 0 [.val (.ref 1), .val (.int y0), .unset, .unset, .unset, .unset, .unset] [] ((LL1 n), mi, ml, RR1) (fun v M' => W_setInode 28 [.val (.ref 1), .val (.int x1), .val (.int x2), .val (.int y0), .unset] (v.toList ++ []) M' Q)) :
    W_setInode 22 [.val (.ref 1), .val (.int x1), .val (.int x2), .unset, .unset] [.int y0] ((LL1 n), mi, ml, RR1) Q := by
  refine Wp.p (pc' := 23) d_setInode_22 rfl rfl ?_
  refine Wp.p (pc' := 24) d_setInode_23 rfl rfl ?_
  refine Wp.p (pc' := 25) d_setInode_24 rfl rfl ?_
  refine Wp.callP (a := 1) (as := [.int y0]) (rest := []) (w := 0) (F' := 2) (Lb' := 32) d_setInode_25 ca_c60_1 rfl rfl rfl rfl (by decide) (by decide) (Nat.le_of_ble_eq_true rfl) ?_
  exact h1
set_option maxRecDepth 65536 in
set_option maxHeartbeats 4000000 in
theorem L_setInode_28 {n : Nat} {x1 x2 x3 y0 : Int32} {mi : Nat → Nat → Int32} {ml : Nat → Nat → Int64} {Q : Option Value → EMem → Prop}
    (b1 : ¬ y0 < (0 : Int32) → inb ((XT.ushr y0 (2 : Int32)) &&& (31 : Int32)) 32 = true)
    (b2 : ¬ y0 < (0 : Int32) → inb (((mi 6 (Int32.toNatClampNeg ((XT.ushr y0 (2 : Int32)) &&& (31 : Int32)))) * (4 : Int32)) + (y0 &&& (3 : Int32))) 128 = true)
    (h1 : ¬ y0 < (0 : Int32) → Q (some (.int (0 : Int32))) ((LL1 n), (up mi 4 (Int32.toNatClampNeg (((mi 6 (Int32.toNatClampNeg ((XT.ushr y0 (2 : Int32)) &&& (31 : Int32)))) * (4 : Int32)) + (y0 &&& (3 : Int32)))) x2), ml, RR1))
    (h2 : y0 < (0 : Int32) → Q (some (.int (3 : Int32))) ((LL1 n), mi, ml, RR1)) :
    W_setInode 28 [.val (.ref 1), .val (.int x1), .val (.int x2), .val (.int x3), .unset] [.int y0] ((LL1 n), mi, ml, RR1) Q := by
  refine Wp.p (pc' := 30) d_setInode_28 rfl rfl ?_
  refine Wp.p (pc' := 32) d_setInode_30 rfl rfl ?_
  refine Wp.if_ge d_setInode_32 rfl (fun c1 => ?_) (fun c1 => ?_)
  ·
    refine Wp.p (pc' := 38) d_setInode_37 rfl rfl ?_
    refine Wp.getR (b := 4) d_setInode_38 fa_c16 rfl rfl ?_
    refine Wp.p (pc' := 42) d_setInode_41 rfl rfl ?_
    refine Wp.p (pc' := 44) d_setInode_42 rfl rfl ?_
    refine Wp.callP (a := 1) (as := [.int y0]) (rest := [.ref 4]) (w := 1) (F' := 0) (Lb' := 0) d_setInode_44 ca_c86_1 rfl rfl rfl rfl (by decide) (by decide) (Nat.le_of_ble_eq_true rfl) ?_
    refine L_entryIndex_0 ?_ ?_
    · first | decide | exact (b1 c1)
    show W_setInode 47 [.val (.ref 1), .val (.int x1), .val (.int x2), .val (.int x3), .val (.int y0)] [.int (((mi 6 (Int32.toNatClampNeg ((XT.ushr y0 (2 : Int32)) &&& (31 : Int32)))) * (4 : Int32)) + (y0 &&& (3 : Int32))), .ref 4] ((LL1 n), mi, ml, RR1) Q
    refine Wp.p (pc' := 48) d_setInode_47 rfl rfl ?_
    refine Wp.iastore d_setInode_48 rfl (k := (Int32.toNatClampNeg (((mi 6 (Int32.toNatClampNeg ((XT.ushr y0 (2 : Int32)) &&& (31 : Int32)))) * (4 : Int32)) + (y0 &&& (3 : Int32))))) rfl (b2 c1) (by decide) ?_
    refine Wp.iconst (0 : Int32) d_setInode_49 (by decide) ?_
    refine Wp.retI d_setInode_50 ?_
    exact (h1 c1)
  ·
    refine Wp.iconst (3 : Int32) d_setInode_35 (by decide) ?_
    refine Wp.retI d_setInode_36 ?_
    exact (h2 c1)
set_option maxRecDepth 65536 in
set_option maxHeartbeats 4000000 in
theorem L_lookup_0 {n : Nat} {x1 : Int32} {mi : Nat → Nat → Int32} {ml : Nat → Nat → Int64} {Q : Option Value → EMem → Prop}
    (h1 : ∀ v1 : Int32, v1 = (if x1 < (0 : Int32) then (0 : Int32) else (if (65535 : Int32) < x1 then (0 : Int32) else (1 : Int32))) → ¬ (v1 &&& 1) = (0 : Int32) → W_hash 0 [.val (.ref 1), .val (.int x1), .unset] [] ((LL1 n), mi, ml, RR1) (fun v M' => W_lookup 15 [.val (.ref 1), .val (.int x1), .unset, .unset] (v.toList ++ []) M' Q))
    (h2 : ∀ v1 : Int32, v1 = (if x1 < (0 : Int32) then (0 : Int32) else (if (65535 : Int32) < x1 then (0 : Int32) else (1 : Int32))) → (v1 &&& 1) = (0 : Int32) → Q (some (.int (0 : Int32))) ((LL1 n), mi, ml, RR1)) :
    W_lookup 0 [.val (.ref 1), .val (.int x1), .unset, .unset] [] ((LL1 n), mi, ml, RR1) Q := by
  refine Wp.p (pc' := 1) d_lookup_0 rfl rfl ?_
  refine Wp.p (pc' := 2) d_lookup_1 rfl rfl ?_
  refine Wp.callP (a := 1) (as := [.int x1]) (rest := []) (w := 0) (F' := 0) (Lb' := 0) d_lookup_2 ca_c52_1 rfl rfl rfl rfl (by decide) (by decide) (Nat.le_of_ble_eq_true rfl) ?_
  refine L_isName_0 ?_
  intro v1 e1
  show W_lookup 5 [.val (.ref 1), .val (.int x1), .unset, .unset] [.int (v1 &&& 1)] ((LL1 n), mi, ml, RR1) Q
  refine Wp.if_ne d_lookup_5 rfl (fun c2 => ?_) (fun c2 => ?_)
  ·
    refine Wp.p (pc' := 11) d_lookup_10 rfl rfl ?_
    refine Wp.p (pc' := 12) d_lookup_11 rfl rfl ?_
    refine Wp.callP (a := 1) (as := [.int x1]) (rest := []) (w := 0) (F' := 0) (Lb' := 0) d_lookup_12 ca_c56_1 rfl rfl rfl rfl (by decide) (by decide) (Nat.le_of_ble_eq_true rfl) ?_
    exact (h1 v1 e1 c2)
  ·
    refine Wp.iconst (0 : Int32) d_lookup_8 (by decide) ?_
    refine Wp.retI d_lookup_9 ?_
    exact (h2 v1 e1 c2)
set_option maxRecDepth 65536 in
set_option maxHeartbeats 4000000 in
theorem L_lookup_15 {n : Nat} {x1 y0 : Int32} {mi : Nat → Nat → Int32} {ml : Nat → Nat → Int64} {Q : Option Value → EMem → Prop}
    (h1 : W_locate 0 [.val (.ref 1), .val (.int y0), .unset, .unset, .unset, .unset, .unset] [] ((LL1 n), mi, ml, RR1) (fun v M' => W_lookup 21 [.val (.ref 1), .val (.int x1), .val (.int y0), .unset] (v.toList ++ []) M' Q)) :
    W_lookup 15 [.val (.ref 1), .val (.int x1), .unset, .unset] [.int y0] ((LL1 n), mi, ml, RR1) Q := by
  refine Wp.p (pc' := 16) d_lookup_15 rfl rfl ?_
  refine Wp.p (pc' := 17) d_lookup_16 rfl rfl ?_
  refine Wp.p (pc' := 18) d_lookup_17 rfl rfl ?_
  refine Wp.callP (a := 1) (as := [.int y0]) (rest := []) (w := 0) (F' := 2) (Lb' := 32) d_lookup_18 ca_c60_1 rfl rfl rfl rfl (by decide) (by decide) (Nat.le_of_ble_eq_true rfl) ?_
  exact h1
set_option maxRecDepth 65536 in
set_option maxHeartbeats 4000000 in
theorem L_lookup_21 {n : Nat} {x1 x2 y0 : Int32} {mi : Nat → Nat → Int32} {ml : Nat → Nat → Int64} {Q : Option Value → EMem → Prop}
    (b1 : ¬ y0 < (0 : Int32) → inb ((XT.ushr y0 (2 : Int32)) &&& (31 : Int32)) 32 = true)
    (b2 : ¬ y0 < (0 : Int32) → inb (((mi 6 (Int32.toNatClampNeg ((XT.ushr y0 (2 : Int32)) &&& (31 : Int32)))) * (4 : Int32)) + (y0 &&& (3 : Int32))) 128 = true)
    (h1 : ¬ y0 < (0 : Int32) → Q (some (.int (mi 4 (Int32.toNatClampNeg (((mi 6 (Int32.toNatClampNeg ((XT.ushr y0 (2 : Int32)) &&& (31 : Int32)))) * (4 : Int32)) + (y0 &&& (3 : Int32))))))) ((LL1 n), mi, ml, RR1))
    (h2 : y0 < (0 : Int32) → Q (some (.int (0 : Int32))) ((LL1 n), mi, ml, RR1)) :
    W_lookup 21 [.val (.ref 1), .val (.int x1), .val (.int x2), .unset] [.int y0] ((LL1 n), mi, ml, RR1) Q := by
  refine Wp.p (pc' := 22) d_lookup_21 rfl rfl ?_
  refine Wp.p (pc' := 23) d_lookup_22 rfl rfl ?_
  refine Wp.if_ge d_lookup_23 rfl (fun c1 => ?_) (fun c1 => ?_)
  ·
    refine Wp.p (pc' := 29) d_lookup_28 rfl rfl ?_
    refine Wp.getR (b := 4) d_lookup_29 fa_c16 rfl rfl ?_
    refine Wp.p (pc' := 33) d_lookup_32 rfl rfl ?_
    refine Wp.p (pc' := 34) d_lookup_33 rfl rfl ?_
    refine Wp.callP (a := 1) (as := [.int y0]) (rest := [.ref 4]) (w := 1) (F' := 0) (Lb' := 0) d_lookup_34 ca_c86_1 rfl rfl rfl rfl (by decide) (by decide) (Nat.le_of_ble_eq_true rfl) ?_
    refine L_entryIndex_0 ?_ ?_
    · first | decide | exact (b1 c1)
    show W_lookup 37 [.val (.ref 1), .val (.int x1), .val (.int x2), .val (.int y0)] [.int (((mi 6 (Int32.toNatClampNeg ((XT.ushr y0 (2 : Int32)) &&& (31 : Int32)))) * (4 : Int32)) + (y0 &&& (3 : Int32))), .ref 4] ((LL1 n), mi, ml, RR1) Q
    refine Wp.iaload (mi 4 (Int32.toNatClampNeg (((mi 6 (Int32.toNatClampNeg ((XT.ushr y0 (2 : Int32)) &&& (31 : Int32)))) * (4 : Int32)) + (y0 &&& (3 : Int32))))) d_lookup_37 rfl (k := (Int32.toNatClampNeg (((mi 6 (Int32.toNatClampNeg ((XT.ushr y0 (2 : Int32)) &&& (31 : Int32)))) * (4 : Int32)) + (y0 &&& (3 : Int32))))) rfl (b2 c1) rfl ?_
    refine Wp.retI d_lookup_38 ?_
    exact (h1 c1)
  ·
    refine Wp.iconst (0 : Int32) d_lookup_26 (by decide) ?_
    refine Wp.retI d_lookup_27 ?_
    exact (h2 c1)
set_option maxRecDepth 65536 in
set_option maxHeartbeats 4000000 in
theorem L_openDir_0 {n : Nat} {mi : Nat → Nat → Int32} {ml : Nat → Nat → Int64} {Q : Option Value → EMem → Prop}
    (h1 : W_openDir 2 [.val (.ref 1), .val (.int (0 : Int32))] [] ((LL1 n), mi, ml, RR1) Q) :
    W_openDir 0 [.val (.ref 1), .unset] [] ((LL1 n), mi, ml, RR1) Q := by
  refine Wp.iconst (0 : Int32) d_openDir_0 (by decide) ?_
  refine Wp.p (pc' := 2) d_openDir_1 rfl rfl ?_
  exact h1
set_option maxRecDepth 65536 in
set_option maxHeartbeats 4000000 in
theorem L_openDir_2 {n : Nat} {x1 : Int32} {mi : Nat → Nat → Int32} {ml : Nat → Nat → Int64} {Q : Option Value → EMem → Prop}
    (h1 : ¬ x1 < (4 : Int32) → Q (some (.int (-1 : Int32))) ((LL1 n), mi, ml, RR1))
    (b1 : x1 < (4 : Int32) → inb x1 4 = true)
    (h2 : x1 < (4 : Int32) → ¬ (mi 8 (Int32.toNatClampNeg x1)) = (0 : Int32) → W_openDir 2 [.val (.ref 1), .val (.int (x1 + (1 : Int32)))] [] ((LL1 n), mi, ml, RR1) Q)
    (b2 : x1 < (4 : Int32) → (mi 8 (Int32.toNatClampNeg x1)) = (0 : Int32) → inb x1 4 = true)
    (h3 : x1 < (4 : Int32) → (mi 8 (Int32.toNatClampNeg x1)) = (0 : Int32) → Q (some (.int x1)) ((LL1 n), (up (up mi 8 (Int32.toNatClampNeg x1) (1 : Int32)) 9 (Int32.toNatClampNeg x1) (-1 : Int32)), ml, RR1)) :
    W_openDir 2 [.val (.ref 1), .val (.int x1)] [] ((LL1 n), mi, ml, RR1) Q := by
  refine Wp.p (pc' := 3) d_openDir_2 rfl rfl ?_
  refine Wp.iconst (4 : Int32) d_openDir_3 (by decide) ?_
  refine Wp.icmp_ge d_openDir_4 rfl (fun c1 => ?_) (fun c1 => ?_)
  ·
    refine Wp.iconst (-1 : Int32) d_openDir_38 (by decide) ?_
    refine Wp.retI d_openDir_39 ?_
    exact (h1 c1)
  ·
    refine Wp.p (pc' := 8) d_openDir_7 rfl rfl ?_
    refine Wp.getR (b := 8) d_openDir_8 fa_c28 rfl rfl ?_
    refine Wp.p (pc' := 12) d_openDir_11 rfl rfl ?_
    refine Wp.baload (mi 8 (Int32.toNatClampNeg x1)) d_openDir_12 rfl (k := (Int32.toNatClampNeg x1)) rfl (b1 c1) rfl ?_
    refine Wp.if_ne d_openDir_13 rfl (fun c2 => ?_) (fun c2 => ?_)
    ·
      refine Wp.iinc (1 : Int32) d_openDir_32 (by decide) rfl rfl ?_
      refine Wp.p (pc' := 2) d_openDir_35 rfl rfl ?_
      exact (h2 c1 c2)
    ·
      refine Wp.p (pc' := 17) d_openDir_16 rfl rfl ?_
      refine Wp.getR (b := 8) d_openDir_17 fa_c28 rfl rfl ?_
      refine Wp.p (pc' := 21) d_openDir_20 rfl rfl ?_
      refine Wp.iconst (1 : Int32) d_openDir_21 (by decide) ?_
      refine Wp.bastore (1 : Int32) d_openDir_22 rfl (k := (Int32.toNatClampNeg x1)) rfl (b2 c1 c2) (by decide) (by decide) ?_
      refine Wp.p (pc' := 24) d_openDir_23 rfl rfl ?_
      refine Wp.getR (b := 9) d_openDir_24 fa_c32 rfl rfl ?_
      refine Wp.p (pc' := 28) d_openDir_27 rfl rfl ?_
      refine Wp.iconst (-1 : Int32) d_openDir_28 (by decide) ?_
      refine Wp.iastore d_openDir_29 rfl (k := (Int32.toNatClampNeg x1)) rfl (b2 c1 c2) (by decide) ?_
      refine Wp.p (pc' := 31) d_openDir_30 rfl rfl ?_
      refine Wp.retI d_openDir_31 ?_
      exact (h3 c1 c2)
set_option maxRecDepth 65536 in
set_option maxHeartbeats 4000000 in
theorem L_readNext_0 {n : Nat} {x1 : Int32} {mi : Nat → Nat → Int32} {ml : Nat → Nat → Int64} {Q : Option Value → EMem → Prop}
    (h1 : W_validHandle 0 [.val (.ref 1), .val (.int x1)] [] ((LL1 n), mi, ml, RR1) (fun v M' => W_readNext 5 [.val (.ref 1), .val (.int x1), .unset, .unset, .unset] (v.toList ++ []) M' Q)) :
    W_readNext 0 [.val (.ref 1), .val (.int x1), .unset, .unset, .unset] [] ((LL1 n), mi, ml, RR1) Q := by
  refine Wp.p (pc' := 1) d_readNext_0 rfl rfl ?_
  refine Wp.p (pc' := 2) d_readNext_1 rfl rfl ?_
  refine Wp.callP (a := 1) (as := [.int x1]) (rest := []) (w := 0) (F' := 0) (Lb' := 0) d_readNext_2 ca_c93_1 rfl rfl rfl rfl (by decide) (by decide) (Nat.le_of_ble_eq_true rfl) ?_
  exact h1
set_option maxRecDepth 65536 in
set_option maxHeartbeats 4000000 in
theorem L_readNext_5 {n : Nat} {x1 y0 : Int32} {mi : Nat → Nat → Int32} {ml : Nat → Nat → Int64} {Q : Option Value → EMem → Prop}
    (b1 : ¬ y0 = (0 : Int32) → inb x1 4 = true)
    (h1 : ¬ y0 = (0 : Int32) → (mi 9 (Int32.toNatClampNeg x1)) < (65535 : Int32) → W_firstAtLeast 0 [.val (.ref 1), .val (.int ((mi 9 (Int32.toNatClampNeg x1)) + (1 : Int32))), .unset, .unset, .unset, .unset, .unset] [] ((LL1 n), mi, ml, RR1) (fun v M' => W_readNext 41 [.val (.ref 1), .val (.int x1), .val (.int (mi 9 (Int32.toNatClampNeg x1))), .unset, .unset] (v.toList ++ []) M' Q))
    (b2 : ¬ y0 = (0 : Int32) → ¬ (mi 9 (Int32.toNatClampNeg x1)) < (65535 : Int32) → inb x1 4 = true)
    (h2 : ¬ y0 = (0 : Int32) → ¬ (mi 9 (Int32.toNatClampNeg x1)) < (65535 : Int32) → Q (some (.int (-1 : Int32))) ((LL1 n), (up mi 9 (Int32.toNatClampNeg x1) (65536 : Int32)), ml, RR1))
    (h3 : y0 = (0 : Int32) → Q (some (.int (-2 : Int32))) ((LL1 n), mi, ml, RR1)) :
    W_readNext 5 [.val (.ref 1), .val (.int x1), .unset, .unset, .unset] [.int y0] ((LL1 n), mi, ml, RR1) Q := by
  refine Wp.if_ne d_readNext_5 rfl (fun c1 => ?_) (fun c1 => ?_)
  ·
    refine Wp.p (pc' := 12) d_readNext_11 rfl rfl ?_
    refine Wp.getR (b := 9) d_readNext_12 fa_c32 rfl rfl ?_
    refine Wp.p (pc' := 16) d_readNext_15 rfl rfl ?_
    refine Wp.iaload (mi 9 (Int32.toNatClampNeg x1)) d_readNext_16 rfl (k := (Int32.toNatClampNeg x1)) rfl (b1 c1) rfl ?_
    refine Wp.p (pc' := 18) d_readNext_17 rfl rfl ?_
    refine Wp.p (pc' := 19) d_readNext_18 rfl rfl ?_
    refine Wp.ldc d_readNext_19 ik_c35 ?_
    refine Wp.icmp_lt d_readNext_21 rfl (fun c2 => ?_) (fun c2 => ?_)
    ·
      refine Wp.p (pc' := 35) d_readNext_34 rfl rfl ?_
      refine Wp.p (pc' := 36) d_readNext_35 rfl rfl ?_
      refine Wp.iconst (1 : Int32) d_readNext_36 (by decide) ?_
      refine Wp.p (pc' := 38) d_readNext_37 rfl rfl ?_
      refine Wp.callP (a := 1) (as := [.int ((mi 9 (Int32.toNatClampNeg x1)) + (1 : Int32))]) (rest := []) (w := 0) (F' := 2) (Lb' := 32) d_readNext_38 ca_c96_1 rfl rfl rfl rfl (by decide) (by decide) (Nat.le_of_ble_eq_true rfl) ?_
      exact (h1 c1 c2)
    ·
      refine Wp.p (pc' := 25) d_readNext_24 rfl rfl ?_
      refine Wp.getR (b := 9) d_readNext_25 fa_c32 rfl rfl ?_
      refine Wp.p (pc' := 29) d_readNext_28 rfl rfl ?_
      refine Wp.ldc d_readNext_29 ik_c89 ?_
      refine Wp.iastore d_readNext_31 rfl (k := (Int32.toNatClampNeg x1)) rfl (b2 c1 c2) (by decide) ?_
      refine Wp.iconst (-1 : Int32) d_readNext_32 (by decide) ?_
      refine Wp.retI d_readNext_33 ?_
      exact (h2 c1 c2)
  ·
    refine Wp.bipush (-2 : Int32) d_readNext_8 (by decide) ?_
    refine Wp.retI d_readNext_10 ?_
    exact (h3 c1)
set_option maxRecDepth 65536 in
set_option maxHeartbeats 4000000 in
theorem L_readNext_41 {n : Nat} {x1 x2 y0 : Int32} {mi : Nat → Nat → Int32} {ml : Nat → Nat → Int64} {Q : Option Value → EMem → Prop}
    (b1 : ¬ y0 < (0 : Int32) → inb ((XT.ushr y0 (2 : Int32)) &&& (31 : Int32)) 32 = true)
    (b2 : ¬ y0 < (0 : Int32) → inb (((mi 6 (Int32.toNatClampNeg ((XT.ushr y0 (2 : Int32)) &&& (31 : Int32)))) * (4 : Int32)) + (y0 &&& (3 : Int32))) 128 = true)
    (b3 : ¬ y0 < (0 : Int32) → inb x1 4 = true)
    (h1 : ¬ y0 < (0 : Int32) → Q (some (.int (mi 3 (Int32.toNatClampNeg (((mi 6 (Int32.toNatClampNeg ((XT.ushr y0 (2 : Int32)) &&& (31 : Int32)))) * (4 : Int32)) + (y0 &&& (3 : Int32))))))) ((LL1 n), (up mi 9 (Int32.toNatClampNeg x1) (mi 2 (Int32.toNatClampNeg (((mi 6 (Int32.toNatClampNeg ((XT.ushr y0 (2 : Int32)) &&& (31 : Int32)))) * (4 : Int32)) + (y0 &&& (3 : Int32)))))), ml, RR1))
    (b4 : y0 < (0 : Int32) → inb x1 4 = true)
    (h2 : y0 < (0 : Int32) → Q (some (.int (-1 : Int32))) ((LL1 n), (up mi 9 (Int32.toNatClampNeg x1) (65536 : Int32)), ml, RR1)) :
    W_readNext 41 [.val (.ref 1), .val (.int x1), .val (.int x2), .unset, .unset] [.int y0] ((LL1 n), mi, ml, RR1) Q := by
  refine Wp.p (pc' := 42) d_readNext_41 rfl rfl ?_
  refine Wp.p (pc' := 43) d_readNext_42 rfl rfl ?_
  refine Wp.if_ge d_readNext_43 rfl (fun c1 => ?_) (fun c1 => ?_)
  ·
    refine Wp.p (pc' := 57) d_readNext_56 rfl rfl ?_
    refine Wp.p (pc' := 58) d_readNext_57 rfl rfl ?_
    refine Wp.callP (a := 1) (as := [.int y0]) (rest := []) (w := 0) (F' := 0) (Lb' := 0) d_readNext_58 ca_c86_1 rfl rfl rfl rfl (by decide) (by decide) (Nat.le_of_ble_eq_true rfl) ?_
    refine L_entryIndex_0 ?_ ?_
    · first | decide | exact (b1 c1)
    show W_readNext 61 [.val (.ref 1), .val (.int x1), .val (.int x2), .val (.int y0), .unset] [.int (((mi 6 (Int32.toNatClampNeg ((XT.ushr y0 (2 : Int32)) &&& (31 : Int32)))) * (4 : Int32)) + (y0 &&& (3 : Int32)))] ((LL1 n), mi, ml, RR1) Q
    refine Wp.p (pc' := 63) d_readNext_61 rfl rfl ?_
    refine Wp.p (pc' := 64) d_readNext_63 rfl rfl ?_
    refine Wp.getR (b := 9) d_readNext_64 fa_c32 rfl rfl ?_
    refine Wp.p (pc' := 68) d_readNext_67 rfl rfl ?_
    refine Wp.p (pc' := 69) d_readNext_68 rfl rfl ?_
    refine Wp.getR (b := 2) d_readNext_69 fa_c7 rfl rfl ?_
    refine Wp.p (pc' := 74) d_readNext_72 rfl rfl ?_
    refine Wp.iaload (mi 2 (Int32.toNatClampNeg (((mi 6 (Int32.toNatClampNeg ((XT.ushr y0 (2 : Int32)) &&& (31 : Int32)))) * (4 : Int32)) + (y0 &&& (3 : Int32))))) d_readNext_74 rfl (k := (Int32.toNatClampNeg (((mi 6 (Int32.toNatClampNeg ((XT.ushr y0 (2 : Int32)) &&& (31 : Int32)))) * (4 : Int32)) + (y0 &&& (3 : Int32))))) rfl (b2 c1) rfl ?_
    refine Wp.iastore d_readNext_75 rfl (k := (Int32.toNatClampNeg x1)) rfl (b3 c1) (by decide) ?_
    refine Wp.p (pc' := 77) d_readNext_76 rfl rfl ?_
    refine Wp.getR (b := 3) d_readNext_77 fa_c13 rfl rfl ?_
    refine Wp.p (pc' := 82) d_readNext_80 rfl rfl ?_
    refine Wp.iaload (mi 3 (Int32.toNatClampNeg (((mi 6 (Int32.toNatClampNeg ((XT.ushr y0 (2 : Int32)) &&& (31 : Int32)))) * (4 : Int32)) + (y0 &&& (3 : Int32))))) d_readNext_82 rfl (k := (Int32.toNatClampNeg (((mi 6 (Int32.toNatClampNeg ((XT.ushr y0 (2 : Int32)) &&& (31 : Int32)))) * (4 : Int32)) + (y0 &&& (3 : Int32))))) rfl (b2 c1) rfl ?_
    refine Wp.retI d_readNext_83 ?_
    exact (h1 c1)
  ·
    refine Wp.p (pc' := 47) d_readNext_46 rfl rfl ?_
    refine Wp.getR (b := 9) d_readNext_47 fa_c32 rfl rfl ?_
    refine Wp.p (pc' := 51) d_readNext_50 rfl rfl ?_
    refine Wp.ldc d_readNext_51 ik_c89 ?_
    refine Wp.iastore d_readNext_53 rfl (k := (Int32.toNatClampNeg x1)) rfl (b4 c1) (by decide) ?_
    refine Wp.iconst (-1 : Int32) d_readNext_54 (by decide) ?_
    refine Wp.retI d_readNext_55 ?_
    exact (h2 c1)
set_option maxRecDepth 65536 in
set_option maxHeartbeats 4000000 in
theorem L_seekDir_0 {n : Nat} {x1 x2 : Int32} {mi : Nat → Nat → Int32} {ml : Nat → Nat → Int64} {Q : Option Value → EMem → Prop}
    (h1 : W_validHandle 0 [.val (.ref 1), .val (.int x1)] [] ((LL1 n), mi, ml, RR1) (fun v M' => W_seekDir 5 [.val (.ref 1), .val (.int x1), .val (.int x2)] (v.toList ++ []) M' Q)) :
    W_seekDir 0 [.val (.ref 1), .val (.int x1), .val (.int x2)] [] ((LL1 n), mi, ml, RR1) Q := by
  refine Wp.p (pc' := 1) d_seekDir_0 rfl rfl ?_
  refine Wp.p (pc' := 2) d_seekDir_1 rfl rfl ?_
  refine Wp.callP (a := 1) (as := [.int x1]) (rest := []) (w := 0) (F' := 0) (Lb' := 0) d_seekDir_2 ca_c93_1 rfl rfl rfl rfl (by decide) (by decide) (Nat.le_of_ble_eq_true rfl) ?_
  exact h1
set_option maxRecDepth 65536 in
set_option maxHeartbeats 4000000 in
theorem L_seekDir_5 {n : Nat} {x1 x2 y0 : Int32} {mi : Nat → Nat → Int32} {ml : Nat → Nat → Int64} {Q : Option Value → EMem → Prop}
    (h1 : ¬ y0 = (0 : Int32) → x2 < (-1 : Int32) → Q (some (.int (0 : Int32))) ((LL1 n), mi, ml, RR1))
    (b1 : ¬ y0 = (0 : Int32) → ¬ x2 < (-1 : Int32) → ¬ (65536 : Int32) < x2 → inb x1 4 = true)
    (h2 : ¬ y0 = (0 : Int32) → ¬ x2 < (-1 : Int32) → ¬ (65536 : Int32) < x2 → Q (some (.int (1 : Int32))) ((LL1 n), (up mi 9 (Int32.toNatClampNeg x1) x2), ml, RR1))
    (h3 : ¬ y0 = (0 : Int32) → ¬ x2 < (-1 : Int32) → (65536 : Int32) < x2 → Q (some (.int (0 : Int32))) ((LL1 n), mi, ml, RR1))
    (h4 : y0 = (0 : Int32) → Q (some (.int (0 : Int32))) ((LL1 n), mi, ml, RR1)) :
    W_seekDir 5 [.val (.ref 1), .val (.int x1), .val (.int x2)] [.int y0] ((LL1 n), mi, ml, RR1) Q := by
  refine Wp.if_ne d_seekDir_5 rfl (fun c1 => ?_) (fun c1 => ?_)
  ·
    refine Wp.p (pc' := 11) d_seekDir_10 rfl rfl ?_
    refine Wp.iconst (-1 : Int32) d_seekDir_11 (by decide) ?_
    refine Wp.icmp_lt d_seekDir_12 rfl (fun c2 => ?_) (fun c2 => ?_)
    ·
      refine Wp.iconst (0 : Int32) d_seekDir_21 (by decide) ?_
      refine Wp.retZ (0 : Int32) d_seekDir_22 (by decide) ?_
      exact (h1 c1 c2)
    ·
      refine Wp.p (pc' := 16) d_seekDir_15 rfl rfl ?_
      refine Wp.ldc d_seekDir_16 ik_c89 ?_
      refine Wp.icmp_le d_seekDir_18 rfl (fun c3 => ?_) (fun c3 => ?_)
      ·
        refine Wp.p (pc' := 24) d_seekDir_23 rfl rfl ?_
        refine Wp.getR (b := 9) d_seekDir_24 fa_c32 rfl rfl ?_
        refine Wp.p (pc' := 28) d_seekDir_27 rfl rfl ?_
        refine Wp.p (pc' := 29) d_seekDir_28 rfl rfl ?_
        refine Wp.iastore d_seekDir_29 rfl (k := (Int32.toNatClampNeg x1)) rfl (b1 c1 c2 c3) (by decide) ?_
        refine Wp.iconst (1 : Int32) d_seekDir_30 (by decide) ?_
        refine Wp.retZ (1 : Int32) d_seekDir_31 (by decide) ?_
        exact (h2 c1 c2 c3)
      ·
        refine Wp.iconst (0 : Int32) d_seekDir_21 (by decide) ?_
        refine Wp.retZ (0 : Int32) d_seekDir_22 (by decide) ?_
        exact (h3 c1 c2 c3)
  ·
    refine Wp.iconst (0 : Int32) d_seekDir_8 (by decide) ?_
    refine Wp.retZ (0 : Int32) d_seekDir_9 (by decide) ?_
    exact (h4 c1)
set_option maxRecDepth 65536 in
set_option maxHeartbeats 4000000 in
theorem L_closeDir_0 {n : Nat} {x1 : Int32} {mi : Nat → Nat → Int32} {ml : Nat → Nat → Int64} {Q : Option Value → EMem → Prop}
    (h1 : W_validHandle 0 [.val (.ref 1), .val (.int x1)] [] ((LL1 n), mi, ml, RR1) (fun v M' => W_closeDir 5 [.val (.ref 1), .val (.int x1)] (v.toList ++ []) M' Q)) :
    W_closeDir 0 [.val (.ref 1), .val (.int x1)] [] ((LL1 n), mi, ml, RR1) Q := by
  refine Wp.p (pc' := 1) d_closeDir_0 rfl rfl ?_
  refine Wp.p (pc' := 2) d_closeDir_1 rfl rfl ?_
  refine Wp.callP (a := 1) (as := [.int x1]) (rest := []) (w := 0) (F' := 0) (Lb' := 0) d_closeDir_2 ca_c93_1 rfl rfl rfl rfl (by decide) (by decide) (Nat.le_of_ble_eq_true rfl) ?_
  exact h1
set_option maxRecDepth 65536 in
set_option maxHeartbeats 4000000 in
theorem L_closeDir_5 {n : Nat} {x1 y0 : Int32} {mi : Nat → Nat → Int32} {ml : Nat → Nat → Int64} {Q : Option Value → EMem → Prop}
    (b1 : ¬ y0 = (0 : Int32) → inb x1 4 = true)
    (h1 : ¬ y0 = (0 : Int32) → Q (some (.int (1 : Int32))) ((LL1 n), (up mi 8 (Int32.toNatClampNeg x1) (0 : Int32)), ml, RR1))
    (h2 : y0 = (0 : Int32) → Q (some (.int (0 : Int32))) ((LL1 n), mi, ml, RR1)) :
    W_closeDir 5 [.val (.ref 1), .val (.int x1)] [.int y0] ((LL1 n), mi, ml, RR1) Q := by
  refine Wp.if_ne d_closeDir_5 rfl (fun c1 => ?_) (fun c1 => ?_)
  ·
    refine Wp.p (pc' := 11) d_closeDir_10 rfl rfl ?_
    refine Wp.getR (b := 8) d_closeDir_11 fa_c28 rfl rfl ?_
    refine Wp.p (pc' := 15) d_closeDir_14 rfl rfl ?_
    refine Wp.iconst (0 : Int32) d_closeDir_15 (by decide) ?_
    refine Wp.bastore (0 : Int32) d_closeDir_16 rfl (k := (Int32.toNatClampNeg x1)) rfl (b1 c1) (by decide) (by decide) ?_
    refine Wp.iconst (1 : Int32) d_closeDir_17 (by decide) ?_
    refine Wp.retZ (1 : Int32) d_closeDir_18 (by decide) ?_
    exact (h1 c1)
  ·
    refine Wp.iconst (0 : Int32) d_closeDir_8 (by decide) ?_
    refine Wp.retZ (0 : Int32) d_closeDir_9 (by decide) ?_
    exact (h2 c1)
set_option maxRecDepth 65536 in
set_option maxHeartbeats 4000000 in
theorem L_law_cell_0_p {n : Nat} {x1 : Int32} {mi : Nat → Nat → Int32} {ml : Nat → Nat → Int64} {Q : Option Value → EMem → Prop}
    (b1 : x1 < (n.toInt32) → inb x1 n = true)
    (h1 : ∀ v1 : Int32, v1 = (if x1 < (n.toInt32) then (mi 0 (Int32.toNatClampNeg x1)) else (0 : Int32)) → Q (some (.int v1)) ([(1, "", n), (0, "HtreeDir", 13)], mi, ml, (fun _ _ => Value.null))) :
    W_law_cell 0 [.val (.ref 0), .val (.int x1)] [] ([(1, "", n), (0, "HtreeDir", 13)], mi, ml, (fun _ _ => Value.null)) Q := by
  refine Wp.p (pc' := 1) d_law_cell_0 rfl rfl ?_
  refine Wp.p (pc' := 2) d_law_cell_1 rfl rfl ?_
  refine Wp.len d_law_cell_2 rfl (by decide) ?_
  obtain ⟨v1, e1⟩ : ∃ z : Int32, z = (if x1 < (n.toInt32) then (mi 0 (Int32.toNatClampNeg x1)) else (0 : Int32)) := ⟨_, rfl⟩
  suffices K : W_law_cell 13 [.val (.ref 0), .val (.int x1)] [.int v1] ([(1, "", n), (0, "HtreeDir", 13)], mi, ml, (fun _ _ => Value.null)) Q by
    refine Wp.icmp_ge d_law_cell_3 rfl (fun q0 => ?_) (fun q0 => ?_)
    ·
      refine Wp.iconst (0 : Int32) d_law_cell_12 (by decide) ?_
      rw [if_neg q0] at e1; subst e1
      exact K
    ·
      refine Wp.p (pc' := 7) d_law_cell_6 rfl rfl ?_
      refine Wp.p (pc' := 8) d_law_cell_7 rfl rfl ?_
      refine Wp.iaload (mi 0 (Int32.toNatClampNeg x1)) d_law_cell_8 rfl (k := (Int32.toNatClampNeg x1)) rfl (b1 q0) rfl ?_
      refine Wp.p (pc' := 13) d_law_cell_9 rfl rfl ?_
      rw [if_pos q0] at e1; subst e1
      exact K
  refine Wp.retI d_law_cell_13 ?_
  exact (h1 v1 e1)
set_option maxRecDepth 65536 in
set_option maxHeartbeats 4000000 in
theorem L_init_0 {n : Nat} {x1 x2 : Int32} {mi : Nat → Nat → Int32} {ml : Nat → Nat → Int64} {Q : Option Value → EMem → Prop}
    (h1 : ∀ v1 : Int32, v1 = (if x1 < (0 : Int32) then (0 : Int32) else x1) → ∀ v2 : Int32, v2 = (if (65535 : Int32) < v1 then (65535 : Int32) else v1) → ∀ v3 : Int32, v3 = (if x2 < (8 : Int32) then (8 : Int32) else x2) → ∀ v4 : Int32, v4 = (if (32 : Int32) < v3 then (32 : Int32) else v3) → W_init 135 [.val (.ref 1), .val (.int x1), .val (.int x2), .val (.int v2), .val (.int v4), .val (.int (0 : Int32))] [] ((LL1 n), (up (up (up (up mi 1 34 v2) 1 36 v4) 1 38 (0 : Int32)) 1 40 (0 : Int32)), ml, RR1) Q) :
    W_init 0 [.val (.ref 1), .val (.int x1), .val (.int x2), .unset, .unset, .unset] [] ([(1, "", n), (0, "HtreeDir", 13)], mi, ml, (fun _ _ => Value.null)) Q := by
  refine Wp.p (pc' := 1) d_init_0 rfl rfl ?_
  refine Wp.objInit (w := 0) d_init_1 oi_c1 rfl (by decide) (by decide) ?_
  refine Wp.p (pc' := 5) d_init_4 rfl rfl ?_
  refine Wp.sipush (128 : Int32) d_init_5 (by decide) ?_
  refine Wp.new_int (a := 2) (z := 128) (L' := [(1, "", n), (0, "HtreeDir", 13), (1, "", 128)]) d_init_8 ar_int (by decide) (by decide) rfl rfl ?_
  refine Wp.putR d_init_10 fa_c7 rfl (by decide) in_HtreeDir (Or.inl rfl) ?_
  refine Wp.p (pc' := 14) d_init_13 rfl rfl ?_
  refine Wp.sipush (128 : Int32) d_init_14 (by decide) ?_
  refine Wp.new_int (a := 3) (z := 128) (L' := [(1, "", n), (0, "HtreeDir", 13), (1, "", 128), (1, "", 128)]) d_init_17 ar_int (by decide) (by decide) rfl rfl ?_
  refine Wp.putR d_init_19 fa_c13 rfl (by decide) in_HtreeDir (Or.inl rfl) ?_
  refine Wp.p (pc' := 23) d_init_22 rfl rfl ?_
  refine Wp.sipush (128 : Int32) d_init_23 (by decide) ?_
  refine Wp.new_int (a := 4) (z := 128) (L' := [(1, "", n), (0, "HtreeDir", 13), (1, "", 128), (1, "", 128), (1, "", 128)]) d_init_26 ar_int (by decide) (by decide) rfl rfl ?_
  refine Wp.putR d_init_28 fa_c16 rfl (by decide) in_HtreeDir (Or.inl rfl) ?_
  refine Wp.p (pc' := 32) d_init_31 rfl rfl ?_
  refine Wp.bipush (32 : Int32) d_init_32 (by decide) ?_
  refine Wp.new_int (a := 5) (z := 32) (L' := [(1, "", n), (0, "HtreeDir", 13), (1, "", 128), (1, "", 128), (1, "", 128), (1, "", 32)]) d_init_34 ar_int (by decide) (by decide) rfl rfl ?_
  refine Wp.putR d_init_36 fa_c19 rfl (by decide) in_HtreeDir (Or.inl rfl) ?_
  refine Wp.p (pc' := 40) d_init_39 rfl rfl ?_
  refine Wp.bipush (32 : Int32) d_init_40 (by decide) ?_
  refine Wp.new_int (a := 6) (z := 32) (L' := [(1, "", n), (0, "HtreeDir", 13), (1, "", 128), (1, "", 128), (1, "", 128), (1, "", 32), (1, "", 32)]) d_init_42 ar_int (by decide) (by decide) rfl rfl ?_
  refine Wp.putR d_init_44 fa_c22 rfl (by decide) in_HtreeDir (Or.inl rfl) ?_
  refine Wp.p (pc' := 48) d_init_47 rfl rfl ?_
  refine Wp.bipush (32 : Int32) d_init_48 (by decide) ?_
  refine Wp.new_int (a := 7) (z := 32) (L' := [(1, "", n), (0, "HtreeDir", 13), (1, "", 128), (1, "", 128), (1, "", 128), (1, "", 32), (1, "", 32), (1, "", 32)]) d_init_50 ar_int (by decide) (by decide) rfl rfl ?_
  refine Wp.putR d_init_52 fa_c25 rfl (by decide) in_HtreeDir (Or.inl rfl) ?_
  refine Wp.p (pc' := 56) d_init_55 rfl rfl ?_
  refine Wp.iconst (4 : Int32) d_init_56 (by decide) ?_
  refine Wp.new_boolean (a := 8) (z := 4) (L' := [(1, "", n), (0, "HtreeDir", 13), (1, "", 128), (1, "", 128), (1, "", 128), (1, "", 32), (1, "", 32), (1, "", 32), (3, "", 4)]) d_init_57 ar_boolean (by decide) (by decide) rfl rfl ?_
  refine Wp.putR d_init_59 fa_c28 rfl (by decide) in_HtreeDir (Or.inl rfl) ?_
  refine Wp.p (pc' := 63) d_init_62 rfl rfl ?_
  refine Wp.iconst (4 : Int32) d_init_63 (by decide) ?_
  refine Wp.new_int (a := 9) (z := 4) (L' := [(1, "", n), (0, "HtreeDir", 13), (1, "", 128), (1, "", 128), (1, "", 128), (1, "", 32), (1, "", 32), (1, "", 32), (3, "", 4), (1, "", 4)]) d_init_64 ar_int (by decide) (by decide) rfl rfl ?_
  refine Wp.putR d_init_66 fa_c32 rfl (by decide) in_HtreeDir (Or.inl rfl) ?_
  refine Wp.p (pc' := 70) d_init_69 rfl rfl ?_
  refine Wp.p (pc' := 71) d_init_70 rfl rfl ?_
  refine Wp.p (pc' := 72) d_init_71 rfl rfl ?_
  obtain ⟨v1, e1⟩ : ∃ z : Int32, z = (if x1 < (0 : Int32) then (0 : Int32) else x1) := ⟨_, rfl⟩
  suffices K : W_init 77 [.val (.ref 1), .val (.int x1), .val (.int x2), .val (.int v1), .unset, .unset] [] ((LL1 n), mi, ml, RR1) Q by
    refine Wp.if_ge d_init_72 rfl (fun q0 => ?_) (fun q0 => ?_)
    ·
      rw [if_neg q0] at e1; subst e1
      exact K
    ·
      refine Wp.iconst (0 : Int32) d_init_75 (by decide) ?_
      refine Wp.p (pc' := 77) d_init_76 rfl rfl ?_
      rw [if_pos q0] at e1; subst e1
      exact K
  refine Wp.p (pc' := 78) d_init_77 rfl rfl ?_
  refine Wp.ldc d_init_78 ik_c35 ?_
  obtain ⟨v2, e2⟩ : ∃ z : Int32, z = (if (65535 : Int32) < v1 then (65535 : Int32) else v1) := ⟨_, rfl⟩
  suffices K : W_init 86 [.val (.ref 1), .val (.int x1), .val (.int x2), .val (.int v2), .unset, .unset] [] ((LL1 n), mi, ml, RR1) Q by
    refine Wp.icmp_le d_init_80 rfl (fun q0 => ?_) (fun q0 => ?_)
    ·
      rw [if_neg q0] at e2; subst e2
      exact K
    ·
      refine Wp.ldc d_init_83 ik_c35 ?_
      refine Wp.p (pc' := 86) d_init_85 rfl rfl ?_
      rw [if_pos q0] at e2; subst e2
      exact K
  refine Wp.p (pc' := 87) d_init_86 rfl rfl ?_
  refine Wp.p (pc' := 89) d_init_87 rfl rfl ?_
  refine Wp.p (pc' := 91) d_init_89 rfl rfl ?_
  refine Wp.bipush (8 : Int32) d_init_91 (by decide) ?_
  obtain ⟨v3, e3⟩ : ∃ z : Int32, z = (if x2 < (8 : Int32) then (8 : Int32) else x2) := ⟨_, rfl⟩
  suffices K : W_init 100 [.val (.ref 1), .val (.int x1), .val (.int x2), .val (.int v2), .val (.int v3), .unset] [] ((LL1 n), mi, ml, RR1) Q by
    refine Wp.icmp_ge d_init_93 rfl (fun q0 => ?_) (fun q0 => ?_)
    ·
      rw [if_neg q0] at e3; subst e3
      exact K
    ·
      refine Wp.bipush (8 : Int32) d_init_96 (by decide) ?_
      refine Wp.p (pc' := 100) d_init_98 rfl rfl ?_
      rw [if_pos q0] at e3; subst e3
      exact K
  refine Wp.p (pc' := 102) d_init_100 rfl rfl ?_
  refine Wp.bipush (32 : Int32) d_init_102 (by decide) ?_
  obtain ⟨v4, e4⟩ : ∃ z : Int32, z = (if (32 : Int32) < v3 then (32 : Int32) else v3) := ⟨_, rfl⟩
  suffices K : W_init 111 [.val (.ref 1), .val (.int x1), .val (.int x2), .val (.int v2), .val (.int v4), .unset] [] ((LL1 n), mi, ml, RR1) Q by
    refine Wp.icmp_le d_init_104 rfl (fun q0 => ?_) (fun q0 => ?_)
    ·
      rw [if_neg q0] at e4; subst e4
      exact K
    ·
      refine Wp.bipush (32 : Int32) d_init_107 (by decide) ?_
      refine Wp.p (pc' := 111) d_init_109 rfl rfl ?_
      rw [if_pos q0] at e4; subst e4
      exact K
  refine Wp.p (pc' := 112) d_init_111 rfl rfl ?_
  refine Wp.p (pc' := 113) d_init_112 rfl rfl ?_
  refine Wp.putI d_init_113 fa_c36 rfl (by decide) in_HtreeDir (Or.inl rfl) ?_
  refine Wp.p (pc' := 117) d_init_116 rfl rfl ?_
  refine Wp.p (pc' := 119) d_init_117 rfl rfl ?_
  refine Wp.putI d_init_119 fa_c40 rfl (by decide) in_HtreeDir (Or.inl rfl) ?_
  refine Wp.p (pc' := 123) d_init_122 rfl rfl ?_
  refine Wp.iconst (0 : Int32) d_init_123 (by decide) ?_
  refine Wp.putI d_init_124 fa_c43 rfl (by decide) in_HtreeDir (Or.inl rfl) ?_
  refine Wp.p (pc' := 128) d_init_127 rfl rfl ?_
  refine Wp.iconst (0 : Int32) d_init_128 (by decide) ?_
  refine Wp.putI d_init_129 fa_c46 rfl (by decide) in_HtreeDir (Or.inl rfl) ?_
  refine Wp.iconst (0 : Int32) d_init_132 (by decide) ?_
  refine Wp.p (pc' := 135) d_init_133 rfl rfl ?_
  exact (h1 v1 e1 v2 e2 v3 e3 v4 e4)
set_option maxRecDepth 65536 in
set_option maxHeartbeats 4000000 in
theorem L_init_135 {n : Nat} {x1 x2 x3 x4 x5 : Int32} {mi : Nat → Nat → Int32} {ml : Nat → Nat → Int64} {Q : Option Value → EMem → Prop}
    (h1 : ¬ x5 < (32 : Int32) → Q none ((LL1 n), (up mi 1 42 (32 : Int32)), ml, RR1))
    (b1 : x5 < (32 : Int32) → inb x5 32 = true)
    (h2 : x5 < (32 : Int32) → W_init 135 [.val (.ref 1), .val (.int x1), .val (.int x2), .val (.int x3), .val (.int x4), .val (.int (x5 + (1 : Int32)))] [] ((LL1 n), (up mi 7 (Int32.toNatClampNeg x5) ((31 : Int32) - x5)), ml, RR1) Q) :
    W_init 135 [.val (.ref 1), .val (.int x1), .val (.int x2), .val (.int x3), .val (.int x4), .val (.int x5)] [] ((LL1 n), mi, ml, RR1) Q := by
  refine Wp.p (pc' := 137) d_init_135 rfl rfl ?_
  refine Wp.bipush (32 : Int32) d_init_137 (by decide) ?_
  refine Wp.icmp_ge d_init_139 rfl (fun c1 => ?_) (fun c1 => ?_)
  ·
    refine Wp.p (pc' := 161) d_init_160 rfl rfl ?_
    refine Wp.bipush (32 : Int32) d_init_161 (by decide) ?_
    refine Wp.putI d_init_163 fa_c49 rfl (by decide) in_HtreeDir (Or.inl rfl) ?_
    refine Wp.retV d_init_166 ?_
    exact (h1 c1)
  ·
    refine Wp.p (pc' := 143) d_init_142 rfl rfl ?_
    refine Wp.getR (b := 7) d_init_143 fa_c25 rfl rfl ?_
    refine Wp.p (pc' := 148) d_init_146 rfl rfl ?_
    refine Wp.bipush (31 : Int32) d_init_148 (by decide) ?_
    refine Wp.p (pc' := 152) d_init_150 rfl rfl ?_
    refine Wp.p (pc' := 153) d_init_152 rfl rfl ?_
    refine Wp.iastore d_init_153 rfl (k := (Int32.toNatClampNeg x5)) rfl (b1 c1) (by decide) ?_
    refine Wp.iinc (1 : Int32) d_init_154 (by decide) rfl rfl ?_
    refine Wp.p (pc' := 135) d_init_157 rfl rfl ?_
    exact (h2 c1)
set_option maxRecDepth 65536 in
set_option maxHeartbeats 4000000 in
theorem L_law_nameOf_0 {n : Nat} {x0 : Int32} {mi : Nat → Nat → Int32} {ml : Nat → Nat → Int64} {Q : Option Value → EMem → Prop}
    (h1 : Q (some (.int ((x0 * (4099 : Int32)) + (7 : Int32)))) ((LL1 n), mi, ml, RR1)) :
    W_law_nameOf 0 [.val (.int x0)] [] ((LL1 n), mi, ml, RR1) Q := by
  refine Wp.p (pc' := 1) d_law_nameOf_0 rfl rfl ?_
  refine Wp.sipush (4099 : Int32) d_law_nameOf_1 (by decide) ?_
  refine Wp.p (pc' := 5) d_law_nameOf_4 rfl rfl ?_
  refine Wp.bipush (7 : Int32) d_law_nameOf_5 (by decide) ?_
  refine Wp.p (pc' := 8) d_law_nameOf_7 rfl rfl ?_
  refine Wp.retI d_law_nameOf_8 ?_
  exact h1
set_option maxRecDepth 65536 in
set_option maxHeartbeats 4000000 in
theorem L_law_nib_0 {n : Nat} {x0 : Int64} {x2 : Int32} {mi : Nat → Nat → Int32} {ml : Nat → Nat → Int64} {Q : Option Value → EMem → Prop}
    (h1 : Q (some (.int (Int64.toInt32 ((XT.ushrL x0 ((4 : Int32) * x2)) &&& (15 : Int64))))) ((LL1 n), mi, ml, RR1)) :
    W_law_nib 0 [.val (.long x0), .second, .val (.int x2)] [] ((LL1 n), mi, ml, RR1) Q := by
  refine Wp.p (pc' := 1) d_law_nib_0 rfl rfl ?_
  refine Wp.iconst (4 : Int32) d_law_nib_1 (by decide) ?_
  refine Wp.p (pc' := 3) d_law_nib_2 rfl rfl ?_
  refine Wp.p (pc' := 4) d_law_nib_3 rfl rfl ?_
  refine Wp.p (pc' := 5) d_law_nib_4 rfl rfl ?_
  refine Wp.ldc2 d_law_nib_5 lk_w13 ?_
  refine Wp.p (pc' := 9) d_law_nib_8 rfl rfl ?_
  refine Wp.p (pc' := 10) d_law_nib_9 rfl rfl ?_
  refine Wp.retI d_law_nib_10 ?_
  exact h1
set_option maxRecDepth 65536 in
set_option maxHeartbeats 4000000 in
theorem L_law_pick_0 {n : Nat} {x0 x2 x4 x6 : Int64} {x8 : Int32} {mi : Nat → Nat → Int32} {ml : Nat → Nat → Int64} {Q : Option Value → EMem → Prop}
    (h1 : ∀ v1 : Int64, v1 = (if x8 = (0 : Int32) then x0 else (if x8 = (1 : Int32) then x2 else (if x8 = (2 : Int32) then x4 else x6))) → Q (some (.long v1)) ((LL1 n), mi, ml, RR1)) :
    W_law_pick 0 [.val (.long x0), .second, .val (.long x2), .second, .val (.long x4), .second, .val (.long x6), .second, .val (.int x8)] [] ((LL1 n), mi, ml, RR1) Q := by
  refine Wp.p (pc' := 2) d_law_pick_0 rfl rfl ?_
  obtain ⟨v1, e1⟩ : ∃ z : Int64, z = (if x8 = (0 : Int32) then x0 else (if x8 = (1 : Int32) then x2 else (if x8 = (2 : Int32) then x4 else x6))) := ⟨_, rfl⟩
  suffices K : W_law_pick 32 [.val (.long x0), .second, .val (.long x2), .second, .val (.long x4), .second, .val (.long x6), .second, .val (.int x8)] [.long v1] ((LL1 n), mi, ml, RR1) Q by
    refine Wp.if_ne d_law_pick_2 rfl (fun q0 => ?_) (fun q0 => ?_)
    ·
      refine Wp.p (pc' := 11) d_law_pick_9 rfl rfl ?_
      refine Wp.iconst (1 : Int32) d_law_pick_11 (by decide) ?_
      refine Wp.icmp_ne d_law_pick_12 rfl (fun q1 => ?_) (fun q1 => ?_)
      ·
        refine Wp.p (pc' := 21) d_law_pick_19 rfl rfl ?_
        refine Wp.iconst (2 : Int32) d_law_pick_21 (by decide) ?_
        refine Wp.icmp_ne d_law_pick_22 rfl (fun q2 => ?_) (fun q2 => ?_)
        ·
          refine Wp.p (pc' := 32) d_law_pick_30 rfl rfl ?_
          rw [if_neg q0, if_neg q1, if_neg q2] at e1; subst e1
          exact K
        ·
          refine Wp.p (pc' := 27) d_law_pick_25 rfl rfl ?_
          refine Wp.p (pc' := 32) d_law_pick_27 rfl rfl ?_
          rw [if_neg q0, if_neg q1, if_pos q2] at e1; subst e1
          exact K
      ·
        refine Wp.p (pc' := 16) d_law_pick_15 rfl rfl ?_
        refine Wp.p (pc' := 32) d_law_pick_16 rfl rfl ?_
        rw [if_neg q0, if_pos q1] at e1; subst e1
        exact K
    ·
      refine Wp.p (pc' := 6) d_law_pick_5 rfl rfl ?_
      refine Wp.p (pc' := 32) d_law_pick_6 rfl rfl ?_
      rw [if_pos q0] at e1; subst e1
      exact K
  refine Wp.retJ d_law_pick_32 ?_
  exact (h1 v1 e1)
set_option maxRecDepth 65536 in
set_option maxHeartbeats 4000000 in
theorem L_law_active_0 {n : Nat} {x0 : Int64} {mi : Nat → Nat → Int32} {ml : Nat → Nat → Int64} {Q : Option Value → EMem → Prop}
    (h1 : ∀ v1 : Int32, v1 = (if (XT.cmpL ((XT.ushrL x0 (49 : Int32)) &&& (1 : Int64)) (0 : Int64)) = (0 : Int32) then (0 : Int32) else (1 : Int32)) → Q (some (.int (v1 &&& 1))) ((LL1 n), mi, ml, RR1)) :
    W_law_active 0 [.val (.long x0), .second] [] ((LL1 n), mi, ml, RR1) Q := by
  refine Wp.p (pc' := 1) d_law_active_0 rfl rfl ?_
  refine Wp.bipush (49 : Int32) d_law_active_1 (by decide) ?_
  refine Wp.p (pc' := 4) d_law_active_3 rfl rfl ?_
  refine Wp.lconst (1 : Int64) d_law_active_4 (by decide) ?_
  refine Wp.p (pc' := 6) d_law_active_5 rfl rfl ?_
  refine Wp.lconst (0 : Int64) d_law_active_6 (by decide) ?_
  refine Wp.p (pc' := 8) d_law_active_7 rfl rfl ?_
  obtain ⟨v1, e1⟩ : ∃ z : Int32, z = (if (XT.cmpL ((XT.ushrL x0 (49 : Int32)) &&& (1 : Int64)) (0 : Int64)) = (0 : Int32) then (0 : Int32) else (1 : Int32)) := ⟨_, rfl⟩
  suffices K : W_law_active 16 [.val (.long x0), .second] [.int v1] ((LL1 n), mi, ml, RR1) Q by
    refine Wp.if_eq d_law_active_8 rfl (fun q0 => ?_) (fun q0 => ?_)
    ·
      refine Wp.iconst (0 : Int32) d_law_active_15 (by decide) ?_
      rw [if_pos q0] at e1; subst e1
      exact K
    ·
      refine Wp.iconst (1 : Int32) d_law_active_11 (by decide) ?_
      refine Wp.p (pc' := 16) d_law_active_12 rfl rfl ?_
      rw [if_neg q0] at e1; subst e1
      exact K
  refine Wp.retZ (v1 &&& 1) d_law_active_16 (by rfl) ?_
  exact (h1 v1 e1)
set_option maxRecDepth 65536 in
set_option maxHeartbeats 4000000 in
theorem L_law_startWalk_0 {n : Nat} {x0 : Int32} {mi : Nat → Nat → Int32} {ml : Nat → Nat → Int64} {Q : Option Value → EMem → Prop}
    (h1 : Q (some (.long ((562949953421312 : Int64) ||| ((Int32.toInt64 x0) &&& (65535 : Int64))))) ((LL1 n), mi, ml, RR1)) :
    W_law_startWalk 0 [.val (.int x0)] [] ((LL1 n), mi, ml, RR1) Q := by
  refine Wp.ldc2 d_law_startWalk_0 lk_w7 ?_
  refine Wp.p (pc' := 4) d_law_startWalk_3 rfl rfl ?_
  refine Wp.p (pc' := 5) d_law_startWalk_4 rfl rfl ?_
  refine Wp.ldc2 d_law_startWalk_5 lk_w9 ?_
  refine Wp.p (pc' := 9) d_law_startWalk_8 rfl rfl ?_
  refine Wp.p (pc' := 10) d_law_startWalk_9 rfl rfl ?_
  refine Wp.retJ d_law_startWalk_10 ?_
  exact h1
set_option maxRecDepth 65536 in
set_option maxHeartbeats 4000000 in
theorem L_law_setNib_0 {n : Nat} {x0 : Int64} {x2 x3 : Int32} {mi : Nat → Nat → Int32} {ml : Nat → Nat → Int64} {Q : Option Value → EMem → Prop}
    (h1 : Q (some (.long ((x0 &&& (((15 : Int64) <<< (Int32.toInt64 ((4 : Int32) * x2) &&& 63)) ^^^ (-1 : Int64))) ||| (((Int32.toInt64 x3) &&& (15 : Int64)) <<< (Int32.toInt64 ((4 : Int32) * x2) &&& 63))))) ((LL1 n), mi, ml, RR1)) :
    W_law_setNib 0 [.val (.long x0), .second, .val (.int x2), .val (.int x3)] [] ((LL1 n), mi, ml, RR1) Q := by
  refine Wp.p (pc' := 1) d_law_setNib_0 rfl rfl ?_
  refine Wp.ldc2 d_law_setNib_1 lk_w13 ?_
  refine Wp.iconst (4 : Int32) d_law_setNib_4 (by decide) ?_
  refine Wp.p (pc' := 6) d_law_setNib_5 rfl rfl ?_
  refine Wp.p (pc' := 7) d_law_setNib_6 rfl rfl ?_
  refine Wp.p (pc' := 8) d_law_setNib_7 rfl rfl ?_
  refine Wp.ldc2 d_law_setNib_8 lk_w11 ?_
  refine Wp.p (pc' := 12) d_law_setNib_11 rfl rfl ?_
  refine Wp.p (pc' := 13) d_law_setNib_12 rfl rfl ?_
  refine Wp.p (pc' := 14) d_law_setNib_13 rfl rfl ?_
  refine Wp.p (pc' := 15) d_law_setNib_14 rfl rfl ?_
  refine Wp.ldc2 d_law_setNib_15 lk_w13 ?_
  refine Wp.p (pc' := 19) d_law_setNib_18 rfl rfl ?_
  refine Wp.iconst (4 : Int32) d_law_setNib_19 (by decide) ?_
  refine Wp.p (pc' := 21) d_law_setNib_20 rfl rfl ?_
  refine Wp.p (pc' := 22) d_law_setNib_21 rfl rfl ?_
  refine Wp.p (pc' := 23) d_law_setNib_22 rfl rfl ?_
  refine Wp.p (pc' := 24) d_law_setNib_23 rfl rfl ?_
  refine Wp.retJ d_law_setNib_24 ?_
  exact h1
set_option maxRecDepth 65536 in
set_option maxHeartbeats 4000000 in
theorem L_law_idxOf_0 {n : Nat} {x0 : Int32} {mi : Nat → Nat → Int32} {ml : Nat → Nat → Int64} {Q : Option Value → EMem → Prop}
    (h1 : ¬ x0 < (7 : Int32) → ((x0 - (7 : Int32)) - (x0 - (7 : Int32)) / (4099 : Int32) * (4099 : Int32)) = (0 : Int32) → ∀ v3 : Int32, v3 = (if ((x0 - (7 : Int32)) / (4099 : Int32)) < (16 : Int32) then ((x0 - (7 : Int32)) / (4099 : Int32)) else (-1 : Int32)) → Q (some (.int v3)) ((LL1 n), mi, ml, RR1))
    (h2 : ¬ x0 < (7 : Int32) → ¬ ((x0 - (7 : Int32)) - (x0 - (7 : Int32)) / (4099 : Int32) * (4099 : Int32)) = (0 : Int32) → Q (some (.int (-1 : Int32))) ((LL1 n), mi, ml, RR1))
    (h3 : x0 < (7 : Int32) → Q (some (.int (-1 : Int32))) ((LL1 n), mi, ml, RR1)) :
    W_law_idxOf 0 [.val (.int x0), .unset, .unset] [] ((LL1 n), mi, ml, RR1) Q := by
  refine Wp.p (pc' := 1) d_law_idxOf_0 rfl rfl ?_
  refine Wp.bipush (7 : Int32) d_law_idxOf_1 (by decide) ?_
  refine Wp.icmp_ge d_law_idxOf_3 rfl (fun c1 => ?_) (fun c1 => ?_)
  ·
    refine Wp.p (pc' := 9) d_law_idxOf_8 rfl rfl ?_
    refine Wp.bipush (7 : Int32) d_law_idxOf_9 (by decide) ?_
    refine Wp.p (pc' := 12) d_law_idxOf_11 rfl rfl ?_
    refine Wp.p (pc' := 13) d_law_idxOf_12 rfl rfl ?_
    refine Wp.p (pc' := 14) d_law_idxOf_13 rfl rfl ?_
    refine Wp.sipush (4099 : Int32) d_law_idxOf_14 (by decide) ?_
    refine Wp.irem d_law_idxOf_17 (by decide) ?_
    refine Wp.if_eq d_law_idxOf_18 rfl (fun c2 => ?_) (fun c2 => ?_)
    ·
      refine Wp.p (pc' := 24) d_law_idxOf_23 rfl rfl ?_
      refine Wp.sipush (4099 : Int32) d_law_idxOf_24 (by decide) ?_
      refine Wp.idiv d_law_idxOf_27 (by decide) ?_
      refine Wp.p (pc' := 29) d_law_idxOf_28 rfl rfl ?_
      refine Wp.p (pc' := 30) d_law_idxOf_29 rfl rfl ?_
      refine Wp.bipush (16 : Int32) d_law_idxOf_30 (by decide) ?_
      obtain ⟨v3, e3⟩ : ∃ z : Int32, z = (if ((x0 - (7 : Int32)) / (4099 : Int32)) < (16 : Int32) then ((x0 - (7 : Int32)) / (4099 : Int32)) else (-1 : Int32)) := ⟨_, rfl⟩
      suffices K : W_law_idxOf 40 [.val (.int x0), .val (.int (x0 - (7 : Int32))), .val (.int ((x0 - (7 : Int32)) / (4099 : Int32)))] [.int v3] ((LL1 n), mi, ml, RR1) Q by
        refine Wp.icmp_ge d_law_idxOf_32 rfl (fun q0 => ?_) (fun q0 => ?_)
        ·
          refine Wp.iconst (-1 : Int32) d_law_idxOf_39 (by decide) ?_
          rw [if_neg q0] at e3; subst e3
          exact K
        ·
          refine Wp.p (pc' := 36) d_law_idxOf_35 rfl rfl ?_
          refine Wp.p (pc' := 40) d_law_idxOf_36 rfl rfl ?_
          rw [if_pos q0] at e3; subst e3
          exact K
      refine Wp.retI d_law_idxOf_40 ?_
      exact (h1 c1 c2 v3 e3)
    ·
      refine Wp.iconst (-1 : Int32) d_law_idxOf_21 (by decide) ?_
      refine Wp.retI d_law_idxOf_22 ?_
      exact (h2 c1 c2)
  ·
    refine Wp.iconst (-1 : Int32) d_law_idxOf_6 (by decide) ?_
    refine Wp.retI d_law_idxOf_7 ?_
    exact (h3 c1)
set_option maxRecDepth 65536 in
set_option maxHeartbeats 4000000 in
theorem L_law_dropReq_0 {n : Nat} {x0 : Int64} {x2 : Int32} {mi : Nat → Nat → Int32} {ml : Nat → Nat → Int64} {Q : Option Value → EMem → Prop}
    (h1 : Q (some (.long (x0 &&& ((Int32.toInt64 x2) ^^^ (-1 : Int64))))) ((LL1 n), mi, ml, RR1)) :
    W_law_dropReq 0 [.val (.long x0), .second, .val (.int x2)] [] ((LL1 n), mi, ml, RR1) Q := by
  refine Wp.p (pc' := 1) d_law_dropReq_0 rfl rfl ?_
  refine Wp.p (pc' := 2) d_law_dropReq_1 rfl rfl ?_
  refine Wp.p (pc' := 3) d_law_dropReq_2 rfl rfl ?_
  refine Wp.ldc2 d_law_dropReq_3 lk_w11 ?_
  refine Wp.p (pc' := 7) d_law_dropReq_6 rfl rfl ?_
  refine Wp.p (pc' := 8) d_law_dropReq_7 rfl rfl ?_
  refine Wp.retJ d_law_dropReq_8 ?_
  exact h1
set_option maxRecDepth 65536 in
set_option maxHeartbeats 4000000 in
theorem L_law_0 {n : Nat} {mi : Nat → Nat → Int32} {ml : Nat → Nat → Int64} {Q : Option Value → EMem → Prop}
    (h1 : W_law_cell 0 [.val (.ref 0), .val (.int (0 : Int32))] [] ([(1, "", n), (0, "HtreeDir", 13)], mi, ml, (fun _ _ => Value.null)) (fun v M' => W_law 9 [.val (.ref 0), .unset, .unset, .unset, .unset, .unset, .unset, .unset, .unset, .unset, .unset, .unset, .unset, .unset, .unset, .unset, .unset, .unset, .unset, .unset, .unset, .unset, .unset, .unset, .unset, .unset, .unset, .unset, .unset] (v.toList ++ [.ref 1, .ref 1]) M' Q)) :
    W_law 0 [.val (.ref 0), .unset, .unset, .unset, .unset, .unset, .unset, .unset, .unset, .unset, .unset, .unset, .unset, .unset, .unset, .unset, .unset, .unset, .unset, .unset, .unset, .unset, .unset, .unset, .unset, .unset, .unset, .unset, .unset] [] ([(1, "", n)], mi, ml, (fun _ _ => Value.null)) Q := by
  refine Wp.new (a := 1) (L' := [(1, "", n), (0, "HtreeDir", 13)]) d_law_0 na_w15 rfl rfl ?_
  refine Wp.p (pc' := 4) d_law_3 rfl rfl ?_
  refine Wp.p (pc' := 5) d_law_4 rfl rfl ?_
  refine Wp.iconst (0 : Int32) d_law_5 (by decide) ?_
  refine Wp.callS (as := [.ref 0, .int (0 : Int32)]) (rest := [.ref 1, .ref 1]) (w := 2) (F' := 0) (Lb' := 0) d_law_6 ca_w17_3 rfl rfl rfl (by decide) (by decide) (Nat.le_of_ble_eq_true rfl) ?_
  exact h1
set_option maxRecDepth 65536 in
set_option maxHeartbeats 4000000 in
theorem L_law_9 {n : Nat} {y0 : Int32} {mi : Nat → Nat → Int32} {ml : Nat → Nat → Int64} {Q : Option Value → EMem → Prop}
    (h1 : W_law_cell 0 [.val (.ref 0), .val (.int (1 : Int32))] [] ([(1, "", n), (0, "HtreeDir", 13)], mi, ml, (fun _ _ => Value.null)) (fun v M' => W_law 19 [.val (.ref 0), .unset, .unset, .unset, .unset, .unset, .unset, .unset, .unset, .unset, .unset, .unset, .unset, .unset, .unset, .unset, .unset, .unset, .unset, .unset, .unset, .unset, .unset, .unset, .unset, .unset, .unset, .unset, .unset] (v.toList ++ [.int (8 : Int32), .int (y0 &&& (65535 : Int32)), .ref 1, .ref 1]) M' Q)) :
    W_law 9 [.val (.ref 0), .unset, .unset, .unset, .unset, .unset, .unset, .unset, .unset, .unset, .unset, .unset, .unset, .unset, .unset, .unset, .unset, .unset, .unset, .unset, .unset, .unset, .unset, .unset, .unset, .unset, .unset, .unset, .unset] [.int y0, .ref 1, .ref 1] ([(1, "", n), (0, "HtreeDir", 13)], mi, ml, (fun _ _ => Value.null)) Q := by
  refine Wp.ldc d_law_9 ik_w23 ?_
  refine Wp.p (pc' := 12) d_law_11 rfl rfl ?_
  refine Wp.bipush (8 : Int32) d_law_12 (by decide) ?_
  refine Wp.p (pc' := 15) d_law_14 rfl rfl ?_
  refine Wp.iconst (1 : Int32) d_law_15 (by decide) ?_
  refine Wp.callS (as := [.ref 0, .int (1 : Int32)]) (rest := [.int (8 : Int32), .int (y0 &&& (65535 : Int32)), .ref 1, .ref 1]) (w := 4) (F' := 0) (Lb' := 0) d_law_16 ca_w17_3 rfl rfl rfl (by decide) (by decide) (Nat.le_of_ble_eq_true rfl) ?_
  exact h1
set_option maxRecDepth 65536 in
set_option maxHeartbeats 4000000 in
theorem L_law_19 {n : Nat} {y0 y1 y2 : Int32} {mi : Nat → Nat → Int32} {ml : Nat → Nat → Int64} {Q : Option Value → EMem → Prop}
    (h1 : W_init 0 [.val (.ref 1), .val (.int y2), .val (.int (y1 + (y0 &&& (15 : Int32)))), .unset, .unset, .unset] [] ([(1, "", n), (0, "HtreeDir", 13)], mi, ml, (fun _ _ => Value.null)) (fun v M' => W_law 26 [.val (.ref 0), .unset, .unset, .unset, .unset, .unset, .unset, .unset, .unset, .unset, .unset, .unset, .unset, .unset, .unset, .unset, .unset, .unset, .unset, .unset, .unset, .unset, .unset, .unset, .unset, .unset, .unset, .unset, .unset] (v.toList ++ [.ref 1]) M' Q)) :
    W_law 19 [.val (.ref 0), .unset, .unset, .unset, .unset, .unset, .unset, .unset, .unset, .unset, .unset, .unset, .unset, .unset, .unset, .unset, .unset, .unset, .unset, .unset, .unset, .unset, .unset, .unset, .unset, .unset, .unset, .unset, .unset] [.int y0, .int y1, .int y2, .ref 1, .ref 1] ([(1, "", n), (0, "HtreeDir", 13)], mi, ml, (fun _ _ => Value.null)) Q := by
  refine Wp.bipush (15 : Int32) d_law_19 (by decide) ?_
  refine Wp.p (pc' := 22) d_law_21 rfl rfl ?_
  refine Wp.p (pc' := 23) d_law_22 rfl rfl ?_
  refine Wp.callI (a := 1) (as := [.int y2, .int (y1 + (y0 &&& (15 : Int32)))]) (rest := [.ref 1]) (w := 1) (F' := 1) (Lb' := 12) d_law_23 on_w24 ca_w24_2 rfl rfl rfl (by decide) (by decide) (Nat.le_of_ble_eq_true rfl) ?_
  exact h1
set_option maxRecDepth 65536 in
set_option maxHeartbeats 4000000 in
theorem L_law_26 {n : Nat} {mi : Nat → Nat → Int32} {ml : Nat → Nat → Int64} {Q : Option Value → EMem → Prop}
    (h1 : W_law 46 [.val (.ref 0), .val (.ref 1), .val (.int (0 : Int32)), .val (.long (0 : Int64)), .second, .val (.long (0 : Int64)), .second, .val (.long (0 : Int64)), .second, .val (.long (0 : Int64)), .second, .val (.long (0 : Int64)), .second, .val (.int (2 : Int32)), .unset, .unset, .unset, .unset, .unset, .unset, .unset, .unset, .unset, .unset, .unset, .unset, .unset, .unset, .unset] [] ((LL1 n), mi, ml, RR1) Q) :
    W_law 26 [.val (.ref 0), .unset, .unset, .unset, .unset, .unset, .unset, .unset, .unset, .unset, .unset, .unset, .unset, .unset, .unset, .unset, .unset, .unset, .unset, .unset, .unset, .unset, .unset, .unset, .unset, .unset, .unset, .unset, .unset] [.ref 1] ((LL1 n), mi, ml, RR1) Q := by
  refine Wp.p (pc' := 27) d_law_26 rfl rfl ?_
  refine Wp.iconst (0 : Int32) d_law_27 (by decide) ?_
  refine Wp.p (pc' := 29) d_law_28 rfl rfl ?_
  refine Wp.lconst (0 : Int64) d_law_29 (by decide) ?_
  refine Wp.p (pc' := 31) d_law_30 rfl rfl ?_
  refine Wp.lconst (0 : Int64) d_law_31 (by decide) ?_
  refine Wp.p (pc' := 34) d_law_32 rfl rfl ?_
  refine Wp.lconst (0 : Int64) d_law_34 (by decide) ?_
  refine Wp.p (pc' := 37) d_law_35 rfl rfl ?_
  refine Wp.lconst (0 : Int64) d_law_37 (by decide) ?_
  refine Wp.p (pc' := 40) d_law_38 rfl rfl ?_
  refine Wp.lconst (0 : Int64) d_law_40 (by decide) ?_
  refine Wp.p (pc' := 43) d_law_41 rfl rfl ?_
  refine Wp.iconst (2 : Int32) d_law_43 (by decide) ?_
  refine Wp.p (pc' := 46) d_law_44 rfl rfl ?_
  exact h1
set_option maxRecDepth 65536 in
set_option maxHeartbeats 4000000 in
theorem L_law_46 {n : Nat} {x2 x13 : Int32} {x3 x5 x7 x9 x11 : Int64} {s14 s15 s16 s17 s18 s19 s20 s21 s22 s23 s24 s25 s26 s27 s28 : Slot} {mi : Nat → Nat → Int32} {ml : Nat → Nat → Int64} {Q : Option Value → EMem → Prop} (o14 : One s14) (o15 : One s15) (o16 : One s16) (o17 : One s17) (o18 : One s18) (o19 : One s19) (o20 : One s20) (o21 : One s21) (o22 : OneJ s22 s23) (o24 : One s24) (o25 : One s25) (o26 : One s26) (o27 : OneJ s27 s28)
    (h1 : ¬ x13 < (n.toInt32) → Q (some (.int (1 : Int32))) ((LL1 n), mi, ml, RR1))
    (b1 : x13 < (n.toInt32) → inb x13 n = true)
    (h2 : x13 < (n.toInt32) → (1 : Int32) < (((mi 0 (Int32.toNatClampNeg x13)) &&& (255 : Int32)) - ((mi 0 (Int32.toNatClampNeg x13)) &&& (255 : Int32)) / (10 : Int32) * (10 : Int32)) → ¬ (((mi 0 (Int32.toNatClampNeg x13)) &&& (255 : Int32)) - ((mi 0 (Int32.toNatClampNeg x13)) &&& (255 : Int32)) / (10 : Int32) * (10 : Int32)) = (2 : Int32) → ¬ (((mi 0 (Int32.toNatClampNeg x13)) &&& (255 : Int32)) - ((mi 0 (Int32.toNatClampNeg x13)) &&& (255 : Int32)) / (10 : Int32) * (10 : Int32)) = (3 : Int32) → ¬ (((mi 0 (Int32.toNatClampNeg x13)) &&& (255 : Int32)) - ((mi 0 (Int32.toNatClampNeg x13)) &&& (255 : Int32)) / (10 : Int32) * (10 : Int32)) = (4 : Int32) → (7 : Int32) < (((mi 0 (Int32.toNatClampNeg x13)) &&& (255 : Int32)) - ((mi 0 (Int32.toNatClampNeg x13)) &&& (255 : Int32)) / (10 : Int32) * (10 : Int32)) → ¬ (((mi 0 (Int32.toNatClampNeg x13)) &&& (255 : Int32)) - ((mi 0 (Int32.toNatClampNeg x13)) &&& (255 : Int32)) / (10 : Int32) * (10 : Int32)) = (8 : Int32) → W_closeDir 0 [.val (.ref 1), .val (.int ((XT.ushr (mi 0 (Int32.toNatClampNeg x13)) (16 : Int32)) &&& (3 : Int32)))] [] ((LL1 n), mi, ml, RR1) (fun v M' => W_law 590 [.val (.ref 0), .val (.ref 1), .val (.int x2), .val (.long x3), .second, .val (.long x5), .second, .val (.long x7), .second, .val (.long x9), .second, .val (.long x11), .second, .val (.int x13), .val (.int (mi 0 (Int32.toNatClampNeg x13))), .val (.int (((mi 0 (Int32.toNatClampNeg x13)) &&& (255 : Int32)) - ((mi 0 (Int32.toNatClampNeg x13)) &&& (255 : Int32)) / (10 : Int32) * (10 : Int32))), .val (.int ((XT.ushr (mi 0 (Int32.toNatClampNeg x13)) (8 : Int32)) &&& (15 : Int32))), .val (.int ((((XT.ushr (mi 0 (Int32.toNatClampNeg x13)) (8 : Int32)) &&& (15 : Int32)) * (4099 : Int32)) + (7 : Int32))), .val (.int ((1 : Int32) <<< (((XT.ushr (mi 0 (Int32.toNatClampNeg x13)) (8 : Int32)) &&& (15 : Int32)) &&& 31))), .val (.int ((XT.ushr (mi 0 (Int32.toNatClampNeg x13)) (12 : Int32)) &&& (15 : Int32))), .val (.int ((XT.ushr (mi 0 (Int32.toNatClampNeg x13)) (16 : Int32)) &&& (3 : Int32))), .val (.int (0 : Int32)), .val (.long (0 : Int64)), .second, s24, s25, s26, s27, s28] (v.toList ++ []) M' Q))
    (h3 : x13 < (n.toInt32) → (1 : Int32) < (((mi 0 (Int32.toNatClampNeg x13)) &&& (255 : Int32)) - ((mi 0 (Int32.toNatClampNeg x13)) &&& (255 : Int32)) / (10 : Int32) * (10 : Int32)) → ¬ (((mi 0 (Int32.toNatClampNeg x13)) &&& (255 : Int32)) - ((mi 0 (Int32.toNatClampNeg x13)) &&& (255 : Int32)) / (10 : Int32) * (10 : Int32)) = (2 : Int32) → ¬ (((mi 0 (Int32.toNatClampNeg x13)) &&& (255 : Int32)) - ((mi 0 (Int32.toNatClampNeg x13)) &&& (255 : Int32)) / (10 : Int32) * (10 : Int32)) = (3 : Int32) → ¬ (((mi 0 (Int32.toNatClampNeg x13)) &&& (255 : Int32)) - ((mi 0 (Int32.toNatClampNeg x13)) &&& (255 : Int32)) / (10 : Int32) * (10 : Int32)) = (4 : Int32) → (7 : Int32) < (((mi 0 (Int32.toNatClampNeg x13)) &&& (255 : Int32)) - ((mi 0 (Int32.toNatClampNeg x13)) &&& (255 : Int32)) / (10 : Int32) * (10 : Int32)) → (((mi 0 (Int32.toNatClampNeg x13)) &&& (255 : Int32)) - ((mi 0 (Int32.toNatClampNeg x13)) &&& (255 : Int32)) / (10 : Int32) * (10 : Int32)) = (8 : Int32) → ¬ ((XT.ushr (mi 0 (Int32.toNatClampNeg x13)) (18 : Int32)) &&& (3 : Int32)) = (0 : Int32) → ¬ ((XT.ushr (mi 0 (Int32.toNatClampNeg x13)) (18 : Int32)) &&& (3 : Int32)) = (1 : Int32) → ¬ ((XT.ushr (mi 0 (Int32.toNatClampNeg x13)) (18 : Int32)) &&& (3 : Int32)) = (2 : Int32) → W_hashOf 0 [.val (.ref 1), .val (.int ((((XT.ushr (mi 0 (Int32.toNatClampNeg x13)) (8 : Int32)) &&& (15 : Int32)) * (4099 : Int32)) + (7 : Int32)))] [] ((LL1 n), mi, ml, RR1) (fun v M' => W_law 547 [.val (.ref 0), .val (.ref 1), .val (.int x2), .val (.long x3), .second, .val (.long x5), .second, .val (.long x7), .second, .val (.long x9), .second, .val (.long x11), .second, .val (.int x13), .val (.int (mi 0 (Int32.toNatClampNeg x13))), .val (.int (((mi 0 (Int32.toNatClampNeg x13)) &&& (255 : Int32)) - ((mi 0 (Int32.toNatClampNeg x13)) &&& (255 : Int32)) / (10 : Int32) * (10 : Int32))), .val (.int ((XT.ushr (mi 0 (Int32.toNatClampNeg x13)) (8 : Int32)) &&& (15 : Int32))), .val (.int ((((XT.ushr (mi 0 (Int32.toNatClampNeg x13)) (8 : Int32)) &&& (15 : Int32)) * (4099 : Int32)) + (7 : Int32))), .val (.int ((1 : Int32) <<< (((XT.ushr (mi 0 (Int32.toNatClampNeg x13)) (8 : Int32)) &&& (15 : Int32)) &&& 31))), .val (.int ((XT.ushr (mi 0 (Int32.toNatClampNeg x13)) (12 : Int32)) &&& (15 : Int32))), .val (.int ((XT.ushr (mi 0 (Int32.toNatClampNeg x13)) (16 : Int32)) &&& (3 : Int32))), .val (.int (0 : Int32)), .val (.long (0 : Int64)), .second, .val (.int ((XT.ushr (mi 0 (Int32.toNatClampNeg x13)) (18 : Int32)) &&& (3 : Int32))), s25, s26, s27, s28] (v.toList ++ []) M' Q))
    (h4 : x13 < (n.toInt32) → (1 : Int32) < (((mi 0 (Int32.toNatClampNeg x13)) &&& (255 : Int32)) - ((mi 0 (Int32.toNatClampNeg x13)) &&& (255 : Int32)) / (10 : Int32) * (10 : Int32)) → ¬ (((mi 0 (Int32.toNatClampNeg x13)) &&& (255 : Int32)) - ((mi 0 (Int32.toNatClampNeg x13)) &&& (255 : Int32)) / (10 : Int32) * (10 : Int32)) = (2 : Int32) → ¬ (((mi 0 (Int32.toNatClampNeg x13)) &&& (255 : Int32)) - ((mi 0 (Int32.toNatClampNeg x13)) &&& (255 : Int32)) / (10 : Int32) * (10 : Int32)) = (3 : Int32) → ¬ (((mi 0 (Int32.toNatClampNeg x13)) &&& (255 : Int32)) - ((mi 0 (Int32.toNatClampNeg x13)) &&& (255 : Int32)) / (10 : Int32) * (10 : Int32)) = (4 : Int32) → (7 : Int32) < (((mi 0 (Int32.toNatClampNeg x13)) &&& (255 : Int32)) - ((mi 0 (Int32.toNatClampNeg x13)) &&& (255 : Int32)) / (10 : Int32) * (10 : Int32)) → (((mi 0 (Int32.toNatClampNeg x13)) &&& (255 : Int32)) - ((mi 0 (Int32.toNatClampNeg x13)) &&& (255 : Int32)) / (10 : Int32) * (10 : Int32)) = (8 : Int32) → ¬ ((XT.ushr (mi 0 (Int32.toNatClampNeg x13)) (18 : Int32)) &&& (3 : Int32)) = (0 : Int32) → ¬ ((XT.ushr (mi 0 (Int32.toNatClampNeg x13)) (18 : Int32)) &&& (3 : Int32)) = (1 : Int32) → ((XT.ushr (mi 0 (Int32.toNatClampNeg x13)) (18 : Int32)) &&& (3 : Int32)) = (2 : Int32) → W_law 549 [.val (.ref 0), .val (.ref 1), .val (.int x2), .val (.long x3), .second, .val (.long x5), .second, .val (.long x7), .second, .val (.long x9), .second, .val (.long x11), .second, .val (.int x13), .val (.int (mi 0 (Int32.toNatClampNeg x13))), .val (.int (((mi 0 (Int32.toNatClampNeg x13)) &&& (255 : Int32)) - ((mi 0 (Int32.toNatClampNeg x13)) &&& (255 : Int32)) / (10 : Int32) * (10 : Int32))), .val (.int ((XT.ushr (mi 0 (Int32.toNatClampNeg x13)) (8 : Int32)) &&& (15 : Int32))), .val (.int ((((XT.ushr (mi 0 (Int32.toNatClampNeg x13)) (8 : Int32)) &&& (15 : Int32)) * (4099 : Int32)) + (7 : Int32))), .val (.int ((1 : Int32) <<< (((XT.ushr (mi 0 (Int32.toNatClampNeg x13)) (8 : Int32)) &&& (15 : Int32)) &&& 31))), .val (.int ((XT.ushr (mi 0 (Int32.toNatClampNeg x13)) (12 : Int32)) &&& (15 : Int32))), .val (.int ((XT.ushr (mi 0 (Int32.toNatClampNeg x13)) (16 : Int32)) &&& (3 : Int32))), .val (.int (0 : Int32)), .val (.long (0 : Int64)), .second, .val (.int ((XT.ushr (mi 0 (Int32.toNatClampNeg x13)) (18 : Int32)) &&& (3 : Int32))), s25, s26, s27, s28] [.int (65536 : Int32)] ((LL1 n), mi, ml, RR1) Q)
    (h5 : x13 < (n.toInt32) → (1 : Int32) < (((mi 0 (Int32.toNatClampNeg x13)) &&& (255 : Int32)) - ((mi 0 (Int32.toNatClampNeg x13)) &&& (255 : Int32)) / (10 : Int32) * (10 : Int32)) → ¬ (((mi 0 (Int32.toNatClampNeg x13)) &&& (255 : Int32)) - ((mi 0 (Int32.toNatClampNeg x13)) &&& (255 : Int32)) / (10 : Int32) * (10 : Int32)) = (2 : Int32) → ¬ (((mi 0 (Int32.toNatClampNeg x13)) &&& (255 : Int32)) - ((mi 0 (Int32.toNatClampNeg x13)) &&& (255 : Int32)) / (10 : Int32) * (10 : Int32)) = (3 : Int32) → ¬ (((mi 0 (Int32.toNatClampNeg x13)) &&& (255 : Int32)) - ((mi 0 (Int32.toNatClampNeg x13)) &&& (255 : Int32)) / (10 : Int32) * (10 : Int32)) = (4 : Int32) → (7 : Int32) < (((mi 0 (Int32.toNatClampNeg x13)) &&& (255 : Int32)) - ((mi 0 (Int32.toNatClampNeg x13)) &&& (255 : Int32)) / (10 : Int32) * (10 : Int32)) → (((mi 0 (Int32.toNatClampNeg x13)) &&& (255 : Int32)) - ((mi 0 (Int32.toNatClampNeg x13)) &&& (255 : Int32)) / (10 : Int32) * (10 : Int32)) = (8 : Int32) → ¬ ((XT.ushr (mi 0 (Int32.toNatClampNeg x13)) (18 : Int32)) &&& (3 : Int32)) = (0 : Int32) → ((XT.ushr (mi 0 (Int32.toNatClampNeg x13)) (18 : Int32)) &&& (3 : Int32)) = (1 : Int32) → W_hashOf 0 [.val (.ref 1), .val (.int ((((XT.ushr (mi 0 (Int32.toNatClampNeg x13)) (8 : Int32)) &&& (15 : Int32)) * (4099 : Int32)) + (7 : Int32)))] [] ((LL1 n), mi, ml, RR1) (fun v M' => W_law 527 [.val (.ref 0), .val (.ref 1), .val (.int x2), .val (.long x3), .second, .val (.long x5), .second, .val (.long x7), .second, .val (.long x9), .second, .val (.long x11), .second, .val (.int x13), .val (.int (mi 0 (Int32.toNatClampNeg x13))), .val (.int (((mi 0 (Int32.toNatClampNeg x13)) &&& (255 : Int32)) - ((mi 0 (Int32.toNatClampNeg x13)) &&& (255 : Int32)) / (10 : Int32) * (10 : Int32))), .val (.int ((XT.ushr (mi 0 (Int32.toNatClampNeg x13)) (8 : Int32)) &&& (15 : Int32))), .val (.int ((((XT.ushr (mi 0 (Int32.toNatClampNeg x13)) (8 : Int32)) &&& (15 : Int32)) * (4099 : Int32)) + (7 : Int32))), .val (.int ((1 : Int32) <<< (((XT.ushr (mi 0 (Int32.toNatClampNeg x13)) (8 : Int32)) &&& (15 : Int32)) &&& 31))), .val (.int ((XT.ushr (mi 0 (Int32.toNatClampNeg x13)) (12 : Int32)) &&& (15 : Int32))), .val (.int ((XT.ushr (mi 0 (Int32.toNatClampNeg x13)) (16 : Int32)) &&& (3 : Int32))), .val (.int (0 : Int32)), .val (.long (0 : Int64)), .second, .val (.int ((XT.ushr (mi 0 (Int32.toNatClampNeg x13)) (18 : Int32)) &&& (3 : Int32))), s25, s26, s27, s28] (v.toList ++ []) M' Q))
    (h6 : x13 < (n.toInt32) → (1 : Int32) < (((mi 0 (Int32.toNatClampNeg x13)) &&& (255 : Int32)) - ((mi 0 (Int32.toNatClampNeg x13)) &&& (255 : Int32)) / (10 : Int32) * (10 : Int32)) → ¬ (((mi 0 (Int32.toNatClampNeg x13)) &&& (255 : Int32)) - ((mi 0 (Int32.toNatClampNeg x13)) &&& (255 : Int32)) / (10 : Int32) * (10 : Int32)) = (2 : Int32) → ¬ (((mi 0 (Int32.toNatClampNeg x13)) &&& (255 : Int32)) - ((mi 0 (Int32.toNatClampNeg x13)) &&& (255 : Int32)) / (10 : Int32) * (10 : Int32)) = (3 : Int32) → ¬ (((mi 0 (Int32.toNatClampNeg x13)) &&& (255 : Int32)) - ((mi 0 (Int32.toNatClampNeg x13)) &&& (255 : Int32)) / (10 : Int32) * (10 : Int32)) = (4 : Int32) → (7 : Int32) < (((mi 0 (Int32.toNatClampNeg x13)) &&& (255 : Int32)) - ((mi 0 (Int32.toNatClampNeg x13)) &&& (255 : Int32)) / (10 : Int32) * (10 : Int32)) → (((mi 0 (Int32.toNatClampNeg x13)) &&& (255 : Int32)) - ((mi 0 (Int32.toNatClampNeg x13)) &&& (255 : Int32)) / (10 : Int32) * (10 : Int32)) = (8 : Int32) → ((XT.ushr (mi 0 (Int32.toNatClampNeg x13)) (18 : Int32)) &&& (3 : Int32)) = (0 : Int32) → W_law 549 [.val (.ref 0), .val (.ref 1), .val (.int x2), .val (.long x3), .second, .val (.long x5), .second, .val (.long x7), .second, .val (.long x9), .second, .val (.long x11), .second, .val (.int x13), .val (.int (mi 0 (Int32.toNatClampNeg x13))), .val (.int (((mi 0 (Int32.toNatClampNeg x13)) &&& (255 : Int32)) - ((mi 0 (Int32.toNatClampNeg x13)) &&& (255 : Int32)) / (10 : Int32) * (10 : Int32))), .val (.int ((XT.ushr (mi 0 (Int32.toNatClampNeg x13)) (8 : Int32)) &&& (15 : Int32))), .val (.int ((((XT.ushr (mi 0 (Int32.toNatClampNeg x13)) (8 : Int32)) &&& (15 : Int32)) * (4099 : Int32)) + (7 : Int32))), .val (.int ((1 : Int32) <<< (((XT.ushr (mi 0 (Int32.toNatClampNeg x13)) (8 : Int32)) &&& (15 : Int32)) &&& 31))), .val (.int ((XT.ushr (mi 0 (Int32.toNatClampNeg x13)) (12 : Int32)) &&& (15 : Int32))), .val (.int ((XT.ushr (mi 0 (Int32.toNatClampNeg x13)) (16 : Int32)) &&& (3 : Int32))), .val (.int (0 : Int32)), .val (.long (0 : Int64)), .second, .val (.int ((XT.ushr (mi 0 (Int32.toNatClampNeg x13)) (18 : Int32)) &&& (3 : Int32))), s25, s26, s27, s28] [.int (-1 : Int32)] ((LL1 n), mi, ml, RR1) Q)
    (h7 : x13 < (n.toInt32) → (1 : Int32) < (((mi 0 (Int32.toNatClampNeg x13)) &&& (255 : Int32)) - ((mi 0 (Int32.toNatClampNeg x13)) &&& (255 : Int32)) / (10 : Int32) * (10 : Int32)) → ¬ (((mi 0 (Int32.toNatClampNeg x13)) &&& (255 : Int32)) - ((mi 0 (Int32.toNatClampNeg x13)) &&& (255 : Int32)) / (10 : Int32) * (10 : Int32)) = (2 : Int32) → ¬ (((mi 0 (Int32.toNatClampNeg x13)) &&& (255 : Int32)) - ((mi 0 (Int32.toNatClampNeg x13)) &&& (255 : Int32)) / (10 : Int32) * (10 : Int32)) = (3 : Int32) → ¬ (((mi 0 (Int32.toNatClampNeg x13)) &&& (255 : Int32)) - ((mi 0 (Int32.toNatClampNeg x13)) &&& (255 : Int32)) / (10 : Int32) * (10 : Int32)) = (4 : Int32) → ¬ (7 : Int32) < (((mi 0 (Int32.toNatClampNeg x13)) &&& (255 : Int32)) - ((mi 0 (Int32.toNatClampNeg x13)) &&& (255 : Int32)) / (10 : Int32) * (10 : Int32)) → ∀ v11 : Int64, v11 = (if ((XT.ushr (mi 0 (Int32.toNatClampNeg x13)) (16 : Int32)) &&& (3 : Int32)) = (0 : Int32) then x5 else (if ((XT.ushr (mi 0 (Int32.toNatClampNeg x13)) (16 : Int32)) &&& (3 : Int32)) = (1 : Int32) then x7 else (if ((XT.ushr (mi 0 (Int32.toNatClampNeg x13)) (16 : Int32)) &&& (3 : Int32)) = (2 : Int32) then x9 else x11))) → W_readNext 0 [.val (.ref 1), .val (.int ((XT.ushr (mi 0 (Int32.toNatClampNeg x13)) (16 : Int32)) &&& (3 : Int32))), .unset, .unset, .unset] [] ((LL1 n), mi, ml, RR1) (fun v M' => W_law 322 [.val (.ref 0), .val (.ref 1), .val (.int x2), .val (.long x3), .second, .val (.long x5), .second, .val (.long x7), .second, .val (.long x9), .second, .val (.long x11), .second, .val (.int x13), .val (.int (mi 0 (Int32.toNatClampNeg x13))), .val (.int (((mi 0 (Int32.toNatClampNeg x13)) &&& (255 : Int32)) - ((mi 0 (Int32.toNatClampNeg x13)) &&& (255 : Int32)) / (10 : Int32) * (10 : Int32))), .val (.int ((XT.ushr (mi 0 (Int32.toNatClampNeg x13)) (8 : Int32)) &&& (15 : Int32))), .val (.int ((((XT.ushr (mi 0 (Int32.toNatClampNeg x13)) (8 : Int32)) &&& (15 : Int32)) * (4099 : Int32)) + (7 : Int32))), .val (.int ((1 : Int32) <<< (((XT.ushr (mi 0 (Int32.toNatClampNeg x13)) (8 : Int32)) &&& (15 : Int32)) &&& 31))), .val (.int ((XT.ushr (mi 0 (Int32.toNatClampNeg x13)) (12 : Int32)) &&& (15 : Int32))), .val (.int ((XT.ushr (mi 0 (Int32.toNatClampNeg x13)) (16 : Int32)) &&& (3 : Int32))), .val (.int (0 : Int32)), .val (.long v11), .second, s24, s25, s26, s27, s28] (v.toList ++ []) M' Q))
    (h8 : x13 < (n.toInt32) → (1 : Int32) < (((mi 0 (Int32.toNatClampNeg x13)) &&& (255 : Int32)) - ((mi 0 (Int32.toNatClampNeg x13)) &&& (255 : Int32)) / (10 : Int32) * (10 : Int32)) → ¬ (((mi 0 (Int32.toNatClampNeg x13)) &&& (255 : Int32)) - ((mi 0 (Int32.toNatClampNeg x13)) &&& (255 : Int32)) / (10 : Int32) * (10 : Int32)) = (2 : Int32) → ¬ (((mi 0 (Int32.toNatClampNeg x13)) &&& (255 : Int32)) - ((mi 0 (Int32.toNatClampNeg x13)) &&& (255 : Int32)) / (10 : Int32) * (10 : Int32)) = (3 : Int32) → (((mi 0 (Int32.toNatClampNeg x13)) &&& (255 : Int32)) - ((mi 0 (Int32.toNatClampNeg x13)) &&& (255 : Int32)) / (10 : Int32) * (10 : Int32)) = (4 : Int32) → W_openDir 0 [.val (.ref 1), .unset] [] ((LL1 n), mi, ml, RR1) (fun v M' => W_law 265 [.val (.ref 0), .val (.ref 1), .val (.int x2), .val (.long x3), .second, .val (.long x5), .second, .val (.long x7), .second, .val (.long x9), .second, .val (.long x11), .second, .val (.int x13), .val (.int (mi 0 (Int32.toNatClampNeg x13))), .val (.int (((mi 0 (Int32.toNatClampNeg x13)) &&& (255 : Int32)) - ((mi 0 (Int32.toNatClampNeg x13)) &&& (255 : Int32)) / (10 : Int32) * (10 : Int32))), .val (.int ((XT.ushr (mi 0 (Int32.toNatClampNeg x13)) (8 : Int32)) &&& (15 : Int32))), .val (.int ((((XT.ushr (mi 0 (Int32.toNatClampNeg x13)) (8 : Int32)) &&& (15 : Int32)) * (4099 : Int32)) + (7 : Int32))), .val (.int ((1 : Int32) <<< (((XT.ushr (mi 0 (Int32.toNatClampNeg x13)) (8 : Int32)) &&& (15 : Int32)) &&& 31))), .val (.int ((XT.ushr (mi 0 (Int32.toNatClampNeg x13)) (12 : Int32)) &&& (15 : Int32))), .val (.int ((XT.ushr (mi 0 (Int32.toNatClampNeg x13)) (16 : Int32)) &&& (3 : Int32))), .val (.int (0 : Int32)), .val (.long (0 : Int64)), .second, s24, s25, s26, s27, s28] (v.toList ++ []) M' Q))
    (h9 : x13 < (n.toInt32) → (1 : Int32) < (((mi 0 (Int32.toNatClampNeg x13)) &&& (255 : Int32)) - ((mi 0 (Int32.toNatClampNeg x13)) &&& (255 : Int32)) / (10 : Int32) * (10 : Int32)) → ¬ (((mi 0 (Int32.toNatClampNeg x13)) &&& (255 : Int32)) - ((mi 0 (Int32.toNatClampNeg x13)) &&& (255 : Int32)) / (10 : Int32) * (10 : Int32)) = (2 : Int32) → (((mi 0 (Int32.toNatClampNeg x13)) &&& (255 : Int32)) - ((mi 0 (Int32.toNatClampNeg x13)) &&& (255 : Int32)) / (10 : Int32) * (10 : Int32)) = (3 : Int32) → W_setInode 0 [.val (.ref 1), .val (.int ((((XT.ushr (mi 0 (Int32.toNatClampNeg x13)) (8 : Int32)) &&& (15 : Int32)) * (4099 : Int32)) + (7 : Int32))), .val (.int ((XT.ushr (mi 0 (Int32.toNatClampNeg x13)) (12 : Int32)) &&& (15 : Int32))), .unset, .unset] [] ((LL1 n), mi, ml, RR1) (fun v M' => W_law 235 [.val (.ref 0), .val (.ref 1), .val (.int x2), .val (.long x3), .second, .val (.long x5), .second, .val (.long x7), .second, .val (.long x9), .second, .val (.long x11), .second, .val (.int x13), .val (.int (mi 0 (Int32.toNatClampNeg x13))), .val (.int (((mi 0 (Int32.toNatClampNeg x13)) &&& (255 : Int32)) - ((mi 0 (Int32.toNatClampNeg x13)) &&& (255 : Int32)) / (10 : Int32) * (10 : Int32))), .val (.int ((XT.ushr (mi 0 (Int32.toNatClampNeg x13)) (8 : Int32)) &&& (15 : Int32))), .val (.int ((((XT.ushr (mi 0 (Int32.toNatClampNeg x13)) (8 : Int32)) &&& (15 : Int32)) * (4099 : Int32)) + (7 : Int32))), .val (.int ((1 : Int32) <<< (((XT.ushr (mi 0 (Int32.toNatClampNeg x13)) (8 : Int32)) &&& (15 : Int32)) &&& 31))), .val (.int ((XT.ushr (mi 0 (Int32.toNatClampNeg x13)) (12 : Int32)) &&& (15 : Int32))), .val (.int ((XT.ushr (mi 0 (Int32.toNatClampNeg x13)) (16 : Int32)) &&& (3 : Int32))), .val (.int (0 : Int32)), .val (.long (0 : Int64)), .second, s24, s25, s26, s27, s28] (v.toList ++ []) M' Q))
    (h10 : x13 < (n.toInt32) → (1 : Int32) < (((mi 0 (Int32.toNatClampNeg x13)) &&& (255 : Int32)) - ((mi 0 (Int32.toNatClampNeg x13)) &&& (255 : Int32)) / (10 : Int32) * (10 : Int32)) → (((mi 0 (Int32.toNatClampNeg x13)) &&& (255 : Int32)) - ((mi 0 (Int32.toNatClampNeg x13)) &&& (255 : Int32)) / (10 : Int32) * (10 : Int32)) = (2 : Int32) → W_remove 0 [.val (.ref 1), .val (.int ((((XT.ushr (mi 0 (Int32.toNatClampNeg x13)) (8 : Int32)) &&& (15 : Int32)) * (4099 : Int32)) + (7 : Int32))), .unset, .unset, .unset] [] ((LL1 n), mi, ml, RR1) (fun v M' => W_law 164 [.val (.ref 0), .val (.ref 1), .val (.int x2), .val (.long x3), .second, .val (.long x5), .second, .val (.long x7), .second, .val (.long x9), .second, .val (.long x11), .second, .val (.int x13), .val (.int (mi 0 (Int32.toNatClampNeg x13))), .val (.int (((mi 0 (Int32.toNatClampNeg x13)) &&& (255 : Int32)) - ((mi 0 (Int32.toNatClampNeg x13)) &&& (255 : Int32)) / (10 : Int32) * (10 : Int32))), .val (.int ((XT.ushr (mi 0 (Int32.toNatClampNeg x13)) (8 : Int32)) &&& (15 : Int32))), .val (.int ((((XT.ushr (mi 0 (Int32.toNatClampNeg x13)) (8 : Int32)) &&& (15 : Int32)) * (4099 : Int32)) + (7 : Int32))), .val (.int ((1 : Int32) <<< (((XT.ushr (mi 0 (Int32.toNatClampNeg x13)) (8 : Int32)) &&& (15 : Int32)) &&& 31))), .val (.int ((XT.ushr (mi 0 (Int32.toNatClampNeg x13)) (12 : Int32)) &&& (15 : Int32))), .val (.int ((XT.ushr (mi 0 (Int32.toNatClampNeg x13)) (16 : Int32)) &&& (3 : Int32))), .val (.int (0 : Int32)), .val (.long (0 : Int64)), .second, s24, s25, s26, s27, s28] (v.toList ++ []) M' Q))
    (h11 : x13 < (n.toInt32) → ¬ (1 : Int32) < (((mi 0 (Int32.toNatClampNeg x13)) &&& (255 : Int32)) - ((mi 0 (Int32.toNatClampNeg x13)) &&& (255 : Int32)) / (10 : Int32) * (10 : Int32)) → W_insert 0 [.val (.ref 1), .val (.int ((((XT.ushr (mi 0 (Int32.toNatClampNeg x13)) (8 : Int32)) &&& (15 : Int32)) * (4099 : Int32)) + (7 : Int32))), .val (.int ((XT.ushr (mi 0 (Int32.toNatClampNeg x13)) (12 : Int32)) &&& (15 : Int32))), .unset, .unset, .unset] [] ((LL1 n), mi, ml, RR1) (fun v M' => W_law 132 [.val (.ref 0), .val (.ref 1), .val (.int x2), .val (.long x3), .second, .val (.long x5), .second, .val (.long x7), .second, .val (.long x9), .second, .val (.long x11), .second, .val (.int x13), .val (.int (mi 0 (Int32.toNatClampNeg x13))), .val (.int (((mi 0 (Int32.toNatClampNeg x13)) &&& (255 : Int32)) - ((mi 0 (Int32.toNatClampNeg x13)) &&& (255 : Int32)) / (10 : Int32) * (10 : Int32))), .val (.int ((XT.ushr (mi 0 (Int32.toNatClampNeg x13)) (8 : Int32)) &&& (15 : Int32))), .val (.int ((((XT.ushr (mi 0 (Int32.toNatClampNeg x13)) (8 : Int32)) &&& (15 : Int32)) * (4099 : Int32)) + (7 : Int32))), .val (.int ((1 : Int32) <<< (((XT.ushr (mi 0 (Int32.toNatClampNeg x13)) (8 : Int32)) &&& (15 : Int32)) &&& 31))), .val (.int ((XT.ushr (mi 0 (Int32.toNatClampNeg x13)) (12 : Int32)) &&& (15 : Int32))), .val (.int ((XT.ushr (mi 0 (Int32.toNatClampNeg x13)) (16 : Int32)) &&& (3 : Int32))), .val (.int (0 : Int32)), .val (.long (0 : Int64)), .second, s24, s25, s26, s27, s28] (v.toList ++ []) M' Q)) :
    W_law 46 [.val (.ref 0), .val (.ref 1), .val (.int x2), .val (.long x3), .second, .val (.long x5), .second, .val (.long x7), .second, .val (.long x9), .second, .val (.long x11), .second, .val (.int x13), s14, s15, s16, s17, s18, s19, s20, s21, s22, s23, s24, s25, s26, s27, s28] [] ((LL1 n), mi, ml, RR1) Q := by
  refine Wp.p (pc' := 48) d_law_46 rfl rfl ?_
  refine Wp.p (pc' := 49) d_law_48 rfl rfl ?_
  refine Wp.len d_law_49 rfl (by decide) ?_
  refine Wp.icmp_ge d_law_50 rfl (fun c1 => ?_) (fun c1 => ?_)
  ·
    refine Wp.iconst (1 : Int32) d_law_688 (by decide) ?_
    refine Wp.retZ (1 : Int32) d_law_689 (by decide) ?_
    exact (h1 c1)
  ·
    refine Wp.p (pc' := 54) d_law_53 rfl rfl ?_
    refine Wp.p (pc' := 56) d_law_54 rfl rfl ?_
    refine Wp.iaload (mi 0 (Int32.toNatClampNeg x13)) d_law_56 rfl (k := (Int32.toNatClampNeg x13)) rfl (b1 c1) rfl ?_
    refine Wp.istoreO (i := 14) d_law_57 (Or.inl ⟨rfl, rfl⟩) rfl o14 rfl ?_
    show Wp _ _ _ _ _ _ _ 59 _ _ _ _
    refine Wp.p (pc' := 61) d_law_59 rfl rfl ?_
    refine Wp.sipush (255 : Int32) d_law_61 (by decide) ?_
    refine Wp.p (pc' := 65) d_law_64 rfl rfl ?_
    refine Wp.bipush (10 : Int32) d_law_65 (by decide) ?_
    refine Wp.irem d_law_67 (by decide) ?_
    refine Wp.istoreO (i := 15) d_law_68 (Or.inl ⟨rfl, rfl⟩) rfl o15 rfl ?_
    show Wp _ _ _ _ _ _ _ 70 _ _ _ _
    refine Wp.p (pc' := 72) d_law_70 rfl rfl ?_
    refine Wp.bipush (8 : Int32) d_law_72 (by decide) ?_
    refine Wp.p (pc' := 75) d_law_74 rfl rfl ?_
    refine Wp.bipush (15 : Int32) d_law_75 (by decide) ?_
    refine Wp.p (pc' := 78) d_law_77 rfl rfl ?_
    refine Wp.istoreO (i := 16) d_law_78 (Or.inl ⟨rfl, rfl⟩) rfl o16 rfl ?_
    show Wp _ _ _ _ _ _ _ 80 _ _ _ _
    refine Wp.p (pc' := 82) d_law_80 rfl rfl ?_
    refine Wp.callS (as := [.int ((XT.ushr (mi 0 (Int32.toNatClampNeg x13)) (8 : Int32)) &&& (15 : Int32))]) (rest := []) (w := 0) (F' := 0) (Lb' := 0) d_law_82 ca_w27_3 rfl rfl rfl (by decide) (by decide) (Nat.le_of_ble_eq_true rfl) ?_
    refine L_law_nameOf_0 ?_
    show W_law 85 [.val (.ref 0), .val (.ref 1), .val (.int x2), .val (.long x3), .second, .val (.long x5), .second, .val (.long x7), .second, .val (.long x9), .second, .val (.long x11), .second, .val (.int x13), .val (.int (mi 0 (Int32.toNatClampNeg x13))), .val (.int (((mi 0 (Int32.toNatClampNeg x13)) &&& (255 : Int32)) - ((mi 0 (Int32.toNatClampNeg x13)) &&& (255 : Int32)) / (10 : Int32) * (10 : Int32))), .val (.int ((XT.ushr (mi 0 (Int32.toNatClampNeg x13)) (8 : Int32)) &&& (15 : Int32))), s17, s18, s19, s20, s21, s22, s23, s24, s25, s26, s27, s28] [.int ((((XT.ushr (mi 0 (Int32.toNatClampNeg x13)) (8 : Int32)) &&& (15 : Int32)) * (4099 : Int32)) + (7 : Int32))] ((LL1 n), mi, ml, RR1) Q
    refine Wp.istoreO (i := 17) d_law_85 (Or.inl ⟨rfl, rfl⟩) rfl o17 rfl ?_
    show Wp _ _ _ _ _ _ _ 87 _ _ _ _
    refine Wp.iconst (1 : Int32) d_law_87 (by decide) ?_
    refine Wp.p (pc' := 90) d_law_88 rfl rfl ?_
    refine Wp.p (pc' := 91) d_law_90 rfl rfl ?_
    refine Wp.istoreO (i := 18) d_law_91 (Or.inl ⟨rfl, rfl⟩) rfl o18 rfl ?_
    show Wp _ _ _ _ _ _ _ 93 _ _ _ _
    refine Wp.p (pc' := 95) d_law_93 rfl rfl ?_
    refine Wp.bipush (12 : Int32) d_law_95 (by decide) ?_
    refine Wp.p (pc' := 98) d_law_97 rfl rfl ?_
    refine Wp.bipush (15 : Int32) d_law_98 (by decide) ?_
    refine Wp.p (pc' := 101) d_law_100 rfl rfl ?_
    refine Wp.istoreO (i := 19) d_law_101 (Or.inl ⟨rfl, rfl⟩) rfl o19 rfl ?_
    show Wp _ _ _ _ _ _ _ 103 _ _ _ _
    refine Wp.p (pc' := 105) d_law_103 rfl rfl ?_
    refine Wp.bipush (16 : Int32) d_law_105 (by decide) ?_
    refine Wp.p (pc' := 108) d_law_107 rfl rfl ?_
    refine Wp.iconst (3 : Int32) d_law_108 (by decide) ?_
    refine Wp.p (pc' := 110) d_law_109 rfl rfl ?_
    refine Wp.istoreO (i := 20) d_law_110 (Or.inl ⟨rfl, rfl⟩) rfl o20 rfl ?_
    show Wp _ _ _ _ _ _ _ 112 _ _ _ _
    refine Wp.iconst (0 : Int32) d_law_112 (by decide) ?_
    refine Wp.istoreO (i := 21) d_law_113 (Or.inl ⟨rfl, rfl⟩) rfl o21 rfl ?_
    show Wp _ _ _ _ _ _ _ 115 _ _ _ _
    refine Wp.lconst (0 : Int64) d_law_115 (by decide) ?_
    refine Wp.lstoreO (i := 22) d_law_116 (Or.inl ⟨rfl, rfl⟩) rfl rfl o22 rfl rfl ?_
    show Wp _ _ _ _ _ _ _ 118 _ _ _ _
    refine Wp.p (pc' := 120) d_law_118 rfl rfl ?_
    refine Wp.iconst (1 : Int32) d_law_120 (by decide) ?_
    refine Wp.icmp_gt d_law_121 rfl (fun c2 => ?_) (fun c2 => ?_)
    ·
      refine Wp.p (pc' := 154) d_law_152 rfl rfl ?_
      refine Wp.iconst (2 : Int32) d_law_154 (by decide) ?_
      refine Wp.icmp_ne d_law_155 rfl (fun c3 => ?_) (fun c3 => ?_)
      ·
        refine Wp.p (pc' := 223) d_law_221 rfl rfl ?_
        refine Wp.iconst (3 : Int32) d_law_223 (by decide) ?_
        refine Wp.icmp_ne d_law_224 rfl (fun c4 => ?_) (fun c4 => ?_)
        ·
          refine Wp.p (pc' := 257) d_law_255 rfl rfl ?_
          refine Wp.iconst (4 : Int32) d_law_257 (by decide) ?_
          refine Wp.icmp_ne d_law_258 rfl (fun c5 => ?_) (fun c5 => ?_)
          ·
            refine Wp.p (pc' := 296) d_law_294 rfl rfl ?_
            refine Wp.bipush (7 : Int32) d_law_296 (by decide) ?_
            refine Wp.icmp_gt d_law_298 rfl (fun c6 => ?_) (fun c6 => ?_)
            ·
              refine Wp.p (pc' := 492) d_law_490 rfl rfl ?_
              refine Wp.bipush (8 : Int32) d_law_492 (by decide) ?_
              refine Wp.icmp_ne d_law_494 rfl (fun c7 => ?_) (fun c7 => ?_)
              ·
                refine Wp.p (pc' := 585) d_law_584 rfl rfl ?_
                refine Wp.p (pc' := 587) d_law_585 rfl rfl ?_
                refine Wp.callV (a := 1) (as := [.int ((XT.ushr (mi 0 (Int32.toNatClampNeg x13)) (16 : Int32)) &&& (3 : Int32))]) (rest := []) (w := 0) (F' := 1) (Lb' := 13) d_law_587 ca_w83_0n ca_w83_0 rfl rfl rfl rfl (by decide) (by decide) (Nat.le_of_ble_eq_true rfl) ?_
                exact (h2 c1 c2 c3 c4 c5 c6 c7)
              ·
                refine Wp.p (pc' := 499) d_law_497 rfl rfl ?_
                refine Wp.bipush (18 : Int32) d_law_499 (by decide) ?_
                refine Wp.p (pc' := 502) d_law_501 rfl rfl ?_
                refine Wp.iconst (3 : Int32) d_law_502 (by decide) ?_
                refine Wp.p (pc' := 504) d_law_503 rfl rfl ?_
                refine Wp.istoreO (i := 24) d_law_504 (Or.inl ⟨rfl, rfl⟩) rfl o24 rfl ?_
                show Wp _ _ _ _ _ _ _ 506 _ _ _ _
                refine Wp.p (pc' := 508) d_law_506 rfl rfl ?_
                refine Wp.if_ne d_law_508 rfl (fun c8 => ?_) (fun c8 => ?_)
                ·
                  refine Wp.p (pc' := 517) d_law_515 rfl rfl ?_
                  refine Wp.iconst (1 : Int32) d_law_517 (by decide) ?_
                  refine Wp.icmp_ne d_law_518 rfl (fun c9 => ?_) (fun c9 => ?_)
                  ·
                    refine Wp.p (pc' := 532) d_law_530 rfl rfl ?_
                    refine Wp.iconst (2 : Int32) d_law_532 (by decide) ?_
                    refine Wp.icmp_ne d_law_533 rfl (fun c10 => ?_) (fun c10 => ?_)
                    ·
                      refine Wp.p (pc' := 542) d_law_541 rfl rfl ?_
                      refine Wp.p (pc' := 544) d_law_542 rfl rfl ?_
                      refine Wp.callV (a := 1) (as := [.int ((((XT.ushr (mi 0 (Int32.toNatClampNeg x13)) (8 : Int32)) &&& (15 : Int32)) * (4099 : Int32)) + (7 : Int32))]) (rest := []) (w := 0) (F' := 1) (Lb' := 14) d_law_544 ca_w71_0n ca_w71_0 rfl rfl rfl rfl (by decide) (by decide) (Nat.le_of_ble_eq_true rfl) ?_
                      exact (h3 c1 c2 c3 c4 c5 c6 c7 c8 c9 c10)
                    ·
                      refine Wp.ldc d_law_536 ik_w78 ?_
                      refine Wp.p (pc' := 549) d_law_538 rfl rfl ?_
                      exact (h4 c1 c2 c3 c4 c5 c6 c7 c8 c9 c10)
                  ·
                    refine Wp.p (pc' := 522) d_law_521 rfl rfl ?_
                    refine Wp.p (pc' := 524) d_law_522 rfl rfl ?_
                    refine Wp.callV (a := 1) (as := [.int ((((XT.ushr (mi 0 (Int32.toNatClampNeg x13)) (8 : Int32)) &&& (15 : Int32)) * (4099 : Int32)) + (7 : Int32))]) (rest := []) (w := 0) (F' := 1) (Lb' := 14) d_law_524 ca_w71_0n ca_w71_0 rfl rfl rfl rfl (by decide) (by decide) (Nat.le_of_ble_eq_true rfl) ?_
                    exact (h5 c1 c2 c3 c4 c5 c6 c7 c8 c9)
                ·
                  refine Wp.iconst (-1 : Int32) d_law_511 (by decide) ?_
                  refine Wp.p (pc' := 549) d_law_512 rfl rfl ?_
                  exact (h6 c1 c2 c3 c4 c5 c6 c7 c8)
            ·
              refine Wp.p (pc' := 303) d_law_301 rfl rfl ?_
              refine Wp.p (pc' := 305) d_law_303 rfl rfl ?_
              refine Wp.p (pc' := 307) d_law_305 rfl rfl ?_
              refine Wp.p (pc' := 309) d_law_307 rfl rfl ?_
              refine Wp.p (pc' := 311) d_law_309 rfl rfl ?_
              refine Wp.callS (as := [.long x5, .long x7, .long x9, .long x11, .int ((XT.ushr (mi 0 (Int32.toNatClampNeg x13)) (16 : Int32)) &&& (3 : Int32))]) (rest := []) (w := 0) (F' := 0) (Lb' := 0) d_law_311 ca_w57_3 rfl rfl rfl (by decide) (by decide) (Nat.le_of_ble_eq_true rfl) ?_
              refine L_law_pick_0 ?_
              intro v11 e11
              show W_law 314 [.val (.ref 0), .val (.ref 1), .val (.int x2), .val (.long x3), .second, .val (.long x5), .second, .val (.long x7), .second, .val (.long x9), .second, .val (.long x11), .second, .val (.int x13), .val (.int (mi 0 (Int32.toNatClampNeg x13))), .val (.int (((mi 0 (Int32.toNatClampNeg x13)) &&& (255 : Int32)) - ((mi 0 (Int32.toNatClampNeg x13)) &&& (255 : Int32)) / (10 : Int32) * (10 : Int32))), .val (.int ((XT.ushr (mi 0 (Int32.toNatClampNeg x13)) (8 : Int32)) &&& (15 : Int32))), .val (.int ((((XT.ushr (mi 0 (Int32.toNatClampNeg x13)) (8 : Int32)) &&& (15 : Int32)) * (4099 : Int32)) + (7 : Int32))), .val (.int ((1 : Int32) <<< (((XT.ushr (mi 0 (Int32.toNatClampNeg x13)) (8 : Int32)) &&& (15 : Int32)) &&& 31))), .val (.int ((XT.ushr (mi 0 (Int32.toNatClampNeg x13)) (12 : Int32)) &&& (15 : Int32))), .val (.int ((XT.ushr (mi 0 (Int32.toNatClampNeg x13)) (16 : Int32)) &&& (3 : Int32))), .val (.int (0 : Int32)), .val (.long (0 : Int64)), .second, s24, s25, s26, s27, s28] [.long v11] ((LL1 n), mi, ml, RR1) Q
              refine Wp.p (pc' := 316) d_law_314 rfl rfl ?_
              refine Wp.p (pc' := 317) d_law_316 rfl rfl ?_
              refine Wp.p (pc' := 319) d_law_317 rfl rfl ?_
              refine Wp.callV (a := 1) (as := [.int ((XT.ushr (mi 0 (Int32.toNatClampNeg x13)) (16 : Int32)) &&& (3 : Int32))]) (rest := []) (w := 0) (F' := 3) (Lb' := 50) d_law_319 ca_w61_0n ca_w61_0 rfl rfl rfl rfl (by decide) (by decide) (Nat.le_of_ble_eq_true rfl) ?_
              exact (h7 c1 c2 c3 c4 c5 c6 v11 e11)
          ·
            refine Wp.p (pc' := 262) d_law_261 rfl rfl ?_
            refine Wp.callV (a := 1) (as := []) (rest := []) (w := 0) (F' := 0) (Lb' := 0) d_law_262 ca_w49_0n ca_w49_0 rfl rfl rfl rfl (by decide) (by decide) (Nat.le_of_ble_eq_true rfl) ?_
            exact (h8 c1 c2 c3 c4 c5)
        ·
          refine Wp.p (pc' := 228) d_law_227 rfl rfl ?_
          refine Wp.p (pc' := 230) d_law_228 rfl rfl ?_
          refine Wp.p (pc' := 232) d_law_230 rfl rfl ?_
          refine Wp.callV (a := 1) (as := [.int ((((XT.ushr (mi 0 (Int32.toNatClampNeg x13)) (8 : Int32)) &&& (15 : Int32)) * (4099 : Int32)) + (7 : Int32)), .int ((XT.ushr (mi 0 (Int32.toNatClampNeg x13)) (12 : Int32)) &&& (15 : Int32))]) (rest := []) (w := 0) (F' := 3) (Lb' := 50) d_law_232 ca_w46_0n ca_w46_0 rfl rfl rfl rfl (by decide) (by decide) (Nat.le_of_ble_eq_true rfl) ?_
          exact (h9 c1 c2 c3 c4)
      ·
        refine Wp.p (pc' := 159) d_law_158 rfl rfl ?_
        refine Wp.p (pc' := 161) d_law_159 rfl rfl ?_
        refine Wp.callV (a := 1) (as := [.int ((((XT.ushr (mi 0 (Int32.toNatClampNeg x13)) (8 : Int32)) &&& (15 : Int32)) * (4099 : Int32)) + (7 : Int32))]) (rest := []) (w := 0) (F' := 3) (Lb' := 50) d_law_161 ca_w39_0n ca_w39_0 rfl rfl rfl rfl (by decide) (by decide) (Nat.le_of_ble_eq_true rfl) ?_
        exact (h10 c1 c2 c3)
    ·
      refine Wp.p (pc' := 125) d_law_124 rfl rfl ?_
      refine Wp.p (pc' := 127) d_law_125 rfl rfl ?_
      refine Wp.p (pc' := 129) d_law_127 rfl rfl ?_
      refine Wp.callV (a := 1) (as := [.int ((((XT.ushr (mi 0 (Int32.toNatClampNeg x13)) (8 : Int32)) &&& (15 : Int32)) * (4099 : Int32)) + (7 : Int32)), .int ((XT.ushr (mi 0 (Int32.toNatClampNeg x13)) (12 : Int32)) &&& (15 : Int32))]) (rest := []) (w := 0) (F' := 3) (Lb' := 50) d_law_129 ca_w31_0n ca_w31_0 rfl rfl rfl rfl (by decide) (by decide) (Nat.le_of_ble_eq_true rfl) ?_
      exact (h11 c1 c2)
set_option maxRecDepth 65536 in
set_option maxHeartbeats 4000000 in
theorem L_law_132 {n : Nat} {x2 x13 x14 x15 x16 x17 x18 x19 x20 x21 y0 : Int32} {x3 x5 x7 x9 x11 x22 : Int64} {s24 s25 s26 s27 s28 : Slot} {mi : Nat → Nat → Int32} {ml : Nat → Nat → Int64} {Q : Option Value → EMem → Prop} (o24 : One s24) (o25 : One s25) (o26 : One s26) (o27 : OneJ s27 s28)
    (h1 : ¬ y0 = (0 : Int32) → W_law 599 [.val (.ref 0), .val (.ref 1), .val (.int x2), .val (.long x3), .second, .val (.long x5), .second, .val (.long x7), .second, .val (.long x9), .second, .val (.long x11), .second, .val (.int x13), .val (.int x14), .val (.int x15), .val (.int x16), .val (.int x17), .val (.int x18), .val (.int x19), .val (.int x20), .val (.int x21), .val (.long x22), .second, s24, s25, s26, s27, s28] [] ((LL1 n), mi, ml, RR1) Q)
    (h2 : y0 = (0 : Int32) → W_law_setNib 0 [.val (.long x3), .second, .val (.int x16), .val (.int x19)] [] ((LL1 n), mi, ml, RR1) (fun v M' => W_law 148 [.val (.ref 0), .val (.ref 1), .val (.int (x2 ||| x18)), .val (.long x3), .second, .val (.long x5), .second, .val (.long x7), .second, .val (.long x9), .second, .val (.long x11), .second, .val (.int x13), .val (.int x14), .val (.int x15), .val (.int x16), .val (.int x17), .val (.int x18), .val (.int x19), .val (.int x20), .val (.int x21), .val (.long x22), .second, s24, s25, s26, s27, s28] (v.toList ++ []) M' Q)) :
    W_law 132 [.val (.ref 0), .val (.ref 1), .val (.int x2), .val (.long x3), .second, .val (.long x5), .second, .val (.long x7), .second, .val (.long x9), .second, .val (.long x11), .second, .val (.int x13), .val (.int x14), .val (.int x15), .val (.int x16), .val (.int x17), .val (.int x18), .val (.int x19), .val (.int x20), .val (.int x21), .val (.long x22), .second, s24, s25, s26, s27, s28] [.int y0] ((LL1 n), mi, ml, RR1) Q := by
  refine Wp.if_ne d_law_132 rfl (fun c1 => ?_) (fun c1 => ?_)
  ·
    exact (h1 c1)
  ·
    refine Wp.p (pc' := 136) d_law_135 rfl rfl ?_
    refine Wp.p (pc' := 138) d_law_136 rfl rfl ?_
    refine Wp.p (pc' := 139) d_law_138 rfl rfl ?_
    refine Wp.p (pc' := 140) d_law_139 rfl rfl ?_
    refine Wp.p (pc' := 141) d_law_140 rfl rfl ?_
    refine Wp.p (pc' := 143) d_law_141 rfl rfl ?_
    refine Wp.p (pc' := 145) d_law_143 rfl rfl ?_
    refine Wp.callS (as := [.long x3, .int x16, .int x19]) (rest := []) (w := 0) (F' := 0) (Lb' := 0) d_law_145 ca_w35_3 rfl rfl rfl (by decide) (by decide) (Nat.le_of_ble_eq_true rfl) ?_
    exact (h2 c1)
set_option maxRecDepth 65536 in
set_option maxHeartbeats 4000000 in
theorem L_law_148 {n : Nat} {x2 x13 x14 x15 x16 x17 x18 x19 x20 x21 : Int32} {x3 x5 x7 x9 x11 x22 y0 : Int64} {s24 s25 s26 s27 s28 : Slot} {mi : Nat → Nat → Int32} {ml : Nat → Nat → Int64} {Q : Option Value → EMem → Prop} (o24 : One s24) (o25 : One s25) (o26 : One s26) (o27 : OneJ s27 s28)
    (h1 : W_law 599 [.val (.ref 0), .val (.ref 1), .val (.int x2), .val (.long y0), .second, .val (.long x5), .second, .val (.long x7), .second, .val (.long x9), .second, .val (.long x11), .second, .val (.int x13), .val (.int x14), .val (.int x15), .val (.int x16), .val (.int x17), .val (.int x18), .val (.int x19), .val (.int x20), .val (.int x21), .val (.long x22), .second, s24, s25, s26, s27, s28] [] ((LL1 n), mi, ml, RR1) Q) :
    W_law 148 [.val (.ref 0), .val (.ref 1), .val (.int x2), .val (.long x3), .second, .val (.long x5), .second, .val (.long x7), .second, .val (.long x9), .second, .val (.long x11), .second, .val (.int x13), .val (.int x14), .val (.int x15), .val (.int x16), .val (.int x17), .val (.int x18), .val (.int x19), .val (.int x20), .val (.int x21), .val (.long x22), .second, s24, s25, s26, s27, s28] [.long y0] ((LL1 n), mi, ml, RR1) Q := by
  refine Wp.p (pc' := 149) d_law_148 rfl rfl ?_
  refine Wp.p (pc' := 599) d_law_149 rfl rfl ?_
  exact h1
set_option maxRecDepth 65536 in
set_option maxHeartbeats 4000000 in
theorem L_law_164 {n : Nat} {x2 x13 x14 x15 x16 x17 x18 x19 x20 x21 y0 : Int32} {x3 x5 x7 x9 x11 x22 : Int64} {s24 s25 s26 s27 s28 : Slot} {mi : Nat → Nat → Int32} {ml : Nat → Nat → Int64} {Q : Option Value → EMem → Prop} (o24 : One s24) (o25 : One s25) (o26 : One s26) (o27 : OneJ s27 s28)
    (h1 : ¬ y0 = (0 : Int32) → W_law 599 [.val (.ref 0), .val (.ref 1), .val (.int x2), .val (.long x3), .second, .val (.long x5), .second, .val (.long x7), .second, .val (.long x9), .second, .val (.long x11), .second, .val (.int x13), .val (.int x14), .val (.int x15), .val (.int x16), .val (.int x17), .val (.int x18), .val (.int x19), .val (.int x20), .val (.int x21), .val (.long x22), .second, s24, s25, s26, s27, s28] [] ((LL1 n), mi, ml, RR1) Q)
    (h2 : y0 = (0 : Int32) → W_law_setNib 0 [.val (.long x3), .second, .val (.int x16), .val (.int (0 : Int32))] [] ((LL1 n), mi, ml, RR1) (fun v M' => W_law 181 [.val (.ref 0), .val (.ref 1), .val (.int (x2 &&& (x18 ^^^ (-1 : Int32)))), .val (.long x3), .second, .val (.long x5), .second, .val (.long x7), .second, .val (.long x9), .second, .val (.long x11), .second, .val (.int x13), .val (.int x14), .val (.int x15), .val (.int x16), .val (.int x17), .val (.int x18), .val (.int x19), .val (.int x20), .val (.int x21), .val (.long x22), .second, s24, s25, s26, s27, s28] (v.toList ++ []) M' Q)) :
    W_law 164 [.val (.ref 0), .val (.ref 1), .val (.int x2), .val (.long x3), .second, .val (.long x5), .second, .val (.long x7), .second, .val (.long x9), .second, .val (.long x11), .second, .val (.int x13), .val (.int x14), .val (.int x15), .val (.int x16), .val (.int x17), .val (.int x18), .val (.int x19), .val (.int x20), .val (.int x21), .val (.long x22), .second, s24, s25, s26, s27, s28] [.int y0] ((LL1 n), mi, ml, RR1) Q := by
  refine Wp.if_ne d_law_164 rfl (fun c1 => ?_) (fun c1 => ?_)
  ·
    exact (h1 c1)
  ·
    refine Wp.p (pc' := 168) d_law_167 rfl rfl ?_
    refine Wp.p (pc' := 170) d_law_168 rfl rfl ?_
    refine Wp.iconst (-1 : Int32) d_law_170 (by decide) ?_
    refine Wp.p (pc' := 172) d_law_171 rfl rfl ?_
    refine Wp.p (pc' := 173) d_law_172 rfl rfl ?_
    refine Wp.p (pc' := 174) d_law_173 rfl rfl ?_
    refine Wp.p (pc' := 175) d_law_174 rfl rfl ?_
    refine Wp.p (pc' := 177) d_law_175 rfl rfl ?_
    refine Wp.iconst (0 : Int32) d_law_177 (by decide) ?_
    refine Wp.callS (as := [.long x3, .int x16, .int (0 : Int32)]) (rest := []) (w := 0) (F' := 0) (Lb' := 0) d_law_178 ca_w35_3 rfl rfl rfl (by decide) (by decide) (Nat.le_of_ble_eq_true rfl) ?_
    exact (h2 c1)
set_option maxRecDepth 65536 in
set_option maxHeartbeats 4000000 in
theorem L_law_181 {n : Nat} {x2 x13 x14 x15 x16 x17 x18 x19 x20 x21 : Int32} {x3 x5 x7 x9 x11 x22 y0 : Int64} {s24 s25 s26 s27 s28 : Slot} {mi : Nat → Nat → Int32} {ml : Nat → Nat → Int64} {Q : Option Value → EMem → Prop} (o24 : One s24) (o25 : One s25) (o26 : One s26) (o27 : OneJ s27 s28)
    (h1 : W_law 599 [.val (.ref 0), .val (.ref 1), .val (.int x2), .val (.long y0), .second, .val (.long (x5 &&& ((Int32.toInt64 x18) ^^^ (-1 : Int64)))), .second, .val (.long (x7 &&& ((Int32.toInt64 x18) ^^^ (-1 : Int64)))), .second, .val (.long (x9 &&& ((Int32.toInt64 x18) ^^^ (-1 : Int64)))), .second, .val (.long (x11 &&& ((Int32.toInt64 x18) ^^^ (-1 : Int64)))), .second, .val (.int x13), .val (.int x14), .val (.int x15), .val (.int x16), .val (.int x17), .val (.int x18), .val (.int x19), .val (.int x20), .val (.int x21), .val (.long x22), .second, s24, s25, s26, s27, s28] [] ((LL1 n), mi, ml, RR1) Q) :
    W_law 181 [.val (.ref 0), .val (.ref 1), .val (.int x2), .val (.long x3), .second, .val (.long x5), .second, .val (.long x7), .second, .val (.long x9), .second, .val (.long x11), .second, .val (.int x13), .val (.int x14), .val (.int x15), .val (.int x16), .val (.int x17), .val (.int x18), .val (.int x19), .val (.int x20), .val (.int x21), .val (.long x22), .second, s24, s25, s26, s27, s28] [.long y0] ((LL1 n), mi, ml, RR1) Q := by
  refine Wp.p (pc' := 182) d_law_181 rfl rfl ?_
  refine Wp.p (pc' := 184) d_law_182 rfl rfl ?_
  refine Wp.p (pc' := 186) d_law_184 rfl rfl ?_
  refine Wp.callS (as := [.long x5, .int x18]) (rest := []) (w := 0) (F' := 0) (Lb' := 0) d_law_186 ca_w42_3 rfl rfl rfl (by decide) (by decide) (Nat.le_of_ble_eq_true rfl) ?_
  refine L_law_dropReq_0 ?_
  show W_law 189 [.val (.ref 0), .val (.ref 1), .val (.int x2), .val (.long y0), .second, .val (.long x5), .second, .val (.long x7), .second, .val (.long x9), .second, .val (.long x11), .second, .val (.int x13), .val (.int x14), .val (.int x15), .val (.int x16), .val (.int x17), .val (.int x18), .val (.int x19), .val (.int x20), .val (.int x21), .val (.long x22), .second, s24, s25, s26, s27, s28] [.long (x5 &&& ((Int32.toInt64 x18) ^^^ (-1 : Int64)))] ((LL1 n), mi, ml, RR1) Q
  refine Wp.p (pc' := 191) d_law_189 rfl rfl ?_
  refine Wp.p (pc' := 193) d_law_191 rfl rfl ?_
  refine Wp.p (pc' := 195) d_law_193 rfl rfl ?_
  refine Wp.callS (as := [.long x7, .int x18]) (rest := []) (w := 0) (F' := 0) (Lb' := 0) d_law_195 ca_w42_3 rfl rfl rfl (by decide) (by decide) (Nat.le_of_ble_eq_true rfl) ?_
  refine L_law_dropReq_0 ?_
  show W_law 198 [.val (.ref 0), .val (.ref 1), .val (.int x2), .val (.long y0), .second, .val (.long (x5 &&& ((Int32.toInt64 x18) ^^^ (-1 : Int64)))), .second, .val (.long x7), .second, .val (.long x9), .second, .val (.long x11), .second, .val (.int x13), .val (.int x14), .val (.int x15), .val (.int x16), .val (.int x17), .val (.int x18), .val (.int x19), .val (.int x20), .val (.int x21), .val (.long x22), .second, s24, s25, s26, s27, s28] [.long (x7 &&& ((Int32.toInt64 x18) ^^^ (-1 : Int64)))] ((LL1 n), mi, ml, RR1) Q
  refine Wp.p (pc' := 200) d_law_198 rfl rfl ?_
  refine Wp.p (pc' := 202) d_law_200 rfl rfl ?_
  refine Wp.p (pc' := 204) d_law_202 rfl rfl ?_
  refine Wp.callS (as := [.long x9, .int x18]) (rest := []) (w := 0) (F' := 0) (Lb' := 0) d_law_204 ca_w42_3 rfl rfl rfl (by decide) (by decide) (Nat.le_of_ble_eq_true rfl) ?_
  refine L_law_dropReq_0 ?_
  show W_law 207 [.val (.ref 0), .val (.ref 1), .val (.int x2), .val (.long y0), .second, .val (.long (x5 &&& ((Int32.toInt64 x18) ^^^ (-1 : Int64)))), .second, .val (.long (x7 &&& ((Int32.toInt64 x18) ^^^ (-1 : Int64)))), .second, .val (.long x9), .second, .val (.long x11), .second, .val (.int x13), .val (.int x14), .val (.int x15), .val (.int x16), .val (.int x17), .val (.int x18), .val (.int x19), .val (.int x20), .val (.int x21), .val (.long x22), .second, s24, s25, s26, s27, s28] [.long (x9 &&& ((Int32.toInt64 x18) ^^^ (-1 : Int64)))] ((LL1 n), mi, ml, RR1) Q
  refine Wp.p (pc' := 209) d_law_207 rfl rfl ?_
  refine Wp.p (pc' := 211) d_law_209 rfl rfl ?_
  refine Wp.p (pc' := 213) d_law_211 rfl rfl ?_
  refine Wp.callS (as := [.long x11, .int x18]) (rest := []) (w := 0) (F' := 0) (Lb' := 0) d_law_213 ca_w42_3 rfl rfl rfl (by decide) (by decide) (Nat.le_of_ble_eq_true rfl) ?_
  refine L_law_dropReq_0 ?_
  show W_law 216 [.val (.ref 0), .val (.ref 1), .val (.int x2), .val (.long y0), .second, .val (.long (x5 &&& ((Int32.toInt64 x18) ^^^ (-1 : Int64)))), .second, .val (.long (x7 &&& ((Int32.toInt64 x18) ^^^ (-1 : Int64)))), .second, .val (.long (x9 &&& ((Int32.toInt64 x18) ^^^ (-1 : Int64)))), .second, .val (.long x11), .second, .val (.int x13), .val (.int x14), .val (.int x15), .val (.int x16), .val (.int x17), .val (.int x18), .val (.int x19), .val (.int x20), .val (.int x21), .val (.long x22), .second, s24, s25, s26, s27, s28] [.long (x11 &&& ((Int32.toInt64 x18) ^^^ (-1 : Int64)))] ((LL1 n), mi, ml, RR1) Q
  refine Wp.p (pc' := 218) d_law_216 rfl rfl ?_
  refine Wp.p (pc' := 599) d_law_218 rfl rfl ?_
  exact h1
set_option maxRecDepth 65536 in
set_option maxHeartbeats 4000000 in
theorem L_law_235 {n : Nat} {x2 x13 x14 x15 x16 x17 x18 x19 x20 x21 y0 : Int32} {x3 x5 x7 x9 x11 x22 : Int64} {s24 s25 s26 s27 s28 : Slot} {mi : Nat → Nat → Int32} {ml : Nat → Nat → Int64} {Q : Option Value → EMem → Prop} (o24 : One s24) (o25 : One s25) (o26 : One s26) (o27 : OneJ s27 s28)
    (h1 : ¬ y0 = (0 : Int32) → W_law 599 [.val (.ref 0), .val (.ref 1), .val (.int x2), .val (.long x3), .second, .val (.long x5), .second, .val (.long x7), .second, .val (.long x9), .second, .val (.long x11), .second, .val (.int x13), .val (.int x14), .val (.int x15), .val (.int x16), .val (.int x17), .val (.int x18), .val (.int x19), .val (.int x20), .val (.int x21), .val (.long x22), .second, s24, s25, s26, s27, s28] [] ((LL1 n), mi, ml, RR1) Q)
    (h2 : y0 = (0 : Int32) → W_law_setNib 0 [.val (.long x3), .second, .val (.int x16), .val (.int x19)] [] ((LL1 n), mi, ml, RR1) (fun v M' => W_law 251 [.val (.ref 0), .val (.ref 1), .val (.int (x2 ||| x18)), .val (.long x3), .second, .val (.long x5), .second, .val (.long x7), .second, .val (.long x9), .second, .val (.long x11), .second, .val (.int x13), .val (.int x14), .val (.int x15), .val (.int x16), .val (.int x17), .val (.int x18), .val (.int x19), .val (.int x20), .val (.int x21), .val (.long x22), .second, s24, s25, s26, s27, s28] (v.toList ++ []) M' Q)) :
    W_law 235 [.val (.ref 0), .val (.ref 1), .val (.int x2), .val (.long x3), .second, .val (.long x5), .second, .val (.long x7), .second, .val (.long x9), .second, .val (.long x11), .second, .val (.int x13), .val (.int x14), .val (.int x15), .val (.int x16), .val (.int x17), .val (.int x18), .val (.int x19), .val (.int x20), .val (.int x21), .val (.long x22), .second, s24, s25, s26, s27, s28] [.int y0] ((LL1 n), mi, ml, RR1) Q := by
  refine Wp.if_ne d_law_235 rfl (fun c1 => ?_) (fun c1 => ?_)
  ·
    exact (h1 c1)
  ·
    refine Wp.p (pc' := 239) d_law_238 rfl rfl ?_
    refine Wp.p (pc' := 241) d_law_239 rfl rfl ?_
    refine Wp.p (pc' := 242) d_law_241 rfl rfl ?_
    refine Wp.p (pc' := 243) d_law_242 rfl rfl ?_
    refine Wp.p (pc' := 244) d_law_243 rfl rfl ?_
    refine Wp.p (pc' := 246) d_law_244 rfl rfl ?_
    refine Wp.p (pc' := 248) d_law_246 rfl rfl ?_
    refine Wp.callS (as := [.long x3, .int x16, .int x19]) (rest := []) (w := 0) (F' := 0) (Lb' := 0) d_law_248 ca_w35_3 rfl rfl rfl (by decide) (by decide) (Nat.le_of_ble_eq_true rfl) ?_
    exact (h2 c1)
set_option maxRecDepth 65536 in
set_option maxHeartbeats 4000000 in
theorem L_law_251 {n : Nat} {x2 x13 x14 x15 x16 x17 x18 x19 x20 x21 : Int32} {x3 x5 x7 x9 x11 x22 y0 : Int64} {s24 s25 s26 s27 s28 : Slot} {mi : Nat → Nat → Int32} {ml : Nat → Nat → Int64} {Q : Option Value → EMem → Prop} (o24 : One s24) (o25 : One s25) (o26 : One s26) (o27 : OneJ s27 s28)
    (h1 : W_law 599 [.val (.ref 0), .val (.ref 1), .val (.int x2), .val (.long y0), .second, .val (.long x5), .second, .val (.long x7), .second, .val (.long x9), .second, .val (.long x11), .second, .val (.int x13), .val (.int x14), .val (.int x15), .val (.int x16), .val (.int x17), .val (.int x18), .val (.int x19), .val (.int x20), .val (.int x21), .val (.long x22), .second, s24, s25, s26, s27, s28] [] ((LL1 n), mi, ml, RR1) Q) :
    W_law 251 [.val (.ref 0), .val (.ref 1), .val (.int x2), .val (.long x3), .second, .val (.long x5), .second, .val (.long x7), .second, .val (.long x9), .second, .val (.long x11), .second, .val (.int x13), .val (.int x14), .val (.int x15), .val (.int x16), .val (.int x17), .val (.int x18), .val (.int x19), .val (.int x20), .val (.int x21), .val (.long x22), .second, s24, s25, s26, s27, s28] [.long y0] ((LL1 n), mi, ml, RR1) Q := by
  refine Wp.p (pc' := 252) d_law_251 rfl rfl ?_
  refine Wp.p (pc' := 599) d_law_252 rfl rfl ?_
  exact h1
set_option maxRecDepth 65536 in
set_option maxHeartbeats 4000000 in
theorem L_law_265 {n : Nat} {x2 x13 x14 x15 x16 x17 x18 x19 x20 x21 y0 : Int32} {x3 x5 x7 x9 x11 x22 : Int64} {s24 s25 s26 s27 s28 : Slot} {mi : Nat → Nat → Int32} {ml : Nat → Nat → Int64} {Q : Option Value → EMem → Prop} (o24 : One s24) (o25 : One s25) (o26 : One s26) (o27 : OneJ s27 s28)
    (h1 : y0 < (0 : Int32) → W_law 291 [.val (.ref 0), .val (.ref 1), .val (.int x2), .val (.long x3), .second, .val (.long x5), .second, .val (.long x7), .second, .val (.long x9), .second, .val (.long x11), .second, .val (.int x13), .val (.int x14), .val (.int x15), .val (.int x16), .val (.int x17), .val (.int x18), .val (.int x19), .val (.int x20), .val (.int x21), .val (.long x22), .second, .val (.int y0), s25, s26, s27, s28] [] ((LL1 n), mi, ml, RR1) Q)
    (h2 : ¬ y0 < (0 : Int32) → ¬ y0 < (4 : Int32) → W_law 291 [.val (.ref 0), .val (.ref 1), .val (.int x2), .val (.long x3), .second, .val (.long x5), .second, .val (.long x7), .second, .val (.long x9), .second, .val (.long x11), .second, .val (.int x13), .val (.int x14), .val (.int x15), .val (.int x16), .val (.int x17), .val (.int x18), .val (.int x19), .val (.int x20), .val (.int x21), .val (.long x22), .second, .val (.int y0), s25, s26, s27, s28] [] ((LL1 n), mi, ml, RR1) Q)
    (h3 : ¬ y0 < (0 : Int32) → y0 < (4 : Int32) → W_law 291 [.val (.ref 0), .val (.ref 1), .val (.int x2), .val (.long x3), .second, .val (.long x5), .second, .val (.long x7), .second, .val (.long x9), .second, .val (.long x11), .second, .val (.int x13), .val (.int x14), .val (.int x15), .val (.int x16), .val (.int x17), .val (.int x18), .val (.int x19), .val (.int y0), .val (.int (1 : Int32)), .val (.long ((562949953421312 : Int64) ||| ((Int32.toInt64 x2) &&& (65535 : Int64)))), .second, .val (.int y0), s25, s26, s27, s28] [] ((LL1 n), mi, ml, RR1) Q) :
    W_law 265 [.val (.ref 0), .val (.ref 1), .val (.int x2), .val (.long x3), .second, .val (.long x5), .second, .val (.long x7), .second, .val (.long x9), .second, .val (.long x11), .second, .val (.int x13), .val (.int x14), .val (.int x15), .val (.int x16), .val (.int x17), .val (.int x18), .val (.int x19), .val (.int x20), .val (.int x21), .val (.long x22), .second, s24, s25, s26, s27, s28] [.int y0] ((LL1 n), mi, ml, RR1) Q := by
  refine Wp.istoreO (i := 24) d_law_265 (Or.inl ⟨rfl, rfl⟩) rfl o24 rfl ?_
  show Wp _ _ _ _ _ _ _ 267 _ _ _ _
  refine Wp.p (pc' := 269) d_law_267 rfl rfl ?_
  refine Wp.if_lt d_law_269 rfl (fun c1 => ?_) (fun c1 => ?_)
  ·
    exact (h1 c1)
  ·
    refine Wp.p (pc' := 274) d_law_272 rfl rfl ?_
    refine Wp.iconst (4 : Int32) d_law_274 (by decide) ?_
    refine Wp.icmp_ge d_law_275 rfl (fun c2 => ?_) (fun c2 => ?_)
    ·
      exact (h2 c1 c2)
    ·
      refine Wp.p (pc' := 280) d_law_278 rfl rfl ?_
      refine Wp.p (pc' := 282) d_law_280 rfl rfl ?_
      refine Wp.p (pc' := 283) d_law_282 rfl rfl ?_
      refine Wp.callS (as := [.int x2]) (rest := []) (w := 0) (F' := 0) (Lb' := 0) d_law_283 ca_w53_3 rfl rfl rfl (by decide) (by decide) (Nat.le_of_ble_eq_true rfl) ?_
      refine L_law_startWalk_0 ?_
      show W_law 286 [.val (.ref 0), .val (.ref 1), .val (.int x2), .val (.long x3), .second, .val (.long x5), .second, .val (.long x7), .second, .val (.long x9), .second, .val (.long x11), .second, .val (.int x13), .val (.int x14), .val (.int x15), .val (.int x16), .val (.int x17), .val (.int x18), .val (.int x19), .val (.int y0), .val (.int x21), .val (.long x22), .second, .val (.int y0), s25, s26, s27, s28] [.long ((562949953421312 : Int64) ||| ((Int32.toInt64 x2) &&& (65535 : Int64)))] ((LL1 n), mi, ml, RR1) Q
      refine Wp.p (pc' := 288) d_law_286 rfl rfl ?_
      refine Wp.iconst (1 : Int32) d_law_288 (by decide) ?_
      refine Wp.p (pc' := 291) d_law_289 rfl rfl ?_
      exact (h3 c1 c2)
set_option maxRecDepth 65536 in
set_option maxHeartbeats 4000000 in
theorem L_law_291 {n : Nat} {x2 x13 x14 x15 x16 x17 x18 x19 x20 x21 x24 : Int32} {x3 x5 x7 x9 x11 x22 : Int64} {s25 s26 s27 s28 : Slot} {mi : Nat → Nat → Int32} {ml : Nat → Nat → Int64} {Q : Option Value → EMem → Prop} (o25 : One s25) (o26 : One s26) (o27 : OneJ s27 s28)
    (h1 : W_law 599 [.val (.ref 0), .val (.ref 1), .val (.int x2), .val (.long x3), .second, .val (.long x5), .second, .val (.long x7), .second, .val (.long x9), .second, .val (.long x11), .second, .val (.int x13), .val (.int x14), .val (.int x15), .val (.int x16), .val (.int x17), .val (.int x18), .val (.int x19), .val (.int x20), .val (.int x21), .val (.long x22), .second, .val (.int x24), s25, s26, s27, s28] [] ((LL1 n), mi, ml, RR1) Q) :
    W_law 291 [.val (.ref 0), .val (.ref 1), .val (.int x2), .val (.long x3), .second, .val (.long x5), .second, .val (.long x7), .second, .val (.long x9), .second, .val (.long x11), .second, .val (.int x13), .val (.int x14), .val (.int x15), .val (.int x16), .val (.int x17), .val (.int x18), .val (.int x19), .val (.int x20), .val (.int x21), .val (.long x22), .second, .val (.int x24), s25, s26, s27, s28] [] ((LL1 n), mi, ml, RR1) Q := by
  refine Wp.p (pc' := 599) d_law_291 rfl rfl ?_
  exact h1
set_option maxRecDepth 65536 in
set_option maxHeartbeats 4000000 in
theorem L_law_322 {n : Nat} {x2 x13 x14 x15 x16 x17 x18 x19 x20 x21 y0 : Int32} {x3 x5 x7 x9 x11 x22 : Int64} {s24 s25 s26 s27 s28 : Slot} {mi : Nat → Nat → Int32} {ml : Nat → Nat → Int64} {Q : Option Value → EMem → Prop} (o24 : One s24) (o25 : One s25) (o26 : One s26) (o27 : OneJ s27 s28)
    (h1 : ∀ v1 : Int32, v1 = (if (XT.cmpL ((XT.ushrL x22 (49 : Int32)) &&& (1 : Int64)) (0 : Int64)) = (0 : Int32) then (0 : Int32) else (1 : Int32)) → (v1 &&& 1) = (0 : Int32) → W_law 487 [.val (.ref 0), .val (.ref 1), .val (.int x2), .val (.long x3), .second, .val (.long x5), .second, .val (.long x7), .second, .val (.long x9), .second, .val (.long x11), .second, .val (.int x13), .val (.int x14), .val (.int x15), .val (.int x16), .val (.int x17), .val (.int x18), .val (.int x19), .val (.int x20), .val (.int x21), .val (.long x22), .second, .val (.int y0), s25, s26, s27, s28] [] ((LL1 n), mi, ml, RR1) Q)
    (h2 : ∀ v1 : Int32, v1 = (if (XT.cmpL ((XT.ushrL x22 (49 : Int32)) &&& (1 : Int64)) (0 : Int64)) = (0 : Int32) then (0 : Int32) else (1 : Int32)) → ¬ (v1 &&& 1) = (0 : Int32) → ¬ y0 = (-1 : Int32) → y0 = (-2 : Int32) → W_law 487 [.val (.ref 0), .val (.ref 1), .val (.int x2), .val (.long x3), .second, .val (.long x5), .second, .val (.long x7), .second, .val (.long x9), .second, .val (.long x11), .second, .val (.int x13), .val (.int x14), .val (.int x15), .val (.int x16), .val (.int x17), .val (.int x18), .val (.int x19), .val (.int x20), .val (.int x21), .val (.long x22), .second, .val (.int y0), s25, s26, s27, s28] [] ((LL1 n), mi, ml, RR1) Q)
    (h3 : ∀ v1 : Int32, v1 = (if (XT.cmpL ((XT.ushrL x22 (49 : Int32)) &&& (1 : Int64)) (0 : Int64)) = (0 : Int32) then (0 : Int32) else (1 : Int32)) → ¬ (v1 &&& 1) = (0 : Int32) → ¬ y0 = (-1 : Int32) → ¬ y0 = (-2 : Int32) → W_law_idxOf 0 [.val (.int y0), .unset, .unset] [] ((LL1 n), mi, ml, RR1) (fun v M' => W_law 392 [.val (.ref 0), .val (.ref 1), .val (.int x2), .val (.long x3), .second, .val (.long x5), .second, .val (.long x7), .second, .val (.long x9), .second, .val (.long x11), .second, .val (.int x13), .val (.int x14), .val (.int x15), .val (.int x16), .val (.int x17), .val (.int x18), .val (.int x19), .val (.int x20), .val (.int x21), .val (.long x22), .second, .val (.int y0), s25, s26, s27, s28] (v.toList ++ []) M' Q))
    (h4 : ∀ v1 : Int32, v1 = (if (XT.cmpL ((XT.ushrL x22 (49 : Int32)) &&& (1 : Int64)) (0 : Int64)) = (0 : Int32) then (0 : Int32) else (1 : Int32)) → ¬ (v1 &&& 1) = (0 : Int32) → y0 = (-1 : Int32) → ((Int64.toInt32 (x22 &&& (65535 : Int64))) &&& ((Int64.toInt32 ((XT.ushrL x22 (16 : Int32)) &&& (65535 : Int64))) ^^^ (-1 : Int32))) = (0 : Int32) → W_law 487 [.val (.ref 0), .val (.ref 1), .val (.int x2), .val (.long x3), .second, .val (.long x5), .second, .val (.long x7), .second, .val (.long x9), .second, .val (.long x11), .second, .val (.int x13), .val (.int x14), .val (.int x15), .val (.int x16), .val (.int x17), .val (.int x18), .val (.int x19), .val (.int x20), .val (.int (1 : Int32)), .val (.long (0 : Int64)), .second, .val (.int y0), .val (.int (Int64.toInt32 (x22 &&& (65535 : Int64)))), .val (.int (Int64.toInt32 ((XT.ushrL x22 (16 : Int32)) &&& (65535 : Int64)))), s27, s28] [] ((LL1 n), mi, ml, RR1) Q)
    (h5 : ∀ v1 : Int32, v1 = (if (XT.cmpL ((XT.ushrL x22 (49 : Int32)) &&& (1 : Int64)) (0 : Int64)) = (0 : Int32) then (0 : Int32) else (1 : Int32)) → ¬ (v1 &&& 1) = (0 : Int32) → y0 = (-1 : Int32) → ¬ ((Int64.toInt32 (x22 &&& (65535 : Int64))) &&& ((Int64.toInt32 ((XT.ushrL x22 (16 : Int32)) &&& (65535 : Int64))) ^^^ (-1 : Int32))) = (0 : Int32) → Q (some (.int (0 : Int32))) ((LL1 n), mi, ml, RR1)) :
    W_law 322 [.val (.ref 0), .val (.ref 1), .val (.int x2), .val (.long x3), .second, .val (.long x5), .second, .val (.long x7), .second, .val (.long x9), .second, .val (.long x11), .second, .val (.int x13), .val (.int x14), .val (.int x15), .val (.int x16), .val (.int x17), .val (.int x18), .val (.int x19), .val (.int x20), .val (.int x21), .val (.long x22), .second, s24, s25, s26, s27, s28] [.int y0] ((LL1 n), mi, ml, RR1) Q := by
  refine Wp.istoreO (i := 24) d_law_322 (Or.inl ⟨rfl, rfl⟩) rfl o24 rfl ?_
  show Wp _ _ _ _ _ _ _ 324 _ _ _ _
  refine Wp.p (pc' := 326) d_law_324 rfl rfl ?_
  refine Wp.callS (as := [.long x22]) (rest := []) (w := 0) (F' := 0) (Lb' := 0) d_law_326 ca_w64_3 rfl rfl rfl (by decide) (by decide) (Nat.le_of_ble_eq_true rfl) ?_
  refine L_law_active_0 ?_
  intro v1 e1
  show W_law 329 [.val (.ref 0), .val (.ref 1), .val (.int x2), .val (.long x3), .second, .val (.long x5), .second, .val (.long x7), .second, .val (.long x9), .second, .val (.long x11), .second, .val (.int x13), .val (.int x14), .val (.int x15), .val (.int x16), .val (.int x17), .val (.int x18), .val (.int x19), .val (.int x20), .val (.int x21), .val (.long x22), .second, .val (.int y0), s25, s26, s27, s28] [.int (v1 &&& 1)] ((LL1 n), mi, ml, RR1) Q
  refine Wp.if_eq d_law_329 rfl (fun c2 => ?_) (fun c2 => ?_)
  ·
    exact (h1 v1 e1 c2)
  ·
    refine Wp.p (pc' := 334) d_law_332 rfl rfl ?_
    refine Wp.iconst (-1 : Int32) d_law_334 (by decide) ?_
    refine Wp.icmp_ne d_law_335 rfl (fun c3 => ?_) (fun c3 => ?_)
    ·
      refine Wp.p (pc' := 382) d_law_380 rfl rfl ?_
      refine Wp.bipush (-2 : Int32) d_law_382 (by decide) ?_
      refine Wp.icmp_eq d_law_384 rfl (fun c4 => ?_) (fun c4 => ?_)
      ·
        exact (h2 v1 e1 c2 c3 c4)
      ·
        refine Wp.p (pc' := 389) d_law_387 rfl rfl ?_
        refine Wp.callS (as := [.int y0]) (rest := []) (w := 0) (F' := 0) (Lb' := 0) d_law_389 ca_w68_3 rfl rfl rfl (by decide) (by decide) (Nat.le_of_ble_eq_true rfl) ?_
        exact (h3 v1 e1 c2 c3 c4)
    ·
      refine Wp.p (pc' := 340) d_law_338 rfl rfl ?_
      refine Wp.ldc2 d_law_340 lk_w9 ?_
      refine Wp.p (pc' := 344) d_law_343 rfl rfl ?_
      refine Wp.p (pc' := 345) d_law_344 rfl rfl ?_
      refine Wp.istoreO (i := 25) d_law_345 (Or.inl ⟨rfl, rfl⟩) rfl o25 rfl ?_
      show Wp _ _ _ _ _ _ _ 347 _ _ _ _
      refine Wp.p (pc' := 349) d_law_347 rfl rfl ?_
      refine Wp.bipush (16 : Int32) d_law_349 (by decide) ?_
      refine Wp.p (pc' := 352) d_law_351 rfl rfl ?_
      refine Wp.ldc2 d_law_352 lk_w9 ?_
      refine Wp.p (pc' := 356) d_law_355 rfl rfl ?_
      refine Wp.p (pc' := 357) d_law_356 rfl rfl ?_
      refine Wp.istoreO (i := 26) d_law_357 (Or.inl ⟨rfl, rfl⟩) rfl o26 rfl ?_
      show Wp _ _ _ _ _ _ _ 359 _ _ _ _
      refine Wp.p (pc' := 361) d_law_359 rfl rfl ?_
      refine Wp.p (pc' := 363) d_law_361 rfl rfl ?_
      refine Wp.iconst (-1 : Int32) d_law_363 (by decide) ?_
      refine Wp.p (pc' := 365) d_law_364 rfl rfl ?_
      refine Wp.p (pc' := 366) d_law_365 rfl rfl ?_
      refine Wp.if_eq d_law_366 rfl (fun c5 => ?_) (fun c5 => ?_)
      ·
        refine Wp.lconst (0 : Int64) d_law_371 (by decide) ?_
        refine Wp.p (pc' := 374) d_law_372 rfl rfl ?_
        refine Wp.iconst (1 : Int32) d_law_374 (by decide) ?_
        refine Wp.p (pc' := 377) d_law_375 rfl rfl ?_
        refine Wp.p (pc' := 487) d_law_377 rfl rfl ?_
        exact (h4 v1 e1 c2 c3 c5)
      ·
        refine Wp.iconst (0 : Int32) d_law_369 (by decide) ?_
        refine Wp.retZ (0 : Int32) d_law_370 (by decide) ?_
        exact (h5 v1 e1 c2 c3 c5)
set_option maxRecDepth 65536 in
set_option maxHeartbeats 4000000 in
theorem L_law_392 {n : Nat} {x2 x13 x14 x15 x16 x17 x18 x19 x20 x21 x24 y0 : Int32} {x3 x5 x7 x9 x11 x22 : Int64} {s25 s26 s27 s28 : Slot} {mi : Nat → Nat → Int32} {ml : Nat → Nat → Int64} {Q : Option Value → EMem → Prop} (o25 : One s25) (o26 : One s26) (o27 : OneJ s27 s28)
    (h1 : y0 < (0 : Int32) → Q (some (.int (0 : Int32))) ((LL1 n), mi, ml, RR1))
    (h2 : ¬ y0 < (0 : Int32) → ¬ (x2 &&& ((1 : Int32) <<< (y0 &&& 31))) = (0 : Int32) → W_hashOf 0 [.val (.ref 1), .val (.int x24)] [] ((LL1 n), mi, ml, RR1) (fun v M' => W_law 416 [.val (.ref 0), .val (.ref 1), .val (.int x2), .val (.long x3), .second, .val (.long x5), .second, .val (.long x7), .second, .val (.long x9), .second, .val (.long x11), .second, .val (.int x13), .val (.int x14), .val (.int x15), .val (.int x16), .val (.int x17), .val (.int x18), .val (.int x19), .val (.int x20), .val (.int x21), .val (.long x22), .second, .val (.int x24), .val (.int y0), s26, s27, s28] (v.toList ++ []) M' Q))
    (h3 : ¬ y0 < (0 : Int32) → (x2 &&& ((1 : Int32) <<< (y0 &&& 31))) = (0 : Int32) → Q (some (.int (0 : Int32))) ((LL1 n), mi, ml, RR1)) :
    W_law 392 [.val (.ref 0), .val (.ref 1), .val (.int x2), .val (.long x3), .second, .val (.long x5), .second, .val (.long x7), .second, .val (.long x9), .second, .val (.long x11), .second, .val (.int x13), .val (.int x14), .val (.int x15), .val (.int x16), .val (.int x17), .val (.int x18), .val (.int x19), .val (.int x20), .val (.int x21), .val (.long x22), .second, .val (.int x24), s25, s26, s27, s28] [.int y0] ((LL1 n), mi, ml, RR1) Q := by
  refine Wp.istoreO (i := 25) d_law_392 (Or.inl ⟨rfl, rfl⟩) rfl o25 rfl ?_
  show Wp _ _ _ _ _ _ _ 394 _ _ _ _
  refine Wp.p (pc' := 396) d_law_394 rfl rfl ?_
  refine Wp.if_lt d_law_396 rfl (fun c1 => ?_) (fun c1 => ?_)
  ·
    refine Wp.iconst (0 : Int32) d_law_408 (by decide) ?_
    refine Wp.retZ (0 : Int32) d_law_409 (by decide) ?_
    exact (h1 c1)
  ·
    refine Wp.p (pc' := 400) d_law_399 rfl rfl ?_
    refine Wp.iconst (1 : Int32) d_law_400 (by decide) ?_
    refine Wp.p (pc' := 403) d_law_401 rfl rfl ?_
    refine Wp.p (pc' := 404) d_law_403 rfl rfl ?_
    refine Wp.p (pc' := 405) d_law_404 rfl rfl ?_
    refine Wp.if_ne d_law_405 rfl (fun c2 => ?_) (fun c2 => ?_)
    ·
      refine Wp.p (pc' := 411) d_law_410 rfl rfl ?_
      refine Wp.p (pc' := 413) d_law_411 rfl rfl ?_
      refine Wp.callV (a := 1) (as := [.int x24]) (rest := []) (w := 0) (F' := 1) (Lb' := 14) d_law_413 ca_w71_0n ca_w71_0 rfl rfl rfl rfl (by decide) (by decide) (Nat.le_of_ble_eq_true rfl) ?_
      exact (h2 c1 c2)
    ·
      refine Wp.iconst (0 : Int32) d_law_408 (by decide) ?_
      refine Wp.retZ (0 : Int32) d_law_409 (by decide) ?_
      exact (h3 c1 c2)
set_option maxRecDepth 65536 in
set_option maxHeartbeats 4000000 in
theorem L_law_416 {n : Nat} {x2 x13 x14 x15 x16 x17 x18 x19 x20 x21 x24 x25 y0 : Int32} {x3 x5 x7 x9 x11 x22 : Int64} {s26 s27 s28 : Slot} {mi : Nat → Nat → Int32} {ml : Nat → Nat → Int64} {Q : Option Value → EMem → Prop} (o26 : One s26) (o27 : OneJ s27 s28)
    (h1 : (0 : Int32) < (XT.cmpL (Int32.toInt64 y0) (((XT.ushrL x22 (32 : Int32)) &&& (131071 : Int64)) - (1 : Int64))) → (XT.cmpL ((XT.ushrL x22 ((16 : Int32) + x25)) &&& (1 : Int64)) (0 : Int64)) = (0 : Int32) → W_law 487 [.val (.ref 0), .val (.ref 1), .val (.int x2), .val (.long x3), .second, .val (.long x5), .second, .val (.long x7), .second, .val (.long x9), .second, .val (.long x11), .second, .val (.int x13), .val (.int x14), .val (.int x15), .val (.int x16), .val (.int x17), .val (.int x18), .val (.int x19), .val (.int x20), .val (.int (1 : Int32)), .val (.long (((x22 &&& (-562945658454017 : Int64)) ||| (((Int32.toInt64 y0) + (1 : Int64)) <<< (Int32.toInt64 (32 : Int32) &&& 63))) ||| ((1 : Int64) <<< (Int32.toInt64 ((16 : Int32) + x25) &&& 63)))), .second, .val (.int x24), .val (.int x25), .val (.int y0), .val (.long (((XT.ushrL x22 (32 : Int32)) &&& (131071 : Int64)) - (1 : Int64))), .second] [] ((LL1 n), mi, ml, RR1) Q)
    (h2 : (0 : Int32) < (XT.cmpL (Int32.toInt64 y0) (((XT.ushrL x22 (32 : Int32)) &&& (131071 : Int64)) - (1 : Int64))) → ¬ (XT.cmpL ((XT.ushrL x22 ((16 : Int32) + x25)) &&& (1 : Int64)) (0 : Int64)) = (0 : Int32) → Q (some (.int (0 : Int32))) ((LL1 n), mi, ml, RR1))
    (h3 : ¬ (0 : Int32) < (XT.cmpL (Int32.toInt64 y0) (((XT.ushrL x22 (32 : Int32)) &&& (131071 : Int64)) - (1 : Int64))) → Q (some (.int (0 : Int32))) ((LL1 n), mi, ml, RR1)) :
    W_law 416 [.val (.ref 0), .val (.ref 1), .val (.int x2), .val (.long x3), .second, .val (.long x5), .second, .val (.long x7), .second, .val (.long x9), .second, .val (.long x11), .second, .val (.int x13), .val (.int x14), .val (.int x15), .val (.int x16), .val (.int x17), .val (.int x18), .val (.int x19), .val (.int x20), .val (.int x21), .val (.long x22), .second, .val (.int x24), .val (.int x25), s26, s27, s28] [.int y0] ((LL1 n), mi, ml, RR1) Q := by
  refine Wp.istoreO (i := 26) d_law_416 (Or.inl ⟨rfl, rfl⟩) rfl o26 rfl ?_
  show Wp _ _ _ _ _ _ _ 418 _ _ _ _
  refine Wp.p (pc' := 420) d_law_418 rfl rfl ?_
  refine Wp.bipush (32 : Int32) d_law_420 (by decide) ?_
  refine Wp.p (pc' := 423) d_law_422 rfl rfl ?_
  refine Wp.ldc2 d_law_423 lk_w74 ?_
  refine Wp.p (pc' := 427) d_law_426 rfl rfl ?_
  refine Wp.lconst (1 : Int64) d_law_427 (by decide) ?_
  refine Wp.p (pc' := 429) d_law_428 rfl rfl ?_
  refine Wp.lstoreO (i := 27) d_law_429 (Or.inl ⟨rfl, rfl⟩) rfl rfl o27 rfl rfl ?_
  show Wp _ _ _ _ _ _ _ 431 _ _ _ _
  refine Wp.p (pc' := 433) d_law_431 rfl rfl ?_
  refine Wp.p (pc' := 434) d_law_433 rfl rfl ?_
  refine Wp.p (pc' := 436) d_law_434 rfl rfl ?_
  refine Wp.p (pc' := 437) d_law_436 rfl rfl ?_
  refine Wp.if_gt d_law_437 rfl (fun c1 => ?_) (fun c1 => ?_)
  ·
    refine Wp.p (pc' := 444) d_law_442 rfl rfl ?_
    refine Wp.bipush (16 : Int32) d_law_444 (by decide) ?_
    refine Wp.p (pc' := 448) d_law_446 rfl rfl ?_
    refine Wp.p (pc' := 449) d_law_448 rfl rfl ?_
    refine Wp.p (pc' := 450) d_law_449 rfl rfl ?_
    refine Wp.lconst (1 : Int64) d_law_450 (by decide) ?_
    refine Wp.p (pc' := 452) d_law_451 rfl rfl ?_
    refine Wp.lconst (0 : Int64) d_law_452 (by decide) ?_
    refine Wp.p (pc' := 454) d_law_453 rfl rfl ?_
    refine Wp.if_eq d_law_454 rfl (fun c2 => ?_) (fun c2 => ?_)
    ·
      refine Wp.p (pc' := 461) d_law_459 rfl rfl ?_
      refine Wp.ldc2 d_law_461 lk_w76 ?_
      refine Wp.p (pc' := 465) d_law_464 rfl rfl ?_
      refine Wp.p (pc' := 467) d_law_465 rfl rfl ?_
      refine Wp.p (pc' := 468) d_law_467 rfl rfl ?_
      refine Wp.lconst (1 : Int64) d_law_468 (by decide) ?_
      refine Wp.p (pc' := 470) d_law_469 rfl rfl ?_
      refine Wp.bipush (32 : Int32) d_law_470 (by decide) ?_
      refine Wp.p (pc' := 473) d_law_472 rfl rfl ?_
      refine Wp.p (pc' := 474) d_law_473 rfl rfl ?_
      refine Wp.lconst (1 : Int64) d_law_474 (by decide) ?_
      refine Wp.bipush (16 : Int32) d_law_475 (by decide) ?_
      refine Wp.p (pc' := 479) d_law_477 rfl rfl ?_
      refine Wp.p (pc' := 480) d_law_479 rfl rfl ?_
      refine Wp.p (pc' := 481) d_law_480 rfl rfl ?_
      refine Wp.p (pc' := 482) d_law_481 rfl rfl ?_
      refine Wp.p (pc' := 484) d_law_482 rfl rfl ?_
      refine Wp.iconst (1 : Int32) d_law_484 (by decide) ?_
      refine Wp.p (pc' := 487) d_law_485 rfl rfl ?_
      exact (h1 c1 c2)
    ·
      refine Wp.iconst (0 : Int32) d_law_457 (by decide) ?_
      refine Wp.retZ (0 : Int32) d_law_458 (by decide) ?_
      exact (h2 c1 c2)
  ·
    refine Wp.iconst (0 : Int32) d_law_440 (by decide) ?_
    refine Wp.retZ (0 : Int32) d_law_441 (by decide) ?_
    exact (h3 c1)
set_option maxRecDepth 65536 in
set_option maxHeartbeats 4000000 in
theorem L_law_487 {n : Nat} {x2 x13 x14 x15 x16 x17 x18 x19 x20 x21 x24 : Int32} {x3 x5 x7 x9 x11 x22 : Int64} {s25 s26 s27 s28 : Slot} {mi : Nat → Nat → Int32} {ml : Nat → Nat → Int64} {Q : Option Value → EMem → Prop} (o25 : One s25) (o26 : One s26) (o27 : OneJ s27 s28)
    (h1 : W_law 599 [.val (.ref 0), .val (.ref 1), .val (.int x2), .val (.long x3), .second, .val (.long x5), .second, .val (.long x7), .second, .val (.long x9), .second, .val (.long x11), .second, .val (.int x13), .val (.int x14), .val (.int x15), .val (.int x16), .val (.int x17), .val (.int x18), .val (.int x19), .val (.int x20), .val (.int x21), .val (.long x22), .second, .val (.int x24), s25, s26, s27, s28] [] ((LL1 n), mi, ml, RR1) Q) :
    W_law 487 [.val (.ref 0), .val (.ref 1), .val (.int x2), .val (.long x3), .second, .val (.long x5), .second, .val (.long x7), .second, .val (.long x9), .second, .val (.long x11), .second, .val (.int x13), .val (.int x14), .val (.int x15), .val (.int x16), .val (.int x17), .val (.int x18), .val (.int x19), .val (.int x20), .val (.int x21), .val (.long x22), .second, .val (.int x24), s25, s26, s27, s28] [] ((LL1 n), mi, ml, RR1) Q := by
  refine Wp.p (pc' := 599) d_law_487 rfl rfl ?_
  exact h1
set_option maxRecDepth 65536 in
set_option maxHeartbeats 4000000 in
theorem L_law_527 {n : Nat} {x2 x13 x14 x15 x16 x17 x18 x19 x20 x21 x24 y0 : Int32} {x3 x5 x7 x9 x11 x22 : Int64} {s25 s26 s27 s28 : Slot} {mi : Nat → Nat → Int32} {ml : Nat → Nat → Int64} {Q : Option Value → EMem → Prop} (o25 : One s25) (o26 : One s26) (o27 : OneJ s27 s28)
    (h1 : W_law 549 [.val (.ref 0), .val (.ref 1), .val (.int x2), .val (.long x3), .second, .val (.long x5), .second, .val (.long x7), .second, .val (.long x9), .second, .val (.long x11), .second, .val (.int x13), .val (.int x14), .val (.int x15), .val (.int x16), .val (.int x17), .val (.int x18), .val (.int x19), .val (.int x20), .val (.int x21), .val (.long x22), .second, .val (.int x24), s25, s26, s27, s28] [.int y0] ((LL1 n), mi, ml, RR1) Q) :
    W_law 527 [.val (.ref 0), .val (.ref 1), .val (.int x2), .val (.long x3), .second, .val (.long x5), .second, .val (.long x7), .second, .val (.long x9), .second, .val (.long x11), .second, .val (.int x13), .val (.int x14), .val (.int x15), .val (.int x16), .val (.int x17), .val (.int x18), .val (.int x19), .val (.int x20), .val (.int x21), .val (.long x22), .second, .val (.int x24), s25, s26, s27, s28] [.int y0] ((LL1 n), mi, ml, RR1) Q := by
  refine Wp.p (pc' := 549) d_law_527 rfl rfl ?_
  exact h1
set_option maxRecDepth 65536 in
set_option maxHeartbeats 4000000 in
theorem L_law_547 {n : Nat} {x2 x13 x14 x15 x16 x17 x18 x19 x20 x21 x24 y0 : Int32} {x3 x5 x7 x9 x11 x22 : Int64} {s25 s26 s27 s28 : Slot} {mi : Nat → Nat → Int32} {ml : Nat → Nat → Int64} {Q : Option Value → EMem → Prop} (o25 : One s25) (o26 : One s26) (o27 : OneJ s27 s28)
    (h1 : W_law 549 [.val (.ref 0), .val (.ref 1), .val (.int x2), .val (.long x3), .second, .val (.long x5), .second, .val (.long x7), .second, .val (.long x9), .second, .val (.long x11), .second, .val (.int x13), .val (.int x14), .val (.int x15), .val (.int x16), .val (.int x17), .val (.int x18), .val (.int x19), .val (.int x20), .val (.int x21), .val (.long x22), .second, .val (.int x24), s25, s26, s27, s28] [.int (y0 + (1 : Int32))] ((LL1 n), mi, ml, RR1) Q) :
    W_law 547 [.val (.ref 0), .val (.ref 1), .val (.int x2), .val (.long x3), .second, .val (.long x5), .second, .val (.long x7), .second, .val (.long x9), .second, .val (.long x11), .second, .val (.int x13), .val (.int x14), .val (.int x15), .val (.int x16), .val (.int x17), .val (.int x18), .val (.int x19), .val (.int x20), .val (.int x21), .val (.long x22), .second, .val (.int x24), s25, s26, s27, s28] [.int y0] ((LL1 n), mi, ml, RR1) Q := by
  refine Wp.iconst (1 : Int32) d_law_547 (by decide) ?_
  refine Wp.p (pc' := 549) d_law_548 rfl rfl ?_
  exact h1
set_option maxRecDepth 65536 in
set_option maxHeartbeats 4000000 in
theorem L_law_549 {n : Nat} {x2 x13 x14 x15 x16 x17 x18 x19 x20 x21 x24 y0 : Int32} {x3 x5 x7 x9 x11 x22 : Int64} {s25 s26 s27 s28 : Slot} {mi : Nat → Nat → Int32} {ml : Nat → Nat → Int64} {Q : Option Value → EMem → Prop} (o25 : One s25) (o26 : One s26) (o27 : OneJ s27 s28)
    (h1 : W_seekDir 0 [.val (.ref 1), .val (.int x20), .val (.int y0)] [] ((LL1 n), mi, ml, RR1) (fun v M' => W_law 559 [.val (.ref 0), .val (.ref 1), .val (.int x2), .val (.long x3), .second, .val (.long x5), .second, .val (.long x7), .second, .val (.long x9), .second, .val (.long x11), .second, .val (.int x13), .val (.int x14), .val (.int x15), .val (.int x16), .val (.int x17), .val (.int x18), .val (.int x19), .val (.int x20), .val (.int x21), .val (.long x22), .second, .val (.int x24), .val (.int y0), s26, s27, s28] (v.toList ++ []) M' Q)) :
    W_law 549 [.val (.ref 0), .val (.ref 1), .val (.int x2), .val (.long x3), .second, .val (.long x5), .second, .val (.long x7), .second, .val (.long x9), .second, .val (.long x11), .second, .val (.int x13), .val (.int x14), .val (.int x15), .val (.int x16), .val (.int x17), .val (.int x18), .val (.int x19), .val (.int x20), .val (.int x21), .val (.long x22), .second, .val (.int x24), s25, s26, s27, s28] [.int y0] ((LL1 n), mi, ml, RR1) Q := by
  refine Wp.istoreO (i := 25) d_law_549 (Or.inl ⟨rfl, rfl⟩) rfl o25 rfl ?_
  show Wp _ _ _ _ _ _ _ 551 _ _ _ _
  refine Wp.p (pc' := 552) d_law_551 rfl rfl ?_
  refine Wp.p (pc' := 554) d_law_552 rfl rfl ?_
  refine Wp.p (pc' := 556) d_law_554 rfl rfl ?_
  refine Wp.callV (a := 1) (as := [.int x20, .int y0]) (rest := []) (w := 0) (F' := 1) (Lb' := 13) d_law_556 ca_w79_0n ca_w79_0 rfl rfl rfl rfl (by decide) (by decide) (Nat.le_of_ble_eq_true rfl) ?_
  exact h1
set_option maxRecDepth 65536 in
set_option maxHeartbeats 4000000 in
theorem L_law_559 {n : Nat} {x2 x13 x14 x15 x16 x17 x18 x19 x20 x21 x24 x25 y0 : Int32} {x3 x5 x7 x9 x11 x22 : Int64} {s26 s27 s28 : Slot} {mi : Nat → Nat → Int32} {ml : Nat → Nat → Int64} {Q : Option Value → EMem → Prop} (o26 : One s26) (o27 : OneJ s27 s28)
    (h1 : y0 = (0 : Int32) → W_law 581 [.val (.ref 0), .val (.ref 1), .val (.int x2), .val (.long x3), .second, .val (.long x5), .second, .val (.long x7), .second, .val (.long x9), .second, .val (.long x11), .second, .val (.int x13), .val (.int x14), .val (.int x15), .val (.int x16), .val (.int x17), .val (.int x18), .val (.int x19), .val (.int x20), .val (.int x21), .val (.long x22), .second, .val (.int x24), .val (.int x25), s26, s27, s28] [] ((LL1 n), mi, ml, RR1) Q)
    (h2 : ¬ y0 = (0 : Int32) → ¬ x25 = (-1 : Int32) → W_law 576 [.val (.ref 0), .val (.ref 1), .val (.int x2), .val (.long x3), .second, .val (.long x5), .second, .val (.long x7), .second, .val (.long x9), .second, .val (.long x11), .second, .val (.int x13), .val (.int x14), .val (.int x15), .val (.int x16), .val (.int x17), .val (.int x18), .val (.int x19), .val (.int x20), .val (.int x21), .val (.long x22), .second, .val (.int x24), .val (.int x25), s26, s27, s28] [.long (0 : Int64)] ((LL1 n), mi, ml, RR1) Q)
    (h3 : ¬ y0 = (0 : Int32) → x25 = (-1 : Int32) → W_law 576 [.val (.ref 0), .val (.ref 1), .val (.int x2), .val (.long x3), .second, .val (.long x5), .second, .val (.long x7), .second, .val (.long x9), .second, .val (.long x11), .second, .val (.int x13), .val (.int x14), .val (.int x15), .val (.int x16), .val (.int x17), .val (.int x18), .val (.int x19), .val (.int x20), .val (.int x21), .val (.long x22), .second, .val (.int x24), .val (.int x25), s26, s27, s28] [.long ((562949953421312 : Int64) ||| ((Int32.toInt64 x2) &&& (65535 : Int64)))] ((LL1 n), mi, ml, RR1) Q) :
    W_law 559 [.val (.ref 0), .val (.ref 1), .val (.int x2), .val (.long x3), .second, .val (.long x5), .second, .val (.long x7), .second, .val (.long x9), .second, .val (.long x11), .second, .val (.int x13), .val (.int x14), .val (.int x15), .val (.int x16), .val (.int x17), .val (.int x18), .val (.int x19), .val (.int x20), .val (.int x21), .val (.long x22), .second, .val (.int x24), .val (.int x25), s26, s27, s28] [.int y0] ((LL1 n), mi, ml, RR1) Q := by
  refine Wp.if_eq d_law_559 rfl (fun c1 => ?_) (fun c1 => ?_)
  ·
    exact (h1 c1)
  ·
    refine Wp.p (pc' := 564) d_law_562 rfl rfl ?_
    refine Wp.iconst (-1 : Int32) d_law_564 (by decide) ?_
    refine Wp.icmp_ne d_law_565 rfl (fun c2 => ?_) (fun c2 => ?_)
    ·
      refine Wp.lconst (0 : Int64) d_law_575 (by decide) ?_
      exact (h2 c1 c2)
    ·
      refine Wp.p (pc' := 569) d_law_568 rfl rfl ?_
      refine Wp.callS (as := [.int x2]) (rest := []) (w := 0) (F' := 0) (Lb' := 0) d_law_569 ca_w53_3 rfl rfl rfl (by decide) (by decide) (Nat.le_of_ble_eq_true rfl) ?_
      refine L_law_startWalk_0 ?_
      show W_law 572 [.val (.ref 0), .val (.ref 1), .val (.int x2), .val (.long x3), .second, .val (.long x5), .second, .val (.long x7), .second, .val (.long x9), .second, .val (.long x11), .second, .val (.int x13), .val (.int x14), .val (.int x15), .val (.int x16), .val (.int x17), .val (.int x18), .val (.int x19), .val (.int x20), .val (.int x21), .val (.long x22), .second, .val (.int x24), .val (.int x25), s26, s27, s28] [.long ((562949953421312 : Int64) ||| ((Int32.toInt64 x2) &&& (65535 : Int64)))] ((LL1 n), mi, ml, RR1) Q
      refine Wp.p (pc' := 576) d_law_572 rfl rfl ?_
      exact (h3 c1 c2)
set_option maxRecDepth 65536 in
set_option maxHeartbeats 4000000 in
theorem L_law_576 {n : Nat} {x2 x13 x14 x15 x16 x17 x18 x19 x20 x21 x24 x25 : Int32} {x3 x5 x7 x9 x11 x22 y0 : Int64} {s26 s27 s28 : Slot} {mi : Nat → Nat → Int32} {ml : Nat → Nat → Int64} {Q : Option Value → EMem → Prop} (o26 : One s26) (o27 : OneJ s27 s28)
    (h1 : W_law 581 [.val (.ref 0), .val (.ref 1), .val (.int x2), .val (.long x3), .second, .val (.long x5), .second, .val (.long x7), .second, .val (.long x9), .second, .val (.long x11), .second, .val (.int x13), .val (.int x14), .val (.int x15), .val (.int x16), .val (.int x17), .val (.int x18), .val (.int x19), .val (.int x20), .val (.int (1 : Int32)), .val (.long y0), .second, .val (.int x24), .val (.int x25), s26, s27, s28] [] ((LL1 n), mi, ml, RR1) Q) :
    W_law 576 [.val (.ref 0), .val (.ref 1), .val (.int x2), .val (.long x3), .second, .val (.long x5), .second, .val (.long x7), .second, .val (.long x9), .second, .val (.long x11), .second, .val (.int x13), .val (.int x14), .val (.int x15), .val (.int x16), .val (.int x17), .val (.int x18), .val (.int x19), .val (.int x20), .val (.int x21), .val (.long x22), .second, .val (.int x24), .val (.int x25), s26, s27, s28] [.long y0] ((LL1 n), mi, ml, RR1) Q := by
  refine Wp.p (pc' := 578) d_law_576 rfl rfl ?_
  refine Wp.iconst (1 : Int32) d_law_578 (by decide) ?_
  refine Wp.p (pc' := 581) d_law_579 rfl rfl ?_
  exact h1
set_option maxRecDepth 65536 in
set_option maxHeartbeats 4000000 in
theorem L_law_581 {n : Nat} {x2 x13 x14 x15 x16 x17 x18 x19 x20 x21 x24 x25 : Int32} {x3 x5 x7 x9 x11 x22 : Int64} {s26 s27 s28 : Slot} {mi : Nat → Nat → Int32} {ml : Nat → Nat → Int64} {Q : Option Value → EMem → Prop} (o26 : One s26) (o27 : OneJ s27 s28)
    (h1 : W_law 599 [.val (.ref 0), .val (.ref 1), .val (.int x2), .val (.long x3), .second, .val (.long x5), .second, .val (.long x7), .second, .val (.long x9), .second, .val (.long x11), .second, .val (.int x13), .val (.int x14), .val (.int x15), .val (.int x16), .val (.int x17), .val (.int x18), .val (.int x19), .val (.int x20), .val (.int x21), .val (.long x22), .second, .val (.int x24), .val (.int x25), s26, s27, s28] [] ((LL1 n), mi, ml, RR1) Q) :
    W_law 581 [.val (.ref 0), .val (.ref 1), .val (.int x2), .val (.long x3), .second, .val (.long x5), .second, .val (.long x7), .second, .val (.long x9), .second, .val (.long x11), .second, .val (.int x13), .val (.int x14), .val (.int x15), .val (.int x16), .val (.int x17), .val (.int x18), .val (.int x19), .val (.int x20), .val (.int x21), .val (.long x22), .second, .val (.int x24), .val (.int x25), s26, s27, s28] [] ((LL1 n), mi, ml, RR1) Q := by
  refine Wp.p (pc' := 599) d_law_581 rfl rfl ?_
  exact h1
set_option maxRecDepth 65536 in
set_option maxHeartbeats 4000000 in
theorem L_law_590 {n : Nat} {x2 x13 x14 x15 x16 x17 x18 x19 x20 x21 y0 : Int32} {x3 x5 x7 x9 x11 x22 : Int64} {s24 s25 s26 s27 s28 : Slot} {mi : Nat → Nat → Int32} {ml : Nat → Nat → Int64} {Q : Option Value → EMem → Prop} (o24 : One s24) (o25 : One s25) (o26 : One s26) (o27 : OneJ s27 s28)
    (h1 : y0 = (0 : Int32) → W_law 599 [.val (.ref 0), .val (.ref 1), .val (.int x2), .val (.long x3), .second, .val (.long x5), .second, .val (.long x7), .second, .val (.long x9), .second, .val (.long x11), .second, .val (.int x13), .val (.int x14), .val (.int x15), .val (.int x16), .val (.int x17), .val (.int x18), .val (.int x19), .val (.int x20), .val (.int x21), .val (.long x22), .second, s24, s25, s26, s27, s28] [] ((LL1 n), mi, ml, RR1) Q)
    (h2 : ¬ y0 = (0 : Int32) → W_law 599 [.val (.ref 0), .val (.ref 1), .val (.int x2), .val (.long x3), .second, .val (.long x5), .second, .val (.long x7), .second, .val (.long x9), .second, .val (.long x11), .second, .val (.int x13), .val (.int x14), .val (.int x15), .val (.int x16), .val (.int x17), .val (.int x18), .val (.int x19), .val (.int x20), .val (.int (1 : Int32)), .val (.long (0 : Int64)), .second, s24, s25, s26, s27, s28] [] ((LL1 n), mi, ml, RR1) Q) :
    W_law 590 [.val (.ref 0), .val (.ref 1), .val (.int x2), .val (.long x3), .second, .val (.long x5), .second, .val (.long x7), .second, .val (.long x9), .second, .val (.long x11), .second, .val (.int x13), .val (.int x14), .val (.int x15), .val (.int x16), .val (.int x17), .val (.int x18), .val (.int x19), .val (.int x20), .val (.int x21), .val (.long x22), .second, s24, s25, s26, s27, s28] [.int y0] ((LL1 n), mi, ml, RR1) Q := by
  refine Wp.if_eq d_law_590 rfl (fun c1 => ?_) (fun c1 => ?_)
  ·
    exact (h1 c1)
  ·
    refine Wp.lconst (0 : Int64) d_law_593 (by decide) ?_
    refine Wp.p (pc' := 596) d_law_594 rfl rfl ?_
    refine Wp.iconst (1 : Int32) d_law_596 (by decide) ?_
    refine Wp.p (pc' := 599) d_law_597 rfl rfl ?_
    exact (h2 c1)
set_option maxRecDepth 65536 in
set_option maxHeartbeats 4000000 in
theorem L_law_599 {n : Nat} {x2 x13 x14 x15 x16 x17 x18 x19 x20 x21 : Int32} {x3 x5 x7 x9 x11 x22 : Int64} {s24 s25 s26 s27 s28 : Slot} {mi : Nat → Nat → Int32} {ml : Nat → Nat → Int64} {Q : Option Value → EMem → Prop} (o24 : One s24) (o25 : One s25) (o26 : One s26) (o27 : OneJ s27 s28)
    (h1 : ∀ v1 : Int64, v1 = (if x21 = (0 : Int32) then x5 else (if x20 = (0 : Int32) then x22 else x5)) → ∀ v2 : Int64, v2 = (if x21 = (0 : Int32) then x7 else (if x20 = (0 : Int32) then x7 else (if x20 = (1 : Int32) then x22 else x7))) → ∀ v3 : Int64, v3 = (if x21 = (0 : Int32) then x9 else (if x20 = (0 : Int32) then x9 else (if x20 = (1 : Int32) then x9 else (if x20 = (2 : Int32) then x22 else x9)))) → ∀ v4 : Int64, v4 = (if x21 = (0 : Int32) then x11 else (if x20 = (0 : Int32) then x11 else (if x20 = (1 : Int32) then x11 else (if x20 = (2 : Int32) then x11 else x22)))) → W_law 649 [.val (.ref 0), .val (.ref 1), .val (.int x2), .val (.long x3), .second, .val (.long v1), .second, .val (.long v2), .second, .val (.long v3), .second, .val (.long v4), .second, .val (.int x13), .val (.int x14), .val (.int x15), .val (.int x16), .val (.int x17), .val (.int x18), .val (.int x19), .val (.int x20), .val (.int x21), .val (.long x22), .second, .val (.int (0 : Int32)), s25, s26, s27, s28] [] ((LL1 n), mi, ml, RR1) Q) :
    W_law 599 [.val (.ref 0), .val (.ref 1), .val (.int x2), .val (.long x3), .second, .val (.long x5), .second, .val (.long x7), .second, .val (.long x9), .second, .val (.long x11), .second, .val (.int x13), .val (.int x14), .val (.int x15), .val (.int x16), .val (.int x17), .val (.int x18), .val (.int x19), .val (.int x20), .val (.int x21), .val (.long x22), .second, s24, s25, s26, s27, s28] [] ((LL1 n), mi, ml, RR1) Q := by
  refine Wp.p (pc' := 601) d_law_599 rfl rfl ?_
  obtain ⟨v1, e1⟩ : ∃ z : Int64, z = (if x21 = (0 : Int32) then x5 else (if x20 = (0 : Int32) then x22 else x5)) := ⟨_, rfl⟩
  obtain ⟨v2, e2⟩ : ∃ z : Int64, z = (if x21 = (0 : Int32) then x7 else (if x20 = (0 : Int32) then x7 else (if x20 = (1 : Int32) then x22 else x7))) := ⟨_, rfl⟩
  obtain ⟨v3, e3⟩ : ∃ z : Int64, z = (if x21 = (0 : Int32) then x9 else (if x20 = (0 : Int32) then x9 else (if x20 = (1 : Int32) then x9 else (if x20 = (2 : Int32) then x22 else x9)))) := ⟨_, rfl⟩
  obtain ⟨v4, e4⟩ : ∃ z : Int64, z = (if x21 = (0 : Int32) then x11 else (if x20 = (0 : Int32) then x11 else (if x20 = (1 : Int32) then x11 else (if x20 = (2 : Int32) then x11 else x22)))) := ⟨_, rfl⟩
  suffices K : W_law 646 [.val (.ref 0), .val (.ref 1), .val (.int x2), .val (.long x3), .second, .val (.long v1), .second, .val (.long v2), .second, .val (.long v3), .second, .val (.long v4), .second, .val (.int x13), .val (.int x14), .val (.int x15), .val (.int x16), .val (.int x17), .val (.int x18), .val (.int x19), .val (.int x20), .val (.int x21), .val (.long x22), .second, s24, s25, s26, s27, s28] [] ((LL1 n), mi, ml, RR1) Q by
    refine Wp.if_eq d_law_601 rfl (fun q0 => ?_) (fun q0 => ?_)
    ·
      rw [if_pos q0] at e1; subst e1
      rw [if_pos q0] at e2; subst e2
      rw [if_pos q0] at e3; subst e3
      rw [if_pos q0] at e4; subst e4
      exact K
    ·
      refine Wp.p (pc' := 606) d_law_604 rfl rfl ?_
      refine Wp.if_ne d_law_606 rfl (fun q1 => ?_) (fun q1 => ?_)
      ·
        refine Wp.p (pc' := 618) d_law_616 rfl rfl ?_
        refine Wp.iconst (1 : Int32) d_law_618 (by decide) ?_
        refine Wp.icmp_ne d_law_619 rfl (fun q2 => ?_) (fun q2 => ?_)
        ·
          refine Wp.p (pc' := 631) d_law_629 rfl rfl ?_
          refine Wp.iconst (2 : Int32) d_law_631 (by decide) ?_
          refine Wp.icmp_ne d_law_632 rfl (fun q3 => ?_) (fun q3 => ?_)
          ·
            refine Wp.p (pc' := 644) d_law_642 rfl rfl ?_
            refine Wp.p (pc' := 646) d_law_644 rfl rfl ?_
            rw [if_neg q0, if_neg q1] at e1; subst e1
            rw [if_neg q0, if_neg q1, if_neg q2] at e2; subst e2
            rw [if_neg q0, if_neg q1, if_neg q2, if_neg q3] at e3; subst e3
            rw [if_neg q0, if_neg q1, if_neg q2, if_neg q3] at e4; subst e4
            exact K
          ·
            refine Wp.p (pc' := 637) d_law_635 rfl rfl ?_
            refine Wp.p (pc' := 639) d_law_637 rfl rfl ?_
            refine Wp.p (pc' := 646) d_law_639 rfl rfl ?_
            rw [if_neg q0, if_neg q1] at e1; subst e1
            rw [if_neg q0, if_neg q1, if_neg q2] at e2; subst e2
            rw [if_neg q0, if_neg q1, if_neg q2, if_pos q3] at e3; subst e3
            rw [if_neg q0, if_neg q1, if_neg q2, if_pos q3] at e4; subst e4
            exact K
        ·
          refine Wp.p (pc' := 624) d_law_622 rfl rfl ?_
          refine Wp.p (pc' := 626) d_law_624 rfl rfl ?_
          refine Wp.p (pc' := 646) d_law_626 rfl rfl ?_
          rw [if_neg q0, if_neg q1] at e1; subst e1
          rw [if_neg q0, if_neg q1, if_pos q2] at e2; subst e2
          rw [if_neg q0, if_neg q1, if_pos q2] at e3; subst e3
          rw [if_neg q0, if_neg q1, if_pos q2] at e4; subst e4
          exact K
      ·
        refine Wp.p (pc' := 611) d_law_609 rfl rfl ?_
        refine Wp.p (pc' := 613) d_law_611 rfl rfl ?_
        refine Wp.p (pc' := 646) d_law_613 rfl rfl ?_
        rw [if_neg q0, if_pos q1] at e1; subst e1
        rw [if_neg q0, if_pos q1] at e2; subst e2
        rw [if_neg q0, if_pos q1] at e3; subst e3
        rw [if_neg q0, if_pos q1] at e4; subst e4
        exact K
  refine Wp.iconst (0 : Int32) d_law_646 (by decide) ?_
  refine Wp.istoreO (i := 24) d_law_647 (Or.inl ⟨rfl, rfl⟩) rfl o24 rfl ?_
  show Wp _ _ _ _ _ _ _ 649 _ _ _ _
  exact (h1 v1 e1 v2 e2 v3 e3 v4 e4)
set_option maxRecDepth 65536 in
set_option maxHeartbeats 4000000 in
theorem L_law_649 {n : Nat} {x2 x13 x14 x15 x16 x17 x18 x19 x20 x21 x24 : Int32} {x3 x5 x7 x9 x11 x22 : Int64} {s25 s26 s27 s28 : Slot} {mi : Nat → Nat → Int32} {ml : Nat → Nat → Int64} {Q : Option Value → EMem → Prop} (o25 : One s25) (o26 : One s26) (o27 : OneJ s27 s28)
    (h1 : ¬ x24 < (16 : Int32) → W_law 46 [.val (.ref 0), .val (.ref 1), .val (.int x2), .val (.long x3), .second, .val (.long x5), .second, .val (.long x7), .second, .val (.long x9), .second, .val (.long x11), .second, .val (.int (x13 + (1 : Int32))), .val (.int x14), .val (.int x15), .val (.int x16), .val (.int x17), .val (.int x18), .val (.int x19), .val (.int x20), .val (.int x21), .val (.long x22), .second, .val (.int x24), s25, s26, s27, s28] [] ((LL1 n), mi, ml, RR1) Q)
    (h2 : x24 < (16 : Int32) → W_lookup 0 [.val (.ref 1), .val (.int ((x24 * (4099 : Int32)) + (7 : Int32))), .unset, .unset] [] ((LL1 n), mi, ml, RR1) (fun v M' => W_law 665 [.val (.ref 0), .val (.ref 1), .val (.int x2), .val (.long x3), .second, .val (.long x5), .second, .val (.long x7), .second, .val (.long x9), .second, .val (.long x11), .second, .val (.int x13), .val (.int x14), .val (.int x15), .val (.int x16), .val (.int x17), .val (.int x18), .val (.int x19), .val (.int x20), .val (.int x21), .val (.long x22), .second, .val (.int x24), s25, s26, s27, s28] (v.toList ++ []) M' Q)) :
    W_law 649 [.val (.ref 0), .val (.ref 1), .val (.int x2), .val (.long x3), .second, .val (.long x5), .second, .val (.long x7), .second, .val (.long x9), .second, .val (.long x11), .second, .val (.int x13), .val (.int x14), .val (.int x15), .val (.int x16), .val (.int x17), .val (.int x18), .val (.int x19), .val (.int x20), .val (.int x21), .val (.long x22), .second, .val (.int x24), s25, s26, s27, s28] [] ((LL1 n), mi, ml, RR1) Q := by
  refine Wp.p (pc' := 651) d_law_649 rfl rfl ?_
  refine Wp.bipush (16 : Int32) d_law_651 (by decide) ?_
  refine Wp.icmp_ge d_law_653 rfl (fun c1 => ?_) (fun c1 => ?_)
  ·
    refine Wp.iinc (1 : Int32) d_law_682 (by decide) rfl rfl ?_
    refine Wp.p (pc' := 46) d_law_685 rfl rfl ?_
    exact (h1 c1)
  ·
    refine Wp.p (pc' := 657) d_law_656 rfl rfl ?_
    refine Wp.p (pc' := 659) d_law_657 rfl rfl ?_
    refine Wp.callS (as := [.int x24]) (rest := [.ref 1]) (w := 1) (F' := 0) (Lb' := 0) d_law_659 ca_w27_3 rfl rfl rfl (by decide) (by decide) (Nat.le_of_ble_eq_true rfl) ?_
    refine L_law_nameOf_0 ?_
    show W_law 662 [.val (.ref 0), .val (.ref 1), .val (.int x2), .val (.long x3), .second, .val (.long x5), .second, .val (.long x7), .second, .val (.long x9), .second, .val (.long x11), .second, .val (.int x13), .val (.int x14), .val (.int x15), .val (.int x16), .val (.int x17), .val (.int x18), .val (.int x19), .val (.int x20), .val (.int x21), .val (.long x22), .second, .val (.int x24), s25, s26, s27, s28] [.int ((x24 * (4099 : Int32)) + (7 : Int32)), .ref 1] ((LL1 n), mi, ml, RR1) Q
    refine Wp.callV (a := 1) (as := [.int ((x24 * (4099 : Int32)) + (7 : Int32))]) (rest := []) (w := 0) (F' := 3) (Lb' := 50) d_law_662 ca_w87_0n ca_w87_0 rfl rfl rfl rfl (by decide) (by decide) (Nat.le_of_ble_eq_true rfl) ?_
    exact (h2 c1)
set_option maxRecDepth 65536 in
set_option maxHeartbeats 4000000 in
theorem L_law_665 {n : Nat} {x2 x13 x14 x15 x16 x17 x18 x19 x20 x21 x24 y0 : Int32} {x3 x5 x7 x9 x11 x22 : Int64} {s25 s26 s27 s28 : Slot} {mi : Nat → Nat → Int32} {ml : Nat → Nat → Int64} {Q : Option Value → EMem → Prop} (o25 : One s25) (o26 : One s26) (o27 : OneJ s27 s28)
    (h1 : W_law_nib 0 [.val (.long x3), .second, .val (.int x24)] [] ((LL1 n), mi, ml, RR1) (fun v M' => W_law 671 [.val (.ref 0), .val (.ref 1), .val (.int x2), .val (.long x3), .second, .val (.long x5), .second, .val (.long x7), .second, .val (.long x9), .second, .val (.long x11), .second, .val (.int x13), .val (.int x14), .val (.int x15), .val (.int x16), .val (.int x17), .val (.int x18), .val (.int x19), .val (.int x20), .val (.int x21), .val (.long x22), .second, .val (.int x24), s25, s26, s27, s28] (v.toList ++ [.int y0]) M' Q)) :
    W_law 665 [.val (.ref 0), .val (.ref 1), .val (.int x2), .val (.long x3), .second, .val (.long x5), .second, .val (.long x7), .second, .val (.long x9), .second, .val (.long x11), .second, .val (.int x13), .val (.int x14), .val (.int x15), .val (.int x16), .val (.int x17), .val (.int x18), .val (.int x19), .val (.int x20), .val (.int x21), .val (.long x22), .second, .val (.int x24), s25, s26, s27, s28] [.int y0] ((LL1 n), mi, ml, RR1) Q := by
  refine Wp.p (pc' := 666) d_law_665 rfl rfl ?_
  refine Wp.p (pc' := 668) d_law_666 rfl rfl ?_
  refine Wp.callS (as := [.long x3, .int x24]) (rest := [.int y0]) (w := 1) (F' := 0) (Lb' := 0) d_law_668 ca_w90_3 rfl rfl rfl (by decide) (by decide) (Nat.le_of_ble_eq_true rfl) ?_
  exact h1
set_option maxRecDepth 65536 in
set_option maxHeartbeats 4000000 in
theorem L_law_671 {n : Nat} {x2 x13 x14 x15 x16 x17 x18 x19 x20 x21 x24 y0 y1 : Int32} {x3 x5 x7 x9 x11 x22 : Int64} {s25 s26 s27 s28 : Slot} {mi : Nat → Nat → Int32} {ml : Nat → Nat → Int64} {Q : Option Value → EMem → Prop} (o25 : One s25) (o26 : One s26) (o27 : OneJ s27 s28)
    (h1 : y1 = y0 → W_law 649 [.val (.ref 0), .val (.ref 1), .val (.int x2), .val (.long x3), .second, .val (.long x5), .second, .val (.long x7), .second, .val (.long x9), .second, .val (.long x11), .second, .val (.int x13), .val (.int x14), .val (.int x15), .val (.int x16), .val (.int x17), .val (.int x18), .val (.int x19), .val (.int x20), .val (.int x21), .val (.long x22), .second, .val (.int (x24 + (1 : Int32))), s25, s26, s27, s28] [] ((LL1 n), mi, ml, RR1) Q)
    (h2 : ¬ y1 = y0 → Q (some (.int (0 : Int32))) ((LL1 n), mi, ml, RR1)) :
    W_law 671 [.val (.ref 0), .val (.ref 1), .val (.int x2), .val (.long x3), .second, .val (.long x5), .second, .val (.long x7), .second, .val (.long x9), .second, .val (.long x11), .second, .val (.int x13), .val (.int x14), .val (.int x15), .val (.int x16), .val (.int x17), .val (.int x18), .val (.int x19), .val (.int x20), .val (.int x21), .val (.long x22), .second, .val (.int x24), s25, s26, s27, s28] [.int y0, .int y1] ((LL1 n), mi, ml, RR1) Q := by
  refine Wp.icmp_eq d_law_671 rfl (fun c1 => ?_) (fun c1 => ?_)
  ·
    refine Wp.iinc (1 : Int32) d_law_676 (by decide) rfl rfl ?_
    refine Wp.p (pc' := 649) d_law_679 rfl rfl ?_
    exact (h1 c1)
  ·
    refine Wp.iconst (0 : Int32) d_law_674 (by decide) ?_
    refine Wp.retZ (0 : Int32) d_law_675 (by decide) ?_
    exact (h2 c1)
section

abbrev own_Ent : Type := Int32 × Int32 × Int32
abbrev own_Tr : Type := List (Nat × List own_Ent)
def own_fl (T : own_Tr) : List own_Ent := T.flatMap (·.2)
theorem own_Nt {k : Nat} (h : k < 2147483648) : (Int32.ofNat k).toInt = k := Int32.toInt_ofNat_of_lt (by omega)
theorem own_Nc {k : Nat} (h : k < 2147483648) : (Int32.ofNat k).toNatClampNeg = k := by
  simp only [Int32.toNatClampNeg, own_Nt h]; rfl
theorem own_Nlt {a b : Nat} (ha : a < 2147483648) (hb : b < 2147483648) : Int32.ofNat a < Int32.ofNat b ↔ a < b := by
  rw [Int32.lt_iff_toInt_lt, own_Nt ha, own_Nt hb]; omega
theorem own_Nadd (a b : Nat) : Int32.ofNat a + Int32.ofNat b = Int32.ofNat (a + b) := (Int32.ofNat_add a b).symm
theorem own_Nadd1 (a : Nat) : Int32.ofNat a + 1 = Int32.ofNat (a + 1) := (Int32.ofNat_add a 1).symm
theorem own_Nmul4 (a : Nat) : Int32.ofNat a * 4 = Int32.ofNat (a * 4) := (Int32.ofNat_mul a 4).symm
theorem own_Nsub {a b : Nat} (h : b ≤ a) (ha : a < 2147483648) : Int32.ofNat a - Int32.ofNat b = Int32.ofNat (a - b) := by
  apply Int32.toInt_inj.mp
  rw [sub_int (by rw [own_Nt ha, own_Nt (by omega)]; omega) (by rw [own_Nt ha, own_Nt (by omega)]; omega), own_Nt ha, own_Nt (by omega), own_Nt (by omega)]; omega
theorem own_Nsub1 {a : Nat} (h : 0 < a) (ha : a < 2147483648) : Int32.ofNat a - 1 = Int32.ofNat (a - 1) := own_Nsub (b := 1) h ha
theorem own_Npred {a : Nat} (h : 0 < a) (ha : a < 2147483648) : Int32.ofNat a + -1 = Int32.ofNat (a - 1) := by
  rw [← own_Nsub1 h ha]
  grind
theorem own_Nnn {a : Nat} (ha : a < 2147483648) : ¬ Int32.ofNat a < 0 := by
  rw [Int32.lt_iff_toInt_lt, own_Nt ha]; have : (0 : Int32).toInt = 0 := by decide
  omega
theorem own_Ninb {k n : Nat} (h : k < n) (hn : n < 2147483648) : inb (Int32.ofNat k) n = true := inb_of ⟨by rw [own_Nt (by omega)]; omega, by rw [own_Nt (by omega)]; omega⟩
theorem own_Ninj {a b : Nat} (ha : a < 2147483648) (hb : b < 2147483648) (h : Int32.ofNat a = Int32.ofNat b) : a = b := by
  have := congrArg Int32.toInt h
  rw [own_Nt ha, own_Nt hb] at this; omega
theorem own_N31 {k : Nat} (h : k < 32) : Int32.ofNat k &&& 31 = Int32.ofNat k := by
  have key : ∀ k, k < 32 → Int32.ofNat k &&& 31 = Int32.ofNat k := by decide
  exact key k h
theorem own_pk {pos s : Nat} (hp : pos < 32) (hs : s < 4) : XT.ushr (Int32.ofNat (pos * 4 + s)) 2 &&& 31 = Int32.ofNat pos ∧ Int32.ofNat (pos * 4 + s) &&& 3 = Int32.ofNat s := by
  have key : ∀ s, s < 4 → ∀ pos, pos < 32 → XT.ushr (Int32.ofNat (pos * 4 + s)) 2 &&& 31 = Int32.ofNat pos ∧ Int32.ofNat (pos * 4 + s) &&& 3 = Int32.ofNat s := by decide +kernel
  exact key s hs pos hp
theorem own_half {k : Nat} (h : k < 64) : XT.ushr (Int32.ofNat k) 1 = Int32.ofNat (k / 2) := by
  have key : ∀ k, k < 64 → XT.ushr (Int32.ofNat k) 1 = Int32.ofNat (k / 2) := by decide +kernel
  exact key k h
/-! lists of leaves -/
theorem own_fl_at {T : own_Tr} {p : Nat} (h : p < T.length) : own_fl T = own_fl (T.take p) ++ T[p].2 ++ own_fl (T.drop (p + 1)) := by
  have e : T = T.take p ++ T[p] :: T.drop (p + 1) := by simp
  have q : own_fl T = own_fl (T.take p ++ T[p] :: T.drop (p + 1)) := congrArg own_fl e
  rw [q]
  simp only [own_fl, List.flatMap_append, List.flatMap_cons, List.append_assoc]
theorem own_fl_set {T : own_Tr} {p : Nat} (h : p < T.length) (x : Nat × List own_Ent) : own_fl (T.set p x) = own_fl (T.take p) ++ x.2 ++ own_fl (T.drop (p + 1)) := by
  rw [List.set_eq_take_append_cons_drop, if_pos h]
  simp [own_fl]
theorem own_fl_mem {T : own_Tr} {e : own_Ent} : e ∈ own_fl T ↔ ∃ (p : Nat) (hp : p < T.length) (s : Nat) (hs : s < T[p].2.length), T[p].2[s] = e := by
  simp only [own_fl, List.mem_flatMap]
  constructor
  · rintro ⟨x, hx, he⟩
    obtain ⟨p, hp, rfl⟩ := List.getElem_of_mem hx
    obtain ⟨s, hs, q⟩ := List.getElem_of_mem he
    exact ⟨p, hp, s, hs, q⟩
  · rintro ⟨p, hp, s, hs, rfl⟩
    exact ⟨T[p], List.getElem_mem hp, List.getElem_mem hs⟩
/-- sorted by hash -/
def own_Sd (E : List own_Ent) : Prop := E.Pairwise (fun a b => a.1 < b.1)
theorem own_srt {T : own_Tr} (S : own_Sd (own_fl T)) {p q s t : Nat} (hp : p < T.length) (hq : q < T.length) (hs : s < T[p].2.length) (ht : t < T[q].2.length) (h : p < q ∨ (p = q ∧ s < t)) : (T[p].2[s]).1 < (T[q].2[t]).1 := by
  rcases h with h | ⟨rfl, h⟩
  · unfold own_Sd at S
    rw [own_fl_at hq, List.append_assoc, List.pairwise_append] at S
    refine S.2.2 _ ?_ _ (List.mem_append_left _ (List.getElem_mem ht))
    rw [own_fl_mem]
    exact ⟨p, by simp; omega, s, by simpa using hs, by simp⟩
  · unfold own_Sd at S
    rw [own_fl_at hp, List.append_assoc, List.pairwise_append, List.pairwise_append] at S
    exact (List.pairwise_iff_getElem.mp S.2.1.1) s t hs ht h

/-- the memory of a directory: its leaves in the order of the index, and the free leaves -/
abbrev own_R (mi : Nat → Nat → Int32) (T : own_Tr) (fr : List Nat) : Prop :=
  (mi 1 40 = Int32.ofNat T.length) ∧ (∀ p (h : p < T.length), mi 6 p = Int32.ofNat T[p].1) ∧ (∀ p (h : p < T.length), mi 5 T[p].1 = Int32.ofNat T[p].2.length) ∧ (∀ p (h : p < T.length), T[p].2.length ≤ 4) ∧ (∀ p (h : p < T.length) s (hs : s < T[p].2.length), mi 2 (T[p].1 * 4 + s) = (T[p].2[s]).1 ∧ mi 3 (T[p].1 * 4 + s) = (T[p].2[s]).2.1 ∧ mi 4 (T[p].1 * 4 + s) = (T[p].2[s]).2.2) ∧ (mi 1 42 = Int32.ofNat fr.length) ∧ (∀ k (h : k < fr.length), mi 7 k = Int32.ofNat fr[k]) ∧ ((T.map (·.1) ++ fr).Nodup) ∧ (∀ x ∈ T.map (·.1) ++ fr, x < 32) ∧ (T.length + fr.length = 32)
theorem own_R.nl {mi : Nat → Nat → Int32} {T : own_Tr} {fr : List Nat} (self : own_R mi T fr) : mi 1 40 = Int32.ofNat T.length := self.1
theorem own_R.idx {mi : Nat → Nat → Int32} {T : own_Tr} {fr : List Nat} (self : own_R mi T fr) : ∀ p (h : p < T.length), mi 6 p = Int32.ofNat T[p].1 := self.2.1
theorem own_R.len {mi : Nat → Nat → Int32} {T : own_Tr} {fr : List Nat} (self : own_R mi T fr) : ∀ p (h : p < T.length), mi 5 T[p].1 = Int32.ofNat T[p].2.length := self.2.2.1
theorem own_R.l4 {mi : Nat → Nat → Int32} {T : own_Tr} {fr : List Nat} (self : own_R mi T fr) : ∀ p (h : p < T.length), T[p].2.length ≤ 4 := self.2.2.2.1
theorem own_R.ent {mi : Nat → Nat → Int32} {T : own_Tr} {fr : List Nat} (self : own_R mi T fr) : ∀ p (h : p < T.length) s (hs : s < T[p].2.length), mi 2 (T[p].1 * 4 + s) = (T[p].2[s]).1 ∧ mi 3 (T[p].1 * 4 + s) = (T[p].2[s]).2.1 ∧ mi 4 (T[p].1 * 4 + s) = (T[p].2[s]).2.2 := self.2.2.2.2.1
theorem own_R.ft {mi : Nat → Nat → Int32} {T : own_Tr} {fr : List Nat} (self : own_R mi T fr) : mi 1 42 = Int32.ofNat fr.length := self.2.2.2.2.2.1
theorem own_R.fs {mi : Nat → Nat → Int32} {T : own_Tr} {fr : List Nat} (self : own_R mi T fr) : ∀ k (h : k < fr.length), mi 7 k = Int32.ofNat fr[k] := self.2.2.2.2.2.2.1
theorem own_R.nd {mi : Nat → Nat → Int32} {T : own_Tr} {fr : List Nat} (self : own_R mi T fr) : (T.map (·.1) ++ fr).Nodup := self.2.2.2.2.2.2.2.1
theorem own_R.lt {mi : Nat → Nat → Int32} {T : own_Tr} {fr : List Nat} (self : own_R mi T fr) : ∀ x ∈ T.map (·.1) ++ fr, x < 32 := self.2.2.2.2.2.2.2.2.1
theorem own_R.tot {mi : Nat → Nat → Int32} {T : own_Tr} {fr : List Nat} (self : own_R mi T fr) : T.length + fr.length = 32 := self.2.2.2.2.2.2.2.2.2
theorem own_R.l32 {mi : Nat → Nat → Int32} {T : own_Tr} {fr : List Nat} (R : own_R mi T fr) {p : Nat} (h : p < T.length) : T[p].1 < 32 :=
  R.lt _ (List.mem_append_left _ (List.mem_map.mpr ⟨T[p], List.getElem_mem h, rfl⟩))
theorem own_R.inj {mi : Nat → Nat → Int32} {T : own_Tr} {fr : List Nat} (R : own_R mi T fr) {p q : Nat} (hp : p < T.length) (hq : q < T.length) (h : T[p].1 = T[q].1) : p = q := by
  have nd := (List.nodup_append.mp R.nd).1
  have := (List.getElem_inj (h₀ := by simpa using hp) (h₁ := by simpa using hq) nd (i := p) (j := q)).mp (by simpa using h)
  exact this
theorem own_R.nfr {mi : Nat → Nat → Int32} {T : own_Tr} {fr : List Nat} (R : own_R mi T fr) {p k : Nat} (hp : p < T.length) (hk : k < fr.length) : T[p].1 ≠ fr[k] := by
  have := (List.nodup_append.mp R.nd).2.2
  exact this _ (List.mem_map.mpr ⟨T[p], List.getElem_mem hp, rfl⟩) _ (List.getElem_mem hk)
variable {n : Nat}
theorem own_flp1 {Q : Option Value → EMem → Prop} (x : Int32) (mi : Nat → Nat → Int32) (ml : Nat → Nat → Int64) (T : own_Tr) (fr : List Nat) (R : own_R mi T fr) (kf : Nat → Int32) (hk : ∀ p (h : p < T.length), mi 2 (T[p].1 * 4) = kf p) (mono : ∀ p q, p < q → q < T.length → kf p < kf q) (hN : 0 < T.length)
    (K : ∀ pos, pos < T.length → (∀ p, p ≤ pos → p ≠ 0 → ¬ x < kf p) → (∀ p, pos < p → p < T.length → x < kf p) → Q (some (.int (Int32.ofNat pos))) ((LL1 n), mi, ml, RR1)) :
    ∀ (f lo hi ans it : Nat) (s6 : Slot), One s6 → it + f = 8 → hi - lo < 2 ^ f → lo ≤ hi → hi ≤ T.length → (ans = if lo = 0 then 0 else lo - 1) → (∀ p, p < lo → ¬ x < kf p) → (∀ p, hi ≤ p → p < T.length → x < kf p) →
    W_findLeafPos 15 [.val (.ref 1), .val (.int x), .val (.int (Int32.ofNat lo)), .val (.int (Int32.ofNat hi - 1)), .val (.int (Int32.ofNat ans)), .val (.int (Int32.ofNat it)), s6] [] ((LL1 n), mi, ml, RR1) Q := by
  intro f
  have t32 := R.tot
  have c1 : (1 : Int32).toInt = 1 := by decide
  induction f with
  | zero =>
    intro lo hi ans it s6 o6 hit hf hlh hhi hans h1 h2
    have : lo = hi := by simp at hf; omega
    subst this
    have hit8 : it = 8 := by omega
    subst hit8
    refine L_findLeafPos_15 o6 (fun _ => K ans (by split at hans <;> omega) (fun p hp h0 => h1 p (by split at hans <;> omega)) (fun p hp hpT => h2 p (by split at hans <;> omega) hpT)) (fun h => absurd h (by decide)) (fun h => absurd h (by decide)) (fun h => absurd h (by decide)) (fun h => absurd h (by decide))
  | succ f ih =>
    intro lo hi ans it s6 o6 hit hf hlh hhi hans h1 h2
    have it8 : Int32.ofNat it < 8 := (own_Nlt (b := 8) (by omega) (by omega)).mpr (by omega)
    have hi1 : (Int32.ofNat hi - 1).toInt = (hi : Int) - 1 := by rw [sub_int (by rw [own_Nt (by omega), c1]; omega) (by rw [own_Nt (by omega), c1]; omega), own_Nt (by omega), c1]
    have cmp : (Int32.ofNat hi - 1 < Int32.ofNat lo) ↔ hi ≤ lo := by
      rw [Int32.lt_iff_toInt_lt, hi1, own_Nt (by omega)]; omega
    by_cases hc : hi ≤ lo
    · have : lo = hi := by omega
      subst this
      refine L_findLeafPos_15 o6 (fun h => absurd it8 h) (fun _ _ => K ans (by split at hans <;> omega) (fun p hp h0 => h1 p (by split at hans <;> omega)) (fun p hp hpT => h2 p (by split at hans <;> omega) hpT)) (fun _ h => absurd (cmp.mpr hc) h) (fun _ h => absurd (cmp.mpr hc) h) (fun _ h => absurd (cmp.mpr hc) h)
    · have es : Int32.ofNat lo + (Int32.ofNat hi - 1) = Int32.ofNat (lo + hi - 1) := by
        rw [own_Nsub1 (by omega) (by omega), own_Nadd, show lo + (hi - 1) = lo + hi - 1 by omega]
      generalize hm : (lo + hi - 1) / 2 = mid
      have eu : XT.ushr (Int32.ofNat lo + (Int32.ofNat hi - 1)) 1 = Int32.ofNat mid := by rw [es, own_half (by omega), hm]
      have m1 : lo ≤ mid := by omega
      have m2 : mid < hi := by omega
      have ea : Int32.ofNat mid &&& 31 = Int32.ofNat mid := own_N31 (by omega)
      have mT : mid < T.length := by omega
      have ek : mi 2 ((mi 6 (Int32.ofNat mid).toNatClampNeg * 4).toNatClampNeg) = kf mid := by
        rw [own_Nc (by omega), R.idx mid mT, own_Nmul4, own_Nc (by have := R.l32 mT; omega)]; exact hk mid mT
      refine L_findLeafPos_15 o6 (fun h => absurd it8 h) (fun _ h => absurd (cmp.mp h) hc) (fun _ _ => ?_) (fun _ _ => ?_) ?_
      · rw [eu, ea]; exact own_Ninb (by omega) (by omega)
      · rw [eu, ea, own_Nc (by omega), R.idx mid mT, own_Nmul4]; exact own_Ninb (by have := R.l32 mT; omega) (by omega)
      · intro _ _ v3 e3 v4 e4 v5 e5
        rw [eu, ea, ek] at e3 e4 e5
        rw [eu, own_Nadd1]
        have pw : 2 ^ (f + 1) = 2 * 2 ^ f := by rw [Nat.pow_succ]; omega
        by_cases q : x < kf mid
        · rw [if_pos q] at e3 e4 e5
          rw [e3, e4, e5]
          refine ih lo mid ans (it + 1) _ (One.val rfl) (by omega) (by omega) m1 (by omega) hans h1 (fun p hp hpT => ?_)
          by_cases w : p = mid
          · subst w; exact q
          · exact Int32.lt_trans q (mono mid p (by omega) hpT)
        · rw [if_neg q] at e3 e4 e5
          rw [own_Nadd1] at e3
          rw [e3, e4, e5]
          refine ih (mid + 1) hi mid (it + 1) _ (One.val rfl) (by omega) (by omega) (by omega) hhi (by simp) (fun p hp hlt => ?_) h2
          by_cases w : p = mid
          · subst w; exact q hlt
          · exact q (Int32.lt_trans hlt (mono p mid (by omega) mT))
theorem own_findLeafPos {Q : Option Value → EMem → Prop} (x : Int32) (mi : Nat → Nat → Int32) (ml : Nat → Nat → Int64) (T : own_Tr) (fr : List Nat) (R : own_R mi T fr) (kf : Nat → Int32) (hk : ∀ p (h : p < T.length), mi 2 (T[p].1 * 4) = kf p) (mono : ∀ p q, p < q → q < T.length → kf p < kf q) (hN : 0 < T.length)
    (K : ∀ pos, pos < T.length → (∀ p, p ≤ pos → p ≠ 0 → ¬ x < kf p) → (∀ p, pos < p → p < T.length → x < kf p) → Q (some (.int (Int32.ofNat pos))) ((LL1 n), mi, ml, RR1)) :
    W_findLeafPos 0 [.val (.ref 1), .val (.int x), .unset, .unset, .unset, .unset, .unset] [] ((LL1 n), mi, ml, RR1) Q := by
  have := R.tot
  refine L_findLeafPos_0 ?_
  rw [R.nl]
  exact own_flp1 x mi ml T fr R kf hk mono hN K 8 0 T.length 0 0 .unset One.u rfl (by simp; omega) (by omega) (Nat.le_refl _) rfl (fun p hp => absurd hp (by omega)) (fun p h1 h2 => absurd h1 (by omega))

def own_hs (s x : Int32) : Int32 := ((((((((x ^^^ s) &&& (65535 : Int32)) * (40507 : Int32)) &&& (65535 : Int32)) ^^^ (XT.ushr ((((x ^^^ s) &&& (65535 : Int32)) * (40507 : Int32)) &&& (65535 : Int32)) (7 : Int32))) * (23505 : Int32)) &&& (65535 : Int32)) ^^^ (XT.ushr (((((((x ^^^ s) &&& (65535 : Int32)) * (40507 : Int32)) &&& (65535 : Int32)) ^^^ (XT.ushr ((((x ^^^ s) &&& (65535 : Int32)) * (40507 : Int32)) &&& (65535 : Int32)) (7 : Int32))) * (23505 : Int32)) &&& (65535 : Int32)) (9 : Int32)))
theorem S_hash {x1 : Int32} {mi : Nat → Nat → Int32} {ml : Nat → Nat → Int64} {Q : Option Value → EMem → Prop} (h : Q (some (.int (own_hs (mi 1 34) x1))) ((LL1 n), mi, ml, RR1)) : W_hash 0 [.val (.ref 1), .val (.int x1), .unset] [] ((LL1 n), mi, ml, RR1) Q := L_hash_0 h
/-- an entry as it may be held -/
abbrev own_G (sd : Int32) (e : own_Ent) : Prop :=
  (¬ e.2.1 < 0) ∧ (¬ 65535 < e.2.1) ∧ (e.1 = own_hs sd e.2.1) ∧ (¬ e.2.2 < 1)
theorem own_G.nm0 {sd : Int32} {e : own_Ent} (self : own_G sd e) : ¬ e.2.1 < 0 := self.1
theorem own_G.nm1 {sd : Int32} {e : own_Ent} (self : own_G sd e) : ¬ 65535 < e.2.1 := self.2.1
theorem own_G.hh {sd : Int32} {e : own_Ent} (self : own_G sd e) : e.1 = own_hs sd e.2.1 := self.2.2.1
theorem own_G.ino {sd : Int32} {e : own_Ent} (self : own_G sd e) : ¬ e.2.2 < 1 := self.2.2.2
/-- a directory: what it holds, its size, and its streams -/
abbrev own_D (mi : Nat → Nat → Int32) (T : own_Tr) (fr : List Nat) (E : List own_Ent) (sd : Int32) (cp : Nat) (op ck : Nat → Int32) : Prop :=
  (own_R mi T fr) ∧ (own_fl T = E) ∧ (∀ p (h : p < T.length), 0 < T[p].2.length) ∧ (own_Sd E) ∧ (∀ e ∈ E, own_G sd e) ∧ (mi 1 38 = Int32.ofNat E.length) ∧ (mi 1 36 = Int32.ofNat cp) ∧ (cp ≤ 32) ∧ (E.length ≤ cp) ∧ (mi 1 34 = sd) ∧ (∀ k, k < 4 → mi 8 k = op k) ∧ (∀ k, k < 4 → mi 9 k = ck k)
theorem own_D.R {mi : Nat → Nat → Int32} {T : own_Tr} {fr : List Nat} {E : List own_Ent} {sd : Int32} {cp : Nat} {op ck : Nat → Int32} (self : own_D mi T fr E sd cp op ck) : own_R mi T fr := self.1
theorem own_D.fl {mi : Nat → Nat → Int32} {T : own_Tr} {fr : List Nat} {E : List own_Ent} {sd : Int32} {cp : Nat} {op ck : Nat → Int32} (self : own_D mi T fr E sd cp op ck) : own_fl T = E := self.2.1
theorem own_D.ne {mi : Nat → Nat → Int32} {T : own_Tr} {fr : List Nat} {E : List own_Ent} {sd : Int32} {cp : Nat} {op ck : Nat → Int32} (self : own_D mi T fr E sd cp op ck) : ∀ p (h : p < T.length), 0 < T[p].2.length := self.2.2.1
theorem own_D.srt {mi : Nat → Nat → Int32} {T : own_Tr} {fr : List Nat} {E : List own_Ent} {sd : Int32} {cp : Nat} {op ck : Nat → Int32} (self : own_D mi T fr E sd cp op ck) : own_Sd E := self.2.2.2.1
theorem own_D.gd {mi : Nat → Nat → Int32} {T : own_Tr} {fr : List Nat} {E : List own_Ent} {sd : Int32} {cp : Nat} {op ck : Nat → Int32} (self : own_D mi T fr E sd cp op ck) : ∀ e ∈ E, own_G sd e := self.2.2.2.2.1
theorem own_D.size {mi : Nat → Nat → Int32} {T : own_Tr} {fr : List Nat} {E : List own_Ent} {sd : Int32} {cp : Nat} {op ck : Nat → Int32} (self : own_D mi T fr E sd cp op ck) : mi 1 38 = Int32.ofNat E.length := self.2.2.2.2.2.1
theorem own_D.cap {mi : Nat → Nat → Int32} {T : own_Tr} {fr : List Nat} {E : List own_Ent} {sd : Int32} {cp : Nat} {op ck : Nat → Int32} (self : own_D mi T fr E sd cp op ck) : mi 1 36 = Int32.ofNat cp := self.2.2.2.2.2.2.1
theorem own_D.cp32 {mi : Nat → Nat → Int32} {T : own_Tr} {fr : List Nat} {E : List own_Ent} {sd : Int32} {cp : Nat} {op ck : Nat → Int32} (self : own_D mi T fr E sd cp op ck) : cp ≤ 32 := self.2.2.2.2.2.2.2.1
theorem own_D.ecp {mi : Nat → Nat → Int32} {T : own_Tr} {fr : List Nat} {E : List own_Ent} {sd : Int32} {cp : Nat} {op ck : Nat → Int32} (self : own_D mi T fr E sd cp op ck) : E.length ≤ cp := self.2.2.2.2.2.2.2.2.1
theorem own_D.seed {mi : Nat → Nat → Int32} {T : own_Tr} {fr : List Nat} {E : List own_Ent} {sd : Int32} {cp : Nat} {op ck : Nat → Int32} (self : own_D mi T fr E sd cp op ck) : mi 1 34 = sd := self.2.2.2.2.2.2.2.2.2.1
theorem own_D.op {mi : Nat → Nat → Int32} {T : own_Tr} {fr : List Nat} {E : List own_Ent} {sd : Int32} {cp : Nat} {op ck : Nat → Int32} (self : own_D mi T fr E sd cp op ck) : ∀ k, k < 4 → mi 8 k = op k := self.2.2.2.2.2.2.2.2.2.2.1
theorem own_D.ck {mi : Nat → Nat → Int32} {T : own_Tr} {fr : List Nat} {E : List own_Ent} {sd : Int32} {cp : Nat} {op ck : Nat → Int32} (self : own_D mi T fr E sd cp op ck) : ∀ k, k < 4 → mi 9 k = ck k := self.2.2.2.2.2.2.2.2.2.2.2
def own_kf (T : own_Tr) (p : Nat) : Int32 := if h : p < T.length then (if h2 : 0 < T[p].2.length then (T[p].2[0]).1 else 0) else 0
theorem own_kf_at {T : own_Tr} {p : Nat} (h : p < T.length) (h2 : 0 < T[p].2.length) : own_kf T p = (T[p].2[0]).1 := by simp [own_kf, h, h2]
/-- the leaf where a hash belongs -/
theorem own_D.flp {mi : Nat → Nat → Int32} {T : own_Tr} {fr : List Nat} {E : List own_Ent} {sd : Int32} {cp : Nat} {op ck : Nat → Int32} (D : own_D mi T fr E sd cp op ck) {Q : Option Value → EMem → Prop} (x : Int32) (ml : Nat → Nat → Int64) (hN : 0 < T.length)
    (K : ∀ pos (h : pos < T.length), (∀ p (hp : p < T.length) s (hs : s < T[p].2.length), p < pos → (T[p].2[s]).1 < x) → (pos ≠ 0 → ¬ x < (T[pos].2[0]'(D.ne pos h)).1) → (∀ p (hp : p < T.length) s (hs : s < T[p].2.length), pos < p → x < (T[p].2[s]).1) → Q (some (.int (Int32.ofNat pos))) ((LL1 n), mi, ml, RR1)) :
    W_findLeafPos 0 [.val (.ref 1), .val (.int x), .unset, .unset, .unset, .unset, .unset] [] ((LL1 n), mi, ml, RR1) Q := by
  have S : own_Sd (own_fl T) := by rw [D.fl]; exact D.srt
  have mono : ∀ p q, p < q → q < T.length → own_kf T p < own_kf T q := fun p q h hq => by
    rw [own_kf_at (by omega) (D.ne p (by omega)), own_kf_at hq (D.ne q hq)]
    exact own_srt S (by omega) hq (D.ne p (by omega)) (D.ne q hq) (Or.inl h)
  refine own_findLeafPos x mi ml T fr D.R (own_kf T) (fun p h => ?_) mono hN (fun pos hp h1 h2 => K pos hp (fun p hp' s hs hlt => ?_) (fun h0 => ?_) (fun p hp' s hs hlt => ?_))
  · rw [own_kf_at h (D.ne p h)]
    exact (D.R.ent p h 0 (D.ne p h)).1
  · have a := own_srt S hp' hp hs (D.ne pos hp) (Or.inl hlt)
    have b := h1 pos (Nat.le_refl _) (by omega)
    rw [own_kf_at hp (D.ne pos hp)] at b
    rw [Int32.lt_iff_toInt_lt] at *
    omega
  · have b := h1 pos (Nat.le_refl _) h0
    rw [own_kf_at hp (D.ne pos hp)] at b
    exact b
  · have b := h2 p hlt hp'
    rw [own_kf_at hp' (D.ne p hp')] at b
    by_cases q : s = 0
    · subst q; exact b
    · exact Int32.lt_trans b (own_srt S hp' hp' (D.ne p hp') hs (Or.inr ⟨rfl, by omega⟩))
theorem own_loc1 {Q : Option Value → EMem → Prop} (x : Int32) (mi : Nat → Nat → Int32) (ml : Nat → Nat → Int64) (T : own_Tr) (fr : List Nat) (R : own_R mi T fr) (pos : Nat) (hp : pos < T.length)
    (K1 : (∀ s (hs : s < T[pos].2.length), ¬ (T[pos].2[s]).1 = x) → Q (some (.int (-1))) ((LL1 n), mi, ml, RR1)) (K2 : ∀ s (hs : s < T[pos].2.length), (T[pos].2[s]).1 = x → Q (some (.int (Int32.ofNat (pos * 4 + s)))) ((LL1 n), mi, ml, RR1)) :
    ∀ (f s : Nat), s + f = T[pos].2.length → (∀ j (hj : j < T[pos].2.length), j < s → ¬ (T[pos].2[j]).1 = x) →
    W_locate 38 [.val (.ref 1), .val (.int x), .val (.int (Int32.ofNat pos)), .val (.int (Int32.ofNat T[pos].1)), .val (.int (Int32.ofNat (T[pos].1 * 4))), .val (.int (Int32.ofNat T[pos].2.length)), .val (.int (Int32.ofNat s))] [] ((LL1 n), mi, ml, RR1) Q := by
  have l32 := R.l32 hp
  have l4 := R.l4 pos hp
  have t32 := R.tot
  intro f
  induction f with
  | zero =>
    intro s hs hI
    have nlt : ¬ Int32.ofNat s < Int32.ofNat T[pos].2.length := by rw [own_Nlt (by omega) (by omega)]; omega
    exact L_locate_38 (fun _ => K1 (fun j hj => hI j hj (by omega))) (fun h => absurd h nlt) (fun h => absurd h nlt) (fun h => absurd h nlt) (fun h => absurd h nlt)
  | succ f ih =>
    intro s hs hI
    have lt : Int32.ofNat s < Int32.ofNat T[pos].2.length := by rw [own_Nlt (by omega) (by omega)]; omega
    have lt4 : Int32.ofNat s < 4 := (own_Nlt (b := 4) (by omega) (by omega)).mpr (by omega)
    have e : mi 2 (T[pos].1 * 4 + s) = (T[pos].2[s]'(by omega)).1 := (R.ent pos hp s (by omega)).1
    refine L_locate_38 (fun h => absurd lt h) (fun _ h => absurd lt4 h) (fun _ _ => ?_) (fun _ _ h => ?_) (fun _ _ h => ?_)
    · rw [own_Nadd]; exact own_Ninb (by omega) (by omega)
    · rw [own_Nadd, own_Nc (by omega), e] at h
      rw [own_Nadd1]
      refine ih (s + 1) (by omega) (fun j hj hlt => ?_)
      by_cases q : j = s
      · subst q; exact h
      · exact hI j hj (by omega)
    · rw [own_Nadd, own_Nc (by omega), e] at h
      rw [own_Nmul4, own_Nadd]
      exact K2 s (by omega) h
theorem own_D.locate {mi : Nat → Nat → Int32} {T : own_Tr} {fr : List Nat} {E : List own_Ent} {sd : Int32} {cp : Nat} {op ck : Nat → Int32} (D : own_D mi T fr E sd cp op ck) {Q : Option Value → EMem → Prop} (x : Int32) (ml : Nat → Nat → Int64)
    (K1 : (∀ e ∈ E, ¬ e.1 = x) → Q (some (.int (-1))) ((LL1 n), mi, ml, RR1)) (K2 : ∀ p (hp : p < T.length) s (hs : s < T[p].2.length), (T[p].2[s]).1 = x → Q (some (.int (Int32.ofNat (p * 4 + s)))) ((LL1 n), mi, ml, RR1)) :
    W_locate 0 [.val (.ref 1), .val (.int x), .unset, .unset, .unset, .unset, .unset] [] ((LL1 n), mi, ml, RR1) Q := by
  have t32 := D.R.tot
  refine L_locate_0 (fun h => ?_) (fun h => K1 (fun e he => ?_))
  · rw [D.R.nl] at h
    have hN : 0 < T.length := (own_Nlt (a := 0) (by omega) (by omega)).mp h
    refine D.flp x ml hN (fun pos hp h1 h2 h3 => ?_)
    have l32 := D.R.l32 hp
    refine L_locate_14 (own_Ninb (by omega) (by omega)) ?_ ?_
    · rw [own_Nc (by omega), D.R.idx pos hp]; exact own_Ninb (by omega) (by omega)
    · rw [own_Nc (by omega), D.R.idx pos hp, own_Nc (by omega), D.R.len pos hp, own_Nmul4]
      refine own_loc1 x mi ml T fr D.R pos hp (fun hno => K1 (fun e he heq => ?_)) (fun s hs he => K2 pos hp s hs he) T[pos].2.length 0 (by omega) (fun j _ hj => absurd hj (by omega))
      rw [← D.fl, own_fl_mem] at he
      obtain ⟨p, hp', s, hs, rfl⟩ := he
      rcases Nat.lt_trichotomy p pos with q | q | q
      · have := h1 p hp' s hs q
        rw [heq] at this
        exact Int32.lt_irrefl this
      · subst q; exact hno s hs heq
      · have := h3 p hp' s hs q
        rw [heq] at this
        exact Int32.lt_irrefl this
  · rw [D.R.nl] at h
    have hN : T.length = 0 := by
      by_cases q : 0 < T.length
      · exact absurd ((own_Nlt (a := 0) (by omega) (by omega)).mpr q) h
      · omega
    rw [← D.fl, own_fl_mem] at he
    obtain ⟨p, hp, -⟩ := he
    omega
/-- where an entry lies -/
theorem own_R.slot {mi : Nat → Nat → Int32} {T : own_Tr} {fr : List Nat} (R : own_R mi T fr) {p s : Nat} (hp : p < T.length) (hs : s < T[p].2.length) :
    ¬ Int32.ofNat (p * 4 + s) < 0 ∧ inb (XT.ushr (Int32.ofNat (p * 4 + s)) 2 &&& 31) 32 = true ∧ XT.ushr (Int32.ofNat (p * 4 + s)) 2 &&& 31 = Int32.ofNat p ∧ (mi 6 (XT.ushr (Int32.ofNat (p * 4 + s)) 2 &&& 31).toNatClampNeg) * 4 + (Int32.ofNat (p * 4 + s) &&& 3) = Int32.ofNat (T[p].1 * 4 + s) ∧ T[p].1 * 4 + s < 128 := by
  have l32 := R.l32 hp
  have l4 := R.l4 p hp
  have t32 := R.tot
  obtain ⟨e1, e2⟩ := own_pk (pos := p) (s := s) (by omega) (by omega)
  refine ⟨own_Nnn (by omega), by rw [e1]; exact own_Ninb (by omega) (by omega), e1, ?_, by omega⟩
  rw [e1, own_Nc (by omega), R.idx p hp, own_Nmul4, e2, own_Nadd]
theorem own_name {x : Int32} {v : Int32} (e : v = if x < 0 then 0 else if 65535 < x then 0 else 1) : (v &&& 1 = 0) ↔ (x < 0 ∨ 65535 < x) := by
  have : v = 0 ∨ v = 1 := by grind
  rw [and1 this]
  grind
theorem own_D.lookup {mi : Nat → Nat → Int32} {T : own_Tr} {fr : List Nat} {E : List own_Ent} {sd : Int32} {cp : Nat} {op ck : Nat → Int32} (D : own_D mi T fr E sd cp op ck) {Q : Option Value → EMem → Prop} (x : Int32) (ml : Nat → Nat → Int64)
    (K1 : (x < 0 ∨ 65535 < x) ∨ (∀ e ∈ E, ¬ e.1 = own_hs sd x) → Q (some (.int 0)) ((LL1 n), mi, ml, RR1)) (K2 : ¬ (x < 0 ∨ 65535 < x) → ∀ e ∈ E, e.1 = own_hs sd x → Q (some (.int e.2.2)) ((LL1 n), mi, ml, RR1)) :
    W_lookup 0 [.val (.ref 1), .val (.int x), .unset, .unset] [] ((LL1 n), mi, ml, RR1) Q := by
  refine L_lookup_0 (fun v e h => ?_) (fun v e h => K1 (Or.inl ((own_name e).mp h)))
  have hn : ¬ (x < 0 ∨ 65535 < x) := fun q => h ((own_name e).mpr q)
  refine S_hash ?_
  rw [D.seed]
  refine L_lookup_15 ?_
  refine D.locate _ ml (fun hno => ?_) (fun p hp s hs he => ?_)
  · exact L_lookup_21 (fun h => absurd (by decide) h) (fun h => absurd (by decide) h) (fun h => absurd (by decide) h) (fun _ => K1 (Or.inr hno))
  · obtain ⟨a1, a2, a3, a4, a5⟩ := D.R.slot hp hs
    refine L_lookup_21 (fun _ => a2) (fun _ => ?_) (fun _ => ?_) (fun h => absurd h a1)
    · rw [a4]; exact own_Ninb a5 (by omega)
    · rw [a4, own_Nc (by omega), (D.R.ent p hp s hs).2.2]
      exact K2 hn _ (by rw [← D.fl, own_fl_mem]; exact ⟨p, hp, s, hs, rfl⟩) he
theorem own_fal1 {Q : Option Value → EMem → Prop} (x : Int32) (mi : Nat → Nat → Int32) (ml : Nat → Nat → Int64) (T : own_Tr) (fr : List Nat) (R : own_R mi T fr) (pos : Nat) (hp : pos < T.length)
    (K1 : ∀ x6, (∀ s (hs : s < T[pos].2.length), (T[pos].2[s]).1 < x) → W_firstAtLeast 78 [.val (.ref 1), .val (.int x), .val (.int (Int32.ofNat pos)), .val (.int (Int32.ofNat T[pos].1)), .val (.int (Int32.ofNat (T[pos].1 * 4))), .val (.int (Int32.ofNat T[pos].2.length)), .val (.int x6)] [] ((LL1 n), mi, ml, RR1) Q)
    (K2 : ∀ s (hs : s < T[pos].2.length), ¬ (T[pos].2[s]).1 < x → (∀ j (hj : j < T[pos].2.length), j < s → (T[pos].2[j]).1 < x) → Q (some (.int (Int32.ofNat (pos * 4 + s)))) ((LL1 n), mi, ml, RR1)) :
    ∀ (f s : Nat), s + f = T[pos].2.length → (∀ j (hj : j < T[pos].2.length), j < s → (T[pos].2[j]).1 < x) →
    W_firstAtLeast 38 [.val (.ref 1), .val (.int x), .val (.int (Int32.ofNat pos)), .val (.int (Int32.ofNat T[pos].1)), .val (.int (Int32.ofNat (T[pos].1 * 4))), .val (.int (Int32.ofNat T[pos].2.length)), .val (.int (Int32.ofNat s))] [] ((LL1 n), mi, ml, RR1) Q := by
  have l32 := R.l32 hp
  have l4 := R.l4 pos hp
  have t32 := R.tot
  intro f
  induction f with
  | zero =>
    intro s hs hI
    have nlt : ¬ Int32.ofNat s < Int32.ofNat T[pos].2.length := by rw [own_Nlt (by omega) (by omega)]; omega
    exact L_firstAtLeast_38 (fun _ => K1 _ (fun j hj => hI j hj (by omega))) (fun h => absurd h nlt) (fun h => absurd h nlt) (fun h => absurd h nlt) (fun h => absurd h nlt)
  | succ f ih =>
    intro s hs hI
    have lt : Int32.ofNat s < Int32.ofNat T[pos].2.length := by rw [own_Nlt (by omega) (by omega)]; omega
    have lt4 : Int32.ofNat s < 4 := (own_Nlt (b := 4) (by omega) (by omega)).mpr (by omega)
    have e : mi 2 (T[pos].1 * 4 + s) = (T[pos].2[s]'(by omega)).1 := (R.ent pos hp s (by omega)).1
    refine L_firstAtLeast_38 (fun h => absurd lt h) (fun _ h => absurd lt4 h) (fun _ _ => ?_) (fun _ _ h => ?_) (fun _ _ h => ?_)
    · rw [own_Nadd]; exact own_Ninb (by omega) (by omega)
    · rw [own_Nadd, own_Nc (by omega), e] at h
      rw [own_Nadd1]
      refine ih (s + 1) (by omega) (fun j hj hlt => ?_)
      by_cases q : j = s
      · subst q; exact h
      · exact hI j hj (by omega)
    · rw [own_Nadd, own_Nc (by omega), e] at h
      rw [own_Nmul4, own_Nadd]
      exact K2 s (by omega) h hI
/-- the first entry whose hash is x or more -/
theorem own_D.firstAtLeast {mi : Nat → Nat → Int32} {T : own_Tr} {fr : List Nat} {E : List own_Ent} {sd : Int32} {cp : Nat} {op ck : Nat → Int32} (D : own_D mi T fr E sd cp op ck) {Q : Option Value → EMem → Prop} (x : Int32) (ml : Nat → Nat → Int64)
    (K1 : (∀ e ∈ E, e.1 < x) → Q (some (.int (-1))) ((LL1 n), mi, ml, RR1)) (K2 : ∀ p (hp : p < T.length) s (hs : s < T[p].2.length), ¬ (T[p].2[s]).1 < x → (∀ e ∈ E, e.1 < x ∨ ¬ e.1 < (T[p].2[s]).1) → Q (some (.int (Int32.ofNat (p * 4 + s)))) ((LL1 n), mi, ml, RR1)) :
    W_firstAtLeast 0 [.val (.ref 1), .val (.int x), .unset, .unset, .unset, .unset, .unset] [] ((LL1 n), mi, ml, RR1) Q := by
  have t32 := D.R.tot
  have S : own_Sd (own_fl T) := by rw [D.fl]; exact D.srt
  refine L_firstAtLeast_0 (fun h => ?_) (fun h => K1 (fun e he => ?_))
  · rw [D.R.nl] at h
    have hN : 0 < T.length := (own_Nlt (a := 0) (by omega) (by omega)).mp h
    refine D.flp x ml hN (fun pos hp h1 h2 h3 => ?_)
    have l32 := D.R.l32 hp
    refine L_firstAtLeast_14 (own_Ninb (by omega) (by omega)) ?_ ?_
    · rw [own_Nc (by omega), D.R.idx pos hp]; exact own_Ninb (by omega) (by omega)
    · rw [own_Nc (by omega), D.R.idx pos hp, own_Nc (by omega), D.R.len pos hp, own_Nmul4]
      refine own_fal1 x mi ml T fr D.R pos hp (fun x6 hall => ?_) (fun s hs he hlt => K2 pos hp s hs he (fun e hm => ?_)) T[pos].2.length 0 (by omega) (fun j _ hj => absurd hj (by omega))
      · refine L_firstAtLeast_78 (fun v ev => ?_)
        rw [own_Nadd1, D.R.nl] at ev
        by_cases q : pos + 1 < T.length
        · rw [if_pos ((own_Nlt (by omega) (by omega)).mpr q), own_Nmul4] at ev
          rw [ev]
          refine K2 (pos + 1) q 0 (D.ne _ q) ?_ (fun e hm => ?_)
          · have := h3 (pos + 1) q 0 (D.ne _ q) (by omega)
            intro w; exact Int32.lt_irrefl (Int32.lt_trans this w)
          · rw [← D.fl, own_fl_mem] at hm
            obtain ⟨p, hp', s, hs, rfl⟩ := hm
            rcases Nat.lt_trichotomy p pos with w | w | w
            · exact Or.inl (h1 p hp' s hs w)
            · subst w; exact Or.inl (hall s hs)
            · right
              intro z
              by_cases y : p = pos + 1
              · subst y
                by_cases u : s = 0
                · subst u; exact Int32.lt_irrefl z
                · exact Int32.lt_irrefl (Int32.lt_trans z (own_srt S q q (D.ne _ q) hs (Or.inr ⟨rfl, by omega⟩)))
              · exact Int32.lt_irrefl (Int32.lt_trans z (own_srt S q hp' (D.ne _ q) hs (Or.inl (by omega))))
        · rw [if_neg (fun z => q ((own_Nlt (by omega) (by omega)).mp z))] at ev
          rw [ev]
          refine K1 (fun e hm => ?_)
          rw [← D.fl, own_fl_mem] at hm
          obtain ⟨p, hp', s, hs, rfl⟩ := hm
          by_cases w : p < pos
          · exact h1 p hp' s hs w
          · have : p = pos := by omega
            subst this; exact hall s hs
      · rw [← D.fl, own_fl_mem] at hm
        obtain ⟨p, hp', t, ht, rfl⟩ := hm
        by_cases w : p < pos ∨ (p = pos ∧ t < s)
        · left
          rcases w with w | ⟨w, w2⟩
          · exact h1 p hp' t ht w
          · subst w; exact hlt t ht w2
        · right
          intro z
          by_cases u : p = pos ∧ t = s
          · obtain ⟨rfl, rfl⟩ := u; exact Int32.lt_irrefl z
          · exact Int32.lt_irrefl (Int32.lt_trans z (own_srt S hp hp' hs ht (by omega)))
  · rw [D.R.nl] at h
    have hN : T.length = 0 := by
      by_cases q : 0 < T.length
      · exact absurd ((own_Nlt (a := 0) (by omega) (by omega)).mpr q) h
      · omega
    rw [← D.fl, own_fl_mem] at he
    obtain ⟨p, hp, -⟩ := he
    omega
theorem own_fl_take {T : own_Tr} {p : Nat} (h : p < T.length) : own_fl (T.take (p + 1)) = own_fl (T.take p) ++ T[p].2 := by
  rw [List.take_succ_eq_append_getElem h]
  simp only [own_fl, List.flatMap_append, List.flatMap_cons, List.flatMap_nil, List.append_nil]
/-- how many hashes lie below x -/
def own_cl (E : List own_Ent) (x : Int32) : Nat := (E.filter (fun e => decide (e.1 < x))).length
theorem own_cl_app (A B : List own_Ent) (x : Int32) : own_cl (A ++ B) x = own_cl A x + own_cl B x := by simp [own_cl]
theorem own_cl_all {A : List own_Ent} {x : Int32} (h : ∀ e ∈ A, e.1 < x) : own_cl A x = A.length := by
  unfold own_cl
  rw [List.filter_eq_self.mpr (fun e he => by simpa using h e he)]
theorem own_cl_none {A : List own_Ent} {x : Int32} (h : ∀ e ∈ A, ¬ e.1 < x) : own_cl A x = 0 := by
  unfold own_cl
  rw [List.filter_eq_nil_iff.mpr (fun e he => by simpa using h e he)]; rfl
theorem own_cl_le (E : List own_Ent) (x : Int32) : own_cl E x ≤ E.length := List.length_filter_le _ _
theorem own_fl_len {T : own_Tr} (h4 : ∀ p (h : p < T.length), T[p].2.length ≤ 4) : (own_fl T).length ≤ T.length * 4 := by
  induction T with
  | nil => simp [own_fl]
  | cons a T ih =>
    have := ih (fun p h => h4 (p + 1) (by simp; omega))
    have h0 := h4 0 (by simp)
    simp [own_fl] at *
    omega
theorem own_D.st {mi mi' : Nat → Nat → Int32} {T : own_Tr} {fr : List Nat} {E : List own_Ent} {sd : Int32} {cp : Nat} {op ck op' ck' : Nat → Int32} (D : own_D mi T fr E sd cp op ck)
    (f : ∀ b k, b ≠ 8 → b ≠ 9 → mi' b k = mi b k) (ho : ∀ k, k < 4 → mi' 8 k = op' k) (hc : ∀ k, k < 4 → mi' 9 k = ck' k) : own_D mi' T fr E sd cp op' ck' := by
  have R := D.R
  refine ⟨⟨?_, fun p h => ?_, fun p h => ?_, R.l4, fun p h s hs => ?_, ?_, fun k h => ?_, R.nd, R.lt, R.tot⟩, D.fl, D.ne, D.srt, D.gd, ?_, ?_, D.cp32, D.ecp, ?_, ho, hc⟩
  · rw [f _ _ (by decide) (by decide)]; exact R.nl
  · rw [f _ _ (by decide) (by decide)]; exact R.idx p h
  · rw [f _ _ (by decide) (by decide)]; exact R.len p h
  · rw [f _ _ (by decide) (by decide), f _ _ (by decide) (by decide), f _ _ (by decide) (by decide)]; exact R.ent p h s hs
  · rw [f _ _ (by decide) (by decide)]; exact R.ft
  · rw [f _ _ (by decide) (by decide)]; exact R.fs k h
  · rw [f _ _ (by decide) (by decide)]; exact D.size
  · rw [f _ _ (by decide) (by decide)]; exact D.cap
  · rw [f _ _ (by decide) (by decide)]; exact D.seed
def own_set (f : Nat → Int32) (k : Nat) (v : Int32) : Nat → Int32 := fun j => if j = k then v else f j
theorem own_D.ckSet {mi : Nat → Nat → Int32} {T : own_Tr} {fr : List Nat} {E : List own_Ent} {sd : Int32} {cp : Nat} {op ck : Nat → Int32} (D : own_D mi T fr E sd cp op ck) (k : Nat) (v : Int32) : own_D (up mi 9 k v) T fr E sd cp op (own_set ck k v) := by
  refine D.st (fun b j _ h => by rw [up_ne h]) (fun j hj => by rw [up_ne (by decide)]; exact D.op j hj) (fun j hj => ?_)
  rw [up_at, own_set]
  by_cases q : j = k
  · rw [if_pos ⟨rfl, q⟩, if_pos q]
  · rw [if_neg (fun z => q z.2), if_neg q]; exact D.ck j hj
theorem own_D.opSet {mi : Nat → Nat → Int32} {T : own_Tr} {fr : List Nat} {E : List own_Ent} {sd : Int32} {cp : Nat} {op ck : Nat → Int32} (D : own_D mi T fr E sd cp op ck) (k : Nat) (v : Int32) : own_D (up mi 8 k v) T fr E sd cp (own_set op k v) ck := by
  refine D.st (fun b j h _ => by rw [up_ne h]) (fun j hj => ?_) (fun j hj => by rw [up_ne (by decide)]; exact D.ck j hj)
  rw [up_at, own_set]
  by_cases q : j = k
  · rw [if_pos ⟨rfl, q⟩, if_pos q]
  · rw [if_neg (fun z => q z.2), if_neg q]; exact D.op j hj
/-- a handle that is no open stream's -/
def own_noH (op : Nat → Int32) (h : Int32) : Prop := ∀ k, k < 4 → h = Int32.ofNat k → op k = 0
theorem own_D.validHandle {mi : Nat → Nat → Int32} {T : own_Tr} {fr : List Nat} {E : List own_Ent} {sd : Int32} {cp : Nat} {op ck : Nat → Int32} (D : own_D mi T fr E sd cp op ck) {Q : Option Value → EMem → Prop} (h : Int32) (ml : Nat → Nat → Int64)
    (K1 : own_noH op h → Q (some (.int 0)) ((LL1 n), mi, ml, RR1)) (K2 : ∀ k, k < 4 → h = Int32.ofNat k → ¬ op k = 0 → Q (some (.int 1)) ((LL1 n), mi, ml, RR1)) :
    W_validHandle 0 [.val (.ref 1), .val (.int h)] [] ((LL1 n), mi, ml, RR1) Q := by
  have c4 : (4 : Int32).toInt = 4 := by decide
  refine L_validHandle_0 (fun a b => inb_lt 4 a b (by decide)) (fun v e => ?_)
  by_cases q1 : h < 0
  · rw [if_pos q1] at e
    rw [e]; exact K1 (fun k hk he => absurd q1 (by rw [he]; exact own_Nnn (by omega)))
  · rw [if_neg q1] at e
    by_cases q2 : h < 4
    · rw [if_pos q2] at e
      have a := nn_int q1
      have b := lt_int q2
      have ex : h = Int32.ofNat h.toInt.toNat := by
        apply Int32.toInt_inj.mp
        rw [own_Nt (by omega)]; omega
      have hk : h.toInt.toNat < 4 := by omega
      generalize h.toInt.toNat = k at *
      subst ex
      rw [own_Nc (by omega), D.op k hk] at e
      by_cases q3 : op k = 0
      · rw [if_pos q3] at e
        rw [e]
        refine K1 (fun j hj he => ?_)
        have := own_Ninj (by omega) (by omega) he
        subst this; exact q3
      · rw [if_neg q3] at e
        rw [e]; exact K2 k hk rfl q3
    · rw [if_neg q2] at e
      rw [e]; exact K1 (fun k hk he => absurd ((own_Nlt (b := 4) (by omega) (by omega)).mpr hk) (by rw [← he]; exact q2))
theorem own_D.hashOf {mi : Nat → Nat → Int32} {T : own_Tr} {fr : List Nat} {E : List own_Ent} {sd : Int32} {cp : Nat} {op ck : Nat → Int32} (D : own_D mi T fr E sd cp op ck) {Q : Option Value → EMem → Prop} (x : Int32) (ml : Nat → Nat → Int64)
    (K1 : (x < 0 ∨ 65535 < x) → Q (some (.int (-1))) ((LL1 n), mi, ml, RR1)) (K2 : ¬ (x < 0 ∨ 65535 < x) → Q (some (.int (own_hs sd x))) ((LL1 n), mi, ml, RR1)) :
    W_hashOf 0 [.val (.ref 1), .val (.int x)] [] ((LL1 n), mi, ml, RR1) Q := by
  refine L_hashOf_0 (fun v e h => ?_) (fun v e h => K1 ((own_name e).mp h))
  refine S_hash ?_
  rw [D.seed]
  exact L_hashOf_15 (K2 (fun q => h ((own_name e).mpr q)))

theorem own_D.readNext {mi : Nat → Nat → Int32} {T : own_Tr} {fr : List Nat} {E : List own_Ent} {sd : Int32} {cp : Nat} {op ck : Nat → Int32} (D : own_D mi T fr E sd cp op ck) {Q : Option Value → EMem → Prop} (h : Int32) (ml : Nat → Nat → Int64)
    (K0 : own_noH op h → Q (some (.int (-2))) ((LL1 n), mi, ml, RR1))
    (K1 : ∀ k, k < 4 → h = Int32.ofNat k → ¬ op k = 0 → (¬ ck k < 65535 ∨ ∀ e ∈ E, e.1 < ck k + 1) → ∀ m, own_D m T fr E sd cp op (own_set ck k 65536) → Q (some (.int (-1))) ((LL1 n), m, ml, RR1))
    (K2 : ∀ k, k < 4 → h = Int32.ofNat k → ¬ op k = 0 → ck k < 65535 → ∀ e ∈ E, ¬ e.1 < ck k + 1 → (∀ e' ∈ E, e'.1 < ck k + 1 ∨ ¬ e'.1 < e.1) → ∀ m, own_D m T fr E sd cp op (own_set ck k e.1) → Q (some (.int e.2.1)) ((LL1 n), m, ml, RR1)) :
    W_readNext 0 [.val (.ref 1), .val (.int h), .unset, .unset, .unset] [] ((LL1 n), mi, ml, RR1) Q := by
  refine L_readNext_0 ?_
  refine D.validHandle h ml (fun hn => ?_) (fun k hk he ho => ?_)
  · exact L_readNext_5 (fun w => absurd rfl w) (fun w => absurd rfl w) (fun w => absurd rfl w) (fun w => absurd rfl w) (fun _ => K0 hn)
  · have ib : inb h 4 = true := by rw [he]; exact own_Ninb hk (by omega)
    have ec : mi 9 h.toNatClampNeg = ck k := by rw [he, own_Nc (by omega)]; exact D.ck k hk
    have hc : h.toNatClampNeg = k := by rw [he, own_Nc (by omega)]
    refine L_readNext_5 (fun _ => ib) (fun _ q => ?_) (fun _ _ => ib) (fun _ q => ?_) (fun w => absurd w (by decide))
    · rw [ec] at q
      rw [ec]
      refine D.firstAtLeast _ ml (fun hall => ?_) (fun p hp s hs hge hmin => ?_)
      · refine L_readNext_41 (fun w => absurd (by decide) w) (fun w => absurd (by decide) w) (fun w => absurd (by decide) w) (fun w => absurd (by decide) w) (fun _ => ib) (fun _ => ?_)
        rw [hc]
        exact K1 k hk he ho (Or.inr hall) _ (D.ckSet k _)
      · obtain ⟨a1, a2, a3, a4, a5⟩ := D.R.slot hp hs
        refine L_readNext_41 (fun _ => a2) (fun _ => ?_) (fun _ => ib) (fun _ => ?_) (fun w => absurd w a1) (fun w => absurd w a1)
        · rw [a4]; exact own_Ninb a5 (by omega)
        · rw [a4, own_Nc (by omega), (D.R.ent p hp s hs).2.1, (D.R.ent p hp s hs).1, hc]
          exact K2 k hk he ho q _ (by rw [← D.fl, own_fl_mem]; exact ⟨p, hp, s, hs, rfl⟩) hge hmin _ (D.ckSet k _)
    · rw [ec] at q
      rw [hc]
      exact K1 k hk he ho (Or.inl q) _ (D.ckSet k _)
theorem own_D.seekDir {mi : Nat → Nat → Int32} {T : own_Tr} {fr : List Nat} {E : List own_Ent} {sd : Int32} {cp : Nat} {op ck : Nat → Int32} (D : own_D mi T fr E sd cp op ck) {Q : Option Value → EMem → Prop} (h c : Int32) (ml : Nat → Nat → Int64)
    (K0 : own_noH op h ∨ c < -1 ∨ 65536 < c → Q (some (.int 0)) ((LL1 n), mi, ml, RR1))
    (K1 : ∀ k, k < 4 → h = Int32.ofNat k → ¬ op k = 0 → ¬ (c < -1 ∨ 65536 < c) → ∀ m, own_D m T fr E sd cp op (own_set ck k c) → Q (some (.int 1)) ((LL1 n), m, ml, RR1)) :
    W_seekDir 0 [.val (.ref 1), .val (.int h), .val (.int c)] [] ((LL1 n), mi, ml, RR1) Q := by
  refine L_seekDir_0 ?_
  refine D.validHandle h ml (fun hn => ?_) (fun k hk he ho => ?_)
  · exact L_seekDir_5 (fun w => absurd rfl w) (fun w => absurd rfl w) (fun w => absurd rfl w) (fun w => absurd rfl w) (fun _ => K0 (Or.inl hn))
  · have ib : inb h 4 = true := by rw [he]; exact own_Ninb hk (by omega)
    have hc : h.toNatClampNeg = k := by rw [he, own_Nc (by omega)]
    refine L_seekDir_5 (fun _ q => K0 (Or.inr (Or.inl q))) (fun _ _ _ => ib) (fun _ q1 q2 => ?_) (fun _ _ q => K0 (Or.inr (Or.inr q))) (fun w => absurd w (by decide))
    rw [hc]
    exact K1 k hk he ho (fun z => z.elim q1 q2) _ (D.ckSet k _)
theorem own_openDir1 {mi : Nat → Nat → Int32} {T : own_Tr} {fr : List Nat} {E : List own_Ent} {sd : Int32} {cp : Nat} {op ck : Nat → Int32} (D : own_D mi T fr E sd cp op ck) {Q : Option Value → EMem → Prop} (ml : Nat → Nat → Int64)
    (K0 : (∀ k, k < 4 → ¬ op k = 0) → Q (some (.int (-1))) ((LL1 n), mi, ml, RR1))
    (K1 : ∀ k, k < 4 → op k = 0 → (∀ j, j < k → ¬ op j = 0) → ∀ m, own_D m T fr E sd cp (own_set op k 1) (own_set ck k (-1)) → Q (some (.int (Int32.ofNat k))) ((LL1 n), m, ml, RR1)) :
    ∀ (f k : Nat), k + f = 4 → (∀ j, j < k → ¬ op j = 0) → W_openDir 2 [.val (.ref 1), .val (.int (Int32.ofNat k))] [] ((LL1 n), mi, ml, RR1) Q := by
  intro f
  induction f with
  | zero =>
    intro k hk hI
    have : k = 4 := by omega
    subst this
    exact L_openDir_2 (fun _ => K0 hI) (fun w => absurd w (by decide)) (fun w => absurd w (by decide)) (fun w => absurd w (by decide)) (fun w => absurd w (by decide))
  | succ f ih =>
    intro k hk hI
    have lt : Int32.ofNat k < 4 := (own_Nlt (b := 4) (by omega) (by omega)).mpr (by omega)
    have ib : inb (Int32.ofNat k) 4 = true := own_Ninb (by omega) (by omega)
    have eo : mi 8 (Int32.ofNat k).toNatClampNeg = op k := by rw [own_Nc (by omega)]; exact D.op k (by omega)
    refine L_openDir_2 (fun w => absurd lt w) (fun _ => ib) (fun _ q => ?_) (fun _ _ => ib) (fun _ q => ?_)
    · rw [eo] at q
      rw [own_Nadd1]
      refine ih (k + 1) (by omega) (fun j hj => ?_)
      by_cases w : j = k
      · subst w; exact q
      · exact hI j (by omega)
    · rw [eo] at q
      rw [own_Nc (by omega)]
      exact K1 k (by omega) q hI _ ((D.opSet k 1).ckSet k (-1))
theorem own_D.openDir {mi : Nat → Nat → Int32} {T : own_Tr} {fr : List Nat} {E : List own_Ent} {sd : Int32} {cp : Nat} {op ck : Nat → Int32} (D : own_D mi T fr E sd cp op ck) {Q : Option Value → EMem → Prop} (ml : Nat → Nat → Int64)
    (K0 : (∀ k, k < 4 → ¬ op k = 0) → Q (some (.int (-1))) ((LL1 n), mi, ml, RR1))
    (K1 : ∀ k, k < 4 → op k = 0 → (∀ j, j < k → ¬ op j = 0) → ∀ m, own_D m T fr E sd cp (own_set op k 1) (own_set ck k (-1)) → Q (some (.int (Int32.ofNat k))) ((LL1 n), m, ml, RR1)) :
    W_openDir 0 [.val (.ref 1), .unset] [] ((LL1 n), mi, ml, RR1) Q := by
  refine L_openDir_0 ?_
  exact own_openDir1 D ml K0 K1 4 0 rfl (fun j hj => absurd hj (by omega))

theorem own_D.closeDir {mi : Nat → Nat → Int32} {T : own_Tr} {fr : List Nat} {E : List own_Ent} {sd : Int32} {cp : Nat} {op ck : Nat → Int32} (D : own_D mi T fr E sd cp op ck) {Q : Option Value → EMem → Prop} (h : Int32) (ml : Nat → Nat → Int64)
    (K0 : own_noH op h → Q (some (.int 0)) ((LL1 n), mi, ml, RR1))
    (K1 : ∀ k, k < 4 → h = Int32.ofNat k → ¬ op k = 0 → ∀ m, own_D m T fr E sd cp (own_set op k 0) ck → Q (some (.int 1)) ((LL1 n), m, ml, RR1)) :
    W_closeDir 0 [.val (.ref 1), .val (.int h)] [] ((LL1 n), mi, ml, RR1) Q := by
  refine L_closeDir_0 ?_
  refine D.validHandle h ml (fun hn => ?_) (fun k hk he ho => ?_)
  · exact L_closeDir_5 (fun w => absurd rfl w) (fun w => absurd rfl w) (fun _ => K0 hn)
  · have ib : inb h 4 = true := by rw [he]; exact own_Ninb hk (by omega)
    have hc : h.toNatClampNeg = k := by rw [he, own_Nc (by omega)]
    refine L_closeDir_5 (fun _ => ib) (fun _ => ?_) (fun w => absurd w (by decide))
    rw [hc]
    exact K1 k hk he ho _ (D.opSet k 0)

/-- the entry in a slot -/
def own_sl (m : Nat → Nat → Int32) (k : Nat) : own_Ent := (m 2 k, m 3 k, m 4 k)
theorem own_R.sl {mi : Nat → Nat → Int32} {T : own_Tr} {fr : List Nat} (R : own_R mi T fr) {p s : Nat} (hp : p < T.length) (hs : s < T[p].2.length) : own_sl mi (T[p].1 * 4 + s) = T[p].2[s] := by
  obtain ⟨a, b, c⟩ := R.ent p hp s hs
  unfold own_sl
  rw [a, b, c]
theorem own_sl_copy (m : Nat → Nat → Int32) (a b k : Nat) : own_sl (up (up (up m 2 b (m 2 a)) 3 b (m 3 a)) 4 b (m 4 a)) k = if k = b then own_sl m a else own_sl m k := by
  unfold own_sl
  rw [up_ne (by decide), up_ne (by decide), up_at, up_ne (by decide), up_at, up_ne (by decide), up_at, up_ne (by decide), up_ne (by decide)]
  by_cases q : k = b
  · simp [q]
  · simp [q]
theorem own_ar_copy (m : Nat → Nat → Int32) (b : Nat) {c : Nat} (k : Nat) (h1 : c ≠ 2) (h2 : c ≠ 3) (h3 : c ≠ 4) {u v w : Int32} : (up (up (up m 2 b u) 3 b v) 4 b w) c k = m c k := by
  rw [up_ne h3, up_ne h2, up_ne h1]
theorem own_set_map {T : own_Tr} {p : Nat} (h : p < T.length) (es : List own_Ent) : (T.set p (T[p].1, es)).map (·.1) = T.map (·.1) := by
  rw [List.map_set]
  have : T[p].1 = (T.map (·.1))[p]'(by simpa using h) := by simp
  rw [this, List.set_getElem_self]
theorem own_perm {T T' : own_Tr} {fr fr' : List Nat} (P : (T'.map (·.1) ++ fr').Perm (T.map (·.1) ++ fr)) {mi : Nat → Nat → Int32} (R : own_R mi T fr) : (T'.map (·.1) ++ fr').Nodup ∧ (∀ x ∈ T'.map (·.1) ++ fr', x < 32) ∧ T'.length + fr'.length = 32 := by
  refine ⟨P.nodup_iff.mpr R.nd, fun x hx => R.lt x (P.mem_iff.mp hx), ?_⟩
  have := P.length_eq
  simp at this
  rw [this]; exact R.tot
/-- one leaf's entries are new -/
theorem own_R.upd {mi m : Nat → Nat → Int32} {T : own_Tr} {fr : List Nat} (R : own_R mi T fr) {p : Nat} (h : p < T.length) (es : List own_Ent) (h4 : es.length ≤ 4)
    (f : ∀ b k, b ≠ 2 → b ≠ 3 → b ≠ 4 → b ≠ 5 → (b = 1 → k = 40 ∨ k = 42) → m b k = mi b k) (fl : ∀ k, k ≠ T[p].1 → m 5 k = mi 5 k) (ll : m 5 T[p].1 = Int32.ofNat es.length)
    (fs : ∀ k, (k < T[p].1 * 4 ∨ T[p].1 * 4 + 4 ≤ k) → own_sl m k = own_sl mi k) (ss : ∀ s (hs : s < es.length), own_sl m (T[p].1 * 4 + s) = es[s]) : own_R m (T.set p (T[p].1, es)) fr := by
  have e1 : ∀ q (hq : q < (T.set p (T[p].1, es)).length), (T.set p (T[p].1, es))[q].1 = (T[q]'(by simpa using hq)).1 := by
    intro q hq
    rw [List.getElem_set]
    by_cases w : p = q
    · subst w; simp
    · simp [w]
  obtain ⟨n1, n2, n3⟩ := own_perm (T' := T.set p (T[p].1, es)) (fr' := fr) (by rw [own_set_map h]) R
  refine ⟨?_, fun q hq => ?_, fun q hq => ?_, fun q hq => ?_, fun q hq s hs => ?_, ?_, fun k hk => ?_, n1, n2, n3⟩
  · rw [f _ _ (by decide) (by decide) (by decide) (by decide) (fun _ => Or.inl rfl), List.length_set]; exact R.nl
  · rw [f _ _ (by decide) (by decide) (by decide) (by decide) (fun w => absurd w (by decide)), e1 q hq]; exact R.idx q (by simpa using hq)
  · rw [e1 q hq]
    have hq' : q < T.length := by simpa using hq
    by_cases w : q = p
    · subst w
      rw [ll]; simp
    · rw [fl _ (fun z => w (R.inj hq' h z)), R.len q hq', List.getElem_set_ne (fun z => w z.symm)]
  · rw [List.getElem_set]
    by_cases w : p = q
    · rw [if_pos w]; exact h4
    · rw [if_neg w]; exact R.l4 q (by simpa using hq)
  · have hq' : q < T.length := by simpa using hq
    have key : own_sl m ((T.set p (T[p].1, es))[q].1 * 4 + s) = (T.set p (T[p].1, es))[q].2[s] := by
      rw [e1 q hq]
      by_cases w : p = q
      · subst w
        simp only [List.getElem_set_self] at hs ⊢
        exact ss s hs
      · have hs' : s < T[q].2.length := by
          rw [List.getElem_set_ne w] at hs; exact hs
        have l4 := R.l4 q hq'
        have ne : T[q].1 ≠ T[p].1 := fun z => w (R.inj hq' h z).symm
        rw [fs _ (by omega), R.sl hq' hs']
        simp [List.getElem_set_ne w]
    unfold own_sl at key
    rw [← key]
    exact ⟨rfl, rfl, rfl⟩
  · rw [f _ _ (by decide) (by decide) (by decide) (by decide) (fun _ => Or.inr rfl)]; exact R.ft
  · rw [f _ _ (by decide) (by decide) (by decide) (by decide) (fun w => absurd w (by decide))]; exact R.fs k hk
theorem own_iil1 {Q : Option Value → EMem → Prop} (x nm ino : Int32) (mi : Nat → Nat → Int32) (ml : Nat → Nat → Int64) (l : Nat) (l32 : l < 32) (es : List own_Ent) (h4 : es.length < 4) (hs0 : ∀ s (hs : s < es.length), own_sl mi (l * 4 + s) = es[s])
    (K : ∀ m j, j ≤ es.length → (∀ b k, b ≠ 2 → b ≠ 3 → b ≠ 4 → m b k = mi b k) → (∀ k, (k < l * 4 ∨ l * 4 + 4 ≤ k) → own_sl m k = own_sl mi k) → (∀ s (hs : s < es.length), s < j → own_sl m (l * 4 + s) = es[s]) → (∀ s (hs : s < es.length), j ≤ s → own_sl m (l * 4 + s + 1) = es[s] ∧ ¬ (es[s]).1 < x) → (∀ (hj : 0 < j) (h : j - 1 < es.length), (es[j - 1]).1 < x) →
      W_insertIntoLeaf 75 [.val (.ref 1), .val (.int (Int32.ofNat l)), .val (.int x), .val (.int nm), .val (.int ino), .val (.int (Int32.ofNat es.length)), .val (.int (Int32.ofNat (l * 4))), .val (.int (Int32.ofNat j))] [] ((LL1 n), m, ml, RR1) Q) :
    ∀ (j : Nat) (m : Nat → Nat → Int32), j ≤ es.length → (∀ b k, b ≠ 2 → b ≠ 3 → b ≠ 4 → m b k = mi b k) → (∀ k, (k < l * 4 ∨ l * 4 + 4 ≤ k) → own_sl m k = own_sl mi k) → (∀ s (hs : s < es.length), s < j → own_sl m (l * 4 + s) = es[s]) → (∀ s (hs : s < es.length), j ≤ s → own_sl m (l * 4 + s + 1) = es[s] ∧ ¬ (es[s]).1 < x) →
    W_insertIntoLeaf 29 [.val (.ref 1), .val (.int (Int32.ofNat l)), .val (.int x), .val (.int nm), .val (.int ino), .val (.int (Int32.ofNat es.length)), .val (.int (Int32.ofNat (l * 4))), .val (.int (Int32.ofNat j))] [] ((LL1 n), m, ml, RR1) Q := by
  intro j
  induction j with
  | zero =>
    intro m hj f1 f2 f3 f4
    have n0 : ¬ (0 : Int32) < Int32.ofNat 0 := by decide
    exact L_insertIntoLeaf_29 (fun _ => K m 0 hj f1 f2 f3 f4 (fun h => absurd h (by omega))) (fun h => absurd h n0) (fun h => absurd h n0) (fun h => absurd h n0) (fun h => absurd h n0) (fun h => absurd h n0)
  | succ j ih =>
    intro m hj f1 f2 f3 f4
    have p0 : (0 : Int32) < Int32.ofNat (j + 1) := (own_Nlt (a := 0) (by omega) (by omega)).mpr (by omega)
    have e1 : Int32.ofNat (l * 4) + Int32.ofNat (j + 1) = Int32.ofNat (l * 4 + (j + 1)) := own_Nadd _ _
    have e2 : Int32.ofNat (l * 4) + Int32.ofNat (j + 1) - 1 = Int32.ofNat (l * 4 + j) := by rw [e1, own_Nsub1 (by omega) (by omega)]; rfl
    have ej := f3 j (by omega) (by omega)
    have eh : m 2 (l * 4 + j) = (es[j]'(by omega)).1 := congrArg Prod.fst ej
    refine L_insertIntoLeaf_29 (fun h => absurd p0 h) (fun _ => ?_) (fun _ _ => ?_) (fun _ _ => ?_) (fun _ q => ?_) (fun _ q => ?_)
    · rw [e2]; exact own_Ninb (by omega) (by omega)
    · rw [e2]; exact own_Ninb (by omega) (by omega)
    · rw [e1]; exact own_Ninb (by omega) (by omega)
    · rw [e2, own_Nc (by omega), eh] at q
      rw [e2, e1, own_Nc (by omega), own_Nc (by omega), own_Npred (by omega) (by omega)]
      refine ih _ (by omega) (fun b k h1 h2 h3 => ?_) (fun k hk => ?_) (fun s hs hlt => ?_) (fun s hs hle => ?_)
      · rw [own_ar_copy _ _ _ h1 h2 h3]; exact f1 b k h1 h2 h3
      · rw [own_sl_copy, if_neg (by omega)]; exact f2 k hk
      · rw [own_sl_copy, if_neg (by omega)]; exact f3 s hs (by omega)
      · rw [own_sl_copy]
        by_cases w : s = j
        · subst w
          rw [if_pos (by omega)]
          exact ⟨ej, q⟩
        · rw [if_neg (by omega)]; exact f4 s hs (by omega)
    · rw [e2, own_Nc (by omega), eh] at q
      exact K m (j + 1) hj f1 f2 f3 f4 (fun _ _ => q)
/-- a new entry goes into a leaf that has room -/
theorem own_R.iil {mi : Nat → Nat → Int32} {T : own_Tr} {fr : List Nat} (R : own_R mi T fr) {Q : Option Value → EMem → Prop} (x nm ino : Int32) (ml : Nat → Nat → Int64) {p : Nat} (h : p < T.length) (h4 : T[p].2.length < 4)
    (K : ∀ m j, j ≤ T[p].2.length → (∀ b k, b ≠ 2 → b ≠ 3 → b ≠ 4 → b ≠ 5 → m b k = mi b k) → own_R m (T.set p (T[p].1, T[p].2.take j ++ (x, nm, ino) :: T[p].2.drop j)) fr → (∀ s (hs : s < T[p].2.length), j ≤ s → ¬ (T[p].2[s]).1 < x) → (∀ (hj : 0 < j) (h' : j - 1 < T[p].2.length), (T[p].2[j - 1]).1 < x) → Q none ((LL1 n), m, ml, RR1)) :
    W_insertIntoLeaf 0 [.val (.ref 1), .val (.int (Int32.ofNat T[p].1)), .val (.int x), .val (.int nm), .val (.int ino), .unset, .unset, .unset] [] ((LL1 n), mi, ml, RR1) Q := by
  have l32 := R.l32 h
  have el : mi 5 (Int32.ofNat T[p].1).toNatClampNeg = Int32.ofNat T[p].2.length := by rw [own_Nc (by omega), R.len p h]
  have lt4 : Int32.ofNat T[p].2.length < 4 := (own_Nlt (b := 4) (by omega) (by omega)).mpr h4
  refine L_insertIntoLeaf_0 (own_Ninb l32 (by omega)) (fun q => absurd (by rw [el]; exact lt4) q) (fun _ _ => ?_) (fun _ q => absurd q (by rw [el]; exact own_Nnn (by omega)))
  rw [el, own_Nmul4]
  refine own_iil1 x nm ino mi ml T[p].1 l32 T[p].2 h4 (fun s hs => R.sl h hs) ?_ _ mi (Nat.le_refl _) (fun _ _ _ _ _ => rfl) (fun _ _ => rfl) (fun s hs _ => R.sl h hs) (fun s hs hle => absurd hs (by omega))
  intro m j hj f1 f2 f3 f4 f5
  have e1 : Int32.ofNat (T[p].1 * 4) + Int32.ofNat j = Int32.ofNat (T[p].1 * 4 + j) := own_Nadd _ _
  refine L_insertIntoLeaf_75 (by rw [e1]; exact own_Ninb (by omega) (by omega)) (own_Ninb l32 (by omega)) ?_
  rw [e1, own_Nc (by omega), own_Nc (by omega), own_Nadd1]
  generalize hm2 : up (up (up (up m 2 (T[p].1 * 4 + j) x) 3 (T[p].1 * 4 + j) nm) 4 (T[p].1 * 4 + j) ino) 5 T[p].1 (Int32.ofNat (T[p].2.length + 1)) = m2
  have g1 : ∀ b k, b ≠ 2 → b ≠ 3 → b ≠ 4 → b ≠ 5 → m2 b k = mi b k := by
    intro b k h1 h2 h3 h5
    rw [← hm2, up_ne h5, up_ne h3, up_ne h2, up_ne h1]; exact f1 b k h1 h2 h3
  have g2 : ∀ k, own_sl m2 k = if k = T[p].1 * 4 + j then (x, nm, ino) else own_sl m k := by
    intro k
    rw [← hm2]
    simp only [own_sl, up_at]
    by_cases q : k = T[p].1 * 4 + j
    · simp [q]
    · simp [q]
  have g3 : ∀ k, m2 5 k = if k = T[p].1 then Int32.ofNat (T[p].2.length + 1) else mi 5 k := by
    intro k
    rw [← hm2, up_at, up_ne (by decide), up_ne (by decide), up_ne (by decide), f1 _ _ (by decide) (by decide) (by decide)]
    simp
  clear hm2
  refine K m2 j hj g1 (R.upd h _ ?_ (fun b k h1 h2 h3 h5 _ => g1 b k h1 h2 h3 h5) (fun k hk => by rw [g3, if_neg hk]) ?_ (fun k hk => ?_) (fun s hs => ?_)) (fun s hs hle => (f4 s hs hle).2) f5
  · simp; omega
  · rw [g3, if_pos rfl]
    congr 1
    simp only [List.length_append, List.length_cons, List.length_take, List.length_drop]
    omega
  · rw [g2, if_neg (by omega)]; exact f2 k hk
  · rw [g2]
    by_cases q : s = j
    · subst q
      rw [if_pos rfl]
      rw [List.getElem_append_right (by simp [Nat.min_eq_left hj])]
      simp [Nat.min_eq_left hj]
    · rw [if_neg (by omega)]
      by_cases w : s < j
      · rw [f3 s (by omega) w, List.getElem_append_left (by simp; omega)]
        simp
      · have hs' : s - 1 < T[p].2.length := by simp at hs; omega
        have := (f4 (s - 1) hs' (by omega)).1
        rw [show T[p].1 * 4 + (s - 1) + 1 = T[p].1 * 4 + s by omega] at this
        rw [this, List.getElem_append_right (by simp; omega)]
        have e : s - (List.take j T[p].2).length = (s - 1 - j) + 1 := by simp; omega
        simp only [e, List.getElem_cons_succ, List.getElem_drop]
        congr 1; omega

theorem own_R.alloc {mi : Nat → Nat → Int32} {T : own_Tr} {fr' : List Nat} {nl : Nat} (R : own_R mi T (fr' ++ [nl])) {Q : Option Value → EMem → Prop} (ml : Nat → Nat → Int64)
    (K : ∀ m, (∀ b k, ¬ (b = 1 ∧ k = 42) → ¬ (b = 5 ∧ k = nl) → m b k = mi b k) → m 1 42 = Int32.ofNat fr'.length → m 5 nl = 0 → Q (some (.int (Int32.ofNat nl))) ((LL1 n), m, ml, RR1)) :
    W_allocLeaf 0 [.val (.ref 1), .unset] [] ((LL1 n), mi, ml, RR1) Q := by
  have t32 := R.tot
  have n32 : nl < 32 := R.lt _ (by simp)
  simp at t32
  have ef : mi 1 42 = Int32.ofNat (fr'.length + 1) := by rw [R.ft]; simp
  have p0 : (0 : Int32) < Int32.ofNat (fr'.length + 1) := (own_Nlt (a := 0) (by omega) (by omega)).mpr (by omega)
  have e1 : mi 1 42 - 1 = Int32.ofNat fr'.length := by rw [ef, own_Nsub1 (by omega) (by omega)]; rfl
  have e2 : mi 7 (mi 1 42 - 1).toNatClampNeg &&& 31 = Int32.ofNat nl := by
    rw [e1, own_Nc (by omega), R.fs fr'.length (by simp)]
    simp
    exact own_N31 n32
  refine L_allocLeaf_0 (fun _ => by rw [e1]; exact own_Ninb (by omega) (by omega)) (fun _ => by rw [e2]; exact own_Ninb n32 (by omega)) (fun _ => ?_) (fun h => absurd (by rw [ef]; exact p0) h)
  rw [e2, e1, own_Nc (by omega)]
  refine K _ (fun b k h1 h2 => ?_) rfl ?_
  · rw [up_at, if_neg h2, up_at, if_neg h1]
  · rw [up_eq]
theorem own_ii1 {Q : Option Value → EMem → Prop} (mi : Nat → Nat → Int32) (ml : Nat → Nat → Int64) (N a l : Nat) (hN : N < 32) (ha : a ≤ N) (hn : mi 1 40 = Int32.ofNat N)
    (K : ∀ m, (∀ b k, b ≠ 6 → ¬ (b = 1 ∧ k = 40) → m b k = mi b k) → m 1 40 = Int32.ofNat (N + 1) → (∀ k, k < a → m 6 k = mi 6 k) → m 6 a = Int32.ofNat l → (∀ k, a < k → k ≤ N → m 6 k = mi 6 (k - 1)) → Q none ((LL1 n), m, ml, RR1)) :
    ∀ (f : Nat) (m : Nat → Nat → Int32), a + f ≤ N → (∀ b k, b ≠ 6 → m b k = mi b k) → (∀ k, k ≤ a + f → m 6 k = mi 6 k) → (∀ k, a + f < k → k ≤ N → m 6 k = mi 6 (k - 1)) →
    W_indexInsert 27 [.val (.ref 1), .val (.int (Int32.ofNat a)), .val (.int (Int32.ofNat l)), .val (.int (Int32.ofNat (a + f)))] [] ((LL1 n), m, ml, RR1) Q := by
  intro f
  induction f with
  | zero =>
    intro m hf f1 f2 f3
    have ir : ¬ Int32.ofNat a < Int32.ofNat (a + 0) := by rw [Nat.add_zero]; exact Int32.lt_irrefl
    refine L_indexInsert_27 (fun _ => own_Ninb (by omega) (by omega)) (fun _ => ?_) (fun h => absurd h ir) (fun h => absurd h ir) (fun h => absurd h ir)
    rw [own_Nc (by omega), f1 _ _ (by decide), hn, own_Nadd1]
    refine K _ (fun b k h1 h2 => ?_) rfl (fun k hk => ?_) ?_ (fun k hk hk2 => ?_)
    · rw [up_at, if_neg h2, up_ne h1]; exact f1 b k h1
    · rw [up_ne (by decide), up_at, if_neg (by omega)]; exact f2 k (by omega)
    · rw [up_ne (by decide), up_eq]
    · rw [up_ne (by decide), up_at, if_neg (by omega)]; exact f3 k (by omega) hk2
  | succ f ih =>
    intro m hf f1 f2 f3
    have lt : Int32.ofNat a < Int32.ofNat (a + (f + 1)) := (own_Nlt (by omega) (by omega)).mpr (by omega)
    have e1 : Int32.ofNat (a + (f + 1)) - 1 = Int32.ofNat (a + f) := by rw [own_Nsub1 (by omega) (by omega)]; rfl
    refine L_indexInsert_27 (fun h => absurd lt h) (fun h => absurd lt h) (fun _ => by rw [e1]; exact own_Ninb (by omega) (by omega)) (fun _ => own_Ninb (by omega) (by omega)) (fun _ => ?_)
    rw [e1, own_Nc (by omega), own_Nc (by omega), own_Npred (by omega) (by omega)]
    refine ih _ (by omega) (fun b k h1 => ?_) (fun k hk => ?_) (fun k hk hk2 => ?_)
    · rw [up_ne h1]; exact f1 b k h1
    · rw [up_at, if_neg (by omega)]; exact f2 k (by omega)
    · rw [up_at]
      by_cases q : k = a + (f + 1)
      · rw [if_pos ⟨rfl, q⟩, f2 _ (by omega), q]; rfl
      · rw [if_neg (fun z => q z.2)]; exact f3 k (by omega) hk2
theorem own_indexInsert {Q : Option Value → EMem → Prop} (mi : Nat → Nat → Int32) (ml : Nat → Nat → Int64) (N a l : Nat) (hN : N < 32) (ha : a ≤ N) (hn : mi 1 40 = Int32.ofNat N)
    (K : ∀ m, (∀ b k, b ≠ 6 → ¬ (b = 1 ∧ k = 40) → m b k = mi b k) → m 1 40 = Int32.ofNat (N + 1) → (∀ k, k < a → m 6 k = mi 6 k) → m 6 a = Int32.ofNat l → (∀ k, a < k → k ≤ N → m 6 k = mi 6 (k - 1)) → Q none ((LL1 n), m, ml, RR1)) :
    W_indexInsert 0 [.val (.ref 1), .val (.int (Int32.ofNat a)), .val (.int (Int32.ofNat l)), .unset] [] ((LL1 n), mi, ml, RR1) Q := by
  refine L_indexInsert_0 (fun h => absurd (by rw [hn]; exact (own_Nlt (b := 32) (by omega) (by omega)).mpr hN) h) (fun _ h => absurd h (own_Nnn (by omega))) (fun _ _ _ => ?_) (fun _ _ h => absurd h (by rw [hn, own_Nlt (by omega) (by omega)]; omega))
  rw [hn]
  have := own_ii1 mi ml N a l hN ha hn K (N - a) mi (by omega) (fun _ _ _ => rfl) (fun _ _ => rfl) (fun k h1 h2 => by omega)
  rw [show a + (N - a) = N by omega] at this
  exact this
/-- the full leaf at p is split in two -/
theorem own_R.split {mi : Nat → Nat → Int32} {T : own_Tr} {fr' : List Nat} {nl : Nat} (R : own_R mi T (fr' ++ [nl])) {Q : Option Value → EMem → Prop} (x : Int32) (ml : Nat → Nat → Int64) {p : Nat} (h : p < T.length) (h4 : T[p].2.length = 4)
    (K : ∀ m, (∀ b k, b ≠ 2 → b ≠ 3 → b ≠ 4 → b ≠ 5 → b ≠ 6 → ¬ (b = 1 ∧ (k = 40 ∨ k = 42)) → m b k = mi b k) → own_R m ((T.set p (T[p].1, T[p].2.take 2)).insertIdx (p + 1) (nl, T[p].2.drop 2)) fr' → Q (some (.int (Int32.ofNat (if (T[p].2[2]).1 < x then p + 1 else p)))) ((LL1 n), m, ml, RR1)) :
    W_splitLeaf 0 [.val (.ref 1), .val (.int (Int32.ofNat p)), .val (.int x), .unset, .unset, .unset, .unset, .unset] [] ((LL1 n), mi, ml, RR1) Q := by
  have t32 := R.tot
  simp at t32
  have l32 := R.l32 h
  have n32 : nl < 32 := R.lt _ (by simp)
  have hne : ∀ q (hq : q < T.length), T[q].1 ≠ nl := fun q hq => by
    have := R.nfr hq (k := fr'.length) (by simp)
    simpa using this
  refine L_splitLeaf_0 (own_Ninb (by omega) (by omega)) ?_
  rw [own_Nc (by omega), R.idx p h]
  refine R.alloc ml (fun m1 a1 a2 a3 => ?_)
  refine L_splitLeaf_11 (fun _ => ?_) (fun q => absurd q (own_Nnn (by omega)))
  rw [own_Nmul4, own_Nmul4]
  generalize hl : T[p].1 = l at *
  have lne : l ≠ nl := hl ▸ hne p h
  have s1 : ∀ k, own_sl m1 k = own_sl mi k := fun k => by
    unfold own_sl
    rw [a1 _ _ (fun z => absurd z.1 (by decide)) (fun z => absurd z.1 (by decide)), a1 _ _ (fun z => absurd z.1 (by decide)) (fun z => absurd z.1 (by decide)), a1 _ _ (fun z => absurd z.1 (by decide)) (fun z => absurd z.1 (by decide))]
  have src : ∀ s (hs : s < 4), own_sl mi (l * 4 + s) = T[p].2[s]'(by omega) := fun s hs => by rw [← hl]; exact R.sl h (by omega)
  have e2 : Int32.ofNat (l * 4) + 2 = Int32.ofNat (l * 4 + 2) := own_Nadd (l * 4) 2
  have i0 : Int32.ofNat (l * 4) + 2 + 0 = Int32.ofNat (l * 4 + 2) := by rw [e2]; exact own_Nadd (l * 4 + 2) 0
  have i1 : Int32.ofNat (l * 4) + 2 + (0 + 1) = Int32.ofNat (l * 4 + 3) := by rw [e2]; exact own_Nadd (l * 4 + 2) 1
  have j0 : Int32.ofNat (nl * 4) + 0 = Int32.ofNat (nl * 4) := own_Nadd (nl * 4) 0
  have j1 : Int32.ofNat (nl * 4) + (0 + 1) = Int32.ofNat (nl * 4 + 1) := own_Nadd (nl * 4) 1
  refine L_splitLeaf_34 (fun q => absurd (by decide) q) (fun q => absurd (by decide) q) (fun q => absurd (by decide) q) (fun _ => by rw [i0]; exact own_Ninb (by omega) (by omega)) (fun _ => by rw [j0]; exact own_Ninb (by omega) (by omega)) (fun _ => ?_)
  rw [i0, j0, own_Nc (by omega), own_Nc (by omega)]
  generalize hm2 : up (up (up m1 2 (nl * 4) (m1 2 (l * 4 + 2))) 3 (nl * 4) (m1 3 (l * 4 + 2))) 4 (nl * 4) (m1 4 (l * 4 + 2)) = m2
  have b1 : ∀ b k, b ≠ 2 → b ≠ 3 → b ≠ 4 → m2 b k = m1 b k := fun b k x y z => by rw [← hm2]; exact own_ar_copy _ _ _ x y z
  have b2 : ∀ k, own_sl m2 k = if k = nl * 4 then own_sl m1 (l * 4 + 2) else own_sl m1 k := fun k => by rw [← hm2]; exact own_sl_copy _ _ _ _
  clear hm2
  refine L_splitLeaf_34 (fun q => absurd (by decide) q) (fun q => absurd (by decide) q) (fun q => absurd (by decide) q) (fun _ => by rw [i1]; exact own_Ninb (by omega) (by omega)) (fun _ => by rw [j1]; exact own_Ninb (by omega) (by omega)) (fun _ => ?_)
  rw [i1, j1, own_Nc (by omega), own_Nc (by omega)]
  generalize hm3 : up (up (up m2 2 (nl * 4 + 1) (m2 2 (l * 4 + 3))) 3 (nl * 4 + 1) (m2 3 (l * 4 + 3))) 4 (nl * 4 + 1) (m2 4 (l * 4 + 3)) = m3
  have c1 : ∀ b k, b ≠ 2 → b ≠ 3 → b ≠ 4 → m3 b k = m1 b k := fun b k x y z => by rw [← hm3, own_ar_copy _ _ _ x y z]; exact b1 b k x y z
  have c2 : ∀ k, own_sl m3 k = if k = nl * 4 + 1 then own_sl m2 (l * 4 + 3) else own_sl m2 k := fun k => by rw [← hm3]; exact own_sl_copy _ _ _ _
  clear hm3
  refine L_splitLeaf_34 (fun _ => own_Ninb (by omega) (by omega)) (fun _ => own_Ninb (by omega) (by omega)) (fun _ => ?_) (fun q => absurd q (by decide)) (fun q => absurd q (by decide)) (fun q => absurd q (by decide))
  rw [own_Nc (by omega), own_Nc (by omega), own_Nadd1]
  have hn : (up (up m3 5 l 2) 5 nl 2) 1 40 = Int32.ofNat T.length := by
    rw [up_ne (by decide), up_ne (by decide), c1 _ _ (by decide) (by decide) (by decide), a1 _ _ (fun z => absurd z.2 (by decide)) (fun z => absurd z.1 (by decide))]; exact R.nl
  refine own_indexInsert _ ml T.length (p + 1) nl (by omega) (by omega) hn ?_
  intro m4 d1 d2 d3 d4 d5
  have d1' : ∀ b k, b ≠ 6 → ¬ (b = 1 ∧ k = 40) → b ≠ 5 → m4 b k = m3 b k := fun b k x y z => by rw [d1 b k x y, up_ne z, up_ne z]
  have dl : ∀ k, m4 5 k = if k = nl then 2 else if k = l then 2 else mi 5 k := fun k => by
    rw [d1 _ _ (by decide) (fun z => absurd z.1 (by decide)), up_at, up_at]
    by_cases q : k = nl
    · simp [q]
    · by_cases w : k = l
      · simp [w]
      · simp only [q, w, and_false, if_false]
        rw [c1 _ _ (by decide) (by decide) (by decide), a1 _ _ (fun z => absurd z.1 (by decide)) (fun z => q z.2)]
  have ds : ∀ k, own_sl m4 k = if k = nl * 4 then own_sl mi (l * 4 + 2) else if k = nl * 4 + 1 then own_sl mi (l * 4 + 3) else own_sl mi k := fun k => by
    have : own_sl m4 k = own_sl m3 k := by
      unfold own_sl
      rw [d1' _ _ (by decide) (fun z => absurd z.1 (by decide)) (by decide), d1' _ _ (by decide) (fun z => absurd z.1 (by decide)) (by decide), d1' _ _ (by decide) (fun z => absurd z.1 (by decide)) (by decide)]
    rw [this, c2]
    by_cases q : k = nl * 4 + 1
    · subst q
      rw [if_pos rfl, if_neg (by omega), if_pos rfl, b2, if_neg (by omega), s1]
    · rw [if_neg q, b2, s1, s1, if_neg q]
  have dk : ∀ k, k < T.length → mi 6 k = (up (up m3 5 l 2) 5 nl 2) 6 k := fun k hk => by
    rw [up_ne (by decide), up_ne (by decide), c1 _ _ (by decide) (by decide) (by decide), a1 _ _ (fun z => absurd z.1 (by decide)) (fun z => absurd z.1 (by decide))]
  have eh : m4 2 (nl * 4) = (T[p].2[2]).1 := by
    have := ds (nl * 4)
    rw [if_pos rfl, src 2 (by omega)] at this
    exact congrArg Prod.fst this
  refine L_splitLeaf_86 (own_Ninb (by omega) (by omega)) (fun v ev => ?_)
  rw [own_Nc (by omega), eh, own_Nadd1] at ev
  have ev' : v = Int32.ofNat (if (T[p].2[2]).1 < x then p + 1 else p) := by rw [ev]; split <;> rfl
  rw [ev']
  clear ev ev'
  -- the new tree
  generalize hT1 : T.set p (l, T[p].2.take 2) = T1 at *
  have t1l : T1.length = T.length := by rw [← hT1]; simp
  have g : ∀ q (hq : q < (T1.insertIdx (p + 1) (nl, T[p].2.drop 2)).length), (T1.insertIdx (p + 1) (nl, T[p].2.drop 2))[q] = if q = p + 1 then (nl, T[p].2.drop 2) else if q = p then (l, T[p].2.take 2) else if hh : q < p then T[q]'(by omega) else T[q - 1]'(by rw [List.length_insertIdx_of_le_length (by omega)] at hq; omega) := by
    intro q hq
    have hq' : q < T.length + 1 := by rw [List.length_insertIdx_of_le_length (by omega)] at hq; omega
    rw [List.getElem_insertIdx]
    by_cases w1 : q < p + 1
    · rw [dif_pos w1, if_neg (by omega)]
      by_cases w2 : q = p
      · subst w2; simp [← hT1]
      · rw [if_neg w2, dif_pos (by omega)]
        simp only [← hT1]
        rw [List.getElem_set_ne (by omega)]
    · rw [dif_neg w1]
      by_cases w2 : q = p + 1
      · rw [dif_pos w2, if_pos w2]
      · rw [dif_neg w2, if_neg w2, if_neg (by omega), dif_neg (by omega)]
        simp only [← hT1]
        rw [List.getElem_set_ne (by omega)]
  have pm : ((T1.insertIdx (p + 1) (nl, T[p].2.drop 2)).map (·.1) ++ fr').Perm (T.map (·.1) ++ (fr' ++ [nl])) := by
    have e1 : T1.map (·.1) = T.map (·.1) := by rw [← hT1, ← hl]; exact own_set_map h _
    have q1 := (List.perm_insertIdx (nl, T[p].2.drop 2) T1 (i := p + 1) (by omega)).map (·.1)
    simp only [List.map_cons, e1] at q1
    refine (q1.append_right fr').trans ?_
    have q2 : (nl :: (T.map (·.1)) ++ fr').Perm (T.map (·.1) ++ nl :: fr') := (List.perm_middle).symm
    refine q2.trans (List.Perm.append_left _ ?_)
    exact (List.perm_append_singleton nl fr').symm
  obtain ⟨n1, n2, n3⟩ := own_perm pm R
  refine K m4 (fun b k h1 h2 h3 h5 h6 h7 => ?_) ⟨?_, fun q hq => ?_, fun q hq => ?_, fun q hq => ?_, fun q hq s hs => ?_, ?_, fun k hk => ?_, n1, n2, n3⟩
  · rw [d1' b k h6 (fun z => h7 ⟨z.1, Or.inl z.2⟩) h5, c1 _ _ h1 h2 h3, a1 _ _ (fun z => h7 ⟨z.1, Or.inr z.2⟩) (fun z => h5 z.1)]
  · rw [d2, List.length_insertIdx_of_le_length (by omega), t1l]
  · have hq' : q < T.length + 1 := by rw [List.length_insertIdx_of_le_length (by omega)] at hq; omega
    rw [g q hq]
    by_cases w1 : q = p + 1
    · rw [if_pos w1, w1]; exact d4
    · rw [if_neg w1]
      by_cases w2 : q = p
      · rw [if_pos w2, w2, d3 p (by omega), ← dk p h, R.idx p h, hl]
      · rw [if_neg w2]
        by_cases w3 : q < p
        · rw [dif_pos w3, d3 q (by omega), ← dk q (by omega), R.idx q (by omega)]
        · rw [dif_neg w3, d5 q (by omega) (by omega), ← dk (q - 1) (by omega), R.idx (q - 1) (by omega)]
  · have hq' : q < T.length + 1 := by rw [List.length_insertIdx_of_le_length (by omega)] at hq; omega
    rw [g q hq, dl]
    by_cases w1 : q = p + 1
    · simp only [if_pos w1, if_true, List.length_drop, h4]; rfl
    · simp only [if_neg w1]
      by_cases w2 : q = p
      · simp only [if_pos w2, if_neg lne, if_true, List.length_take, h4]; rfl
      · simp only [if_neg w2]
        by_cases w3 : q < p
        · simp only [dif_pos w3]
          rw [if_neg (hne q (by omega)), if_neg (fun z => w2 (R.inj (by omega) h (z.trans hl.symm))), R.len q (by omega)]
        · simp only [dif_neg w3]
          rw [if_neg (hne (q - 1) (by omega)), if_neg (fun z => absurd (R.inj (by omega) h (z.trans hl.symm)) (by omega)), R.len (q - 1) (by omega)]
  · have hq' : q < T.length + 1 := by rw [List.length_insertIdx_of_le_length (by omega)] at hq; omega
    rw [g q hq]
    by_cases w1 : q = p + 1
    · simp only [if_pos w1, List.length_drop, h4]; omega
    · simp only [if_neg w1]
      by_cases w2 : q = p
      · simp only [if_pos w2, List.length_take, h4]; omega
      · simp only [if_neg w2]
        by_cases w3 : q < p
        · simp only [dif_pos w3]; exact R.l4 q (by omega)
        · simp only [dif_neg w3]; exact R.l4 (q - 1) (by omega)
  · have hq' : q < T.length + 1 := by rw [List.length_insertIdx_of_le_length (by omega)] at hq; omega
    have key : own_sl m4 ((T1.insertIdx (p + 1) (nl, T[p].2.drop 2))[q].1 * 4 + s) = (T1.insertIdx (p + 1) (nl, T[p].2.drop 2))[q].2[s] := by
      have gq := g q hq
      generalize (T1.insertIdx (p + 1) (nl, T[p].2.drop 2))[q] = y at *
      rw [ds]
      by_cases w1 : q = p + 1
      · rw [if_pos w1] at gq
        subst gq
        simp only [List.length_drop, h4] at hs
        simp only [List.getElem_drop]
        have : s = 0 ∨ s = 1 := by omega
        rcases this with rfl | rfl
        · rw [if_pos (by omega), src 2 (by omega)]
        · rw [if_neg (by omega), if_pos (by omega), src 3 (by omega)]
      · rw [if_neg w1] at gq
        by_cases w2 : q = p
        · rw [if_pos w2] at gq
          subst gq
          simp only [List.length_take, h4] at hs
          simp only [List.getElem_take]
          rw [if_neg (by omega), if_neg (by omega), src s (by omega)]
        · rw [if_neg w2] at gq
          by_cases w3 : q < p
          · rw [dif_pos w3] at gq
            subst gq
            have := hne q (by omega)
            have := R.l4 q (by omega)
            rw [if_neg (by omega), if_neg (by omega)]
            exact R.sl (by omega) hs
          · rw [dif_neg w3] at gq
            subst gq
            have := hne (q - 1) (by omega)
            have := R.l4 (q - 1) (by omega)
            rw [if_neg (by omega), if_neg (by omega)]
            exact R.sl (by omega) hs
    unfold own_sl at key
    rw [← key]
    exact ⟨rfl, rfl, rfl⟩
  · rw [d1' _ _ (by decide) (fun z => absurd z.2 (by decide)) (by decide), c1 _ _ (by decide) (by decide) (by decide)]; exact a2
  · rw [d1' _ _ (by decide) (fun z => absurd z.1 (by decide)) (by decide), c1 _ _ (by decide) (by decide) (by decide), a1 _ _ (fun z => absurd z.1 (by decide)) (fun z => absurd z.1 (by decide)), R.fs k (by simp; omega)]
    rw [List.getElem_append_left hk]

theorem own_spl_get {T : own_Tr} {p l nl : Nat} {a b : List own_Ent} (h : p < T.length) : ∀ q (hq : q < ((T.set p (l, a)).insertIdx (p + 1) (nl, b)).length),
    (q = p + 1 → ((T.set p (l, a)).insertIdx (p + 1) (nl, b))[q] = (nl, b)) ∧ (q = p → ((T.set p (l, a)).insertIdx (p + 1) (nl, b))[q] = (l, a)) ∧ (∀ (hh : q < p), ((T.set p (l, a)).insertIdx (p + 1) (nl, b))[q] = T[q]'(by omega)) ∧ (∀ (_ : p + 1 < q) (h'' : q - 1 < T.length), ((T.set p (l, a)).insertIdx (p + 1) (nl, b))[q] = T[q - 1]) := by
  intro q hq
  rw [List.getElem_insertIdx]
  refine ⟨fun w => ?_, fun w => ?_, fun w => ?_, fun w h'' => ?_⟩
  · rw [dif_neg (by omega), dif_pos w]
  · subst w; rw [dif_pos (by omega)]; simp
  · rw [dif_pos (by omega), List.getElem_set_ne (by omega)]
  · rw [dif_neg (by omega), dif_neg (by omega), List.getElem_set_ne (by omega)]
theorem own_insApp {α : Type} (y z : α) (B : List α) : ∀ A : List α, (A ++ y :: B).insertIdx (A.length + 1) z = A ++ y :: z :: B
  | [] => rfl
  | a :: A => by
    rw [List.cons_append, List.length_cons, List.insertIdx_succ_cons, own_insApp y z B A]; rfl
theorem own_spl_fl {T : own_Tr} {p l nl : Nat} {a b : List own_Ent} (h : p < T.length) (e : a ++ b = T[p].2) : own_fl ((T.set p (l, a)).insertIdx (p + 1) (nl, b)) = own_fl T := by
  rw [List.set_eq_take_append_cons_drop, if_pos h]
  have hl : (T.take p).length = p := by simp; omega
  have := own_insApp (l, a) (nl, b) (T.drop (p + 1)) (T.take p)
  rw [hl] at this
  rw [this, own_fl_at h]
  simp only [own_fl, List.flatMap_append, List.flatMap_cons, ← e, List.append_assoc]
theorem own_fl_ge {T : own_Tr} (h : ∀ p (hp : p < T.length), 0 < T[p].2.length) : T.length ≤ (own_fl T).length := by
  induction T with
  | nil => simp
  | cons a T ih =>
    have := ih (fun p hp => h (p + 1) (by simp; omega))
    have h0 := h 0 (by simp)
    simp [own_fl] at *
    omega
theorem own_fl_ge4 {T : own_Tr} (h : ∀ p (hp : p < T.length), 0 < T[p].2.length) {p : Nat} (hp : p < T.length) (h4 : T[p].2.length = 4) : T.length + 3 ≤ (own_fl T).length := by
  rw [own_fl_at hp]
  have a := own_fl_ge (T := T.take p) (fun q hq => by simp at hq ⊢; exact h q (by omega))
  have b := own_fl_ge (T := T.drop (p + 1)) (fun q hq => by simp at hq ⊢; exact h (p + 1 + q) (by omega))
  simp at a b ⊢
  omega
theorem own_Sd_ins {A B : List own_Ent} {e : own_Ent} (S : own_Sd (A ++ B)) (h1 : ∀ a ∈ A, a.1 < e.1) (h2 : ∀ b ∈ B, e.1 < b.1) : own_Sd (A ++ e :: B) := by
  unfold own_Sd at *
  rw [List.pairwise_append] at S ⊢
  refine ⟨S.1, List.pairwise_cons.mpr ⟨h2, S.2.1⟩, fun a ha b hb => ?_⟩
  rcases List.mem_cons.mp hb with rfl | hb
  · exact h1 a ha
  · exact S.2.2 a ha b hb
/-- only other fields of the directory have changed -/
theorem own_R.fr {mi m : Nat → Nat → Int32} {T : own_Tr} {fr : List Nat} (R : own_R mi T fr) (f : ∀ b k, (b = 1 → k = 40 ∨ k = 42) → m b k = mi b k) : own_R m T fr := by
  refine ⟨?_, fun p h => ?_, fun p h => ?_, R.l4, fun p h s hs => ?_, ?_, fun k h => ?_, R.nd, R.lt, R.tot⟩
  · rw [f _ _ (fun _ => Or.inl rfl)]; exact R.nl
  · rw [f _ _ (fun w => absurd w (by decide))]; exact R.idx p h
  · rw [f _ _ (fun w => absurd w (by decide))]; exact R.len p h
  · rw [f _ _ (fun w => absurd w (by decide)), f _ _ (fun w => absurd w (by decide)), f _ _ (fun w => absurd w (by decide))]; exact R.ent p h s hs
  · rw [f _ _ (fun _ => Or.inr rfl)]; exact R.ft
  · rw [f _ _ (fun w => absurd w (by decide))]; exact R.fs k h
/-- the end of insert: the leaf p has room and is where x belongs -/
theorem own_ins116 {m : Nat → Nat → Int32} {T : own_Tr} {fr : List Nat} {E : List own_Ent} {sd : Int32} {cp : Nat} {op ck : Nat → Int32} (R : own_R m T fr) (hE : own_fl T = E) (srt : own_Sd E) (gd : ∀ e ∈ E, own_G sd e) (hsz : m 1 38 = Int32.ofNat E.length) (hcap : m 1 36 = Int32.ofNat cp) (cp32 : cp ≤ 32) (ecp : E.length < cp) (hsd : m 1 34 = sd)
    (hop : ∀ k, k < 4 → m 8 k = op k) (hck : ∀ k, k < 4 → m 9 k = ck k) {Q : Option Value → EMem → Prop} (x nm ino x5 : Int32) (ml : Nat → Nat → Int64) (G : own_G sd (x, nm, ino)) {p : Nat} (h : p < T.length) (h4 : T[p].2.length < 4)
    (ne : ∀ q (hq : q < T.length), q ≠ p → 0 < T[q].2.length) (lo : ∀ q (hq : q < T.length) s (hs : s < T[q].2.length), q < p → (T[q].2[s]).1 < x) (hi : ∀ q (hq : q < T.length) s (hs : s < T[q].2.length), p < q → x < (T[q].2[s]).1) (no : ∀ e ∈ E, ¬ e.1 = x)
    (K : ∀ m' T' fr' A B, E = A ++ B → (∀ a ∈ A, a.1 < x) → (∀ b ∈ B, x < b.1) → own_D m' T' fr' (A ++ (x, nm, ino) :: B) sd cp op ck → Q (some (.int 0)) ((LL1 n), m', ml, RR1)) :
    W_insert 116 [.val (.ref 1), .val (.int nm), .val (.int ino), .val (.int x), .val (.int (Int32.ofNat p)), .val (.int x5)] [] ((LL1 n), m, ml, RR1) Q := by
  have t32 := R.tot
  have S : own_Sd (own_fl T) := by rw [hE]; exact srt
  refine L_insert_116 (own_Ninb (by omega) (by omega)) ?_
  rw [own_Nc (by omega), R.idx p h]
  refine R.iil x nm ino ml h h4 (fun m1 j hj f1 R1 g1 g2 => ?_)
  refine L_insert_130 ?_
  have e1 : m1 1 38 = Int32.ofNat E.length := by rw [f1 _ _ (by decide) (by decide) (by decide) (by decide)]; exact hsz
  rw [e1, own_Nadd1]
  have noL : ∀ s (hs : s < T[p].2.length), ¬ (T[p].2[s]).1 = x := fun s hs => no _ (by rw [← hE, own_fl_mem]; exact ⟨p, h, s, hs, rfl⟩)
  have mA : ∀ a ∈ own_fl (T.take p) ++ T[p].2.take j, a.1 < x := by
    intro a ha
    rcases List.mem_append.mp ha with ha | ha
    · rw [own_fl_mem] at ha
      obtain ⟨q, hq, s, hs, rfl⟩ := ha
      simp at hq hs ⊢
      exact lo q (by omega) s hs (by omega)
    · obtain ⟨s, hs, rfl⟩ := List.getElem_of_mem ha
      simp at hs ⊢
      have a1 := g2 (by omega) (by omega)
      by_cases w : s = j - 1
      · subst w; exact a1
      · exact Int32.lt_trans (own_srt S h h (by omega) (by omega) (Or.inr ⟨rfl, by omega⟩)) a1
  have mB : ∀ b ∈ T[p].2.drop j ++ own_fl (T.drop (p + 1)), x < b.1 := by
    intro b hb
    rcases List.mem_append.mp hb with hb | hb
    · obtain ⟨s, hs, rfl⟩ := List.getElem_of_mem hb
      simp at hs ⊢
      have a1 := g1 (j + s) (by omega) (by omega)
      have a2 := noL (j + s) (by omega)
      rw [Int32.lt_iff_toInt_lt] at *
      have : (T[p].2[j + s]).1.toInt ≠ x.toInt := fun z => a2 (Int32.toInt_inj.mp z)
      omega
    · rw [own_fl_mem] at hb
      obtain ⟨q, hq, s, hs, rfl⟩ := hb
      simp at hq hs ⊢
      exact hi (p + 1 + q) (by omega) s hs (by omega)
  have eE : E = (own_fl (T.take p) ++ T[p].2.take j) ++ (T[p].2.drop j ++ own_fl (T.drop (p + 1))) := by
    rw [← hE, own_fl_at h]
    conv => lhs; rw [← List.take_append_drop j T[p].2]
    simp only [List.append_assoc]
  refine K _ _ fr _ _ eE mA mB ⟨R1.fr (fun b k hb => ?_), ?_, fun q hq => ?_, own_Sd_ins (by rw [← eE]; exact srt) mA mB, fun e he => ?_, ?_, ?_, cp32, ?_, ?_, fun k hk => ?_, fun k hk => ?_⟩
  · rw [up_at, if_neg (fun z => by rcases hb z.1 with w | w <;> rw [w] at z <;> exact absurd z.2 (by decide))]
  · rw [own_fl_set h]; simp
  · rw [List.getElem_set]
    by_cases w : p = q
    · rw [if_pos w]; simp; omega
    · rw [if_neg w]; exact ne q (by simpa using hq) (fun z => w z.symm)
  · rcases List.mem_append.mp he with he | he
    · exact gd e (by rw [eE]; exact List.mem_append_left _ he)
    · rcases List.mem_cons.mp he with rfl | he
      · exact G
      · exact gd e (by rw [eE]; exact List.mem_append_right _ he)
  · rw [up_eq]; congr 1; rw [eE]; simp; omega
  · rw [up_ne' (by decide), f1 _ _ (by decide) (by decide) (by decide) (by decide)]; exact hcap
  · have : E.length = ((own_fl (T.take p) ++ T[p].2.take j) ++ (T[p].2.drop j ++ own_fl (T.drop (p + 1)))).length := congrArg List.length eE
    simp only [List.length_append, List.length_cons] at this ⊢
    omega
  · rw [up_ne' (by decide), f1 _ _ (by decide) (by decide) (by decide) (by decide)]; exact hsd
  · rw [up_ne (by decide), f1 _ _ (by decide) (by decide) (by decide) (by decide)]; exact hop k hk
  · rw [up_ne (by decide), f1 _ _ (by decide) (by decide) (by decide) (by decide)]; exact hck k hk
theorem own_insSplit {mi : Nat → Nat → Int32} {T : own_Tr} {fr : List Nat} {E : List own_Ent} {sd : Int32} {cp : Nat} {op ck : Nat → Int32} (D : own_D mi T fr E sd cp op ck) {Q : Option Value → EMem → Prop} (x nm ino x5 : Int32) (ml : Nat → Nat → Int64) (G : own_G sd (x, nm, ino)) {p : Nat} (h : p < T.length) (h4 : T[p].2.length = 4) (ecp : E.length < cp)
    (lo : ∀ q (hq : q < T.length) s (hs : s < T[q].2.length), q < p → (T[q].2[s]).1 < x) (hi : ∀ q (hq : q < T.length) s (hs : s < T[q].2.length), p < q → x < (T[q].2[s]).1) (no : ∀ e ∈ E, ¬ e.1 = x)
    (K : ∀ m' T' fr' A B, E = A ++ B → (∀ a ∈ A, a.1 < x) → (∀ b ∈ B, x < b.1) → own_D m' T' fr' (A ++ (x, nm, ino) :: B) sd cp op ck → Q (some (.int 0)) ((LL1 n), m', ml, RR1)) :
    W_splitLeaf 0 [.val (.ref 1), .val (.int (Int32.ofNat p)), .val (.int x), .unset, .unset, .unset, .unset, .unset] [] ((LL1 n), mi, ml, RR1) (fun v M' => W_insert 114 [.val (.ref 1), .val (.int nm), .val (.int ino), .val (.int x), .val (.int (Int32.ofNat p)), .val (.int x5)] (v.toList ++ []) M' Q) := by
  have t32 := D.R.tot
  have c32 := D.cp32
  have big := own_fl_ge4 D.ne h h4
  rw [D.fl] at big
  have S : own_Sd (own_fl T) := by rw [D.fl]; exact D.srt
  have R := D.R
  obtain ⟨fr', nl, rfl⟩ : ∃ fr' nl, fr = fr' ++ [nl] := by
    rcases List.eq_nil_or_concat fr with w | ⟨a, b, w⟩
    · subst w; simp at t32; omega
    · exact ⟨a, b, by simpa using w⟩
  refine R.split x ml h h4 (fun m1 f1 R1 => ?_)
  have fl1 : own_fl ((T.set p (T[p].1, T[p].2.take 2)).insertIdx (p + 1) (nl, T[p].2.drop 2)) = E := by rw [own_spl_fl h (List.take_append_drop 2 _)]; exact D.fl
  have len1 : ((T.set p (T[p].1, T[p].2.take 2)).insertIdx (p + 1) (nl, T[p].2.drop 2)).length = T.length + 1 := by rw [List.length_insertIdx_of_le_length (by simp; omega)]; simp
  have g := own_spl_get (T := T) (p := p) (l := T[p].1) (nl := nl) (a := T[p].2.take 2) (b := T[p].2.drop 2) h
  generalize (T.set p (T[p].1, T[p].2.take 2)).insertIdx (p + 1) (nl, T[p].2.drop 2) = T1 at *
  have no2 : ¬ (T[p].2[2]).1 = x := no _ (by rw [← D.fl, own_fl_mem]; exact ⟨p, h, 2, by omega, rfl⟩)
  have ne1 : ∀ q (hq : q < T1.length), 0 < T1[q].2.length := by
    intro q hq
    obtain ⟨y1, y2, y3, y4⟩ := g q hq
    by_cases w1 : q = p + 1
    · rw [y1 w1]; simp [h4]
    · by_cases w2 : q = p
      · rw [y2 w2]; simp [h4]
      · by_cases w3 : q < p
        · rw [y3 w3]; exact D.ne q (by omega)
        · rw [y4 (by omega) (by omega)]; exact D.ne (q - 1) (by omega)
  refine L_insert_114 ?_
  by_cases w : (T[p].2[2]).1 < x
  · rw [if_pos w]
    have hp1 : p + 1 < T1.length := by omega
    have gp := (g (p + 1) hp1).1 rfl
    refine own_ins116 R1 fl1 D.srt D.gd ?_ ?_ c32 ecp ?_ (fun k hk => ?_) (fun k hk => ?_) x nm ino _ ml G hp1 (by rw [gp]; simp [h4]) (fun q hq _ => ne1 q hq) (fun q hq s hs hlt => ?_) (fun q hq s hs hlt => ?_) no K
    · rw [f1 _ _ (by decide) (by decide) (by decide) (by decide) (by decide) (fun z => by rcases z.2 with w | w <;> exact absurd w (by decide))]; exact D.size
    · rw [f1 _ _ (by decide) (by decide) (by decide) (by decide) (by decide) (fun z => by rcases z.2 with w | w <;> exact absurd w (by decide))]; exact D.cap
    · rw [f1 _ _ (by decide) (by decide) (by decide) (by decide) (by decide) (fun z => by rcases z.2 with w | w <;> exact absurd w (by decide))]; exact D.seed
    · rw [f1 _ _ (by decide) (by decide) (by decide) (by decide) (by decide) (fun z => absurd z.1 (by decide))]; exact D.op k hk
    · rw [f1 _ _ (by decide) (by decide) (by decide) (by decide) (by decide) (fun z => absurd z.1 (by decide))]; exact D.ck k hk
    · obtain ⟨y1, y2, y3, y4⟩ := g q hq
      by_cases w2 : q = p
      · have gq := y2 w2
        have hs' : s < (T[p].2.take 2).length := by rw [gq] at hs; exact hs
        have ge : T1[q].2[s] = (T[p].2.take 2)[s] := by simp only [gq]
        simp only [List.length_take, h4] at hs'
        rw [ge, List.getElem_take]
        exact Int32.lt_trans (own_srt S h h (by omega) (by omega) (Or.inr ⟨rfl, by omega⟩)) w
      · have gq := y3 (by omega)
        have hs' : s < (T[q]'(by omega)).2.length := by rw [gq] at hs; exact hs
        have ge : T1[q].2[s] = (T[q]'(by omega)).2[s] := by simp only [gq]
        rw [ge]; exact lo q (by omega) s hs' (by omega)
    · obtain ⟨y1, y2, y3, y4⟩ := g q hq
      have gq := y4 (by omega) (by omega)
      have hs' : s < (T[q - 1]'(by omega)).2.length := by rw [gq] at hs; exact hs
      have ge : T1[q].2[s] = (T[q - 1]'(by omega)).2[s] := by simp only [gq]
      rw [ge]; exact hi (q - 1) (by omega) s hs' (by omega)
  · rw [if_neg w]
    have w' : x < (T[p].2[2]).1 := by
      rw [Int32.lt_iff_toInt_lt] at *
      have : (T[p].2[2]).1.toInt ≠ x.toInt := fun z => no2 (Int32.toInt_inj.mp z)
      omega
    have hp1 : p < T1.length := by omega
    have gp := (g p hp1).2.1 rfl
    refine own_ins116 R1 fl1 D.srt D.gd ?_ ?_ c32 ecp ?_ (fun k hk => ?_) (fun k hk => ?_) x nm ino _ ml G hp1 (by rw [gp]; simp [h4]) (fun q hq _ => ne1 q hq) (fun q hq s hs hlt => ?_) (fun q hq s hs hlt => ?_) no K
    · rw [f1 _ _ (by decide) (by decide) (by decide) (by decide) (by decide) (fun z => by rcases z.2 with w | w <;> exact absurd w (by decide))]; exact D.size
    · rw [f1 _ _ (by decide) (by decide) (by decide) (by decide) (by decide) (fun z => by rcases z.2 with w | w <;> exact absurd w (by decide))]; exact D.cap
    · rw [f1 _ _ (by decide) (by decide) (by decide) (by decide) (by decide) (fun z => by rcases z.2 with w | w <;> exact absurd w (by decide))]; exact D.seed
    · rw [f1 _ _ (by decide) (by decide) (by decide) (by decide) (by decide) (fun z => absurd z.1 (by decide))]; exact D.op k hk
    · rw [f1 _ _ (by decide) (by decide) (by decide) (by decide) (by decide) (fun z => absurd z.1 (by decide))]; exact D.ck k hk
    · obtain ⟨y1, y2, y3, y4⟩ := g q hq
      have gq := y3 (by omega)
      have hs' : s < (T[q]'(by omega)).2.length := by rw [gq] at hs; exact hs
      have ge : T1[q].2[s] = (T[q]'(by omega)).2[s] := by simp only [gq]
      rw [ge]; exact lo q (by omega) s hs' (by omega)
    · obtain ⟨y1, y2, y3, y4⟩ := g q hq
      by_cases w1 : q = p + 1
      · have gq := y1 w1
        have hs' : s < (T[p].2.drop 2).length := by rw [gq] at hs; exact hs
        have ge : T1[q].2[s] = (T[p].2.drop 2)[s] := by simp only [gq]
        simp only [List.length_drop, h4] at hs'
        rw [ge, List.getElem_drop]
        by_cases u : s = 0
        · subst u; exact w'
        · exact Int32.lt_trans w' (own_srt S h h (by omega) (by omega) (Or.inr ⟨rfl, by omega⟩))
      · have gq := y4 (by omega) (by omega)
        have hs' : s < (T[q - 1]'(by omega)).2.length := by rw [gq] at hs; exact hs
        have ge : T1[q].2[s] = (T[q - 1]'(by omega)).2[s] := by simp only [gq]
        rw [ge]; exact hi (q - 1) (by omega) s hs' (by omega)
theorem own_D.insert {mi : Nat → Nat → Int32} {T : own_Tr} {fr : List Nat} {E : List own_Ent} {sd : Int32} {cp : Nat} {op ck : Nat → Int32} (D : own_D mi T fr E sd cp op ck) {Q : Option Value → EMem → Prop} (nm ino : Int32) (ml : Nat → Nat → Int64)
    (K4 : (nm < 0 ∨ 65535 < nm) → Q (some (.int 4)) ((LL1 n), mi, ml, RR1)) (K5 : ¬ (nm < 0 ∨ 65535 < nm) → ino < 1 → Q (some (.int 5)) ((LL1 n), mi, ml, RR1))
    (K1 : ¬ (nm < 0 ∨ 65535 < nm) → ¬ ino < 1 → ∀ e ∈ E, e.1 = own_hs sd nm → Q (some (.int 1)) ((LL1 n), mi, ml, RR1))
    (K2 : ¬ (nm < 0 ∨ 65535 < nm) → ¬ ino < 1 → (∀ e ∈ E, ¬ e.1 = own_hs sd nm) → E.length = cp → Q (some (.int 2)) ((LL1 n), mi, ml, RR1))
    (K0 : ¬ (nm < 0 ∨ 65535 < nm) → ¬ ino < 1 → (∀ e ∈ E, ¬ e.1 = own_hs sd nm) → E.length < cp → ∀ m' T' fr' A B, E = A ++ B → (∀ a ∈ A, a.1 < own_hs sd nm) → (∀ b ∈ B, own_hs sd nm < b.1) → own_D m' T' fr' (A ++ (own_hs sd nm, nm, ino) :: B) sd cp op ck → Q (some (.int 0)) ((LL1 n), m', ml, RR1)) :
    W_insert 0 [.val (.ref 1), .val (.int nm), .val (.int ino), .unset, .unset, .unset] [] ((LL1 n), mi, ml, RR1) Q := by
  have t32 := D.R.tot
  have c32 := D.cp32
  have ec := D.ecp
  refine L_insert_0 (fun v e h hi => ?_) (fun v e h hi => K5 (fun q => h ((own_name e).mpr q)) hi) (fun v e h => K4 ((own_name e).mp h))
  have hn : ¬ (nm < 0 ∨ 65535 < nm) := fun q => h ((own_name e).mpr q)
  refine S_hash ?_
  rw [D.seed]
  generalize hx : own_hs sd nm = x at *
  have G : own_G sd (x, nm, ino) := ⟨fun q => hn (Or.inl q), fun q => hn (Or.inr q), hx.symm, hi⟩
  refine L_insert_22 ?_
  refine D.locate x ml (fun hno => ?_) (fun p hp s hs he => ?_)
  · have K0' := K0 hn hi hno
    refine L_insert_28 (fun _ q1 q2 => ?_) (fun _ q1 q2 => ?_) (fun _ q => ?_) (fun q => absurd (by decide) q)
    · rw [D.size, D.cap, own_Nlt (by omega) (by omega)] at q1
      rw [D.R.nl] at q2
      have hN : 0 < T.length := by
        rcases Nat.eq_zero_or_pos T.length with w | w
        · rw [w] at q2; exact absurd rfl q2
        · exact w
      refine L_insert_62 ?_
      refine D.flp x ml hN (fun pos hp h1 h2 h3 => ?_)
      have l32 := D.R.l32 hp
      have l4 := D.R.l4 pos hp
      have el : mi 5 (mi 6 (Int32.ofNat pos).toNatClampNeg).toNatClampNeg = Int32.ofNat T[pos].2.length := by
        rw [own_Nc (by omega), D.R.idx pos hp, own_Nc (by omega), D.R.len pos hp]
      refine L_insert_67 (own_Ninb (by omega) (by omega)) ?_ (fun q => ?_) ?_ ?_ ?_
      · rw [own_Nc (by omega), D.R.idx pos hp]; exact own_Ninb (by omega) (by omega)
      · rw [el] at q
        have lt4 : T[pos].2.length < 4 := (own_Nlt (b := 4) (by omega) (by omega)).mp q
        exact own_ins116 D.R D.fl D.srt D.gd D.size D.cap c32 q1 D.seed D.op D.ck x nm ino _ ml G hp lt4 (fun q hq _ => D.ne q hq) h1 h3 hno (K0' q1)
      all_goals
        intro q
        rw [el] at q
        have l4' : T[pos].2.length = 4 := by
          by_cases w : T[pos].2.length < 4
          · exact absurd ((own_Nlt (b := 4) (by omega) (by omega)).mpr w) q
          · omega
        have big := own_fl_ge4 D.ne hp l4'
        rw [D.fl] at big
      · intro w
        exfalso
        rw [D.R.ft] at w
        exact w ((own_Nlt (a := 0) (by omega) (by omega)).mpr (by omega))
      · intro _ _
        exact own_insSplit D x nm ino _ ml G hp l4' q1 h1 h3 hno (K0' q1)
      · intro _ w
        exfalso
        rw [D.R.nl] at w
        exact w ((own_Nlt (b := 32) (by omega) (by omega)).mpr (by omega))
    · rw [D.size, D.cap, own_Nlt (by omega) (by omega)] at q1
      rw [D.R.nl] at q2
      have hN : T.length = 0 := own_Ninj (b := 0) (by omega) (by omega) q2
      have hT : T = [] := List.eq_nil_of_length_eq_zero hN
      have hE : E = [] := by rw [← D.fl, hT]; rfl
      subst hT
      subst hE
      have R := D.R
      obtain ⟨fr', nl, rfl⟩ : ∃ fr' nl, fr = fr' ++ [nl] := by
        rcases List.eq_nil_or_concat fr with w | ⟨a, b, w⟩
        · subst w; simp at t32
        · exact ⟨a, b, by simpa using w⟩
      refine L_createFirstLeaf_0 ?_
      refine R.alloc ml (fun m1 a1 a2 a3 => ?_)
      have n32 : nl < 32 := R.lt _ (by simp)
      simp at t32
      refine L_createFirstLeaf_4 (fun _ => ?_) (fun w => absurd w (own_Nnn (by omega)))
      refine L_insert_57 (fun _ => ?_) (fun w => absurd w (by decide))
      refine L_insert_62 ?_
      have f1 : ∀ b k, ¬ (b = 1 ∧ (k = 42 ∨ k = 40)) → b ≠ 5 → b ≠ 6 → (up (up m1 6 0 (Int32.ofNat nl)) 1 40 1) b k = mi b k := fun b k h1 h2 h3 => by
        rw [up_at, if_neg (fun z => h1 ⟨z.1, Or.inr z.2⟩), up_ne h3, a1 _ _ (fun z => h1 ⟨z.1, Or.inl z.2⟩) (fun z => h2 z.1)]
      have R1 : own_R (up (up m1 6 0 (Int32.ofNat nl)) 1 40 1) [(nl, [])] fr' := by
        obtain ⟨n1, n2, n3⟩ := own_perm (T' := [(nl, [])]) (fr' := fr') (by simpa using (List.perm_append_singleton nl fr').symm) R
        refine ⟨?_, fun q hq => ?_, fun q hq => ?_, fun q hq => ?_, fun q hq s hs => ?_, ?_, fun k hk => ?_, n1, n2, n3⟩
        · rw [up_eq]; rfl
        · have : q = 0 := by simp at hq; exact hq
          subst this
          rw [up_ne (by decide), up_eq]; rfl
        · have : q = 0 := by simp at hq; exact hq
          subst this
          rw [up_ne (by decide), up_ne (by decide)]; exact a3
        · have : q = 0 := by simp at hq; exact hq
          subst this; simp
        · have : q = 0 := by simp at hq; exact hq
          subst this; simp at hs
        · rw [up_ne' (by decide), up_ne (by decide)]; exact a2
        · rw [f1 _ _ (fun z => absurd z.1 (by decide)) (by decide) (by decide), R.fs k (by simp; omega), List.getElem_append_left hk]
      refine own_findLeafPos x _ ml _ fr' R1 (fun _ => (up (up m1 6 0 (Int32.ofNat nl)) 1 40 1) 2 (nl * 4)) (fun p hp => ?_) (fun p q hpq hq => ?_) (by simp) (fun pos hp _ _ => ?_)
      · have : p = 0 := by simp at hp; exact hp
        subst this; rfl
      · simp at hq; omega
      · have : pos = 0 := by simp at hp; exact hp
        subst this
        have i0 : (up (up m1 6 0 (Int32.ofNat nl)) 1 40 1) 6 (Int32.ofNat 0).toNatClampNeg = Int32.ofNat nl := by
          rw [own_Nc (by omega)]; exact R1.idx 0 (by simp)
        have l0 : (up (up m1 6 0 (Int32.ofNat nl)) 1 40 1) 5 ((up (up m1 6 0 (Int32.ofNat nl)) 1 40 1) 6 (Int32.ofNat 0).toNatClampNeg).toNatClampNeg = 0 := by
          rw [i0, own_Nc (by omega)]; exact R1.len 0 (by simp)
        refine L_insert_67 (by decide) (by rw [i0]; exact own_Ninb n32 (by omega)) (fun _ => ?_) (fun w => absurd (by rw [l0]; decide) w) (fun w => absurd (by rw [l0]; decide) w) (fun w => absurd (by rw [l0]; decide) w)
        refine own_ins116 (E := []) (p := 0) R1 rfl D.srt D.gd ?_ ?_ c32 q1 ?_ (fun k hk => ?_) (fun k hk => ?_) x nm ino _ ml G (by simp) (by simp) (fun q hq hne => absurd (by simp at hq; exact hq) hne) (fun q hq s hs hlt => by omega) (fun q hq s hs hlt => by simp at hq; omega) hno (K0' q1)
        · rw [f1 _ _ (fun z => by rcases z.2 with w | w <;> exact absurd w (by decide)) (by decide) (by decide)]; exact D.size
        · rw [f1 _ _ (fun z => by rcases z.2 with w | w <;> exact absurd w (by decide)) (by decide) (by decide)]; exact D.cap
        · rw [f1 _ _ (fun z => by rcases z.2 with w | w <;> exact absurd w (by decide)) (by decide) (by decide)]; exact D.seed
        · rw [f1 _ _ (fun z => absurd z.1 (by decide)) (by decide) (by decide)]; exact D.op k hk
        · rw [f1 _ _ (fun z => absurd z.1 (by decide)) (by decide) (by decide)]; exact D.ck k hk
    · rw [D.size, D.cap, own_Nlt (by omega) (by omega)] at q
      exact K2 hn hi hno (by omega)
  · refine L_insert_28 (fun q => absurd q (own_Nnn (by have := D.R.l4 p hp; omega))) (fun q => absurd q (own_Nnn (by have := D.R.l4 p hp; omega))) (fun q => absurd q (own_Nnn (by have := D.R.l4 p hp; omega))) (fun _ => K1 hn hi _ (by rw [← D.fl, own_fl_mem]; exact ⟨p, hp, s, hs, rfl⟩) he)

theorem own_del1 {Q : Option Value → EMem → Prop} (x2 : Int32) (mi : Nat → Nat → Int32) (ml : Nat → Nat → Int64) (l : Nat) (l32 : l < 32) (es : List own_Ent) (h4 : es.length ≤ 4) (h0 : 0 < es.length) (t : Nat) (ht : t < es.length)
    (K : ∀ m x5, (∀ b k, b ≠ 2 → b ≠ 3 → b ≠ 4 → m b k = mi b k) → (∀ k, (k < l * 4 ∨ l * 4 + 4 ≤ k) → own_sl m k = own_sl mi k) → (∀ s, s + 1 < es.length → own_sl m (l * 4 + s) = if s < t then own_sl mi (l * 4 + s) else own_sl mi (l * 4 + s + 1)) →
      W_deleteFromLeaf 65 [.val (.ref 1), .val (.int (Int32.ofNat l)), .val (.int x2), .val (.int (Int32.ofNat es.length)), .val (.int (Int32.ofNat (l * 4))), .val (.int x5)] [] ((LL1 n), m, ml, RR1) Q) :
    ∀ (f j : Nat) (m : Nat → Nat → Int32), j + f = es.length - 1 → t ≤ j → (∀ b k, b ≠ 2 → b ≠ 3 → b ≠ 4 → m b k = mi b k) → (∀ k, (k < l * 4 ∨ l * 4 + 4 ≤ k) → own_sl m k = own_sl mi k) → (∀ s, s < j → own_sl m (l * 4 + s) = if s < t then own_sl mi (l * 4 + s) else own_sl mi (l * 4 + s + 1)) → (∀ s, j ≤ s → own_sl m (l * 4 + s) = own_sl mi (l * 4 + s)) →
    W_deleteFromLeaf 29 [.val (.ref 1), .val (.int (Int32.ofNat l)), .val (.int x2), .val (.int (Int32.ofNat es.length)), .val (.int (Int32.ofNat (l * 4))), .val (.int (Int32.ofNat j))] [] ((LL1 n), m, ml, RR1) Q := by
  have e1 : Int32.ofNat es.length - 1 = Int32.ofNat (es.length - 1) := own_Nsub1 h0 (by omega)
  intro f
  induction f with
  | zero =>
    intro j m hf htj f1 f2 f3 f4
    have : j = es.length - 1 := by omega
    subst this
    have ir : ¬ Int32.ofNat (es.length - 1) < Int32.ofNat es.length - 1 := by rw [e1]; exact Int32.lt_irrefl
    exact L_deleteFromLeaf_29 (fun _ => K m _ f1 f2 (fun s hs => f3 s (by omega))) (fun h => absurd h ir) (fun h => absurd h ir) (fun h => absurd h ir) (fun h => absurd h ir)
  | succ f ih =>
    intro j m hf htj f1 f2 f3 f4
    have lt : Int32.ofNat j < Int32.ofNat es.length - 1 := by rw [e1]; exact (own_Nlt (by omega) (by omega)).mpr (by omega)
    have lt3 : Int32.ofNat j < 3 := (own_Nlt (b := 3) (by omega) (by omega)).mpr (by omega)
    have i0 : Int32.ofNat (l * 4) + Int32.ofNat j = Int32.ofNat (l * 4 + j) := own_Nadd _ _
    have i1 : Int32.ofNat (l * 4) + Int32.ofNat j + 1 = Int32.ofNat (l * 4 + j + 1) := by rw [i0, own_Nadd1]
    refine L_deleteFromLeaf_29 (fun h => absurd lt h) (fun _ h => absurd lt3 h) (fun _ _ => by rw [i1]; exact own_Ninb (by omega) (by omega)) (fun _ _ => by rw [i0]; exact own_Ninb (by omega) (by omega)) (fun _ _ => ?_)
    rw [i1, i0, own_Nc (by omega), own_Nc (by omega), own_Nadd1]
    refine ih (j + 1) _ (by omega) (by omega) (fun b k h1 h2 h3 => ?_) (fun k hk => ?_) (fun s hs => ?_) (fun s hs => ?_)
    · rw [own_ar_copy _ _ _ h1 h2 h3]; exact f1 b k h1 h2 h3
    · rw [own_sl_copy, if_neg (by omega)]; exact f2 k hk
    · rw [own_sl_copy]
      by_cases q : s = j
      · subst q
        rw [if_pos rfl, if_neg (by omega)]; exact f4 (s + 1) (by omega)
      · rw [if_neg (by omega)]; exact f3 s (by omega)
    · rw [own_sl_copy, if_neg (by omega)]; exact f4 s (by omega)
/-- an entry is taken out of its leaf -/
theorem own_R.del {mi : Nat → Nat → Int32} {T : own_Tr} {fr : List Nat} (R : own_R mi T fr) {Q : Option Value → EMem → Prop} (ml : Nat → Nat → Int64) {p t : Nat} (h : p < T.length) (ht : t < T[p].2.length)
    (K : ∀ m, (∀ b k, b ≠ 2 → b ≠ 3 → b ≠ 4 → b ≠ 5 → m b k = mi b k) → own_R m (T.set p (T[p].1, T[p].2.eraseIdx t)) fr → Q none ((LL1 n), m, ml, RR1)) :
    W_deleteFromLeaf 0 [.val (.ref 1), .val (.int (Int32.ofNat T[p].1)), .val (.int (Int32.ofNat t)), .unset, .unset, .unset] [] ((LL1 n), mi, ml, RR1) Q := by
  have l32 := R.l32 h
  have l4 := R.l4 p h
  have el : mi 5 (Int32.ofNat T[p].1).toNatClampNeg = Int32.ofNat T[p].2.length := by rw [own_Nc (by omega), R.len p h]
  refine L_deleteFromLeaf_0 (own_Ninb l32 (by omega)) (fun q => absurd (by rw [el]; exact (own_Nlt (a := 0) (by omega) (by omega)).mpr (by omega)) q) (fun _ q => absurd q (own_Nnn (by omega))) (fun _ _ _ => ?_) (fun _ _ q => absurd (by rw [el]; exact (own_Nlt (by omega) (by omega)).mpr ht) q)
  rw [el, own_Nmul4]
  refine own_del1 _ mi ml T[p].1 l32 T[p].2 l4 (by omega) t ht ?_ (T[p].2.length - 1 - t) t mi (by omega) (Nat.le_refl _) (fun _ _ _ _ _ => rfl) (fun _ _ => rfl) (fun s hs => by rw [if_pos hs]) (fun _ _ => rfl)
  intro m x5 f1 f2 f3
  refine L_deleteFromLeaf_65 (own_Ninb l32 (by omega)) ?_
  rw [own_Nc (by omega), own_Nsub1 (by omega) (by omega)]
  have fe : ∀ b k, b ≠ 2 → b ≠ 3 → b ≠ 4 → b ≠ 5 → (up m 5 T[p].1 (Int32.ofNat (T[p].2.length - 1))) b k = mi b k := fun b k h1 h2 h3 h5 => by rw [up_ne h5]; exact f1 b k h1 h2 h3
  have fs : ∀ k, own_sl (up m 5 T[p].1 (Int32.ofNat (T[p].2.length - 1))) k = own_sl m k := fun k => by
    unfold own_sl
    rw [up_ne (by decide), up_ne (by decide), up_ne (by decide)]
  have le : (T[p].2.eraseIdx t).length = T[p].2.length - 1 := by rw [List.length_eraseIdx, if_pos ht]
  refine K _ fe (R.upd h _ (by omega) (fun b k h1 h2 h3 h5 _ => fe b k h1 h2 h3 h5) (fun k hk => ?_) ?_ (fun k hk => ?_) (fun s hs => ?_))
  · rw [up_at, if_neg (fun z => hk z.2)]; exact f1 _ _ (by decide) (by decide) (by decide)
  · rw [up_eq, le]
  · rw [fs]; exact f2 k hk
  · rw [le] at hs
    rw [fs, f3 s (by omega), List.getElem_eraseIdx]
    by_cases q : s < t
    · rw [if_pos q, dif_pos q]; exact R.sl h (by omega)
    · rw [if_neg q, dif_neg q]; exact R.sl h (s := s + 1) (by omega)
theorem own_ir1 {Q : Option Value → EMem → Prop} (x1 : Int32) (mi : Nat → Nat → Int32) (ml : Nat → Nat → Int64) (N a : Nat) (hN : N ≤ 32) (ha : a < N) (hn : mi 1 40 = Int32.ofNat N)
    (K : ∀ m, (∀ b k, b ≠ 6 → ¬ (b = 1 ∧ k = 40) → m b k = mi b k) → m 1 40 = Int32.ofNat (N - 1) → (∀ k, k < a → m 6 k = mi 6 k) → (∀ k, a ≤ k → k + 1 < N → m 6 k = mi 6 (k + 1)) → Q none ((LL1 n), m, ml, RR1)) :
    ∀ (f i : Nat) (m : Nat → Nat → Int32), i + f = N - 1 → a ≤ i → (∀ b k, b ≠ 6 → m b k = mi b k) → (∀ k, k < a → m 6 k = mi 6 k) → (∀ k, a ≤ k → k < i → m 6 k = mi 6 (k + 1)) → (∀ k, i ≤ k → m 6 k = mi 6 k) →
    W_indexRemove 15 [.val (.ref 1), .val (.int x1), .val (.int (Int32.ofNat i))] [] ((LL1 n), m, ml, RR1) Q := by
  have e1 : Int32.ofNat N - 1 = Int32.ofNat (N - 1) := own_Nsub1 (by omega) (by omega)
  intro f
  induction f with
  | zero =>
    intro i m hf hai f1 f2 f3 f4
    have hnm : m 1 40 = Int32.ofNat N := by rw [f1 _ _ (by decide)]; exact hn
    have : i = N - 1 := by omega
    subst this
    have ir : ¬ Int32.ofNat (N - 1) < m 1 40 - 1 := by rw [hnm, e1]; exact Int32.lt_irrefl
    refine L_indexRemove_15 (fun _ => ?_) (fun h => absurd h ir) (fun h => absurd h ir) (fun h => absurd h ir) (fun h => absurd h ir)
    refine L_indexRemove_51 ?_
    rw [hnm, e1]
    refine K _ (fun b k h1 h2 => ?_) rfl (fun k hk => ?_) (fun k hk hk2 => ?_)
    · rw [up_at, if_neg h2]; exact f1 b k h1
    · rw [up_ne (by decide)]; exact f2 k hk
    · rw [up_ne (by decide)]; exact f3 k hk (by omega)
  | succ f ih =>
    intro i m hf hai f1 f2 f3 f4
    have hnm : m 1 40 = Int32.ofNat N := by rw [f1 _ _ (by decide)]; exact hn
    have lt : Int32.ofNat i < m 1 40 - 1 := by rw [hnm, e1]; exact (own_Nlt (by omega) (by omega)).mpr (by omega)
    have lt31 : Int32.ofNat i < 31 := (own_Nlt (b := 31) (by omega) (by omega)).mpr (by omega)
    refine L_indexRemove_15 (fun h => absurd lt h) (fun _ h => absurd lt31 h) (fun _ _ => by rw [own_Nadd1]; exact own_Ninb (by omega) (by omega)) (fun _ _ => own_Ninb (by omega) (by omega)) (fun _ _ => ?_)
    rw [own_Nadd1, own_Nc (by omega), own_Nc (by omega)]
    refine ih (i + 1) _ (by omega) (by omega) (fun b k h1 => ?_) (fun k hk => ?_) (fun k hk hk2 => ?_) (fun k hk => ?_)
    · rw [up_ne h1]; exact f1 b k h1
    · rw [up_at, if_neg (by omega)]; exact f2 k hk
    · rw [up_at]
      by_cases q : k = i
      · subst q; rw [if_pos ⟨rfl, rfl⟩]; exact f4 _ (by omega)
      · rw [if_neg (fun z => q z.2)]; exact f3 k hk (by omega)
    · rw [up_at, if_neg (by omega)]; exact f4 k (by omega)
theorem own_indexRemove {Q : Option Value → EMem → Prop} (mi : Nat → Nat → Int32) (ml : Nat → Nat → Int64) (N a : Nat) (hN : N ≤ 32) (ha : a < N) (hn : mi 1 40 = Int32.ofNat N)
    (K : ∀ m, (∀ b k, b ≠ 6 → ¬ (b = 1 ∧ k = 40) → m b k = mi b k) → m 1 40 = Int32.ofNat (N - 1) → (∀ k, k < a → m 6 k = mi 6 k) → (∀ k, a ≤ k → k + 1 < N → m 6 k = mi 6 (k + 1)) → Q none ((LL1 n), m, ml, RR1)) :
    W_indexRemove 0 [.val (.ref 1), .val (.int (Int32.ofNat a)), .unset] [] ((LL1 n), mi, ml, RR1) Q := by
  refine L_indexRemove_0 (fun h => absurd h (own_Nnn (by omega))) (fun _ _ => ?_) (fun _ h => absurd (by rw [hn]; exact (own_Nlt (by omega) (by omega)).mpr ha) h)
  exact own_ir1 _ mi ml N a hN ha hn K (N - 1 - a) a mi (by omega) (Nat.le_refl _) (fun _ _ _ => rfl) (fun _ _ => rfl) (fun k h1 h2 => by omega) (fun _ _ => rfl)
/-- the leaf at p leaves the index and is free again -/
theorem own_R.drop {mi : Nat → Nat → Int32} {T : own_Tr} {fr : List Nat} (R : own_R mi T fr) {Q : Option Value → EMem → Prop} (ml : Nat → Nat → Int64) {p : Nat} (h : p < T.length)
    {W2 : Option Value → EMem → Prop} (step : ∀ m, W_freeLeaf 0 [.val (.ref 1), .val (.int (Int32.ofNat T[p].1))] [] ((LL1 n), m, ml, RR1) W2 → Q none ((LL1 n), m, ml, RR1))
    (K : ∀ m, (∀ b k, b ≠ 5 → b ≠ 6 → b ≠ 7 → ¬ (b = 1 ∧ (k = 40 ∨ k = 42)) → m b k = mi b k) → own_R m (T.eraseIdx p) (fr ++ [T[p].1]) → W2 none ((LL1 n), m, ml, RR1)) :
    W_indexRemove 0 [.val (.ref 1), .val (.int (Int32.ofNat p)), .unset] [] ((LL1 n), mi, ml, RR1) Q := by
  have t32 := R.tot
  have l32 := R.l32 h
  refine own_indexRemove mi ml T.length p (by omega) h R.nl (fun m1 f1 f2 f3 f4 => step m1 ?_)
  have hft : m1 1 42 = Int32.ofNat fr.length := by rw [f1 _ _ (by decide) (fun z => absurd z.2 (by decide))]; exact R.ft
  have ea : Int32.ofNat T[p].1 &&& 31 = Int32.ofNat T[p].1 := own_N31 l32
  refine L_freeLeaf_0 (by rw [ea]; exact own_Ninb l32 (by omega)) (fun q => absurd (by rw [hft]; exact (own_Nlt (b := 32) (by omega) (by omega)).mpr (by omega)) q) (fun _ => by rw [hft]; exact own_Ninb (by omega) (by omega)) (fun _ => ?_)
  rw [ea, hft, own_Nc (by omega), own_Nc (by omega), own_Nadd1]
  generalize hm2 : up (up (up m1 5 T[p].1 0) 7 fr.length (Int32.ofNat T[p].1)) 1 42 (Int32.ofNat (fr.length + 1)) = m2
  have g1 : ∀ b k, b ≠ 5 → b ≠ 7 → ¬ (b = 1 ∧ k = 42) → m2 b k = m1 b k := fun b k h1 h2 h3 => by rw [← hm2, up_at, if_neg h3, up_ne h2, up_ne h1]
  have g2 : ∀ k, k ≠ T[p].1 → m2 5 k = mi 5 k := fun k hk => by rw [← hm2, up_ne (by decide), up_ne (by decide), up_at, if_neg (fun z => hk z.2)]; exact f1 _ _ (by decide) (fun z => absurd z.1 (by decide))
  have g3 : ∀ k, m2 7 k = if k = fr.length then Int32.ofNat T[p].1 else mi 7 k := fun k => by
    rw [← hm2, up_ne (by decide), up_at, up_ne (by decide), f1 _ _ (by decide) (fun z => absurd z.1 (by decide))]; simp
  have g4 : m2 1 42 = Int32.ofNat (fr.length + 1) := by rw [← hm2, up_eq]
  clear hm2
  have ge : ∀ q (hq : q < (T.eraseIdx p).length), (∀ (w : q < p), (T.eraseIdx p)[q] = T[q]'(by omega)) ∧ (∀ (w : p ≤ q) (w2 : q + 1 < T.length), (T.eraseIdx p)[q] = T[q + 1]) := fun q hq => by
    rw [List.getElem_eraseIdx]
    exact ⟨fun w => by rw [dif_pos w], fun w w2 => by rw [dif_neg (by omega)]⟩
  have le : (T.eraseIdx p).length = T.length - 1 := by rw [List.length_eraseIdx, if_pos h]
  have pm : ((T.eraseIdx p).map (·.1) ++ (fr ++ [T[p].1])).Perm (T.map (·.1) ++ fr) := by
    have e : T = T.take p ++ T[p] :: T.drop (p + 1) := by simp
    have e2 : T.map (·.1) = (T.take p).map (·.1) ++ T[p].1 :: (T.drop (p + 1)).map (·.1) := by
      have := congrArg (List.map (·.1)) e
      simpa only [List.map_append, List.map_cons] using this
    rw [List.eraseIdx_eq_take_drop_succ, List.map_append, e2]
    have q1 : ((T.take p).map (·.1) ++ T[p].1 :: (T.drop (p + 1)).map (·.1)).Perm (T[p].1 :: ((T.take p).map (·.1) ++ (T.drop (p + 1)).map (·.1))) := List.perm_middle
    refine List.Perm.trans ?_ (q1.append_right fr).symm
    rw [← List.append_assoc]
    exact List.perm_append_singleton _ _
  obtain ⟨n1, n2, n3⟩ := own_perm pm R
  refine K m2 (fun b k h1 h2 h3 h4 => ?_) ⟨?_, fun q hq => ?_, fun q hq => ?_, fun q hq => ?_, fun q hq s hs => ?_, ?_, fun k hk => ?_, n1, n2, n3⟩
  · rw [g1 b k h1 h3 (fun z => h4 ⟨z.1, Or.inr z.2⟩), f1 b k h2 (fun z => h4 ⟨z.1, Or.inl z.2⟩)]
  · rw [g1 _ _ (by decide) (by decide) (fun z => absurd z.2 (by decide)), f2, le]
  · rw [g1 _ _ (by decide) (by decide) (fun z => absurd z.1 (by decide))]
    obtain ⟨y1, y2⟩ := ge q hq
    by_cases w : q < p
    · rw [y1 w, f3 q w, R.idx q (by omega)]
    · rw [y2 (by omega) (by omega), f4 q (by omega) (by omega), R.idx (q + 1) (by omega)]
  · obtain ⟨y1, y2⟩ := ge q hq
    by_cases w : q < p
    · rw [y1 w, g2 _ (fun z => absurd (R.inj (by omega) h z) (by omega)), R.len q (by omega)]
    · rw [y2 (by omega) (by omega), g2 _ (fun z => absurd (R.inj (by omega) h z) (by omega)), R.len (q + 1) (by omega)]
  · obtain ⟨y1, y2⟩ := ge q hq
    by_cases w : q < p
    · rw [y1 w]; exact R.l4 q (by omega)
    · rw [y2 (by omega) (by omega)]; exact R.l4 (q + 1) (by omega)
  · have fe : ∀ b k, b = 2 ∨ b = 3 ∨ b = 4 → m2 b k = mi b k := fun b k hb => by
      rw [g1 b k (by rcases hb with z | z | z <;> rw [z] <;> decide) (by rcases hb with z | z | z <;> rw [z] <;> decide) (fun y => by rcases hb with z | z | z <;> rw [z] at y <;> exact absurd y.1 (by decide)), f1 b k (by rcases hb with z | z | z <;> rw [z] <;> decide) (fun y => by rcases hb with z | z | z <;> rw [z] at y <;> exact absurd y.1 (by decide))]
    rw [fe _ _ (Or.inl rfl), fe _ _ (Or.inr (Or.inl rfl)), fe _ _ (Or.inr (Or.inr rfl))]
    obtain ⟨y1, y2⟩ := ge q hq
    by_cases w : q < p
    · have y := y1 w
      have hs' : s < (T[q]'(by omega)).2.length := by rw [y] at hs; exact hs
      have e : (T.eraseIdx p)[q].2[s] = (T[q]'(by omega)).2[s] := by simp only [y]
      rw [e, y]; exact R.ent q (by omega) s hs'
    · have y := y2 (by omega) (by omega)
      have hs' : s < (T[q + 1]'(by omega)).2.length := by rw [y] at hs; exact hs
      have e : (T.eraseIdx p)[q].2[s] = (T[q + 1]'(by omega)).2[s] := by simp only [y]
      rw [e, y]; exact R.ent (q + 1) (by omega) s hs'
  · rw [g4]; simp
  · rw [g3]
    by_cases w : k = fr.length
    · rw [if_pos w]
      subst w
      rw [List.getElem_append_right (Nat.le_refl _)]
      simp
    · rw [if_neg w]
      have hk' : k < fr.length := by simp at hk; omega
      rw [R.fs k hk', List.getElem_append_left hk']

theorem own_mw1 {Q : Option Value → EMem → Prop} (x1 : Int32) (mi : Nat → Nat → Int32) (ml : Nat → Nat → Int64) (l r : Nat) (l32 : l < 32) (r32 : r < 32) (lr : l ≠ r) (ln rn : Nat) (h4 : ln + rn ≤ 4)
    (K : ∀ m x8, (∀ b k, b ≠ 2 → b ≠ 3 → b ≠ 4 → m b k = mi b k) → (∀ k, (k < l * 4 ∨ l * 4 + 4 ≤ k) → own_sl m k = own_sl mi k) → (∀ s, s < ln → own_sl m (l * 4 + s) = own_sl mi (l * 4 + s)) → (∀ s, s < rn → own_sl m (l * 4 + ln + s) = own_sl mi (r * 4 + s)) →
      W_mergeWithNext 109 [.val (.ref 1), .val (.int x1), .val (.int (Int32.ofNat l)), .val (.int (Int32.ofNat r)), .val (.int (Int32.ofNat ln)), .val (.int (Int32.ofNat rn)), .val (.int (Int32.ofNat (l * 4))), .val (.int (Int32.ofNat (r * 4))), .val (.int x8)] [] ((LL1 n), m, ml, RR1) Q) :
    ∀ (f s : Nat) (m : Nat → Nat → Int32), s + f = rn → (∀ b k, b ≠ 2 → b ≠ 3 → b ≠ 4 → m b k = mi b k) → (∀ k, (k < l * 4 ∨ l * 4 + 4 ≤ k) → own_sl m k = own_sl mi k) → (∀ t, t < ln → own_sl m (l * 4 + t) = own_sl mi (l * 4 + t)) → (∀ t, t < s → own_sl m (l * 4 + ln + t) = own_sl mi (r * 4 + t)) →
    W_mergeWithNext 70 [.val (.ref 1), .val (.int x1), .val (.int (Int32.ofNat l)), .val (.int (Int32.ofNat r)), .val (.int (Int32.ofNat ln)), .val (.int (Int32.ofNat rn)), .val (.int (Int32.ofNat (l * 4))), .val (.int (Int32.ofNat (r * 4))), .val (.int (Int32.ofNat s))] [] ((LL1 n), m, ml, RR1) Q := by
  intro f
  induction f with
  | zero =>
    intro s m hf f1 f2 f3 f4
    have : s = rn := by omega
    subst this
    exact L_mergeWithNext_70 (fun _ => K m _ f1 f2 f3 f4) (fun h => absurd h Int32.lt_irrefl) (fun h => absurd h Int32.lt_irrefl) (fun h => absurd h Int32.lt_irrefl) (fun h => absurd h Int32.lt_irrefl)
  | succ f ih =>
    intro s m hf f1 f2 f3 f4
    have lt : Int32.ofNat s < Int32.ofNat rn := (own_Nlt (by omega) (by omega)).mpr (by omega)
    have lt4 : Int32.ofNat ln + Int32.ofNat s < 4 := by rw [own_Nadd]; exact (own_Nlt (b := 4) (by omega) (by omega)).mpr (by omega)
    have i0 : Int32.ofNat (r * 4) + Int32.ofNat s = Int32.ofNat (r * 4 + s) := own_Nadd _ _
    have i1 : Int32.ofNat (l * 4) + Int32.ofNat ln + Int32.ofNat s = Int32.ofNat (l * 4 + ln + s) := by rw [own_Nadd, own_Nadd]
    refine L_mergeWithNext_70 (fun h => absurd lt h) (fun _ h => absurd lt4 h) (fun _ _ => by rw [i0]; exact own_Ninb (by omega) (by omega)) (fun _ _ => by rw [i1]; exact own_Ninb (by omega) (by omega)) (fun _ _ => ?_)
    rw [i0, i1, own_Nc (by omega), own_Nc (by omega), own_Nadd1]
    refine ih (s + 1) _ (by omega) (fun b k h1 h2 h3 => ?_) (fun k hk => ?_) (fun t ht => ?_) (fun t ht => ?_)
    · rw [own_ar_copy _ _ _ h1 h2 h3]; exact f1 b k h1 h2 h3
    · rw [own_sl_copy, if_neg (by omega)]; exact f2 k hk
    · rw [own_sl_copy, if_neg (by omega)]; exact f3 t ht
    · rw [own_sl_copy]
      by_cases q : t = s
      · subst q; rw [if_pos rfl]; exact f2 _ (by omega)
      · rw [if_neg (by omega)]; exact f4 t (by omega)
theorem own_fl_merge {T : own_Tr} {p : Nat} {l : Nat} (h : p + 1 < T.length) : own_fl ((T.set p (l, T[p].2 ++ T[p + 1].2)).eraseIdx (p + 1)) = own_fl T := by
  have e : T.drop (p + 1) = T[p + 1] :: T.drop (p + 2) := by
    rw [List.drop_eq_getElem_cons h]
  rw [own_fl_at (T := T) (p := p) (by omega), e, List.set_eq_take_append_cons_drop, if_pos (by omega), e, List.eraseIdx_append_of_length_le (by simp; omega)]
  have hl : p + 1 - (T.take p).length = 1 := by simp; omega
  rw [hl]
  simp only [own_fl, List.eraseIdx_cons_succ, List.eraseIdx_cons_zero, List.flatMap_append, List.flatMap_cons, List.append_assoc]
/-- the leaf behind p is moved into the leaf at p -/
theorem own_R.merge {mi : Nat → Nat → Int32} {T : own_Tr} {fr : List Nat} (R : own_R mi T fr) {Q : Option Value → EMem → Prop} (ml : Nat → Nat → Int64) {p : Nat} (h : p + 1 < T.length) (h4 : T[p].2.length + T[p + 1].2.length ≤ 4)
    (K : ∀ m fr', (∀ b k, b ≠ 2 → b ≠ 3 → b ≠ 4 → b ≠ 5 → b ≠ 6 → b ≠ 7 → ¬ (b = 1 ∧ (k = 40 ∨ k = 42)) → m b k = mi b k) → own_R m ((T.set p (T[p].1, T[p].2 ++ T[p + 1].2)).eraseIdx (p + 1)) fr' → Q none ((LL1 n), m, ml, RR1)) :
    W_mergeWithNext 0 [.val (.ref 1), .val (.int (Int32.ofNat p)), .unset, .unset, .unset, .unset, .unset, .unset, .unset] [] ((LL1 n), mi, ml, RR1) Q := by
  have t32 := R.tot
  have hp : p < T.length := by omega
  have l32 := R.l32 hp
  have r32 := R.l32 h
  have lr : T[p].1 ≠ T[p + 1].1 := fun z => absurd (R.inj hp h z) (by omega)
  have a1 : mi 6 (Int32.ofNat p).toNatClampNeg = Int32.ofNat T[p].1 := by rw [own_Nc (by omega), R.idx p hp]
  have a2 : mi 6 (Int32.ofNat p + 1).toNatClampNeg = Int32.ofNat T[p + 1].1 := by rw [own_Nadd1, own_Nc (by omega), R.idx (p + 1) h]
  have a3 : mi 5 (Int32.ofNat T[p].1).toNatClampNeg = Int32.ofNat T[p].2.length := by rw [own_Nc (by omega), R.len p hp]
  have a4 : mi 5 (Int32.ofNat T[p + 1].1).toNatClampNeg = Int32.ofNat T[p + 1].2.length := by rw [own_Nc (by omega), R.len (p + 1) h]
  have lt : Int32.ofNat p + 1 < mi 1 40 := by rw [own_Nadd1, R.nl]; exact (own_Nlt (by omega) (by omega)).mpr h
  refine L_mergeWithNext_0 (fun q => absurd q (own_Nnn (by omega))) (fun _ _ => own_Ninb (by omega) (by omega)) (fun _ _ => by rw [own_Nadd1]; exact own_Ninb (by omega) (by omega)) (fun _ _ => by rw [a1]; exact own_Ninb l32 (by omega)) (fun _ _ => by rw [a2]; exact own_Ninb r32 (by omega)) (fun _ _ _ => ?_) (fun _ _ q => absurd q ?_) (fun _ q => absurd lt q)
  · rw [a1, a2, a3, a4, own_Nmul4, own_Nmul4]
    refine own_mw1 _ mi ml T[p].1 T[p + 1].1 l32 r32 lr T[p].2.length T[p + 1].2.length h4 ?_ T[p + 1].2.length 0 mi (by omega) (fun _ _ _ _ _ => rfl) (fun _ _ => rfl) (fun _ _ => rfl) (fun t ht => absurd ht (by omega))
    intro m x8 f1 f2 f3 f4
    refine L_mergeWithNext_109 (own_Ninb l32 (by omega)) ?_
    rw [own_Nc (by omega), own_Nadd, own_Nadd1]
    have fs : ∀ k, own_sl (up m 5 T[p].1 (Int32.ofNat (T[p].2.length + T[p + 1].2.length))) k = own_sl m k := fun k => by
      unfold own_sl
      rw [up_ne (by decide), up_ne (by decide), up_ne (by decide)]
    have R1 : own_R (up m 5 T[p].1 (Int32.ofNat (T[p].2.length + T[p + 1].2.length))) (T.set p (T[p].1, T[p].2 ++ T[p + 1].2)) fr := by
      refine R.upd hp _ (by simp; omega) (fun b k h1 h2 h3 h5 _ => ?_) (fun k hk => ?_) ?_ (fun k hk => ?_) (fun s hs => ?_)
      · rw [up_ne h5]; exact f1 b k h1 h2 h3
      · rw [up_at, if_neg (fun z => hk z.2)]; exact f1 _ _ (by decide) (by decide) (by decide)
      · rw [up_eq]; simp
      · rw [fs]; exact f2 k hk
      · rw [fs]
        by_cases q : s < T[p].2.length
        · rw [f3 s q, List.getElem_append_left q]; exact R.sl hp q
        · have hs' : s - T[p].2.length < T[p + 1].2.length := by simp at hs; omega
          have := f4 (s - T[p].2.length) hs'
          rw [show T[p].1 * 4 + T[p].2.length + (s - T[p].2.length) = T[p].1 * 4 + s by omega] at this
          rw [this, List.getElem_append_right (by omega)]; exact R.sl h hs'
    have e1 : (T.set p (T[p].1, T[p].2 ++ T[p + 1].2))[p + 1]'(by simp; omega) = T[p + 1] := by rw [List.getElem_set_ne (by omega)]
    have ee : ((T.set p (T[p].1, T[p].2 ++ T[p + 1].2))[p + 1]'(by simp; omega)).1 = T[p + 1].1 := by rw [e1]
    refine R1.drop ml (p := p + 1) (by simp; omega) (fun m2 hm2 => L_mergeWithNext_127 (by rw [ee] at hm2; exact hm2)) (fun m2 g R2 => ?_)
    refine L_mergeWithNext_132 ?_
    refine K m2 _ (fun b k h1 h2 h3 h5 h6 h7 h8 => ?_) R2
    rw [g b k h5 h6 h7 h8, up_ne h5]; exact f1 b k h1 h2 h3
  · rw [a1, a2, a3, a4, own_Nadd]
    intro w
    have := (own_Nlt (a := 4) (by omega) (by omega)).mp w
    omega
theorem own_ne_merge {T : own_Tr} {p : Nat} {l : Nat} (h : p + 1 < T.length) (ne : ∀ q (hq : q < T.length), 0 < T[q].2.length) : ∀ q (hq : q < ((T.set p (l, T[p].2 ++ T[p + 1].2)).eraseIdx (p + 1)).length), 0 < (((T.set p (l, T[p].2 ++ T[p + 1].2)).eraseIdx (p + 1))[q]).2.length := by
  intro q hq
  have hl : ((T.set p (l, T[p].2 ++ T[p + 1].2)).eraseIdx (p + 1)).length = T.length - 1 := by
    rw [List.length_eraseIdx, if_pos (by simp; omega)]; simp
  rw [List.getElem_eraseIdx]
  split
  · rw [List.getElem_set]
    split
    · have := ne p (by omega); simp; omega
    · exact ne q (by omega)
  · rw [List.getElem_set]
    split
    · have := ne p (by omega); simp; omega
    · exact ne (q + 1) (by omega)
/-- behind a removal the tree is made whole again; nothing that it holds is lost -/
theorem own_R.rebalance {mi : Nat → Nat → Int32} {T : own_Tr} {fr : List Nat} (R : own_R mi T fr) {Q : Option Value → EMem → Prop} (ml : Nat → Nat → Int64) {p : Nat} (h : p < T.length) (ne : ∀ q (hq : q < T.length), q ≠ p → 0 < T[q].2.length)
    (K : ∀ m T' fr', (∀ b k, b ≠ 2 → b ≠ 3 → b ≠ 4 → b ≠ 5 → b ≠ 6 → b ≠ 7 → ¬ (b = 1 ∧ (k = 40 ∨ k = 42)) → m b k = mi b k) → own_R m T' fr' → own_fl T' = own_fl T → (∀ q (hq : q < T'.length), 0 < T'[q].2.length) → Q none ((LL1 n), m, ml, RR1)) :
    W_rebalance 0 [.val (.ref 1), .val (.int (Int32.ofNat p)), .unset, .unset] [] ((LL1 n), mi, ml, RR1) Q := by
  have t32 := R.tot
  have l32 := R.l32 h
  have l4 := R.l4 p h
  have a1 : mi 6 (Int32.ofNat p).toNatClampNeg = Int32.ofNat T[p].1 := by rw [own_Nc (by omega), R.idx p h]
  have a3 : mi 5 (Int32.ofNat T[p].1).toNatClampNeg = Int32.ofNat T[p].2.length := by rw [own_Nc (by omega), R.len p h]
  have lt : Int32.ofNat p < mi 1 40 := by rw [R.nl]; exact (own_Nlt (by omega) (by omega)).mpr h
  have cn : (Int32.ofNat p + 1 < mi 1 40) ↔ p + 1 < T.length := by rw [own_Nadd1, R.nl]; exact own_Nlt (by omega) (by omega)
  have z0 : (mi 5 (mi 6 (Int32.ofNat p).toNatClampNeg).toNatClampNeg = 0) ↔ T[p].2.length = 0 := by
    rw [a1, a3]
    constructor
    · intro w; exact own_Ninj (b := 0) (by omega) (by omega) w
    · intro w; rw [w]; rfl
  have z1 : ((1 : Int32) < mi 5 (mi 6 (Int32.ofNat p).toNatClampNeg).toNatClampNeg) ↔ 1 < T[p].2.length := by
    rw [a1, a3]; exact own_Nlt (a := 1) (by omega) (by omega)
  have keep : 0 < T[p].2.length → ∀ q (hq : q < T.length), 0 < T[q].2.length := fun w q hq => by
    by_cases u : q = p
    · subst u; exact w
    · exact ne q hq u
  -- the way out when the leaf behind does not fit
  have left : ¬ T[p].2.length = 0 → W_rebalance 85 [.val (.ref 1), .val (.int (Int32.ofNat p)), .val (.int (Int32.ofNat T[p].1)), .val (.int (Int32.ofNat T[p].2.length))] [] ((LL1 n), mi, ml, RR1) Q := by
    intro hz
    have done : W_rebalance 115 [.val (.ref 1), .val (.int (Int32.ofNat p)), .val (.int (Int32.ofNat T[p].1)), .val (.int (Int32.ofNat T[p].2.length))] [] ((LL1 n), mi, ml, RR1) Q := L_rebalance_115 (K mi T fr (fun _ _ _ _ _ _ _ _ _ => rfl) R rfl (keep (by omega)))
    rcases Nat.eq_zero_or_pos p with w | w
    · have n0 : ¬ (0 : Int32) < Int32.ofNat p := by rw [w]; decide
      exact L_rebalance_85 (fun _ => done) (fun q => absurd q n0) (fun q => absurd q n0) (fun q => absurd q n0) (fun q => absurd q n0)
    · have p0 : (0 : Int32) < Int32.ofNat p := (own_Nlt (a := 0) (by omega) (by omega)).mpr w
      have hq : p - 1 < T.length := by omega
      have b1 : mi 6 (Int32.ofNat p - 1).toNatClampNeg = Int32.ofNat T[p - 1].1 := by rw [own_Nsub1 w (by omega), own_Nc (by omega), R.idx (p - 1) hq]
      have b2 : mi 5 (Int32.ofNat T[p - 1].1).toNatClampNeg = Int32.ofNat T[p - 1].2.length := by rw [own_Nc (by have := R.l32 hq; omega), R.len (p - 1) hq]
      have m4 := R.l4 (p - 1) hq
      refine L_rebalance_85 (fun q => absurd p0 q) (fun _ => by rw [own_Nsub1 w (by omega)]; exact own_Ninb (by omega) (by omega)) (fun _ => by rw [b1]; exact own_Ninb (R.l32 hq) (by omega)) (fun _ _ => done) (fun _ q => ?_)
      rw [b1, b2, own_Nadd] at q
      have le4 : T[p - 1].2.length + T[p].2.length ≤ 4 := by
        by_cases u : 4 < T[p - 1].2.length + T[p].2.length
        · exact absurd ((own_Nlt (a := 4) (by omega) (by omega)).mpr u) q
        · omega
      rw [own_Nsub1 w (by omega)]
      have ei : p - 1 + 1 = p := by omega
      have ep : T[p - 1 + 1]'(by omega) = T[p] := by simp only [ei]
      refine R.merge ml (p := p - 1) (by omega) (by rw [ep]; exact le4) (fun m fr' g R1 => ?_)
      exact L_rebalance_115 (K m _ fr' g R1 (own_fl_merge (by omega)) (own_ne_merge (by omega) (keep (by omega))))
  refine L_rebalance_0 (fun q => absurd q (own_Nnn (by omega))) (fun _ _ => own_Ninb (by omega) (by omega)) (fun _ _ => by rw [a1]; exact own_Ninb l32 (by omega)) (fun _ _ hz _ _ => ?_) (fun _ _ _ _ w => ?_) (fun _ _ _ _ w => ?_) (fun _ _ hz _ _ _ => ?_) (fun _ _ hz _ w hw => ?_) (fun _ _ hz _ => ?_) (fun _ _ hz => ?_) (fun _ w => absurd lt w)
  · rw [z0] at hz
    rw [a1, a3]; exact left hz
  · have w' := cn.mp w
    rw [own_Nadd1]; exact own_Ninb (by omega) (by omega)
  · have w' := cn.mp w
    rw [own_Nadd1, own_Nc (by omega), R.idx (p + 1) w']; exact own_Ninb (R.l32 w') (by omega)
  · rw [z0] at hz
    rw [a1, a3]; exact left hz
  · have w' := cn.mp w
    rw [z0] at hz
    have m4 := R.l4 (p + 1) w'
    rw [a1, a3, own_Nadd1, own_Nc (by omega), R.idx (p + 1) w', own_Nc (by have := R.l32 w'; omega), R.len (p + 1) w', own_Nadd] at hw
    have le4 : T[p].2.length + T[p + 1].2.length ≤ 4 := by
      by_cases u : 4 < T[p].2.length + T[p + 1].2.length
      · exact absurd ((own_Nlt (a := 4) (by omega) (by omega)).mpr u) hw
      · omega
    refine R.merge ml w' le4 (fun m fr' g R1 => ?_)
    refine L_rebalance_82 ?_
    exact L_rebalance_115 (K m _ fr' g R1 (own_fl_merge w') (own_ne_merge w' (keep (by omega))))
  · rw [z0] at hz
    exact K mi T fr (fun _ _ _ _ _ _ _ _ _ => rfl) R rfl (keep (by omega))
  · rw [z0] at hz
    rw [a1, a3]
    refine R.drop ml h (fun m2 hm2 => L_rebalance_36 hm2) (fun m2 g R2 => ?_)
    refine L_rebalance_41 ?_
    refine K m2 _ _ (fun b k h1 h2 h3 h5 h6 h7 h8 => g b k h5 h6 h7 h8) R2 ?_ (fun q hq => ?_)
    · rw [own_fl_at h, List.eraseIdx_eq_take_drop_succ, List.eq_nil_of_length_eq_zero hz]
      simp [own_fl]
    · have hl : (T.eraseIdx p).length = T.length - 1 := by rw [List.length_eraseIdx, if_pos h]
      rw [List.getElem_eraseIdx]
      split
      · exact ne q (by omega) (by omega)
      · exact ne (q + 1) (by omega) (by omega)
theorem own_Sd_del {A B : List own_Ent} {e : own_Ent} (S : own_Sd (A ++ e :: B)) : own_Sd (A ++ B) := by
  unfold own_Sd at *
  rw [List.pairwise_append] at S ⊢
  exact ⟨S.1, (List.pairwise_cons.mp S.2.1).2, fun a ha b hb => S.2.2 a ha b (List.mem_cons_of_mem _ hb)⟩
theorem own_D.remove {mi : Nat → Nat → Int32} {T : own_Tr} {fr : List Nat} {E : List own_Ent} {sd : Int32} {cp : Nat} {op ck : Nat → Int32} (D : own_D mi T fr E sd cp op ck) {Q : Option Value → EMem → Prop} (nm : Int32) (ml : Nat → Nat → Int64)
    (K4 : (nm < 0 ∨ 65535 < nm) → Q (some (.int 4)) ((LL1 n), mi, ml, RR1)) (K3 : ¬ (nm < 0 ∨ 65535 < nm) → (∀ e ∈ E, ¬ e.1 = own_hs sd nm) → Q (some (.int 3)) ((LL1 n), mi, ml, RR1))
    (K0 : ¬ (nm < 0 ∨ 65535 < nm) → ∀ m' T' fr' A e B, E = A ++ e :: B → e.1 = own_hs sd nm → own_D m' T' fr' (A ++ B) sd cp op ck → Q (some (.int 0)) ((LL1 n), m', ml, RR1)) :
    W_remove 0 [.val (.ref 1), .val (.int nm), .unset, .unset, .unset] [] ((LL1 n), mi, ml, RR1) Q := by
  have t32 := D.R.tot
  have c32 := D.cp32
  have ec := D.ecp
  refine L_remove_0 (fun v e h => ?_) (fun v e h => K4 ((own_name e).mp h))
  have hn : ¬ (nm < 0 ∨ 65535 < nm) := fun q => h ((own_name e).mpr q)
  refine S_hash ?_
  rw [D.seed]
  refine L_remove_15 ?_
  refine D.locate _ ml (fun hno => ?_) (fun p hp s hs he => ?_)
  · exact L_remove_21 (fun h => absurd (by decide) h) (fun h => absurd (by decide) h) (fun _ => K3 hn hno)
  · obtain ⟨a1, a2, a3, a4, a5⟩ := D.R.slot hp hs
    have l4 := D.R.l4 p hp
    refine L_remove_21 (fun _ => a2) (fun _ => ?_) (fun h => absurd h a1)
    obtain ⟨-, e3⟩ := own_pk (pos := p) (s := s) (by omega) (by omega)
    rw [a3, own_Nc (by omega), D.R.idx p hp, e3]
    refine D.R.del ml hp hs (fun m1 f1 R1 => ?_)
    refine L_remove_50 ?_
    have eE : E = (own_fl (T.take p) ++ T[p].2.take s) ++ T[p].2[s] :: (T[p].2.drop (s + 1) ++ own_fl (T.drop (p + 1))) := by
      rw [← D.fl, own_fl_at hp]
      have : T[p].2 = T[p].2.take s ++ T[p].2[s] :: T[p].2.drop (s + 1) := by simp
      conv => lhs; rw [this]
      simp only [List.append_assoc, List.cons_append]
    have hlen : E.length = ((own_fl (T.take p) ++ T[p].2.take s) ++ (T[p].2.drop (s + 1) ++ own_fl (T.drop (p + 1)))).length + 1 := by
      have := congrArg List.length eE
      simp only [List.length_append, List.length_cons] at this ⊢
      omega
    have es : m1 1 38 = Int32.ofNat E.length := by rw [f1 _ _ (by decide) (by decide) (by decide) (by decide)]; exact D.size
    rw [es, own_Nsub1 (by omega) (by omega)]
    have R2 : own_R (up m1 1 38 (Int32.ofNat (E.length - 1))) (T.set p (T[p].1, T[p].2.eraseIdx s)) fr := R1.fr (fun b k hb => by
      rw [up_at, if_neg (fun z => by rcases hb z.1 with w | w <;> rw [w] at z <;> exact absurd z.2 (by decide))])
    refine R2.rebalance ml (p := p) (by simpa using hp) (fun q hq hne => ?_) (fun m2 T' fr' g R3 hfl hne => ?_)
    · rw [List.getElem_set_ne (fun z => hne z.symm)]; exact D.ne q (by simpa using hq)
    · refine L_remove_66 ?_
      have fl2 : own_fl T' = (own_fl (T.take p) ++ T[p].2.take s) ++ (T[p].2.drop (s + 1) ++ own_fl (T.drop (p + 1))) := by
        rw [hfl, own_fl_set hp, List.eraseIdx_eq_take_drop_succ]
        simp only [List.append_assoc]
      have G : ∀ b k, b ≠ 2 → b ≠ 3 → b ≠ 4 → b ≠ 5 → b ≠ 6 → b ≠ 7 → (b = 1 → k ≠ 40 ∧ k ≠ 42 ∧ k ≠ 38) → m2 b k = mi b k := fun b k h1 h2 h3 h5 h6 h7 h8 => by
        rw [g b k h1 h2 h3 h5 h6 h7 (fun z => by have := h8 z.1; rcases z.2 with w | w; exact this.1 w; exact this.2.1 w), up_at, if_neg (fun z => (h8 z.1).2.2 z.2)]
        exact f1 b k h1 h2 h3 h5
      refine K0 hn m2 T' fr' _ _ _ eE he ⟨R3, fl2, hne, own_Sd_del (by rw [← eE]; exact D.srt), fun e' he' => ?_, ?_, ?_, c32, by omega, ?_, fun k hk => ?_, fun k hk => ?_⟩
      · refine D.gd e' ?_
        rw [eE]
        rcases List.mem_append.mp he' with w | w
        · exact List.mem_append_left _ w
        · exact List.mem_append_right _ (List.mem_cons_of_mem _ w)
      · rw [g _ _ (by decide) (by decide) (by decide) (by decide) (by decide) (by decide) (fun z => by rcases z.2 with w | w <;> exact absurd w (by decide)), up_eq]
        congr 1; omega
      · rw [G _ _ (by decide) (by decide) (by decide) (by decide) (by decide) (by decide) (fun _ => ⟨by decide, by decide, by decide⟩)]; exact D.cap
      · rw [G _ _ (by decide) (by decide) (by decide) (by decide) (by decide) (by decide) (fun _ => ⟨by decide, by decide, by decide⟩)]; exact D.seed
      · rw [G _ _ (by decide) (by decide) (by decide) (by decide) (by decide) (by decide) (fun z => absurd z (by decide))]; exact D.op k hk
      · rw [G _ _ (by decide) (by decide) (by decide) (by decide) (by decide) (by decide) (fun z => absurd z (by decide))]; exact D.ck k hk
theorem own_Sd_set {A B : List own_Ent} {e e' : own_Ent} (S : own_Sd (A ++ e :: B)) (h : e'.1 = e.1) : own_Sd (A ++ e' :: B) := by
  unfold own_Sd at *
  rw [List.pairwise_append] at S ⊢
  refine ⟨S.1, List.pairwise_cons.mpr ⟨fun b hb => by rw [h]; exact (List.pairwise_cons.mp S.2.1).1 b hb, (List.pairwise_cons.mp S.2.1).2⟩, fun a ha b hb => ?_⟩
  rcases List.mem_cons.mp hb with rfl | hb
  · rw [h]; exact S.2.2 a ha _ (List.mem_cons_self ..)
  · exact S.2.2 a ha b (List.mem_cons_of_mem _ hb)

theorem own_D.setInode {mi : Nat → Nat → Int32} {T : own_Tr} {fr : List Nat} {E : List own_Ent} {sd : Int32} {cp : Nat} {op ck : Nat → Int32} (D : own_D mi T fr E sd cp op ck) {Q : Option Value → EMem → Prop} (nm ino : Int32) (ml : Nat → Nat → Int64)
    (K4 : (nm < 0 ∨ 65535 < nm) → Q (some (.int 4)) ((LL1 n), mi, ml, RR1)) (K5 : ¬ (nm < 0 ∨ 65535 < nm) → ino < 1 → Q (some (.int 5)) ((LL1 n), mi, ml, RR1))
    (K3 : ¬ (nm < 0 ∨ 65535 < nm) → ¬ ino < 1 → (∀ e ∈ E, ¬ e.1 = own_hs sd nm) → Q (some (.int 3)) ((LL1 n), mi, ml, RR1))
    (K0 : ¬ (nm < 0 ∨ 65535 < nm) → ¬ ino < 1 → ∀ m' T' fr' A e B, E = A ++ e :: B → e.1 = own_hs sd nm → own_D m' T' fr' (A ++ (e.1, e.2.1, ino) :: B) sd cp op ck → Q (some (.int 0)) ((LL1 n), m', ml, RR1)) :
    W_setInode 0 [.val (.ref 1), .val (.int nm), .val (.int ino), .unset, .unset] [] ((LL1 n), mi, ml, RR1) Q := by
  have t32 := D.R.tot
  refine L_setInode_0 (fun v e h hi => ?_) (fun v e h hi => K5 (fun q => h ((own_name e).mpr q)) hi) (fun v e h => K4 ((own_name e).mp h))
  have hn : ¬ (nm < 0 ∨ 65535 < nm) := fun q => h ((own_name e).mpr q)
  refine S_hash ?_
  rw [D.seed]
  refine L_setInode_22 ?_
  refine D.locate _ ml (fun hno => ?_) (fun p hp s hs he => ?_)
  · exact L_setInode_28 (fun h => absurd (by decide) h) (fun h => absurd (by decide) h) (fun h => absurd (by decide) h) (fun _ => K3 hn hi hno)
  · obtain ⟨a1, a2, a3, a4, a5⟩ := D.R.slot hp hs
    have l4 := D.R.l4 p hp
    refine L_setInode_28 (fun _ => a2) (fun _ => by rw [a4]; exact own_Ninb a5 (by omega)) (fun _ => ?_) (fun h => absurd h a1)
    rw [a4, own_Nc (by omega)]
    have eE : E = (own_fl (T.take p) ++ T[p].2.take s) ++ T[p].2[s] :: (T[p].2.drop (s + 1) ++ own_fl (T.drop (p + 1))) := by
      rw [← D.fl, own_fl_at hp]
      have : T[p].2 = T[p].2.take s ++ T[p].2[s] :: T[p].2.drop (s + 1) := by simp
      conv => lhs; rw [this]
      simp only [List.append_assoc, List.cons_append]
    have fs : ∀ k, own_sl (up mi 4 (T[p].1 * 4 + s) ino) k = if k = T[p].1 * 4 + s then ((own_sl mi k).1, (own_sl mi k).2.1, ino) else own_sl mi k := fun k => by
      unfold own_sl
      rw [up_ne (by decide), up_ne (by decide), up_at]
      by_cases q : k = T[p].1 * 4 + s
      · simp [q]
      · simp [q]
    have hm := D.gd _ (by rw [eE]; exact List.mem_append_right _ (List.mem_cons_self ..))
    refine K0 hn hi _ (T.set p (T[p].1, T[p].2.set s ((T[p].2[s]).1, (T[p].2[s]).2.1, ino))) fr _ _ _ eE he ⟨D.R.upd hp _ (by simpa using l4) (fun b k h1 h2 h3 h5 _ => by rw [up_ne h3]) (fun k hk => by rw [up_ne (by decide)]) (by rw [up_ne (by decide), D.R.len p hp]; simp) (fun k hk => by rw [fs, if_neg (by omega)]) (fun t ht => ?_), ?_, fun q hq => ?_, own_Sd_set (e := T[p].2[s]) (by rw [← eE]; exact D.srt) rfl, fun e' he' => ?_, ?_, ?_, D.cp32, ?_, ?_, fun k hk => ?_, fun k hk => ?_⟩
    · simp at ht
      rw [fs, List.getElem_set]
      by_cases q : s = t
      · subst q
        rw [if_pos rfl, if_pos rfl, D.R.sl hp hs]
      · rw [if_neg (by omega), if_neg q]; exact D.R.sl hp ht
    · rw [own_fl_set hp, List.set_eq_take_append_cons_drop, if_pos hs]
      simp only [List.append_assoc, List.cons_append]
    · rw [List.getElem_set]
      split
      · simp; have := D.ne p hp; omega
      · exact D.ne q (by simpa using hq)
    · rcases List.mem_append.mp he' with w | w
      · exact D.gd e' (by rw [eE]; exact List.mem_append_left _ w)
      · rcases List.mem_cons.mp w with rfl | w
        · exact ⟨hm.nm0, hm.nm1, hm.hh, hi⟩
        · exact D.gd e' (by rw [eE]; exact List.mem_append_right _ (List.mem_cons_of_mem _ w))
    · rw [up_ne (by decide), D.size]; congr 1
      have := congrArg List.length eE
      simp only [List.length_append, List.length_cons] at this ⊢
      omega
    · rw [up_ne (by decide)]; exact D.cap
    · have := D.ecp
      have := congrArg List.length eE
      simp only [List.length_append, List.length_cons] at this ⊢
      omega
    · rw [up_ne (by decide)]; exact D.seed
    · rw [up_ne (by decide)]; exact D.op k hk
    · rw [up_ne (by decide)]; exact D.ck k hk

theorem own_Nxor {a b : Nat} (ha : a < 65536) (hb : b < 65536) : Int32.ofNat a ^^^ Int32.ofNat b = Int32.ofNat (a ^^^ b) := by
  apply Int32.toBitVec_inj.mp
  rw [Int32.toBitVec_xor, Int32.toBitVec_ofNat', Int32.toBitVec_ofNat', Int32.toBitVec_ofNat']
  apply BitVec.eq_of_toNat_eq
  have hx : a ^^^ b < 2 ^ 16 := Nat.xor_lt_two_pow (by omega) (by omega)
  rw [BitVec.toNat_xor, BitVec.toNat_ofNat, BitVec.toNat_ofNat, BitVec.toNat_ofNat, Nat.mod_eq_of_lt (by omega), Nat.mod_eq_of_lt (by omega), Nat.mod_eq_of_lt (by omega)]
theorem own_and16 (z : Int32) : ∃ k, k < 65536 ∧ z &&& 65535 = Int32.ofNat k ∧ k = z.toBitVec.toNat % 65536 := by
  refine ⟨z.toBitVec.toNat % 65536, Nat.mod_lt _ (by decide), ?_, rfl⟩
  apply Int32.toBitVec_inj.mp
  rw [Int32.toBitVec_and, Int32.toBitVec_ofNat']
  apply BitVec.eq_of_toNat_eq
  have e : (65535 : Int32).toBitVec.toNat = 2 ^ 16 - 1 := by decide
  rw [BitVec.toNat_and, e, Nat.and_two_pow_sub_one_eq_mod, BitVec.toNat_ofNat, Nat.mod_eq_of_lt (a := z.toBitVec.toNat % 65536) (by omega)]
theorem own_Nshr {k : Nat} (hk : k < 65536) (q : Int32) (j : Nat) (hj : q.toBitVec.toNat % 32 = j) (h0 : 0 < j) : XT.ushr (Int32.ofNat k) q = Int32.ofNat (k >>> j) := by
  apply Int32.toInt_inj.mp
  have h := c_iushr (Int32.ofNat k) q j hj h0
  have hd : k / 2 ^ j ≤ k := Nat.div_le_self _ _
  rw [Nat.shiftRight_eq_div_pow, own_Nt (k := k / 2 ^ j) (by omega)]
  show ((Int32.ofNat k).toUInt32 >>> (q &&& 31).toUInt32).toInt32.toInt = _
  rw [h, own_Nt (by omega), Int.emod_eq_of_lt (by omega) (by omega)]
  exact (Int.natCast_ediv k (2 ^ j)).symm
theorem own_xsh {k : Nat} (hk : k < 65536) (q : Int32) (j : Nat) (hj : q.toBitVec.toNat % 32 = j) (h0 : 0 < j) : Int32.ofNat k ^^^ XT.ushr (Int32.ofNat k) q = Int32.ofNat (k ^^^ (k >>> j)) ∧ k ^^^ (k >>> j) < 65536 := by
  have hs : k >>> j ≤ k := by rw [Nat.shiftRight_eq_div_pow]; exact Nat.div_le_self _ _
  rw [own_Nshr hk q j hj h0, own_Nxor hk (by omega)]
  exact ⟨rfl, Nat.xor_lt_two_pow (n := 16) (by omega) (by omega)⟩
theorem own_hs_rng (s x : Int32) : ∃ k, k < 65536 ∧ own_hs s x = Int32.ofNat k := by
  unfold own_hs
  generalize (((((x ^^^ s) &&& (65535 : Int32)) * (40507 : Int32)) &&& (65535 : Int32)) ^^^ (XT.ushr ((((x ^^^ s) &&& (65535 : Int32)) * (40507 : Int32)) &&& (65535 : Int32)) (7 : Int32))) * (23505 : Int32) = z
  obtain ⟨k, hk, e, -⟩ := own_and16 z
  rw [e]
  obtain ⟨e2, h2⟩ := own_xsh hk 9 9 (by decide) (by decide)
  exact ⟨_, h2, e2⟩
theorem own_hs_b (s x : Int32) : ¬ own_hs s x < 0 ∧ own_hs s x < 65536 ∧ ¬ 65535 < own_hs s x := by
  obtain ⟨k, hk, e⟩ := own_hs_rng s x
  rw [e]
  exact ⟨own_Nnn (by omega), (own_Nlt (b := 65536) (by omega) (by omega)).mpr hk, fun z => by have := (own_Nlt (a := 65535) (by omega) (by omega)).mp z; omega⟩
/-- how many hashes lie at or below that of rank k -/
theorem own_cl_rank {E : List own_Ent} (S : own_Sd E) {k : Nat} (hk : k < E.length) {x : Int32} (hx : x.toInt = (E[k]).1.toInt + 1) : own_cl E x = k + 1 := by
  have hl : (E.take (k + 1)).length = k + 1 := by simp; omega
  rw [← List.take_append_drop (k + 1) E, own_cl_app, own_cl_all, own_cl_none, hl]
  · intro e he w
    obtain ⟨s, hs, rfl⟩ := List.getElem_of_mem he
    simp at hs
    have := (List.pairwise_iff_getElem.mp S) k (k + 1 + s) hk (by omega) (by omega)
    rw [List.getElem_drop] at w
    rw [Int32.lt_iff_toInt_lt] at w this
    omega
  · intro e he
    obtain ⟨s, hs, rfl⟩ := List.getElem_of_mem he
    simp at hs
    rw [List.getElem_take, Int32.lt_iff_toInt_lt, hx]
    by_cases q : s = k
    · subst q; omega
    · have := lt_int ((List.pairwise_iff_getElem.mp S) s k (by omega) hk (by omega))
      omega
theorem own_uniq {E : List own_Ent} (S : own_Sd E) {e e' : own_Ent} (h : e ∈ E) (h' : e' ∈ E) (q : e.1 = e'.1) : e = e' := by
  obtain ⟨s, hs, rfl⟩ := List.getElem_of_mem h
  obtain ⟨t, ht, rfl⟩ := List.getElem_of_mem h'
  rcases Nat.lt_trichotomy s t with w | w | w
  · have := (List.pairwise_iff_getElem.mp S) s t hs ht w
    rw [q] at this; exact absurd this Int32.lt_irrefl
  · subst w; rfl
  · have := (List.pairwise_iff_getElem.mp S) t s ht hs w
    rw [q] at this; exact absurd this Int32.lt_irrefl

def own_fr0 : List Nat := (List.range 32).map (31 - ·)
theorem own_init1 {Q : Option Value → EMem → Prop} {x1 x2 : Int32} (sd cpv : Int32) (cp : Nat) (hc : cpv = Int32.ofNat cp) (cp32 : cp ≤ 32) (ml : Nat → Nat → Int64)
    (K : ∀ m ml', own_D m [] own_fr0 [] sd cp (fun _ => 0) (fun _ => 0) → Q none ((LL1 n), m, ml', RR1)) :
    ∀ (f i : Nat) (m : Nat → Nat → Int32), i + f = 32 → m 1 34 = sd → m 1 36 = cpv → m 1 38 = 0 → m 1 40 = 0 → (∀ k, m 8 k = 0) → (∀ k, m 9 k = 0) → (∀ k, k < i → m 7 k = Int32.ofNat (31 - k)) →
    W_init 135 [.val (.ref 1), .val (.int x1), .val (.int x2), .val (.int sd), .val (.int cpv), .val (.int (Int32.ofNat i))] [] ((LL1 n), m, ml, RR1) Q := by
  intro f
  induction f with
  | zero =>
    intro i m hf h1 h2 h3 h4 h5 h6 h7
    have : i = 32 := by omega
    subst this
    refine L_init_135 (fun _ => K _ _ ?_) (fun h => absurd h (by decide)) (fun h => absurd h (by decide))
    refine ⟨⟨?_, fun p h => absurd h (by simp), fun p h => absurd h (by simp), fun p h => absurd h (by simp), fun p h => absurd h (by simp), rfl, fun k hk => ?_, ?_, fun x hx => ?_, ?_⟩, rfl, fun p h => absurd h (by simp), List.Pairwise.nil, fun e he => absurd he (by simp), ?_, ?_, cp32, Nat.zero_le _, ?_, fun k _ => ?_, fun k _ => ?_⟩
    · rw [up_ne' (by decide), h4]; rfl
    · have hk' : k < 32 := by simpa [own_fr0] using hk
      rw [up_ne (by decide), h7 k hk']; simp [own_fr0]
    · decide
    · have : ∀ x ∈ ([] : own_Tr).map (·.1) ++ own_fr0, x < 32 := by decide
      exact this x hx
    · decide
    · rw [up_ne' (by decide), h3]; rfl
    · rw [up_ne' (by decide), h2, hc]
    · rw [up_ne' (by decide), h1]
    · rw [up_ne (by decide)]; exact h5 k
    · rw [up_ne (by decide)]; exact h6 k
  | succ f ih =>
    intro i m hf h1 h2 h3 h4 h5 h6 h7
    have lt : Int32.ofNat i < 32 := (own_Nlt (b := 32) (by omega) (by omega)).mpr (by omega)
    refine L_init_135 (fun h => absurd lt h) (fun _ => own_Ninb (by omega) (by omega)) (fun _ => ?_)
    rw [own_Nc (by omega), own_Nadd1]
    have e : (31 : Int32) - Int32.ofNat i = Int32.ofNat (31 - i) := own_Nsub (a := 31) (by omega) (by omega)
    rw [e]
    refine ih (i + 1) _ (by omega) ?_ ?_ ?_ ?_ (fun k => ?_) (fun k => ?_) (fun k hk => ?_)
    · rw [up_ne (by decide)]; exact h1
    · rw [up_ne (by decide)]; exact h2
    · rw [up_ne (by decide)]; exact h3
    · rw [up_ne (by decide)]; exact h4
    · rw [up_ne (by decide)]; exact h5 k
    · rw [up_ne (by decide)]; exact h6 k
    · rw [up_at]
      by_cases q : k = i
      · rw [if_pos ⟨rfl, q⟩, q]
      · rw [if_neg (fun z => q z.2)]; exact h7 k (by omega)
theorem own_init {Q : Option Value → EMem → Prop} (x1 x2 : Int32) (mi : Nat → Nat → Int32) (ml : Nat → Nat → Int64) (hz : ∀ b k, 1 ≤ b → mi b k = 0)
    (K : ∀ m ml' sd cp, (sd = if x1 < 0 then 0 else if 65535 < x1 then 65535 else x1) → (Int32.ofNat cp = if x2 < 8 then 8 else if 32 < x2 then 32 else x2) → 8 ≤ cp → own_D m [] own_fr0 [] sd cp (fun _ => 0) (fun _ => 0) → Q none ((LL1 n), m, ml', RR1)) :
    W_init 0 [.val (.ref 1), .val (.int x1), .val (.int x2), .unset, .unset, .unset] [] ([(1, "", n), (0, "HtreeDir", 13)], mi, ml, (fun _ _ => Value.null)) Q := by
  refine L_init_0 ?_
  intro v1 e1 v2 e2 v3 e3 v4 e4
  have b1 : ¬ v4 < 8 := by grind
  have b2 : ¬ 32 < v4 := by grind
  have c8 : (8 : Int32).toInt = 8 := by decide
  have c32 : (32 : Int32).toInt = 32 := by decide
  have d1 := ge_int b1
  have d2 := ge_int b2
  have e : v4 = Int32.ofNat v4.toInt.toNat := by
    apply Int32.toInt_inj.mp
    rw [own_Nt (by omega)]; omega
  refine own_init1 v2 v4 v4.toInt.toNat e (by omega) ml (fun m ml' D => K m ml' v2 v4.toInt.toNat ?_ (by rw [← e]; grind) (by omega) D) 32 0 _ rfl rfl rfl rfl rfl (fun k => ?_) (fun k => ?_) (fun k hk => absurd hk (by omega))
  · rw [e2, e1]; grind
  · rw [up_ne (by decide), up_ne (by decide), up_ne (by decide), up_ne (by decide)]; exact hz _ _ (by decide)
  · rw [up_ne (by decide), up_ne (by decide), up_ne (by decide), up_ne (by decide)]; exact hz _ _ (by decide)

/-- the hash on numbers -/
def own_hN (s x : Nat) : Nat :=
  let b := (x ^^^ s) * 40507 % 65536
  let c := b ^^^ (b >>> 7)
  let d := c * 23505 % 65536
  d ^^^ (d >>> 9)
theorem own_Nand16 {k : Nat} (hk : k < 4294967296) : Int32.ofNat k &&& 65535 = Int32.ofNat (k % 65536) := by
  obtain ⟨j, hj, e, q⟩ := own_and16 (Int32.ofNat k)
  rw [e, q, Int32.toBitVec_ofNat', BitVec.toNat_ofNat, Nat.mod_eq_of_lt (a := k) (by omega)]
theorem own_hs_N {s x : Nat} (hs : s < 65536) (hx : x < 65536) : own_hs (Int32.ofNat s) (Int32.ofNat x) = Int32.ofNat (own_hN s x) := by
  have a0 : x ^^^ s < 65536 := Nat.xor_lt_two_pow (n := 16) (by omega) (by omega)
  unfold own_hs
  rw [own_Nxor hx hs, own_Nand16 (by omega), Nat.mod_eq_of_lt a0]
  have m1 : Int32.ofNat (x ^^^ s) * 40507 = Int32.ofNat ((x ^^^ s) * 40507) := (Int32.ofNat_mul (x ^^^ s) 40507).symm
  rw [m1, own_Nand16 (by omega)]
  have b0 : (x ^^^ s) * 40507 % 65536 < 65536 := Nat.mod_lt _ (by decide)
  obtain ⟨e1, c0⟩ := own_xsh b0 7 7 (by decide) (by decide)
  rw [e1]
  have m2 : ∀ c : Nat, Int32.ofNat c * 23505 = Int32.ofNat (c * 23505) := fun c => (Int32.ofNat_mul c 23505).symm
  rw [m2, own_Nand16 (by omega)]
  obtain ⟨e2, d0⟩ := own_xsh (k := (((x ^^^ s) * 40507 % 65536) ^^^ (((x ^^^ s) * 40507 % 65536) >>> 7)) * 23505 % 65536) (Nat.mod_lt _ (by decide)) 9 9 (by decide) (by decide)
  rw [e2]
  rfl
theorem own_mulinj {m w a b : Nat} (h : m * w % 65536 = 1) (ha : a < 65536) (hb : b < 65536) (e : a * m % 65536 = b * m % 65536) : a = b := by
  have key : ∀ z : Nat, z < 65536 → (z * m % 65536) * w % 65536 = z := fun z hz => by
    rw [Nat.mod_mul_mod, Nat.mul_assoc, Nat.mul_mod, h, Nat.mul_one, Nat.mod_mod, Nat.mod_eq_of_lt hz]
  rw [← key a ha, ← key b hb, e]
theorem own_xsinj {j a b : Nat} (hj : 0 < j) (e : a ^^^ (a >>> j) = b ^^^ (b >>> j)) : a = b := by
  have d : a ^^^ b = (a ^^^ b) >>> j := by
    rw [Nat.shiftRight_xor_distrib]
    have h1 : a = (b ^^^ (b >>> j)) ^^^ (a >>> j) := by rw [← e, Nat.xor_assoc, Nat.xor_self, Nat.xor_zero]
    calc a ^^^ b = ((b ^^^ (b >>> j)) ^^^ (a >>> j)) ^^^ b := by rw [← h1]
      _ = (a >>> j) ^^^ (b >>> j) := by
        rw [Nat.xor_comm b (b >>> j), Nat.xor_assoc, Nat.xor_assoc, Nat.xor_comm (a >>> j) b, ← Nat.xor_assoc b, Nat.xor_self, Nat.zero_xor, Nat.xor_comm]
  have z : a ^^^ b = 0 := by
    rw [Nat.shiftRight_eq_div_pow] at d
    generalize a ^^^ b = t at *
    rcases Nat.eq_zero_or_pos t with w | w
    · exact w
    · have : t / 2 ^ j < t := Nat.div_lt_self w (Nat.one_lt_two_pow (by omega))
      omega
  have : a = (a ^^^ b) ^^^ b := by rw [Nat.xor_assoc, Nat.xor_self, Nat.xor_zero]
  rw [this, z, Nat.zero_xor]
theorem own_hN_inj {s x y : Nat} (hs : s < 65536) (hx : x < 65536) (hy : y < 65536) (e : own_hN s x = own_hN s y) : x = y := by
  unfold own_hN at e
  have e1 := own_xsinj (by decide) e
  have lt : ∀ z : Nat, (z * 40507 % 65536) ^^^ ((z * 40507 % 65536) >>> 7) < 65536 := fun z => by
    have h1 : z * 40507 % 65536 < 65536 := Nat.mod_lt _ (by decide)
    have h2 : (z * 40507 % 65536) >>> 7 ≤ z * 40507 % 65536 := by rw [Nat.shiftRight_eq_div_pow]; exact Nat.div_le_self _ _
    exact Nat.xor_lt_two_pow (n := 16) (by omega) (by omega)
  have e2 := own_mulinj (w := 56625) (by decide) (lt _) (lt _) e1
  have e3 := own_xsinj (by decide) e2
  have e4 := own_mulinj (w := 35571) (by decide) (Nat.xor_lt_two_pow (n := 16) (by omega) (by omega)) (Nat.xor_lt_two_pow (n := 16) (by omega) (by omega)) e3
  have : ∀ a : Nat, a = (a ^^^ s) ^^^ s := fun a => by rw [Nat.xor_assoc, Nat.xor_self, Nat.xor_zero]
  rw [this x, e4, ← this y]
theorem own_hs_inj {s x y : Nat} (hs : s < 65536) (hx : x < 65536) (hy : y < 65536) (e : own_hs (Int32.ofNat s) (Int32.ofNat x) = own_hs (Int32.ofNat s) (Int32.ofNat y)) : x = y := by
  rw [own_hs_N hs hx, own_hs_N hs hy] at e
  have b : ∀ z, own_hN s z < 65536 := fun z => by
    unfold own_hN
    have h1 : ∀ c : Nat, c * 23505 % 65536 < 65536 := fun c => Nat.mod_lt _ (by decide)
    have h2 : ∀ c : Nat, (c * 23505 % 65536) >>> 9 ≤ c * 23505 % 65536 := fun c => by rw [Nat.shiftRight_eq_div_pow]; exact Nat.div_le_self _ _
    exact Nat.xor_lt_two_pow (n := 16) (h1 _) (Nat.lt_of_le_of_lt (h2 _) (h1 _))
  have := b x
  have := b y
  exact own_hN_inj hs hx hy (own_Ninj (by omega) (by omega) e)
theorem own_andN (z : Int32) (m : Nat) (hm : m < 2147483648) : ∃ k, k ≤ m ∧ z &&& Int32.ofNat m = Int32.ofNat k := by
  refine ⟨(z &&& Int32.ofNat m).toBitVec.toNat, ?_, ?_⟩
  · rw [Int32.toBitVec_and, BitVec.toNat_and, Int32.toBitVec_ofNat', BitVec.toNat_ofNat, Nat.mod_eq_of_lt (a := m) (by omega)]
    exact Nat.and_le_right
  · apply Int32.toBitVec_inj.mp
    rw [Int32.toBitVec_ofNat']
    apply BitVec.eq_of_toNat_eq
    rw [BitVec.toNat_ofNat, Nat.mod_eq_of_lt (BitVec.isLt _)]
theorem own_orN {i k : Nat} (hi : i < 30) (hk : k < 2 ^ i) : Int32.ofNat (2 ^ i) ||| Int32.ofNat k = Int32.ofNat (2 ^ i + k) := by
  have hp : 2 ^ i ≤ 2 ^ 29 := Nat.pow_le_pow_right (by decide) (by omega)
  have h29 : (2 : Nat) ^ 29 = 536870912 := by decide
  apply Int32.toBitVec_inj.mp
  rw [Int32.toBitVec_or, Int32.toBitVec_ofNat', Int32.toBitVec_ofNat', Int32.toBitVec_ofNat']
  apply BitVec.eq_of_toNat_eq
  have := Nat.two_pow_add_eq_or_of_lt hk 1
  rw [Nat.mul_one] at this
  rw [BitVec.toNat_or, BitVec.toNat_ofNat, BitVec.toNat_ofNat, BitVec.toNat_ofNat, Nat.mod_eq_of_lt (a := 2 ^ i) (by omega), Nat.mod_eq_of_lt (a := k) (by omega), Nat.mod_eq_of_lt (by omega), this]

/-- what is found under a name -/
def own_look (E : List own_Ent) (sd x : Int32) : Int32 := if x < 0 ∨ 65535 < x then 0 else ((E.find? (fun e => decide (e.1 = own_hs sd x))).map (fun e => e.2.2)).getD 0
theorem own_look_of {E : List own_Ent} (S : own_Sd E) {sd x : Int32} {e : own_Ent} (hn : ¬ (x < 0 ∨ 65535 < x)) (he : e ∈ E) (hq : e.1 = own_hs sd x) : own_look E sd x = e.2.2 := by
  unfold own_look
  rw [if_neg hn]
  cases h : E.find? (fun e => decide (e.1 = own_hs sd x)) with
  | none =>
    have := List.find?_eq_none.mp h e he
    simp [hq] at this
  | some e' =>
    have h1 := List.mem_of_find?_eq_some h
    have h2 := List.find?_some h
    simp at h2
    have := own_uniq S h1 he (h2.trans hq.symm)
    subst this; rfl
theorem own_look_no {E : List own_Ent} {sd x : Int32} (h : (x < 0 ∨ 65535 < x) ∨ ∀ e ∈ E, ¬ e.1 = own_hs sd x) : own_look E sd x = 0 := by
  unfold own_look
  by_cases q : x < 0 ∨ 65535 < x
  · rw [if_pos q]
  · rw [if_neg q]
    have h' := h.resolve_left q
    have : E.find? (fun e => decide (e.1 = own_hs sd x)) = none := List.find?_eq_none.mpr (fun e he => by simpa using h' e he)
    rw [this]; rfl
theorem own_D.look {mi : Nat → Nat → Int32} {T : own_Tr} {fr : List Nat} {E : List own_Ent} {sd : Int32} {cp : Nat} {op ck : Nat → Int32} (D : own_D mi T fr E sd cp op ck) {Q : Option Value → EMem → Prop} (x : Int32) (ml : Nat → Nat → Int64)
    (K : Q (some (.int (own_look E sd x))) ((LL1 n), mi, ml, RR1)) : W_lookup 0 [.val (.ref 1), .val (.int x), .unset, .unset] [] ((LL1 n), mi, ml, RR1) Q :=
  D.lookup x ml (fun h => by rw [own_look_no h] at K; exact K) (fun hn e he hq => by rw [own_look_of D.srt hn he hq] at K; exact K)

/-- the name at a rank -/
def own_nar (E : List own_Ent) (x : Int32) : Int32 := if x < 0 ∨ ¬ x < Int32.ofNat E.length then -1 else ((E[x.toNatClampNeg]?).map (fun e => e.2.1)).getD (-1)
/-- the cookie of a stream -/
def own_tell (op ck : Nat → Int32) (k : Nat) : Int32 := if op k = 0 then -2 else ck k
/-! bits -/
def own_B (x : Int64) (k : Nat) : Bool := x.toBitVec.getLsbD k
def own_b (x : Int32) (k : Nat) : Bool := x.toBitVec.getLsbD k
theorem own_B_ext {x y : Int64} (h : ∀ k, k < 64 → own_B x k = own_B y k) : x = y := by
  apply Int64.toBitVec_inj.mp
  apply BitVec.eq_of_getLsbD_eq
  intro i hi; exact h i hi
theorem own_b_ext {x y : Int32} (h : ∀ k, k < 32 → own_b x k = own_b y k) : x = y := by
  apply Int32.toBitVec_inj.mp
  apply BitVec.eq_of_getLsbD_eq
  intro i hi; exact h i hi
theorem own_B_and (x y : Int64) (k : Nat) : own_B (x &&& y) k = (own_B x k && own_B y k) := by unfold own_B; rw [Int64.toBitVec_and, BitVec.getLsbD_and]
theorem own_B_or (x y : Int64) (k : Nat) : own_B (x ||| y) k = (own_B x k || own_B y k) := by unfold own_B; rw [Int64.toBitVec_or, BitVec.getLsbD_or]
theorem own_B_xor (x y : Int64) (k : Nat) : own_B (x ^^^ y) k = (own_B x k ^^ own_B y k) := by unfold own_B; rw [Int64.toBitVec_xor, BitVec.getLsbD_xor]
theorem own_b_and (x y : Int32) (k : Nat) : own_b (x &&& y) k = (own_b x k && own_b y k) := by unfold own_b; rw [Int32.toBitVec_and, BitVec.getLsbD_and]
theorem own_b_or (x y : Int32) (k : Nat) : own_b (x ||| y) k = (own_b x k || own_b y k) := by unfold own_b; rw [Int32.toBitVec_or, BitVec.getLsbD_or]
theorem own_b_xor (x y : Int32) (k : Nat) : own_b (x ^^^ y) k = (own_b x k ^^ own_b y k) := by unfold own_b; rw [Int32.toBitVec_xor, BitVec.getLsbD_xor]
theorem own_B_ge (x : Int64) {k : Nat} (h : 64 ≤ k) : own_B x k = false := BitVec.getLsbD_of_ge _ _ h
theorem own_B_ushr (x : Int64) {j : Nat} (hj : j < 64) (k : Nat) : own_B (XT.ushrL x (Int32.ofNat j)) k = own_B x (j + k) := by
  have key : ∀ j, j < 64 → (((Int32.ofNat j).toInt64.toUInt64 &&& Int64.toUInt64 63).toBitVec % 64).toNat = j := by decide +kernel
  show ((x.toUInt64 >>> ((Int32.ofNat j).toInt64.toUInt64 &&& Int64.toUInt64 63)).toBitVec).getLsbD k = x.toBitVec.getLsbD (j + k)
  rw [UInt64.toBitVec_shiftRight, BitVec.ushiftRight_eq', key j hj, BitVec.getLsbD_ushiftRight]
  rfl
theorem own_B_shl (x : Int64) {j : Nat} (hj : j < 64) (k : Nat) : own_B (x <<< (Int32.toInt64 (Int32.ofNat j) &&& 63)) k = (decide (k < 64) && !decide (k < j) && own_B x (k - j)) := by
  have key : ∀ j, j < 64 → ((((Int32.ofNat j).toInt64 &&& 63).toBitVec).smod 64).toNat = j := by decide +kernel
  unfold own_B
  rw [Int64.toBitVec_shiftLeft, BitVec.shiftLeft_eq', key j hj, BitVec.getLsbD_shiftLeft]
theorem own_L_of {a : Nat} (h : a < 2147483648) : (Int32.ofNat a).toInt64 = Int64.ofNat a := by
  apply Int64.toInt_inj.mp
  rw [Int32.toInt_toInt64, own_Nt h, Int64.toInt_ofNat_of_lt (by omega)]
theorem own_B_of (a k : Nat) : own_B (Int64.ofNat a) k = (decide (k < 64) && a.testBit k) := by
  unfold own_B
  rw [Int64.toBitVec_ofNat', BitVec.getLsbD_ofNat]
theorem own_B_L (v : Int32) {k : Nat} (h : k < 32) : own_B (Int32.toInt64 v) k = own_b v k := by
  unfold own_B own_b
  show (v.toBitVec.signExtend 64).getLsbD k = _
  rw [BitVec.getLsbD_signExtend, if_pos h]
  simp; omega
theorem own_b_I (x : Int64) {k : Nat} (h : k < 32) : own_b (Int64.toInt32 x) k = own_B x k := by
  unfold own_B own_b
  show (x.toBitVec.signExtend 32).getLsbD k = _
  rw [BitVec.getLsbD_signExtend, if_pos (by omega)]
  simp [h]
theorem own_lit {c : Int64} {f : Nat → Bool} (h : ∀ k, k < 64 → own_B c k = f k) (h2 : ∀ k, 64 ≤ k → f k = false) (k : Nat) : own_B c k = f k := by
  rcases Nat.lt_or_ge k 64 with q | q
  · exact h k q
  · rw [own_B_ge _ q, h2 k q]
theorem own_B15 (k : Nat) : own_B 15 k = decide (k < 4) := own_lit (f := fun k => decide (k < 4)) (by decide +kernel) (fun k h => decide_eq_false (by omega)) k
theorem own_B1 (k : Nat) : own_B 1 k = decide (k = 0) := own_lit (f := fun k => decide (k = 0)) (by decide +kernel) (fun k h => decide_eq_false (by omega)) k
theorem own_Bm (k : Nat) : own_B (-1) k = decide (k < 64) := own_lit (f := fun k => decide (k < 64)) (by decide +kernel) (fun k h => decide_eq_false (by omega)) k
theorem own_B16 (k : Nat) : own_B 65535 k = decide (k < 16) := own_lit (f := fun k => decide (k < 16)) (by decide +kernel) (fun k h => decide_eq_false (by omega)) k
theorem own_B17 (k : Nat) : own_B 131071 k = decide (k < 17) := own_lit (f := fun k => decide (k < 17)) (by decide +kernel) (fun k h => decide_eq_false (by omega)) k
theorem own_B49 (k : Nat) : own_B 562949953421312 k = decide (k = 49) := own_lit (f := fun k => decide (k = 49)) (by decide +kernel) (fun k h => decide_eq_false (by omega)) k
theorem own_BM (k : Nat) : own_B (-562945658454017) k = decide (k < 64 ∧ ¬ (32 ≤ k ∧ k < 49)) := own_lit (f := fun k => decide (k < 64 ∧ ¬ (32 ≤ k ∧ k < 49))) (by decide +kernel) (fun k h => decide_eq_false (by omega)) k
theorem own_B0 (k : Nat) : own_B 0 k = false := own_lit (f := fun k => false) (by decide +kernel) (fun k h => rfl) k
theorem own_bm {k : Nat} (h : k < 32) : own_b (-1) k = true := by
  have key : ∀ k, k < 32 → own_b (-1) k = true := by decide +kernel
  exact key k h
theorem own_bp {i k : Nat} (hi : i < 16) (h : k < 32) : own_b (Int32.ofNat (2 ^ i)) k = decide (k = i) := by
  have key : ∀ i, i < 16 → ∀ k, k < 32 → own_b (Int32.ofNat (2 ^ i)) k = decide (k = i) := by decide +kernel
  exact key i hi k h
theorem own_cl0 {a b : Int64} : XT.cmpL a b = 0 ↔ a = b := by
  unfold XT.cmpL
  by_cases h : b < a
  · rw [if_pos h]
    refine ⟨fun w => absurd w (by decide), fun w => ?_⟩
    rw [w] at h; exact absurd h Int64.lt_irrefl
  · rw [if_neg h]
    by_cases h2 : a = b
    · rw [if_pos h2]; exact ⟨fun _ => h2, fun _ => rfl⟩
    · rw [if_neg h2]; exact ⟨fun w => absurd w (by decide), fun w => absurd w h2⟩
theorem own_bit1 (w : Int64) {j : Nat} (hj : j < 64) : XT.cmpL ((XT.ushrL w (Int32.ofNat j)) &&& 1) 0 = 0 ↔ own_B w j = false := by
  rw [own_cl0]
  constructor
  · intro h
    have := congrArg (fun z => own_B z 0) h
    simp only [own_B_and, own_B_ushr w hj, own_B1, own_B0] at this
    simpa using this
  · intro h
    apply own_B_ext
    intro k hk
    rw [own_B_and, own_B_ushr w hj, own_B1, own_B0]
    by_cases q : k = 0
    · rw [q]; simpa using h
    · simp [q]
/-! a walk in one word: bit 49 says that it is on, 32 to 48 hold the last cookie and one, 16 to 31 what was seen, 0 to 15 what has to be seen -/
def own_lf (w : Int64) : Int64 := (XT.ushrL w 32) &&& 131071
theorem own_lf_B (w : Int64) (k : Nat) : own_B (own_lf w) k = (own_B w (32 + k) && decide (k < 17)) := by
  unfold own_lf
  rw [own_B_and, own_B17]
  have := own_B_ushr w (j := 32) (by omega) k
  rw [show (32 : Int32) = Int32.ofNat 32 from rfl, this]
theorem own_start (held : Int32) : own_B (562949953421312 ||| ((Int32.toInt64 held) &&& 65535)) 49 = true ∧ (∀ t, t < 16 → own_B (562949953421312 ||| ((Int32.toInt64 held) &&& 65535)) t = own_b held t) ∧ (∀ t, t < 16 → own_B (562949953421312 ||| ((Int32.toInt64 held) &&& 65535)) (16 + t) = false) ∧ own_lf (562949953421312 ||| ((Int32.toInt64 held) &&& 65535)) = 0 := by
  refine ⟨?_, fun t ht => ?_, fun t ht => ?_, ?_⟩
  · rw [own_B_or, own_B49]; rfl
  · rw [own_B_or, own_B49, own_B_and, own_B16, own_B_L held (by omega)]
    rw [decide_eq_false (by omega), decide_eq_true ht]; simp
  · rw [own_B_or, own_B49, own_B_and, own_B16]
    rw [decide_eq_false (by omega), decide_eq_false (by omega)]; simp
  · apply own_B_ext
    intro k hk
    rw [own_lf_B, own_B0, own_B_or, own_B49, own_B_and, own_B16, decide_eq_false (show ¬ 32 + k < 16 by omega)]
    by_cases q : k < 17
    · rw [decide_eq_false (by omega)]; simp
    · rw [decide_eq_false q]; simp
theorem own_drop (w : Int64) {i : Nat} (hi : i < 16) : (∀ t, own_B (w &&& ((Int32.toInt64 (Int32.ofNat (2 ^ i))) ^^^ (-1 : Int64))) t = (own_B w t && !decide (t = i))) ∧ own_lf (w &&& ((Int32.toInt64 (Int32.ofNat (2 ^ i))) ^^^ (-1 : Int64))) = own_lf w := by
  have h2 : 2 ^ i < 65536 := Nat.pow_lt_pow_right (a := 2) (by omega) hi
  have key : ∀ t, own_B (w &&& ((Int32.toInt64 (Int32.ofNat (2 ^ i))) ^^^ (-1 : Int64))) t = (own_B w t && !decide (t = i)) := by
    intro t
    rw [own_B_and, own_B_xor, own_Bm, own_L_of (by omega), own_B_of, Nat.testBit_two_pow]
    by_cases q : t < 64
    · rw [decide_eq_true q]
      by_cases z : t = i
      · rw [decide_eq_true z, decide_eq_true z.symm]; rfl
      · rw [decide_eq_false z, decide_eq_false (fun y => z y.symm)]; rfl
    · rw [own_B_ge w (by omega)]; rfl
  refine ⟨key, ?_⟩
  apply own_B_ext
  intro k hk
  rw [own_lf_B, own_lf_B, key, decide_eq_false (show ¬ 32 + k = i by omega)]
  simp
theorem own_upd (w : Int64) {a j : Nat} (ha : a < 65536) (hj : j < 16) : ∀ u, u = (((w &&& (-562945658454017 : Int64)) ||| (((Int32.toInt64 (Int32.ofNat a)) + (1 : Int64)) <<< (Int32.toInt64 32 &&& 63))) ||| ((1 : Int64) <<< (Int32.toInt64 (16 + Int32.ofNat j) &&& 63))) →
    own_B u 49 = own_B w 49 ∧ (∀ t, t < 16 → own_B u t = own_B w t) ∧ (∀ t, t < 16 → own_B u (16 + t) = (own_B w (16 + t) || decide (t = j))) ∧ own_lf u = Int32.toInt64 (Int32.ofNat a) + 1 := by
  intro u hu
  have e1 : Int32.toInt64 (Int32.ofNat a) + 1 = Int64.ofNat (a + 1) := by
    rw [own_L_of (by omega)]; exact (Int64.ofNat_add a 1).symm
  have e2 : (16 : Int32) + Int32.ofNat j = Int32.ofNat (16 + j) := own_Nadd 16 j
  have key : ∀ k, own_B u k = (((own_B w k && decide (k < 64 ∧ ¬ (32 ≤ k ∧ k < 49))) || (decide (k < 64) && !decide (k < 32) && (decide (k - 32 < 64) && (a + 1).testBit (k - 32)))) || (decide (k < 64) && !decide (k < 16 + j) && decide (k - (16 + j) = 0))) := by
    intro k
    rw [hu, e1, e2, own_B_or, own_B_or, own_B_and, own_BM]
    have s1 := own_B_shl (Int64.ofNat (a + 1)) (j := 32) (by omega) k
    have s2 := own_B_shl 1 (j := 16 + j) (by omega) k
    rw [own_B_of] at s1
    rw [own_B1] at s2
    rw [show (32 : Int32) = Int32.ofNat 32 from rfl, s1, s2]
  have hb : ∀ k, 17 ≤ k → (a + 1).testBit k = false := fun k hk => Nat.testBit_lt_two_pow (Nat.lt_of_lt_of_le (show a + 1 < 2 ^ 17 by omega) (Nat.pow_le_pow_right (by omega) hk))
  refine ⟨?_, fun t ht => ?_, fun t ht => ?_, ?_⟩
  · rw [key, hb _ (by omega), decide_eq_false (show ¬ 49 - (16 + j) = 0 by omega)]; simp
  · rw [key, decide_eq_true (show t < 64 ∧ ¬ (32 ≤ t ∧ t < 49) by omega), decide_eq_true (show t < 32 by omega), decide_eq_true (show t < 16 + j by omega)]; simp
  · rw [key, decide_eq_true (show 16 + t < 64 ∧ ¬ (32 ≤ 16 + t ∧ 16 + t < 49) by omega), decide_eq_true (show 16 + t < 32 by omega), decide_eq_true (show 16 + t < 64 by omega)]
    by_cases q : t = j
    · rw [decide_eq_true q, decide_eq_false (show ¬ 16 + t < 16 + j by omega), decide_eq_true (show 16 + t - (16 + j) = 0 by omega)]; simp
    · rw [decide_eq_false q]
      by_cases z : 16 + t < 16 + j
      · rw [decide_eq_true z]; simp
      · rw [decide_eq_false (show ¬ 16 + t - (16 + j) = 0 by omega)]; simp
  · apply own_B_ext
    intro k hk
    rw [own_lf_B, e1, own_B_of]
    by_cases q : k < 17
    · rw [key, decide_eq_false (show ¬ (32 + k < 64 ∧ ¬ (32 ≤ 32 + k ∧ 32 + k < 49)) by omega), decide_eq_false (show ¬ 32 + k < 32 by omega), decide_eq_false (show ¬ 32 + k - (16 + j) = 0 by omega), decide_eq_true (show 32 + k < 64 by omega), decide_eq_true (show 32 + k - 32 < 64 by omega), decide_eq_true q, decide_eq_true hk, show 32 + k - 32 = k by omega]; simp
    · rw [decide_eq_false q, hb _ (by omega)]; simp
theorem own_end16 (w : Int64) (h : ∀ t, t < 16 → own_B w t = true → own_B w (16 + t) = true) : ((Int64.toInt32 (w &&& (65535 : Int64))) &&& ((Int64.toInt32 ((XT.ushrL w 16) &&& (65535 : Int64))) ^^^ -1)) = 0 := by
  apply own_b_ext
  intro k hk
  have z : own_b 0 k = false := by
    have := own_b_I 0 hk
    rw [own_B0] at this; exact this
  have e := own_B_ushr w (j := 16) (by omega) k
  rw [z, own_b_and, own_b_xor, own_bm hk, own_b_I _ hk, own_b_I _ hk, own_B_and, own_B_and, own_B16, show (16 : Int32) = Int32.ofNat 16 from rfl, e]
  by_cases q : k < 16
  · have := h k q
    rw [decide_eq_true q]
    cases h1 : own_B w k
    · simp
    · rw [this h1]; simp
  · rw [decide_eq_false q]; simp
/-! sixteen nibbles in one word -/
def own_nb (x : Int64) (t : Nat) : Int32 := Int64.toInt32 ((XT.ushrL x (4 * Int32.ofNat t)) &&& (15 : Int64))
theorem own_nb_set (x : Int64) {i a t : Nat} (hi : i < 16) (ha : a < 16) (ht : t < 16) : own_nb ((x &&& (((15 : Int64) <<< (Int32.toInt64 (4 * Int32.ofNat i) &&& 63)) ^^^ (-1 : Int64))) ||| (((Int32.toInt64 (Int32.ofNat a)) &&& (15 : Int64)) <<< (Int32.toInt64 (4 * Int32.ofNat i) &&& 63))) t = if t = i then Int32.ofNat a else own_nb x t := by
  have e4 : ∀ t, (4 : Int32) * Int32.ofNat t = Int32.ofNat (4 * t) := fun t => (Int32.ofNat_mul 4 t).symm
  have hb : ∀ k, 4 ≤ k → a.testBit k = false := fun k hk => Nat.testBit_lt_two_pow (Nat.lt_of_lt_of_le (show a < 2 ^ 4 by omega) (Nat.pow_le_pow_right (by omega) hk))
  have key : ∀ k, k < 4 → own_B ((x &&& (((15 : Int64) <<< (Int32.toInt64 (4 * Int32.ofNat i) &&& 63)) ^^^ (-1 : Int64))) ||| (((Int32.toInt64 (Int32.ofNat a)) &&& (15 : Int64)) <<< (Int32.toInt64 (4 * Int32.ofNat i) &&& 63))) (4 * t + k) = if t = i then a.testBit k else own_B x (4 * t + k) := by
    intro k hk
    rw [own_B_or, own_B_and, own_B_xor, own_Bm, e4, own_B_shl _ (by omega), own_B_shl _ (by omega), own_B15, own_B_and, own_B15, own_L_of (by omega), own_B_of]
    rw [decide_eq_true (show 4 * t + k < 64 by omega)]
    by_cases q : t = i
    · subst q
      rw [if_pos rfl, decide_eq_false (show ¬ 4 * t + k < 4 * t by omega), show 4 * t + k - 4 * t = k by omega, decide_eq_true hk, decide_eq_true (show k < 64 by omega)]; simp
    · rw [if_neg q]
      by_cases z : 4 * t + k < 4 * i
      · rw [decide_eq_true z]; simp
      · rw [decide_eq_false z, decide_eq_false (show ¬ 4 * t + k - 4 * i < 4 by omega)]; simp
  generalize ((x &&& (((15 : Int64) <<< (Int32.toInt64 (4 * Int32.ofNat i) &&& 63)) ^^^ (-1 : Int64))) ||| (((Int32.toInt64 (Int32.ofNat a)) &&& (15 : Int64)) <<< (Int32.toInt64 (4 * Int32.ofNat i) &&& 63))) = y at *
  unfold own_nb
  rw [e4 t]
  by_cases q : t = i
  · rw [if_pos q]
    apply own_b_ext
    intro k hk
    rw [own_b_I _ hk, own_B_and, own_B15, own_B_ushr _ (by omega)]
    have ez : own_b (Int32.ofNat a) k = a.testBit k := by
      unfold own_b
      rw [Int32.toBitVec_ofNat', BitVec.getLsbD_ofNat, decide_eq_true hk]; simp
    rw [ez]
    by_cases z : k < 4
    · rw [key k z, if_pos q, decide_eq_true z]; simp
    · rw [decide_eq_false z, hb k (by omega)]; simp
  · rw [if_neg q]
    congr 1
    apply own_B_ext
    intro k hk
    rw [own_B_and, own_B_and, own_B15, own_B_ushr _ (by omega), own_B_ushr _ (by omega)]
    by_cases z : k < 4
    · rw [key k z, if_neg q]
    · rw [decide_eq_false z]; simp
-- ==CUT==
def own_nm (t : Nat) : Int32 := Int32.ofNat (t * 4099 + 7)
def own_hq (sd : Int32) (t : Nat) : Int32 := own_hs sd (own_nm t)
theorem own_nm_ok {t : Nat} (h : t < 16) : ¬ (own_nm t < 0 ∨ 65535 < own_nm t) := by
  intro q
  rcases q with q | q
  · exact own_Nnn (by omega) q
  · have := (own_Nlt (a := 65535) (by omega) (by omega)).mp q
    omega
theorem own_nm_of (t : Nat) : Int32.ofNat t * 4099 + 7 = own_nm t := by
  have e : Int32.ofNat t * 4099 = Int32.ofNat (t * 4099) := (Int32.ofNat_mul t 4099).symm
  rw [e]; exact own_Nadd (t * 4099) 7
theorem own_hq_inj {s t u : Nat} (hs : s < 65536) (ht : t < 16) (hu : u < 16) (e : own_hq (Int32.ofNat s) t = own_hq (Int32.ofNat s) u) : t = u := by
  have := own_hs_inj hs (x := t * 4099 + 7) (y := u * 4099 + 7) (by omega) (by omega) e
  omega
theorem own_hq_int (sd : Int32) (t : Nat) : 0 ≤ (own_hq sd t).toInt ∧ (own_hq sd t).toInt < 65536 := by
  obtain ⟨k, hk, e⟩ := own_hs_rng sd (own_nm t)
  unfold own_hq
  rw [e, own_Nt (by omega)]; omega
theorem own_look_eq {E E' : List own_Ent} (S : own_Sd E) (S' : own_Sd E') {sd x : Int32} (hx : ¬ (x < 0 ∨ 65535 < x)) (h : ∀ e : own_Ent, e.1 = own_hs sd x → (e ∈ E ↔ e ∈ E')) : own_look E sd x = own_look E' sd x := by
  by_cases q : ∃ e ∈ E, e.1 = own_hs sd x
  · obtain ⟨e, he, hq⟩ := q
    rw [own_look_of S hx he hq, own_look_of S' hx ((h e hq).mp he) hq]
  · rw [own_look_no (Or.inr (fun e he hq => q ⟨e, he, hq⟩)), own_look_no (Or.inr (fun e he hq => q ⟨e, (h e hq).mpr he, hq⟩))]
def own_Wk (sd o c hd : Int32) (w : Int64) : Prop := ¬ o = 0 ∧ own_lf w = Int32.toInt64 c + 1 ∧ (-1 ≤ c.toInt ∧ c.toInt < 65536) ∧ (∀ t, t < 16 → own_B w t = true → own_b hd t = true) ∧ (∀ t, t < 16 → own_B w t = true → own_hq sd t < c + 1 → own_B w (16 + t) = true) ∧ (∀ t, t < 16 → own_B w (16 + t) = true → own_hq sd t < c + 1)
abbrev own_V (E : List own_Ent) (sd : Int32) (op ck : Nat → Int32) (hd : Int32) (ino : Int64) (W : Nat → Int64) : Prop :=
  (∀ e ∈ E, ∃ t, t < 16 ∧ e.2.1 = own_nm t) ∧ (∀ t, t < 16 → (own_b hd t = true ↔ ∃ e ∈ E, e.1 = own_hq sd t)) ∧ (∀ t, t < 16 → own_look E sd (own_nm t) = own_nb ino t) ∧ (∀ h, h < 4 → own_B (W h) 49 = true → own_Wk sd (op h) (ck h) hd (W h))
theorem own_V.nm {E : List own_Ent} {sd : Int32} {op ck : Nat → Int32} {hd : Int32} {ino : Int64} {W : Nat → Int64} (self : own_V E sd op ck hd ino W) : ∀ e ∈ E, ∃ t, t < 16 ∧ e.2.1 = own_nm t := self.1
theorem own_V.hd {E : List own_Ent} {sd : Int32} {op ck : Nat → Int32} {hd : Int32} {ino : Int64} {W : Nat → Int64} (self : own_V E sd op ck hd ino W) : ∀ t, t < 16 → (own_b hd t = true ↔ ∃ e ∈ E, e.1 = own_hq sd t) := self.2.1
theorem own_V.lk {E : List own_Ent} {sd : Int32} {op ck : Nat → Int32} {hd : Int32} {ino : Int64} {W : Nat → Int64} (self : own_V E sd op ck hd ino W) : ∀ t, t < 16 → own_look E sd (own_nm t) = own_nb ino t := self.2.2.1
theorem own_V.wk {E : List own_Ent} {sd : Int32} {op ck : Nat → Int32} {hd : Int32} {ino : Int64} {W : Nat → Int64} (self : own_V E sd op ck hd ino W) : ∀ h, h < 4 → own_B (W h) 49 = true → own_Wk sd (op h) (ck h) hd (W h) := self.2.2.2
def own_ps (W : Nat → Int64) (x21 x20 : Int32) (x22 : Int64) (k : Nat) : Int64 := if x21 = 0 then W k else if x20 = Int32.ofNat k then x22 else W k
theorem own_ps0 (W : Nat → Int64) (x20 : Int32) (x22 : Int64) : own_ps W 0 x20 x22 = W := rfl
theorem own_ps1 (W : Nat → Int64) {h k : Nat} (hh : h < 4) (hk : k < 4) (x22 : Int64) : own_ps W 1 (Int32.ofNat h) x22 k = if k = h then x22 else W k := by
  unfold own_ps
  rw [if_neg (by decide)]
  by_cases q : k = h
  · rw [if_pos q, if_pos (by rw [q])]
  · rw [if_neg q, if_neg (fun z => q (own_Ninj (by omega) (by omega) z).symm)]
theorem own_V.st {E : List own_Ent} {sd : Int32} {op ck : Nat → Int32} {hd : Int32} {ino : Int64} {W : Nat → Int64} (V : own_V E sd op ck hd ino W) {h : Nat} (hh : h < 4) {op' ck' : Nat → Int32} {w : Int64} (e1 : ∀ k, ¬ k = h → op' k = op k ∧ ck' k = ck k) (hw : own_B w 49 = true → own_Wk sd (op' h) (ck' h) hd w) : own_V E sd op' ck' hd ino (own_ps W 1 (Int32.ofNat h) w) := by
  refine ⟨V.nm, V.hd, V.lk, fun k hk ha => ?_⟩
  rw [own_ps1 W hh hk] at ha ⊢
  by_cases q : k = h
  · rw [if_pos q] at ha ⊢
    rw [q]; exact hw ha
  · rw [if_neg q] at ha ⊢
    rw [(e1 k q).1, (e1 k q).2]; exact V.wk k hk ha
theorem own_V.ck {E : List own_Ent} {sd : Int32} {op ck : Nat → Int32} {hd : Int32} {ino : Int64} {W : Nat → Int64} (V : own_V E sd op ck hd ino W) {h : Nat} (hw : own_B (W h) 49 = false) (c : Int32) : own_V E sd op (own_set ck h c) hd ino W := by
  refine ⟨V.nm, V.hd, V.lk, fun k hk ha => ?_⟩
  by_cases q : k = h
  · rw [q, hw] at ha; cases ha
  · have := V.wk k hk ha
    unfold own_set
    rw [if_neg q]; exact this
theorem own_c1 {c : Int32} (h : -1 ≤ c.toInt ∧ c.toInt < 65536) : (c + 1).toInt = c.toInt + 1 := by
  have e : (1 : Int32).toInt = 1 := by decide
  rw [add_int (by rw [e]; omega) (by rw [e]; omega), e]
theorem own_Wk.start (sd o hd : Int32) (ho : ¬ o = 0) : own_Wk sd o (-1) hd (562949953421312 ||| ((Int32.toInt64 hd) &&& 65535)) := by
  obtain ⟨h1, h2, h3, h4⟩ := own_start hd
  refine ⟨ho, by rw [h4]; decide, by decide, fun t ht q => ?_, fun t ht _ q => ?_, fun t ht q => ?_⟩
  · rw [h2 t ht] at q; exact q
  · have := own_hq_int sd t
    have := lt_int q
    have e : ((-1 : Int32) + 1).toInt = 0 := by decide
    omega
  · rw [h3 t ht] at q; cases q
theorem own_shl1 {i : Nat} (hi : i < 16) : (1 : Int32) <<< (Int32.ofNat i &&& 31) = Int32.ofNat (2 ^ i) := by
  have key : ∀ i, i < 16 → (1 : Int32) <<< (Int32.ofNat i &&& 31) = Int32.ofNat (2 ^ i) := by decide +kernel
  exact key i hi
theorem own_b_set (hd : Int32) {i t : Nat} (hi : i < 16) (ht : t < 16) : own_b (hd ||| Int32.ofNat (2 ^ i)) t = (own_b hd t || decide (t = i)) := by
  rw [own_b_or, own_bp hi (by omega)]
theorem own_b_clr (hd : Int32) {i t : Nat} (hi : i < 16) (ht : t < 16) : own_b (hd &&& (Int32.ofNat (2 ^ i) ^^^ -1)) t = (own_b hd t && !decide (t = i)) := by
  rw [own_b_and, own_b_xor, own_bp hi (by omega), own_bm (by omega)]
  by_cases q : t = i <;> simp [q]
theorem own_Wk.up {sd o c hd hd' : Int32} {w : Int64} (h : own_Wk sd o c hd w) (e : ∀ t, t < 16 → own_b hd t = true → own_b hd' t = true) : own_Wk sd o c hd' w :=
  ⟨h.1, h.2.1, h.2.2.1, fun t ht q => e t ht (h.2.2.2.1 t ht q), h.2.2.2.2⟩
theorem own_V.ins {s : Nat} (hs : s < 65536) {E A B : List own_Ent} {op ck : Nat → Int32} {hd : Int32} {ino : Int64} {W : Nat → Int64} (V : own_V E (Int32.ofNat s) op ck hd ino W) {i a : Nat} (hi : i < 16) (ha : a < 16) (hE : E = A ++ B) (S : own_Sd E) (S' : own_Sd (A ++ (own_hq (Int32.ofNat s) i, own_nm i, Int32.ofNat a) :: B)) : own_V (A ++ (own_hq (Int32.ofNat s) i, own_nm i, Int32.ofNat a) :: B) (Int32.ofNat s) op ck (hd ||| Int32.ofNat (2 ^ i)) ((ino &&& (((15 : Int64) <<< (Int32.toInt64 (4 * Int32.ofNat i) &&& 63)) ^^^ (-1 : Int64))) ||| (((Int32.toInt64 (Int32.ofNat a)) &&& (15 : Int64)) <<< (Int32.toInt64 (4 * Int32.ofNat i) &&& 63))) W := by
  have mem : ∀ e, e ∈ A ++ (own_hq (Int32.ofNat s) i, own_nm i, Int32.ofNat a) :: B ↔ e ∈ E ∨ e = (own_hq (Int32.ofNat s) i, own_nm i, Int32.ofNat a) := fun e => by
    rw [hE]; simp only [List.mem_append, List.mem_cons]
    constructor
    · rintro (h | h | h)
      · exact Or.inl (Or.inl h)
      · exact Or.inr h
      · exact Or.inl (Or.inr h)
    · rintro ((h | h) | h)
      · exact Or.inl h
      · exact Or.inr (Or.inr h)
      · exact Or.inr (Or.inl h)
  refine ⟨fun e he => ?_, fun t ht => ?_, fun t ht => ?_, fun h hh hq => (V.wk h hh hq).up (fun t ht q => by rw [own_b_set hd hi ht, q]; rfl)⟩
  · rcases (mem e).mp he with h | h
    · exact V.nm e h
    · exact ⟨i, hi, by rw [h]⟩
  · rw [own_b_set hd hi ht]
    by_cases q : t = i
    · subst q
      rw [decide_eq_true rfl, Bool.or_true]
      exact ⟨fun _ => ⟨_, (mem _).mpr (Or.inr rfl), rfl⟩, fun _ => rfl⟩
    · rw [decide_eq_false q, Bool.or_false, V.hd t ht]
      constructor
      · rintro ⟨e, he, h⟩; exact ⟨e, (mem e).mpr (Or.inl he), h⟩
      · rintro ⟨e, he, h⟩
        rcases (mem e).mp he with h1 | h1
        · exact ⟨e, h1, h⟩
        · rw [h1] at h; exact absurd (own_hq_inj hs hi ht h).symm q
  · rw [own_nb_set ino hi ha ht]
    by_cases q : t = i
    · subst q
      rw [if_pos rfl]
      exact own_look_of S' (own_nm_ok ht) ((mem _).mpr (Or.inr rfl)) rfl
    · rw [if_neg q, ← V.lk t ht]
      refine (own_look_eq S S' (own_nm_ok ht) (fun e he => ⟨fun h => (mem e).mpr (Or.inl h), fun h => ?_⟩)).symm
      rcases (mem e).mp h with h1 | h1
      · exact h1
      · rw [h1] at he; exact absurd (own_hq_inj hs hi ht he).symm q
theorem own_V.rem {s : Nat} (hs : s < 65536) {E A B : List own_Ent} {e0 : own_Ent} {op ck : Nat → Int32} {hd : Int32} {ino : Int64} {W : Nat → Int64} (V : own_V E (Int32.ofNat s) op ck hd ino W) {i : Nat} (hi : i < 16) (hE : E = A ++ e0 :: B) (he0 : e0.1 = own_hq (Int32.ofNat s) i) (S : own_Sd E) (S' : own_Sd (A ++ B)) : own_V (A ++ B) (Int32.ofNat s) op ck (hd &&& (Int32.ofNat (2 ^ i) ^^^ -1)) ((ino &&& (((15 : Int64) <<< (Int32.toInt64 (4 * Int32.ofNat i) &&& 63)) ^^^ (-1 : Int64))) ||| (((Int32.toInt64 (Int32.ofNat 0)) &&& (15 : Int64)) <<< (Int32.toInt64 (4 * Int32.ofNat i) &&& 63))) (fun k => W k &&& ((Int32.toInt64 (Int32.ofNat (2 ^ i))) ^^^ (-1 : Int64))) := by
  have mem : ∀ e, e ∈ E ↔ e ∈ A ++ B ∨ e = e0 := fun e => by
    rw [hE]; simp only [List.mem_append, List.mem_cons]
    constructor
    · rintro (h | h | h)
      · exact Or.inl (Or.inl h)
      · exact Or.inr h
      · exact Or.inl (Or.inr h)
    · rintro ((h | h) | h)
      · exact Or.inl h
      · exact Or.inr (Or.inr h)
      · exact Or.inr (Or.inl h)
  have no : ∀ e ∈ A ++ B, ¬ e.1 = own_hq (Int32.ofNat s) i := fun e he q => by
    have h1 := own_uniq S ((mem e).mpr (Or.inl he)) ((mem e0).mpr (Or.inr rfl)) (by rw [q, he0])
    subst h1
    rw [hE] at S
    unfold own_Sd at S
    rw [List.pairwise_append, List.pairwise_cons] at S
    rcases List.mem_append.mp he with h | h
    · exact Int32.lt_irrefl (S.2.2 e h e (List.mem_cons_self ..))
    · exact Int32.lt_irrefl (S.2.1.1 e h)
  refine ⟨fun e he => V.nm e ((mem e).mpr (Or.inl he)), fun t ht => ?_, fun t ht => ?_, fun h hh hq => ?_⟩
  · rw [own_b_clr hd hi ht]
    by_cases q : t = i
    · subst q
      rw [decide_eq_true rfl]
      simp only [Bool.not_true, Bool.and_false]
      exact ⟨fun z => absurd z (by decide), fun ⟨e, he, h⟩ => absurd h (no e he)⟩
    · rw [decide_eq_false q]
      simp only [Bool.not_false, Bool.and_true]
      rw [V.hd t ht]
      constructor
      · rintro ⟨e, he, h⟩
        rcases (mem e).mp he with h1 | h1
        · exact ⟨e, h1, h⟩
        · rw [h1, he0] at h; exact absurd (own_hq_inj hs hi ht h).symm q
      · rintro ⟨e, he, h⟩; exact ⟨e, (mem e).mpr (Or.inl he), h⟩
  · rw [own_nb_set ino hi (by omega) ht]
    by_cases q : t = i
    · subst q
      rw [if_pos rfl]
      exact own_look_no (Or.inr no)
    · rw [if_neg q, ← V.lk t ht]
      refine (own_look_eq S S' (own_nm_ok ht) (fun e he => ⟨fun h => ?_, fun h => (mem e).mpr (Or.inl h)⟩)).symm
      rcases (mem e).mp h with h1 | h1
      · exact h1
      · rw [h1, he0] at he; exact absurd (own_hq_inj hs hi ht he).symm q
  · obtain ⟨b1, b2⟩ := own_drop (W h) hi
    simp only [] at hq ⊢
    have hq' : own_B (W h) 49 = true := by
      rw [b1 49] at hq; revert hq; cases own_B (W h) 49 <;> simp
    obtain ⟨w1, w2, w3, w4, w5, w6⟩ := V.wk h hh hq'
    have tk : ∀ t, own_B (W h &&& ((Int32.toInt64 (Int32.ofNat (2 ^ i))) ^^^ (-1 : Int64))) t = true → own_B (W h) t = true ∧ ¬ t = i := fun t q => by
      rw [b1 t] at q
      by_cases z : t = i
      · rw [decide_eq_true z] at q; simp at q
      · rw [decide_eq_false z] at q; simp at q; exact ⟨q, z⟩
    refine ⟨w1, by rw [b2]; exact w2, w3, fun t ht q => ?_, fun t ht q q2 => ?_, fun t ht q => w6 t ht (tk _ q).1⟩
    · rw [own_b_clr hd hi ht, w4 t ht (tk t q).1, decide_eq_false (tk t q).2]; rfl
    · rw [b1, w5 t ht (tk t q).1 q2, decide_eq_false (by omega)]; rfl
theorem own_V.sets {s : Nat} (hs : s < 65536) {E A B : List own_Ent} {e0 : own_Ent} {op ck : Nat → Int32} {hd : Int32} {ino : Int64} {W : Nat → Int64} (V : own_V E (Int32.ofNat s) op ck hd ino W) {i a : Nat} (hi : i < 16) (ha : a < 16) (hE : E = A ++ e0 :: B) (he0 : e0.1 = own_hq (Int32.ofNat s) i) (S : own_Sd E) (S' : own_Sd (A ++ (e0.1, e0.2.1, Int32.ofNat a) :: B)) : own_V (A ++ (e0.1, e0.2.1, Int32.ofNat a) :: B) (Int32.ofNat s) op ck (hd ||| Int32.ofNat (2 ^ i)) ((ino &&& (((15 : Int64) <<< (Int32.toInt64 (4 * Int32.ofNat i) &&& 63)) ^^^ (-1 : Int64))) ||| (((Int32.toInt64 (Int32.ofNat a)) &&& (15 : Int64)) <<< (Int32.toInt64 (4 * Int32.ofNat i) &&& 63))) W := by
  have m1 : ∀ e, e ∈ A ++ (e0.1, e0.2.1, Int32.ofNat a) :: B → e ∈ E ∨ e = (e0.1, e0.2.1, Int32.ofNat a) := fun e he => by
    rw [hE]
    rcases List.mem_append.mp he with h | h
    · exact Or.inl (List.mem_append_left _ h)
    · rcases List.mem_cons.mp h with h | h
      · exact Or.inr h
      · exact Or.inl (List.mem_append_right _ (List.mem_cons_of_mem _ h))
  have m2 : ∀ e, e ∈ E → e = e0 ∨ e ∈ A ++ (e0.1, e0.2.1, Int32.ofNat a) :: B := fun e he => by
    rw [hE] at he
    rcases List.mem_append.mp he with h | h
    · exact Or.inr (List.mem_append_left _ h)
    · rcases List.mem_cons.mp h with h | h
      · exact Or.inl h
      · exact Or.inr (List.mem_append_right _ (List.mem_cons_of_mem _ h))
  have m3 : (e0.1, e0.2.1, Int32.ofNat a) ∈ A ++ (e0.1, e0.2.1, Int32.ofNat a) :: B := List.mem_append_right _ (List.mem_cons_self ..)
  have m4 : e0 ∈ E := by rw [hE]; exact List.mem_append_right _ (List.mem_cons_self ..)
  refine ⟨fun e he => ?_, fun t ht => ?_, fun t ht => ?_, fun h hh hq => (V.wk h hh hq).up (fun t ht q => by rw [own_b_set hd hi ht, q]; rfl)⟩
  · rcases m1 e he with h | h
    · exact V.nm e h
    · rw [h]; exact V.nm e0 m4
  · rw [own_b_set hd hi ht]
    by_cases q : t = i
    · subst q
      rw [decide_eq_true rfl, Bool.or_true]
      exact ⟨fun _ => ⟨_, m3, he0⟩, fun _ => rfl⟩
    · rw [decide_eq_false q, Bool.or_false, V.hd t ht]
      constructor
      · rintro ⟨e, he, h⟩
        rcases m2 e he with h1 | h1
        · rw [h1, he0] at h; exact absurd (own_hq_inj hs hi ht h).symm q
        · exact ⟨e, h1, h⟩
      · rintro ⟨e, he, h⟩
        rcases m1 e he with h1 | h1
        · exact ⟨e, h1, h⟩
        · rw [h1] at h
          exact absurd (own_hq_inj hs hi ht (he0.symm.trans h)).symm q
  · rw [own_nb_set ino hi ha ht]
    by_cases q : t = i
    · subst q
      rw [if_pos rfl]
      exact own_look_of S' (own_nm_ok ht) m3 he0
    · rw [if_neg q, ← V.lk t ht]
      refine (own_look_eq S S' (own_nm_ok ht) (fun e he => ⟨fun h => ?_, fun h => ?_⟩)).symm
      · rcases m2 e h with h1 | h1
        · rw [h1, he0] at he; exact absurd (own_hq_inj hs hi ht he).symm q
        · exact h1
      · rcases m1 e h with h1 | h1
        · exact h1
        · rw [h1] at he
          exact absurd (own_hq_inj hs hi ht (he0.symm.trans he)).symm q
theorem own_cl_gt {a b : Int64} : 0 < XT.cmpL a b ↔ b.toInt < a.toInt := by
  unfold XT.cmpL
  by_cases h : b < a
  · rw [if_pos h]
    rw [Int64.lt_iff_toInt_lt] at h
    exact ⟨fun _ => h, fun _ => by decide⟩
  · rw [if_neg h]
    rw [Int64.lt_iff_toInt_lt] at h
    by_cases h2 : a = b
    · rw [if_pos h2]; exact ⟨fun w => absurd w (by decide), fun w => absurd w h⟩
    · rw [if_neg h2]; exact ⟨fun w => absurd w (by decide), fun w => absurd w h⟩
theorem own_Wk.next {s : Nat} (hs : s < 65536) {E : List own_Ent} {o c hd : Int32} {w : Int64} (K : own_Wk (Int32.ofNat s) o c hd w) (hh : ∀ t, t < 16 → own_b hd t = true → ∃ e ∈ E, e.1 = own_hq (Int32.ofNat s) t) {e : own_Ent} (h1 : ¬ e.1 < c + 1) (h2 : ∀ e' ∈ E, e'.1 < c + 1 ∨ ¬ e'.1 < e.1) {j : Nat} (hj : j < 16) (he : e.1 = own_hq (Int32.ofNat s) j) :
    own_Wk (Int32.ofNat s) o e.1 hd (((w &&& (-562945658454017 : Int64)) ||| (((Int32.toInt64 e.1) + (1 : Int64)) <<< (Int32.toInt64 32 &&& 63))) ||| ((1 : Int64) <<< (Int32.toInt64 (16 + Int32.ofNat j) &&& 63))) := by
  obtain ⟨w1, w2, w3, w4, w5, w6⟩ := K
  have rg := own_hq_int (Int32.ofNat s) j
  rw [← he] at rg
  obtain ⟨a, ha, ea⟩ := own_hs_rng (Int32.ofNat s) (own_nm j)
  have ea' : e.1 = Int32.ofNat a := he.trans ea
  have rg' : -1 ≤ e.1.toInt ∧ e.1.toInt < 65536 := ⟨by omega, rg.2⟩
  have c1 := own_c1 w3
  have c2 := own_c1 rg'
  have g1 := ge_int h1
  obtain ⟨u1, u2, u3, u4⟩ := own_upd w ha hj _ rfl
  rw [← ea'] at u1 u2 u3 u4
  refine ⟨w1, u4, rg', fun t ht q => w4 t ht (by rw [← u2 t ht]; exact q), fun t ht q q2 => ?_, fun t ht q => ?_⟩
  · rw [u2 t ht] at q
    rw [u3 t ht]
    by_cases z : t = j
    · rw [decide_eq_true z, Bool.or_true]
    · have l1 := lt_int q2
      rw [c2] at l1
      have ne : ¬ (own_hq (Int32.ofNat s) t).toInt = e.1.toInt := fun y => z (own_hq_inj hs ht hj ((Int32.toInt_inj.mp y).trans he))
      obtain ⟨e', he', hq'⟩ := hh t ht (w4 t ht q)
      rcases h2 e' he' with y | y
      · rw [hq'] at y; rw [w5 t ht q y]; rfl
      · rw [hq'] at y
        have := ge_int y
        omega
  · rw [u3 t ht] at q
    rw [Int32.lt_iff_toInt_lt, c2]
    by_cases z : t = j
    · rw [z, ← he]; omega
    · rw [decide_eq_false z, Bool.or_false] at q
      have := lt_int (w6 t ht q)
      omega
-- ==CUT==
variable {m : Nat → Nat → Int32} {ml : Nat → Nat → Int64} {T : own_Tr} {fr : List Nat} {E : List own_Ent} {sd : Int32} {cp : Nat} {op ck : Nat → Int32} {hd : Int32} {ino : Int64} {W : Nat → Int64} {Q : Option Value → EMem → Prop}
theorem own_649 (D : own_D m T fr E sd cp op ck) (V : own_V E sd op ck hd ino W) (k : Nat) (x14 x15 x16 x17 x18 x19 x20 x21 : Int32) (x22 : Int64) (s25 s26 s27 s28 : Slot) (o25 : One s25) (o26 : One s26) (o27 : OneJ s27 s28)
    (K : W_law 46 [.val (.ref 0), .val (.ref 1), .val (.int hd), .val (.long ino), .second, .val (.long (W 0)), .second, .val (.long (W 1)), .second, .val (.long (W 2)), .second, .val (.long (W 3)), .second, .val (.int (Int32.ofNat k + 1)), .val (.int x14), .val (.int x15), .val (.int x16), .val (.int x17), .val (.int x18), .val (.int x19), .val (.int x20), .val (.int x21), .val (.long x22), .second, .val (.int 16), s25, s26, s27, s28] [] ((LL1 n), m, ml, RR1) Q) :
    ∀ (f t : Nat), t + f = 16 → W_law 649 [.val (.ref 0), .val (.ref 1), .val (.int hd), .val (.long ino), .second, .val (.long (W 0)), .second, .val (.long (W 1)), .second, .val (.long (W 2)), .second, .val (.long (W 3)), .second, .val (.int (Int32.ofNat k)), .val (.int x14), .val (.int x15), .val (.int x16), .val (.int x17), .val (.int x18), .val (.int x19), .val (.int x20), .val (.int x21), .val (.long x22), .second, .val (.int (Int32.ofNat t)), s25, s26, s27, s28] [] ((LL1 n), m, ml, RR1) Q := by
  intro f
  induction f with
  | zero =>
    intro t h
    have : t = 16 := by omega
    subst this
    exact L_law_649 o25 o26 o27 (fun _ => K) (fun w => absurd w (by decide))
  | succ f ih =>
    intro t h
    have lt : Int32.ofNat t < 16 := (own_Nlt (b := 16) (by omega) (by omega)).mpr (by omega)
    refine L_law_649 o25 o26 o27 (fun w => absurd lt w) (fun _ => ?_)
    rw [own_nm_of]
    refine D.look _ ml ?_
    refine L_law_665 o25 o26 o27 ?_
    refine L_law_nib_0 ?_
    refine L_law_671 o25 o26 o27 (fun _ => ?_) (fun w => absurd (V.lk t (by omega)) w)
    rw [own_Nadd1]
    exact ih (t + 1) (by omega)
theorem own_599 (D : own_D m T fr E sd cp op ck) (k h : Nat) (hh : h < 4) (x14 x15 x16 x17 x18 x19 x21 : Int32) (x22 : Int64) (V : own_V E sd op ck hd ino (own_ps W x21 (Int32.ofNat h) x22)) (s24 s25 s26 s27 s28 : Slot) (o24 : One s24) (o25 : One s25) (o26 : One s26) (o27 : OneJ s27 s28)
    (K : ∀ W, own_V E sd op ck hd ino W → W_law 46 [.val (.ref 0), .val (.ref 1), .val (.int hd), .val (.long ino), .second, .val (.long (W 0)), .second, .val (.long (W 1)), .second, .val (.long (W 2)), .second, .val (.long (W 3)), .second, .val (.int (Int32.ofNat k + 1)), .val (.int x14), .val (.int x15), .val (.int x16), .val (.int x17), .val (.int x18), .val (.int x19), .val (.int (Int32.ofNat h)), .val (.int x21), .val (.long x22), .second, .val (.int 16), s25, s26, s27, s28] [] ((LL1 n), m, ml, RR1) Q) :
    W_law 599 [.val (.ref 0), .val (.ref 1), .val (.int hd), .val (.long ino), .second, .val (.long (W 0)), .second, .val (.long (W 1)), .second, .val (.long (W 2)), .second, .val (.long (W 3)), .second, .val (.int (Int32.ofNat k)), .val (.int x14), .val (.int x15), .val (.int x16), .val (.int x17), .val (.int x18), .val (.int x19), .val (.int (Int32.ofNat h)), .val (.int x21), .val (.long x22), .second, s24, s25, s26, s27, s28] [] ((LL1 n), m, ml, RR1) Q := by
  refine L_law_599 o24 o25 o26 o27 (fun v1 e1 v2 e2 v3 e3 v4 e4 => ?_)
  have n01 : ¬ (0 : Int32) = 1 := by decide
  have q1 : v1 = own_ps W x21 (Int32.ofNat h) x22 0 := e1
  have q2 : v2 = own_ps W x21 (Int32.ofNat h) x22 1 := by
    rw [e2]; unfold own_ps
    have : h = 0 ∨ h = 1 ∨ h = 2 ∨ h = 3 := by omega
    rcases this with rfl | rfl | rfl | rfl <;> rfl
  have q3 : v3 = own_ps W x21 (Int32.ofNat h) x22 2 := by
    rw [e3]; unfold own_ps
    have : h = 0 ∨ h = 1 ∨ h = 2 ∨ h = 3 := by omega
    rcases this with rfl | rfl | rfl | rfl <;> rfl
  have q4 : v4 = own_ps W x21 (Int32.ofNat h) x22 3 := by
    rw [e4]; unfold own_ps
    have : h = 0 ∨ h = 1 ∨ h = 2 ∨ h = 3 := by omega
    rcases this with rfl | rfl | rfl | rfl <;> rfl
  rw [q1, q2, q3, q4]
  exact own_649 (W := own_ps W x21 (Int32.ofNat h) x22) D V k x14 x15 x16 x17 x18 x19 (Int32.ofNat h) x21 x22 s25 s26 s27 s28 o25 o26 o27 (K _ V) 16 0 rfl
theorem own_idx {t : Nat} (ht : t < 16) (mi : Nat → Nat → Int32) (K : Q (some (.int (Int32.ofNat t))) ((LL1 n), mi, ml, RR1)) : W_law_idxOf 0 [.val (.int (own_nm t)), .unset, .unset] [] ((LL1 n), mi, ml, RR1) Q := by
  have key : ∀ t, t < 16 → ¬ own_nm t < 7 ∧ ((own_nm t - 7) - (own_nm t - 7) / 4099 * 4099) = 0 ∧ (if ((own_nm t - 7) / 4099) < 16 then ((own_nm t - 7) / 4099) else -1) = Int32.ofNat t := by decide +kernel
  obtain ⟨k1, k2, k3⟩ := key t ht
  refine L_law_idxOf_0 (fun _ _ v e => ?_) (fun _ w => absurd k2 w) (fun w => absurd w k1)
  rw [e, k3]; exact K
theorem own_loop (hn : n ≤ 260) {s : Nat} (hs : s < 65536) : ∀ (f k : Nat) (m : Nat → Nat → Int32) (ml : Nat → Nat → Int64) (T : own_Tr) (fr : List Nat) (E : List own_Ent) (op ck : Nat → Int32) (hd : Int32) (ino : Int64) (W : Nat → Int64) (s14 s15 s16 s17 s18 s19 s20 s21 s22 s23 s24 s25 s26 s27 s28 : Slot), One s14 → One s15 → One s16 → One s17 → One s18 → One s19 → One s20 → One s21 → OneJ s22 s23 → One s24 → One s25 → One s26 → OneJ s27 s28 → 300 ≤ k + f → k ≤ 262 → own_D m T fr E (Int32.ofNat s) cp op ck → own_V E (Int32.ofNat s) op ck hd ino W →
    W_law 46 [.val (.ref 0), .val (.ref 1), .val (.int hd), .val (.long ino), .second, .val (.long (W 0)), .second, .val (.long (W 1)), .second, .val (.long (W 2)), .second, .val (.long (W 3)), .second, .val (.int (Int32.ofNat k)), s14, s15, s16, s17, s18, s19, s20, s21, s22, s23, s24, s25, s26, s27, s28] [] ((LL1 n), m, ml, RR1) (QL n) := by
  intro f
  induction f with
  | zero => intro k m ml T fr E op ck hd ino W s14 s15 s16 s17 s18 s19 s20 s21 s22 s23 s24 s25 s26 s27 s28 o14 o15 o16 o17 o18 o19 o20 o21 o22 o24 o25 o26 o27 hf hk; omega
  | succ f ih =>
    intro k m ml T fr E op ck hd ino W s14 s15 s16 s17 s18 s19 s20 s21 s22 s23 s24 s25 s26 s27 s28 o14 o15 o16 o17 o18 o19 o20 o21 o22 o24 o25 o26 o27 hf hk D V
    have cmp : (Int32.ofNat k < n.toInt32) ↔ k < n := own_Nlt (by omega) (by omega)
    -- behind the call
    have aft : ∀ (m : Nat → Nat → Int32) (ml : Nat → Nat → Int64) (T : own_Tr) (fr : List Nat) (E : List own_Ent) (op ck : Nat → Int32) (hd : Int32) (ino : Int64) (W : Nat → Int64) (x14 x15 x16 x17 x18 x19 : Int32) (h : Nat) (x21 : Int32) (x22 : Int64) (s24 s25 s26 s27 s28 : Slot), k < n → h < 4 → One s24 → One s25 → One s26 → OneJ s27 s28 → own_D m T fr E (Int32.ofNat s) cp op ck → own_V E (Int32.ofNat s) op ck hd ino (own_ps W x21 (Int32.ofNat h) x22) →
        W_law 599 [.val (.ref 0), .val (.ref 1), .val (.int hd), .val (.long ino), .second, .val (.long (W 0)), .second, .val (.long (W 1)), .second, .val (.long (W 2)), .second, .val (.long (W 3)), .second, .val (.int (Int32.ofNat k)), .val (.int x14), .val (.int x15), .val (.int x16), .val (.int x17), .val (.int x18), .val (.int x19), .val (.int (Int32.ofNat h)), .val (.int x21), .val (.long x22), .second, s24, s25, s26, s27, s28] [] ((LL1 n), m, ml, RR1) (QL n) := by
      intro m ml T fr E op ck hd ino W x14 x15 x16 x17 x18 x19 h x21 x22 s24 s25 s26 s27 s28 hkn hh o24 o25 o26 o27 D V
      refine own_599 D k h hh x14 x15 x16 x17 x18 x19 x21 x22 V s24 s25 s26 s27 s28 o24 o25 o26 o27 (fun W' V' => ?_)
      rw [own_Nadd1]
      exact ih (k + 1) m ml T fr E op ck hd ino W' _ _ _ _ _ _ _ _ _ _ _ _ _ _ _ (One.val rfl) (One.val rfl) (One.val rfl) (One.val rfl) (One.val rfl) (One.val rfl) (One.val rfl) (One.val rfl) (Or.inr ⟨_, rfl, rfl⟩) (One.val rfl) o25 o26 o27 (by omega) (by omega) D V'
    by_cases q : k < n
    · have c := cmp.mpr q
      obtain ⟨i, hi, ei⟩ := own_andN (XT.ushr (m 0 (Int32.ofNat k).toNatClampNeg) 8) 15 (by omega)
      obtain ⟨a, ha, ea⟩ := own_andN (XT.ushr (m 0 (Int32.ofNat k).toNatClampNeg) 12) 15 (by omega)
      obtain ⟨h, hh, eh⟩ := own_andN (XT.ushr (m 0 (Int32.ofNat k).toNatClampNeg) 16) 3 (by omega)
      replace ei : XT.ushr (m 0 (Int32.ofNat k).toNatClampNeg) 8 &&& 15 = Int32.ofNat i := ei
      replace ea : XT.ushr (m 0 (Int32.ofNat k).toNatClampNeg) 12 &&& 15 = Int32.ofNat a := ea
      replace eh : XT.ushr (m 0 (Int32.ofNat k).toNatClampNeg) 16 &&& 3 = Int32.ofNat h := eh
      have i16 : i < 16 := by omega
      have a16 : a < 16 := by omega
      have h4 : h < 4 := by omega
      have e2 := own_shl1 i16
      have en := own_nm_of i
      have nok := own_nm_ok i16
      have inj : ∀ k', k' < 4 → Int32.ofNat h = Int32.ofNat k' → k' = h := fun k' hk' e => (own_Ninj (by omega) (by omega) e).symm
      have st_eq : ∀ (f : Nat → Int32) (j : Nat) (v : Int32), own_set f j v j = v := fun f j v => if_pos rfl
      have st_ne : ∀ (f : Nat → Int32) (j : Nat) (v : Int32) (l : Nat), ¬ l = j → own_set f j v l = f l := fun f j v l z => if_neg z
      -- seek
      have seek : ∀ (x14 x15 x16 x17 x18 x19 x24 cv : Int32), W_law 549 [.val (.ref 0), .val (.ref 1), .val (.int hd), .val (.long ino), .second, .val (.long (W 0)), .second, .val (.long (W 1)), .second, .val (.long (W 2)), .second, .val (.long (W 3)), .second, .val (.int (Int32.ofNat k)), .val (.int x14), .val (.int x15), .val (.int x16), .val (.int x17), .val (.int x18), .val (.int x19), .val (.int (Int32.ofNat h)), .val (.int 0), .val (.long 0), .second, .val (.int x24), s25, s26, s27, s28] [.int cv] ((LL1 n), m, ml, RR1) (QL n) := by
        intro x14 x15 x16 x17 x18 x19 x24 cv
        refine L_law_549 o25 o26 o27 ?_
        refine D.seekDir _ _ ml (fun _ => ?_) (fun k' hk' e ho _ m' D' => ?_)
        · refine L_law_559 o26 o27 (fun _ => ?_) (fun w => absurd rfl w) (fun w => absurd rfl w)
          exact L_law_581 o26 o27 (aft m ml T fr E op ck hd ino W _ _ _ _ _ _ h 0 _ _ _ _ _ _ q h4 (One.val rfl) (One.val rfl) o26 o27 D V)
        · have := inj k' hk' e
          subst this
          refine L_law_559 o26 o27 (fun w => absurd w (by decide)) (fun _ _ => ?_) (fun _ w => ?_)
          · refine L_law_576 o26 o27 ?_
            refine L_law_581 o26 o27 ?_
            refine aft m' ml T fr E op _ hd ino W _ _ _ _ _ _ k' 1 _ _ _ _ _ _ q h4 (One.val rfl) (One.val rfl) o26 o27 D' ?_
            exact V.st h4 (fun l z => ⟨rfl, st_ne _ _ _ _ z⟩) (fun z => absurd z (by rw [own_B0]; decide))
          · refine L_law_576 o26 o27 ?_
            refine L_law_581 o26 o27 ?_
            refine aft m' ml T fr E op _ hd ino W _ _ _ _ _ _ k' 1 _ _ _ _ _ _ q h4 (One.val rfl) (One.val rfl) o26 o27 D' ?_
            refine V.st h4 (fun l z => ⟨rfl, st_ne _ _ _ _ z⟩) (fun _ => ?_)
            rw [st_eq, w]
            exact own_Wk.start _ _ _ ho
      have same : own_V E (Int32.ofNat s) op ck hd ino (own_ps W 0 (Int32.ofNat h) 0) := V
      refine L_law_46 o14 o15 o16 o17 o18 o19 o20 o21 o22 o24 o25 o26 o27 (fun w => absurd c w) (fun _ => own_Ninb (by omega) (by omega)) (fun _ _ _ _ _ _ _ => ?_) (fun _ _ _ _ _ _ _ _ _ _ => ?_) (fun _ _ _ _ _ _ _ _ _ _ => ?_) (fun _ _ _ _ _ _ _ _ _ => ?_) (fun _ _ _ _ _ _ _ _ => ?_) (fun _ _ _ _ _ _ v11 e11 => ?_) (fun _ _ _ _ _ => ?_) (fun _ _ _ _ => ?_) (fun _ _ _ => ?_) (fun _ _ => ?_) <;> rw [ei, ea, eh, e2, en]
      · -- close
        refine D.closeDir _ ml (fun _ => ?_) (fun k' hk' e ho m' D' => ?_)
        · exact L_law_590 o24 o25 o26 o27 (fun _ => aft m ml T fr E op ck hd ino W _ _ _ _ _ _ h 0 _ _ _ _ _ _ q h4 o24 o25 o26 o27 D V) (fun w => absurd rfl w)
        · have := inj k' hk' e
          subst this
          refine L_law_590 o24 o25 o26 o27 (fun w => absurd w (by decide)) (fun _ => ?_)
          refine aft m' ml T fr E _ ck hd ino W _ _ _ _ _ _ k' 1 _ _ _ _ _ _ q h4 o24 o25 o26 o27 D' ?_
          exact V.st h4 (fun l z => ⟨st_ne _ _ _ _ z, rfl⟩) (fun z => absurd z (by rw [own_B0]; decide))
      · refine D.hashOf _ ml (fun w => absurd w nok) (fun _ => ?_)
        exact L_law_547 o25 o26 o27 (seek _ _ _ _ _ _ _ _)
      · exact seek _ _ _ _ _ _ _ _
      · refine D.hashOf _ ml (fun w => absurd w nok) (fun _ => ?_)
        exact L_law_527 o25 o26 o27 (seek _ _ _ _ _ _ _ _)
      · exact seek _ _ _ _ _ _ _ _
      · -- read
        rw [eh] at e11
        have ev : v11 = W h := by
          rw [e11]
          have : h = 0 ∨ h = 1 ∨ h = 2 ∨ h = 3 := by omega
          rcases this with rfl | rfl | rfl | rfl <;> rfl
        subst ev
        have ac : ∀ v1 : Int32, v1 = (if XT.cmpL ((XT.ushrL (W h) 49) &&& 1) 0 = 0 then 0 else 1) → ((v1 &&& 1 = 0 ↔ own_B (W h) 49 = false)) := fun v1 e1 => by
          have b := own_bit1 (W h) (j := 49) (by omega)
          have b' : XT.cmpL ((XT.ushrL (W h) 49) &&& 1) 0 = 0 ↔ own_B (W h) 49 = false := b
          by_cases z : XT.cmpL ((XT.ushrL (W h) 49) &&& 1) 0 = 0
          · rw [if_pos z] at e1; rw [e1]; exact ⟨fun _ => b'.mp z, fun _ => by decide⟩
          · rw [if_neg z] at e1; rw [e1]; exact ⟨fun w => absurd w (by decide), fun w => absurd (b'.mpr w) z⟩
        have at1 : ∀ b : Bool, ¬ b = false → b = true := fun b => by cases b <;> simp
        refine D.readNext _ ml (fun _ => ?_) (fun k' hk' e ho hend m' D' => ?_) (fun k' hk' e ho hck en' hen h1 h2 m' D' => ?_)
        · refine L_law_322 o24 o25 o26 o27 (fun v1 e1 _ => ?_) (fun v1 e1 _ _ _ => ?_) (fun v1 e1 _ _ w => absurd rfl w) (fun v1 e1 _ w => absurd w (by decide)) (fun v1 e1 _ w => absurd w (by decide))
          · exact L_law_487 o25 o26 o27 (aft m ml T fr E op ck hd ino W _ _ _ _ _ _ h 0 _ _ _ _ _ _ q h4 (One.val rfl) o25 o26 o27 D V)
          · exact L_law_487 o25 o26 o27 (aft m ml T fr E op ck hd ino W _ _ _ _ _ _ h 0 _ _ _ _ _ _ q h4 (One.val rfl) o25 o26 o27 D V)
        · have := inj k' hk' e
          subst this
          have fin : own_B (W k') 49 = true → ∀ t, t < 16 → own_B (W k') t = true → own_B (W k') (16 + t) = true := fun z t ht z2 => by
            obtain ⟨w1, w2, w3, w4, w5, w6⟩ := V.wk k' h4 z
            refine w5 t ht z2 ?_
            obtain ⟨e', he', hq'⟩ := (V.hd t ht).mp (w4 t ht z2)
            rcases hend with y | y
            · have g := ge_int y
              have c1 := own_c1 w3
              have r := own_hq_int (Int32.ofNat s) t
              have c5 : (65535 : Int32).toInt = 65535 := by decide
              rw [Int32.lt_iff_toInt_lt, c1]; omega
            · have := y e' he'
              rw [hq'] at this; exact this
          refine L_law_322 o24 o25 o26 o27 (fun v1 e1 z => ?_) (fun v1 e1 _ w => absurd rfl w) (fun v1 e1 _ w => absurd rfl w) (fun v1 e1 z _ _ => ?_) (fun v1 e1 z _ w => ?_)
          · refine L_law_487 o25 o26 o27 (aft m' ml T fr E op _ hd ino W _ _ _ _ _ _ k' 0 _ _ _ _ _ _ q h4 (One.val rfl) o25 o26 o27 D' ?_)
            exact V.ck ((ac v1 e1).mp z) _
          · refine L_law_487 (One.val rfl) (One.val rfl) o27 (aft m' ml T fr E op _ hd ino W _ _ _ _ _ _ k' 1 _ _ _ _ _ _ q h4 (One.val rfl) (One.val rfl) (One.val rfl) o27 D' ?_)
            exact V.st h4 (fun l z => ⟨rfl, st_ne _ _ _ _ z⟩) (fun z => absurd z (by rw [own_B0]; decide))
          · exact absurd (own_end16 _ (fin (at1 _ (fun y => z ((ac v1 e1).mpr y))))) w
        · have := inj k' hk' e
          subst this
          obtain ⟨t, ht, et⟩ := V.nm en' hen
          have ehq : en'.1 = own_hq (Int32.ofNat s) t := by rw [(D.gd en' hen).hh, et]; rfl
          rw [et]
          have tnn : ∀ t, t < 16 → ¬ own_nm t = -1 ∧ ¬ own_nm t = -2 := by decide +kernel
          obtain ⟨t1, t2⟩ := tnn t ht
          refine L_law_322 o24 o25 o26 o27 (fun v1 e1 z => ?_) (fun v1 e1 _ _ w => absurd w t2) (fun v1 e1 z _ _ => ?_) (fun v1 e1 _ w => absurd w t1) (fun v1 e1 _ w => absurd w t1)
          · refine L_law_487 o25 o26 o27 (aft m' ml T fr E op _ hd ino W _ _ _ _ _ _ k' 0 _ _ _ _ _ _ q h4 (One.val rfl) o25 o26 o27 D' ?_)
            exact V.ck ((ac v1 e1).mp z) _
          · have act := at1 _ (fun y => z ((ac v1 e1).mpr y))
            have K := V.wk k' h4 act
            have c1 := own_c1 K.2.2.1
            have g1 := ge_int h1
            have hheld : own_b hd t = true := (V.hd t ht).mpr ⟨en', hen, ehq⟩
            refine own_idx ht _ ?_
            refine L_law_392 o25 o26 o27 (fun w => absurd w (own_Nnn (by omega))) (fun _ _ => ?_) (fun _ w => ?_)
            · refine D'.hashOf _ ml (fun w => absurd w (own_nm_ok ht)) (fun _ => ?_)
              have e16 : (16 : Int32) + Int32.ofNat t = Int32.ofNat (16 + t) := own_Nadd 16 t
              have elf : (((XT.ushrL (W k') 32) &&& (131071 : Int64)) - (1 : Int64)) = Int32.toInt64 (ck k') := by
                have := K.2.1
                unfold own_lf at this
                rw [this]; grind
              refine L_law_416 o26 o27 (fun _ _ => ?_) (fun _ w => ?_) (fun w => ?_)
              · refine L_law_487 (One.val rfl) (One.val rfl) (Or.inr ⟨_, rfl, rfl⟩) (aft m' ml T fr E op _ hd ino W _ _ _ _ _ _ k' 1 _ _ _ _ _ _ q h4 (One.val rfl) (One.val rfl) (One.val rfl) (Or.inr ⟨_, rfl, rfl⟩) D' ?_)
                refine V.st h4 (fun l z => ⟨rfl, st_ne _ _ _ _ z⟩) (fun _ => ?_)
                rw [st_eq]
                have := K.next hs (fun u hu => (V.hd u hu).mp) h1 h2 ht ehq
                rw [ehq] at this ⊢
                exact this
              · exfalso
                rw [e16] at w
                have w' : own_B (W k') (16 + t) = true := at1 _ (fun y => w ((own_bit1 (W k') (by omega)).mpr y))
                have := lt_int (K.2.2.2.2.2 t ht w')
                rw [← ehq] at this
                omega
              · exfalso
                refine w (own_cl_gt.mpr ?_)
                rw [elf, Int32.toInt_toInt64, Int32.toInt_toInt64]
                have e' : own_hs (Int32.ofNat s) (own_nm t) = en'.1 := ehq.symm
                rw [e']; omega
            · exfalso
              rw [own_shl1 ht] at w
              have this : own_b (hd &&& Int32.ofNat (2 ^ t)) t = own_b 0 t := by rw [w]
              have z0 : own_b 0 t = false := by
                have := own_b_I 0 (k := t) (by omega)
                rw [own_B0] at this; exact this
              rw [own_b_and, hheld, own_bp ht (by omega), decide_eq_true rfl, z0] at this
              exact absurd this (by decide)
      · -- open
        refine D.openDir ml (fun _ => ?_) (fun k' hk' ho _ m' D' => ?_)
        · refine L_law_265 o24 o25 o26 o27 (fun _ => ?_) (fun w => absurd (by decide) w) (fun w => absurd (by decide) w)
          exact L_law_291 o25 o26 o27 (aft m ml T fr E op ck hd ino W _ _ _ _ _ _ h 0 _ _ _ _ _ _ q h4 (One.val rfl) o25 o26 o27 D V)
        · refine L_law_265 o24 o25 o26 o27 (fun w => absurd w (own_Nnn (by omega))) (fun _ w => absurd ((own_Nlt (b := 4) (by omega) (by omega)).mpr hk') w) (fun _ _ => ?_)
          refine L_law_291 o25 o26 o27 (aft m' ml T fr E _ _ hd ino W _ _ _ _ _ _ k' 1 _ _ _ _ _ _ q hk' (One.val rfl) o25 o26 o27 D' ?_)
          refine V.st hk' (fun l z => ⟨st_ne _ _ _ _ z, st_ne _ _ _ _ z⟩) (fun _ => ?_)
          rw [st_eq, st_eq]
          exact own_Wk.start _ _ _ (by decide)
      · -- setInode
        refine D.setInode _ _ ml (fun w => absurd w nok) (fun _ _ => ?_) (fun _ _ _ => ?_) (fun _ _ m' T' fr' A e0 B hE he0 D' => ?_)
        · exact L_law_235 o24 o25 o26 o27 (fun _ => aft m ml T fr E op ck hd ino W _ _ _ _ _ _ h 0 _ _ _ _ _ _ q h4 o24 o25 o26 o27 D V) (fun w => absurd w (by decide))
        · exact L_law_235 o24 o25 o26 o27 (fun _ => aft m ml T fr E op ck hd ino W _ _ _ _ _ _ h 0 _ _ _ _ _ _ q h4 o24 o25 o26 o27 D V) (fun w => absurd w (by decide))
        · refine L_law_235 o24 o25 o26 o27 (fun w => absurd rfl w) (fun _ => ?_)
          refine L_law_setNib_0 ?_
          exact L_law_251 o24 o25 o26 o27 (aft m' ml T' fr' _ op ck _ _ W _ _ _ _ _ _ h 0 _ _ _ _ _ _ q h4 o24 o25 o26 o27 D' (V.sets hs i16 a16 hE he0 D.srt D'.srt))
      · -- remove
        refine D.remove _ ml (fun w => absurd w nok) (fun _ _ => ?_) (fun _ m' T' fr' A e0 B hE he0 D' => ?_)
        · exact L_law_164 o24 o25 o26 o27 (fun _ => aft m ml T fr E op ck hd ino W _ _ _ _ _ _ h 0 _ _ _ _ _ _ q h4 o24 o25 o26 o27 D V) (fun w => absurd w (by decide))
        · refine L_law_164 o24 o25 o26 o27 (fun w => absurd rfl w) (fun _ => ?_)
          refine L_law_setNib_0 ?_
          exact L_law_181 o24 o25 o26 o27 (aft m' ml T' fr' _ op ck _ _ (fun k => W k &&& ((Int32.toInt64 (Int32.ofNat (2 ^ i))) ^^^ (-1 : Int64))) _ _ _ _ _ _ h 0 _ _ _ _ _ _ q h4 o24 o25 o26 o27 D' (V.rem hs i16 hE he0 D.srt D'.srt))
      · -- insert
        refine D.insert _ _ ml (fun w => absurd w nok) (fun _ _ => ?_) (fun _ _ _ _ _ => ?_) (fun _ _ _ _ => ?_) (fun _ _ _ _ m' T' fr' A B hE _ _ D' => ?_)
        · exact L_law_132 o24 o25 o26 o27 (fun _ => aft m ml T fr E op ck hd ino W _ _ _ _ _ _ h 0 _ _ _ _ _ _ q h4 o24 o25 o26 o27 D V) (fun w => absurd w (by decide))
        · exact L_law_132 o24 o25 o26 o27 (fun _ => aft m ml T fr E op ck hd ino W _ _ _ _ _ _ h 0 _ _ _ _ _ _ q h4 o24 o25 o26 o27 D V) (fun w => absurd w (by decide))
        · exact L_law_132 o24 o25 o26 o27 (fun _ => aft m ml T fr E op ck hd ino W _ _ _ _ _ _ h 0 _ _ _ _ _ _ q h4 o24 o25 o26 o27 D V) (fun w => absurd w (by decide))
        · refine L_law_132 o24 o25 o26 o27 (fun w => absurd rfl w) (fun _ => ?_)
          refine L_law_setNib_0 ?_
          exact L_law_148 o24 o25 o26 o27 (aft m' ml T' fr' _ op ck _ _ W _ _ _ _ _ _ h 0 _ _ _ _ _ _ q h4 o24 o25 o26 o27 D' (V.ins hs i16 a16 hE D.srt D'.srt))
    · have c : ¬ Int32.ofNat k < n.toInt32 := fun w => q (cmp.mp w)
      exact L_law_46 o14 o15 o16 o17 o18 o19 o20 o21 o22 o24 o25 o26 o27 (fun _ => ql1 n rfl) (fun w => absurd w c) (fun w => absurd w c) (fun w => absurd w c) (fun w => absurd w c) (fun w => absurd w c) (fun w => absurd w c) (fun w => absurd w c) (fun w => absurd w c) (fun w => absurd w c) (fun w => absurd w c) (fun w => absurd w c)
theorem law_ok (n : Nat) (f : Nat → Int32) (hn : n ≤ 260) : W_law 0 (entryL [.ref 0] maxLocals) [] (mem1 n f) (QL n) := by
  have cl : ∀ k : Nat, k ≤ 1 → Int32.ofNat k < n.toInt32 → inb (Int32.ofNat k) n = true := fun k hk h => own_Ninb ((own_Nlt (by omega) (by omega)).mp h) (by omega)
  refine L_law_0 ?_
  refine L_law_cell_0_p (cl 0 (by omega)) (fun v _ => ?_)
  refine L_law_9 ?_
  refine L_law_cell_0_p (cl 1 (by omega)) (fun v1 _ => ?_)
  refine L_law_19 ?_
  obtain ⟨s, hs, es, -⟩ := own_and16 v
  rw [es]
  refine own_init _ _ _ _ (fun b k hb => if_neg (by omega)) (fun m ml' sd cp e1 _ _ D => ?_)
  have e3 : sd = Int32.ofNat s := by
    rw [e1, if_neg (own_Nnn (by omega)), if_neg (fun z => by have := (own_Nlt (a := 65535) (by omega) (by omega)).mp z; omega)]
  subst e3
  refine L_law_26 ?_
  have V0 : own_V [] (Int32.ofNat s) (fun _ => 0) (fun _ => 0) 0 0 (fun _ => 0) := by
    refine ⟨fun e he => absurd he (by simp), fun t ht => ?_, fun t ht => ?_, fun h hh q => ?_⟩
    · have z : own_b 0 t = false := by
        have := own_b_I 0 (k := t) (by omega)
        rw [own_B0] at this; exact this
      rw [z]; simp
    · rw [own_look_no (Or.inr (fun e he => absurd he (by simp)))]
      have key : ∀ t, t < 16 → (0 : Int32) = own_nb 0 t := by decide +kernel
      exact key t ht
    · rw [own_B0] at q; cases q
  exact own_loop hn hs 300 2 m ml' _ _ _ _ _ 0 0 (fun _ => 0) _ _ _ _ _ _ _ _ _ _ _ _ _ _ _ One.u One.u One.u One.u One.u One.u One.u One.u (Or.inl ⟨rfl, rfl⟩) One.u One.u One.u (Or.inl ⟨rfl, rfl⟩) (by omega) (by omega) D V0

end

set_option maxRecDepth 65536 in
set_option maxHeartbeats 40000000 in
theorem comes_1 {Post : Tables → Env → Array Value → State → Outcome → State → Prop} (hpost : ∀ tb e args s v u, (limb_1_1.after args s (.returned v) u = true ∧ limb_1_2.after args s (.returned v) u = true ∧ True) → FrameEnd s (.returned v) u (Jvm.fieldLocs frame_1_writes args s ++ Jvm.arrayLocs frame_1_arrays args s ++ Jvm.staticLocs frame_1_statics s) 32 1088 → Post tb e args s (.returned v) u) :
    ArmFor flags0 classFile x code maxLocals ret World_1 tables_1 room_1 Calls_1 rest_1 Pre_1 Post := by
  intro l hfl _ _ p e ha hc hk s m args below hf hA hF happ hP
  obtain ⟨hcalls, hrest, hpre⟩ := hP
  obtain ⟨-, -, -, hnamed, -, -, -, hat⟩ := (Spec.applies_iff hf).mp happ
  obtain ⟨hg, hn⟩ := and_e (Cond.before_iff.mp (show (Jvm.Cond.and given_1 narrow_1).before args s = true from hpre))
  obtain ⟨g0, t0⟩ := and_e hg
  obtain ⟨w0, rfl⟩ : ∃ w0 : Value, args = #[w0] := by
    have hs : args.size = 1 := by simpa [Cond.value, given_1] using g0
    obtain ⟨L⟩ := args
    match L, hs with
    | [w0], _ => exact ⟨w0, rfl⟩
  have hw := fun d (hd : d ∈ tables_1) => atoms_spec (ws := Jvm.Cond.code x code maxLocals ret :: tables_1) hat d (List.mem_cons_of_mem _ hd)
  have hfit : Fit s := fun {y c} hc i hi => by
    obtain ⟨ha, rfl⟩ := Array.getElem?_eq_some_iff.mp hc
    have q := List.all_eq_true.mp ((Array.all_eq_true_iff_forall_mem.mp hF) _ (Array.getElem_mem ha)) i (List.mem_range.mpr hi)
    simpa [Array.getElem?_eq_getElem hi] using q
  obtain ⟨n1, n2⟩ := and_e hn
  obtain ⟨sa, rfl⟩ : ∃ sa, w0 = .ref sa := by
    cases w0 with
    | ref a => exact ⟨a, rfl⟩
    | _ => simp [Cond.value, Term.eval] at n1
  obtain ⟨cc, A⟩ := Arr.start (t := Term.arg 0) rfl n1
  have hlen : cc.slots.size ≤ 260 := script_len A n2
  obtain ⟨f, hfv⟩ := script_start hfit A (by omega)
  obtain ⟨n, o, h1, h2, h3, _, L, rfl, ⟨rfl, N⟩, hq⟩ := law_run (l := l) (R := room_1) (as := [.ref 0]) hw (ρ := rho1 sa s.heap.size) (rho1_inj A.lt) (fun a h => rho1_n a h) (rel1 _ A hfv) (by first | (simp [plainName, overriddenIn, x]; done) | decide +kernel) (Nat.le_of_ble_eq_true rfl) (law_ok cc.slots.size f hlen) tables_1 p e ha hc hk s m _ below hf ((Spec.applies_iff_loose hf).mp happ).1 ⟨rfl, State.Warmed39.refl s, rfl⟩ trivial
  refine ⟨n, _, h1, h2, h3, hpost _ _ _ _ _ _ ⟨Cond.after_iff.mpr rfl, Cond.after_iff.mpr (eq_i res_at (Term.int_eval (1)) rfl), trivial⟩ ⟨hq.1, hq.2.1, (hq.2.2.sift fun y hy => Or.inr (N y hy)).mono (by decide) (by decide)⟩⟩
theorem main_1_1 : Claimed_1_1 := comes_1 fun _ _ _ _ _ _ h hF => ⟨h.1, hF⟩
theorem main_1_2 : Claimed_1_2 := comes_1 fun _ _ _ _ _ _ h hF => ⟨h.2.1, hF⟩
end Jvm.Pilot.@@N@@
namespace Jvm.Pilot.@@N@@
open Jvm Jvm.ClassFile Sem Op Lib Jvm.Free Jvm.Stand Jvm.Pilot.@@N@@.Jvm.D
/-! MADE BY PROGRAM (witnessworld.py) out of the Statement's table words and the real class files: 11 classes; the members and pool entries that the words name. The judged class is class 1, her method 10. -/
namespace start1
open Jvm.ClassFile
def u (s : String) : CpInfo := .utf8 (stringToUtf16 s)
/-- a pool by its gaps: so many unusable entries, then the entry; so many at the end -/
def gap : Nat → List CpInfo → List CpInfo
  | 0, r => r
  | n + 1, r => .unusable :: gap n r
def poolList (es : List (Nat × CpInfo)) (last : Nat) : List CpInfo := es.foldr (fun e r => gap e.1 (e.2 :: r)) (gap last [])
def pool (es : List (Nat × CpInfo)) (last : Nat) : Array CpInfo := ⟨poolList es last⟩
def fileOf (pool : Array CpInfo) (this : Nat) (attrs : Array Attribute := #[]) (ms : Array MethodInfo := #[]) (fl : Nat := 33) (sup : Nat := 0) (ifs : Array Nat := #[]) (fds : Array FieldInfo := #[]) : ClassFile where
  minorVersion := 0
  majorVersion := 65
  constantPool := pool
  accessFlags := fl
  thisClass := this
  superClass := sup
  interfaces := ifs
  fields := fds
  methods := ms
  attributes := attrs
def plain (name : String) (sup : Option ClassId) : Class where
  name := name
  kind := .ordinary
  loader := none
  accessFlags := 33
  super := sup
  interfaces := #[]
  cf := none
  fields := #[]
  methods := #[]
  instanceTypes := #[]
  staticTypes := #[]
  resolved := #[]
  callSites := []
  init := .initialized
  statics := none
  mirror := none

def pool0 : Array CpInfo := pool [(5, u "<init>"), (0, u "()V"), (1, .class_ 10), (1, u "java/lang/Object")] 113

def k0c0 : Code := { maxStack := 0, maxLocals := 1, code := object_method_1_code, exceptionTable := #[], attributes := #[] }
def k0m0 : Method := { name := "<init>", desc := "()V", sig := { parameters := [], returnType := none }, accessFlags := 1, code := some k0c0 }
/-- java/lang/Object -/
def k0 : Class := { plain "java/lang/Object" none with
  accessFlags := 33
  interfaces := #[]
  cf := some (fileOf pool0 8 #[] #[{ accessFlags := 1, nameIndex := 5, descriptorIndex := 6, attributes := #[] }] 33 0 #[] #[])
  fields := #[]
  methods := #[k0m0]
  instanceTypes := #[]
  staticTypes := #[]
  resolved := Array.replicate 124 none
  statics := none }

def pool1 : Array CpInfo := pool [(2, .class_ 4), (1, u "java/lang/Object"), (0, u "<init>"), (0, u "()V"), (0, .long 562949953421312), (1, .long 65535), (1, .long 18446744073709551615), (1, .long 15), (1, .class_ 16), (0, u "HtreeDir"), (0, .methodref 18 19), (0, .class_ 20), (0, .nameAndType 21 22), (0, u "HtreeDirOwnLaw"), (0, u "cell"), (0, u "([II)I"), (0, .integer 65535), (0, .methodref 15 25), (0, .nameAndType 5 26), (0, u "(II)V"), (0, .methodref 18 28), (0, .nameAndType 29 30), (0, u "nameOf"), (0, u "(I)I"), (0, .methodref 15 32), (0, .nameAndType 33 34), (0, u "insert"), (0, u "(II)I"), (0, .methodref 18 36), (0, .nameAndType 37 38), (0, u "setNib"), (0, u "(JII)J"), (0, .methodref 15 40), (0, .nameAndType 41 30), (0, u "remove"), (0, .methodref 18 43), (0, .nameAndType 44 45), (0, u "dropReq"), (0, u "(JI)J"), (0, .methodref 15 47), (0, .nameAndType 48 34), (0, u "setInode"), (0, .methodref 15 50), (0, .nameAndType 51 52), (0, u "openDir"), (0, u "()I"), (0, .methodref 18 54), (0, .nameAndType 55 56), (0, u "startWalk"), (0, u "(I)J"), (0, .methodref 18 58), (0, .nameAndType 59 60), (0, u "pick"), (0, u "(JJJJI)J"), (0, .methodref 15 62), (0, .nameAndType 63 30), (0, u "readNext"), (0, .methodref 18 65), (0, .nameAndType 66 67), (0, u "active"), (0, u "(J)Z"), (0, .methodref 18 69), (0, .nameAndType 70 30), (0, u "idxOf"), (0, .methodref 15 72), (0, .nameAndType 73 30), (0, u "hashOf"), (0, .long 131071), (1, .long 18446181128051097599), (1, .integer 65536), (0, .methodref 15 80), (0, .nameAndType 81 82), (0, u "seekDir"), (0, u "(II)Z"), (0, .methodref 15 84), (0, .nameAndType 85 86), (0, u "closeDir"), (0, u "(I)Z"), (0, .methodref 15 88), (0, .nameAndType 89 30), (0, u "lookup"), (0, .methodref 18 91), (0, .nameAndType 92 93), (0, u "nib"), (0, u "(JI)I"), (3, u "law"), (0, u "([I)Z")] 4

def k1m0 : Method := { name := "<init>", desc := "()V", sig := { parameters := [], returnType := none }, accessFlags := 1, code := none }
def k1c1 : Code := { maxStack := 2, maxLocals := 2, code := method_2_code, exceptionTable := #[], attributes := #[] }
def k1m1 : Method := { name := "cell", desc := "([II)I", sig := { parameters := [(.array .int), .int], returnType := some .int }, accessFlags := 10, code := some k1c1 }
def k1c2 : Code := { maxStack := 2, maxLocals := 1, code := method_3_code, exceptionTable := #[], attributes := #[] }
def k1m2 : Method := { name := "nameOf", desc := "(I)I", sig := { parameters := [.int], returnType := some .int }, accessFlags := 10, code := some k1c2 }
def k1c3 : Code := { maxStack := 2, maxLocals := 3, code := method_4_code, exceptionTable := #[], attributes := #[] }
def k1m3 : Method := { name := "idxOf", desc := "(I)I", sig := { parameters := [.int], returnType := some .int }, accessFlags := 10, code := some k1c3 }
def k1c4 : Code := { maxStack := 2, maxLocals := 9, code := method_5_code, exceptionTable := #[], attributes := #[] }
def k1m4 : Method := { name := "pick", desc := "(JJJJI)J", sig := { parameters := [.long, .long, .long, .long, .int], returnType := some .long }, accessFlags := 10, code := some k1c4 }
def k1c5 : Code := { maxStack := 6, maxLocals := 1, code := method_6_code, exceptionTable := #[], attributes := #[] }
def k1m5 : Method := { name := "startWalk", desc := "(I)J", sig := { parameters := [.int], returnType := some .long }, accessFlags := 10, code := some k1c5 }
def k1c6 : Code := { maxStack := 4, maxLocals := 2, code := method_7_code, exceptionTable := #[], attributes := #[] }
def k1m6 : Method := { name := "active", desc := "(J)Z", sig := { parameters := [.long], returnType := some .boolean }, accessFlags := 10, code := some k1c6 }
def k1c7 : Code := { maxStack := 6, maxLocals := 3, code := method_8_code, exceptionTable := #[], attributes := #[] }
def k1m7 : Method := { name := "dropReq", desc := "(JI)J", sig := { parameters := [.long, .int], returnType := some .long }, accessFlags := 10, code := some k1c7 }
def k1c8 : Code := { maxStack := 4, maxLocals := 3, code := method_9_code, exceptionTable := #[], attributes := #[] }
def k1m8 : Method := { name := "nib", desc := "(JI)I", sig := { parameters := [.long, .int], returnType := some .int }, accessFlags := 10, code := some k1c8 }
def k1c9 : Code := { maxStack := 6, maxLocals := 4, code := method_10_code, exceptionTable := #[], attributes := #[] }
def k1m9 : Method := { name := "setNib", desc := "(JII)J", sig := { parameters := [.long, .int, .int], returnType := some .long }, accessFlags := 10, code := some k1c9 }
def k1c10 : Code := { maxStack := 9, maxLocals := 29, code := code, exceptionTable := #[], attributes := #[] }
def k1m10 : Method := { name := "law", desc := "([I)Z", sig := { parameters := [(.array .int)], returnType := some .boolean }, accessFlags := 9, code := some k1c10 }
/-- HtreeDirOwnLaw -/
def k1 : Class := { plain "HtreeDirOwnLaw" (some 0) with
  accessFlags := 49
  interfaces := #[]
  cf := some (fileOf pool1 18 #[] #[{ accessFlags := 1, nameIndex := 5, descriptorIndex := 6, attributes := #[] }, { accessFlags := 10, nameIndex := 21, descriptorIndex := 22, attributes := #[] }, { accessFlags := 10, nameIndex := 29, descriptorIndex := 30, attributes := #[] }, { accessFlags := 10, nameIndex := 70, descriptorIndex := 30, attributes := #[] }, { accessFlags := 10, nameIndex := 59, descriptorIndex := 60, attributes := #[] }, { accessFlags := 10, nameIndex := 55, descriptorIndex := 56, attributes := #[] }, { accessFlags := 10, nameIndex := 66, descriptorIndex := 67, attributes := #[] }, { accessFlags := 10, nameIndex := 44, descriptorIndex := 45, attributes := #[] }, { accessFlags := 10, nameIndex := 92, descriptorIndex := 93, attributes := #[] }, { accessFlags := 10, nameIndex := 37, descriptorIndex := 38, attributes := #[] }, { accessFlags := 9, nameIndex := 97, descriptorIndex := 98, attributes := #[] }] 49 2 #[] #[])
  fields := #[]
  methods := #[k1m0, k1m1, k1m2, k1m3, k1m4, k1m5, k1m6, k1m7, k1m8, k1m9, k1m10]
  instanceTypes := #[]
  staticTypes := #[]
  resolved := Array.replicate 103 none
  statics := none }

def pool2 : Array CpInfo := pool [(1, .methodref 2 3), (0, .class_ 4), (0, .nameAndType 5 6), (0, u "java/lang/Object"), (0, u "<init>"), (0, u "()V"), (0, .fieldref 8 9), (0, .class_ 10), (0, .nameAndType 11 12), (0, u "HtreeDir"), (0, u "eHash"), (0, u "[I"), (0, .fieldref 8 14), (0, .nameAndType 15 12), (0, u "eName"), (0, .fieldref 8 17), (0, .nameAndType 18 12), (0, u "eInode"), (0, .fieldref 8 20), (0, .nameAndType 21 12), (0, u "leafLen"), (0, .fieldref 8 23), (0, .nameAndType 24 12), (0, u "idxLeaf"), (0, .fieldref 8 26), (0, .nameAndType 27 12), (0, u "freeStack"), (0, .fieldref 8 29), (0, .nameAndType 30 31), (0, u "open"), (0, u "[Z"), (0, .fieldref 8 33), (0, .nameAndType 34 12), (0, u "cookie"), (0, .integer 65535), (0, .fieldref 8 37), (0, .nameAndType 38 39), (0, u "seed"), (0, u "I"), (0, .fieldref 8 41), (0, .nameAndType 42 39), (0, u "cap"), (0, .fieldref 8 44), (0, .nameAndType 45 39), (0, u "size"), (0, .fieldref 8 47), (0, .nameAndType 48 39), (0, u "numLeaves"), (0, .fieldref 8 50), (0, .nameAndType 51 39), (0, u "freeTop"), (0, .methodref 8 53), (0, .nameAndType 54 55), (0, u "isName"), (0, u "(I)Z"), (0, .methodref 8 57), (0, .nameAndType 58 59), (0, u "hash"), (0, u "(I)I"), (0, .methodref 8 61), (0, .nameAndType 62 59), (0, u "locate"), (0, .methodref 8 64), (0, .nameAndType 65 66), (0, u "createFirstLeaf"), (0, u "()Z"), (0, .methodref 8 68), (0, .nameAndType 69 59), (0, u "findLeafPos"), (0, .methodref 8 71), (0, .nameAndType 72 73), (0, u "splitLeaf"), (0, u "(II)I"), (0, .methodref 8 75), (0, .nameAndType 76 77), (0, u "insertIntoLeaf"), (0, u "(IIII)V"), (0, .methodref 8 79), (0, .nameAndType 80 81), (0, u "deleteFromLeaf"), (0, u "(II)V"), (0, .methodref 8 83), (0, .nameAndType 84 85), (0, u "rebalance"), (0, u "(I)V"), (0, .methodref 8 87), (0, .nameAndType 88 59), (0, u "entryIndex"), (0, .integer 65536), (3, .methodref 8 94), (0, .nameAndType 95 55), (0, u "validHandle"), (0, .methodref 8 97), (0, .nameAndType 98 59), (0, u "firstAtLeast"), (0, .integer 40507), (0, .methodref 8 101), (0, .nameAndType 102 59), (0, u "keyAt"), (0, .methodref 8 104), (0, .nameAndType 105 106), (0, u "allocLeaf"), (0, u "()I"), (0, .methodref 8 108), (0, .nameAndType 109 81), (0, u "copyEntry"), (0, .methodref 8 111), (0, .nameAndType 112 81), (0, u "indexInsert"), (0, .methodref 8 114), (0, .nameAndType 115 85), (0, u "indexRemove"), (0, .methodref 8 117), (0, .nameAndType 118 85), (0, u "freeLeaf"), (0, .methodref 8 120), (0, .nameAndType 121 85), (0, u "mergeWithNext"), (0, u "OK"), (2, u "DUP"), (1, u "FULL"), (1, u "ABSENT"), (1, u "BAD_NAME"), (1, u "BAD_INODE"), (1, u "END"), (1, u "BAD_HANDLE"), (1, u "COOKIE_START"), (0, u "COOKIE_EOF"), (0, u "MAX_HANDLES"), (0, u "NAME_MAX"), (5, u "hashOf"), (0, u "insert"), (0, u "remove"), (0, u "setInode"), (0, u "lookup"), (3, u "openDir"), (0, u "readNext"), (1, u "seekDir"), (0, u "(II)Z"), (0, u "closeDir")] 2

def k2c0 : Code := { maxStack := 4, maxLocals := 6, code := prog_1_method_1_code, exceptionTable := #[], attributes := #[] }
def k2m0 : Method := { name := "<init>", desc := "(II)V", sig := { parameters := [.int, .int], returnType := none }, accessFlags := 1, code := some k2c0 }
def k2c1 : Code := { maxStack := 2, maxLocals := 2, code := prog_1_method_4_code, exceptionTable := #[], attributes := #[] }
def k2m1 : Method := { name := "hashOf", desc := "(I)I", sig := { parameters := [.int], returnType := some .int }, accessFlags := 1, code := some k2c1 }
def k2c2 : Code := { maxStack := 5, maxLocals := 6, code := prog_1_method_5_code, exceptionTable := #[], attributes := #[] }
def k2m2 : Method := { name := "insert", desc := "(II)I", sig := { parameters := [.int, .int], returnType := some .int }, accessFlags := 1, code := some k2c2 }
def k2c3 : Code := { maxStack := 4, maxLocals := 5, code := prog_1_method_6_code, exceptionTable := #[], attributes := #[] }
def k2m3 : Method := { name := "remove", desc := "(I)I", sig := { parameters := [.int], returnType := some .int }, accessFlags := 1, code := some k2c3 }
def k2c4 : Code := { maxStack := 3, maxLocals := 5, code := prog_1_method_7_code, exceptionTable := #[], attributes := #[] }
def k2m4 : Method := { name := "setInode", desc := "(II)I", sig := { parameters := [.int, .int], returnType := some .int }, accessFlags := 1, code := some k2c4 }
def k2c5 : Code := { maxStack := 3, maxLocals := 4, code := prog_1_method_8_code, exceptionTable := #[], attributes := #[] }
def k2m5 : Method := { name := "lookup", desc := "(I)I", sig := { parameters := [.int], returnType := some .int }, accessFlags := 1, code := some k2c5 }
def k2c6 : Code := { maxStack := 3, maxLocals := 2, code := prog_1_method_12_code, exceptionTable := #[], attributes := #[] }
def k2m6 : Method := { name := "openDir", desc := "()I", sig := { parameters := [], returnType := some .int }, accessFlags := 1, code := some k2c6 }
def k2c7 : Code := { maxStack := 4, maxLocals := 5, code := prog_1_method_13_code, exceptionTable := #[], attributes := #[] }
def k2m7 : Method := { name := "readNext", desc := "(I)I", sig := { parameters := [.int], returnType := some .int }, accessFlags := 1, code := some k2c7 }
def k2c8 : Code := { maxStack := 3, maxLocals := 3, code := prog_1_method_15_code, exceptionTable := #[], attributes := #[] }
def k2m8 : Method := { name := "seekDir", desc := "(II)Z", sig := { parameters := [.int, .int], returnType := some .boolean }, accessFlags := 1, code := some k2c8 }
def k2c9 : Code := { maxStack := 3, maxLocals := 2, code := prog_1_method_16_code, exceptionTable := #[], attributes := #[] }
def k2m9 : Method := { name := "closeDir", desc := "(I)Z", sig := { parameters := [.int], returnType := some .boolean }, accessFlags := 1, code := some k2c9 }
def k2c10 : Code := { maxStack := 2, maxLocals := 2, code := prog_1_method_17_code, exceptionTable := #[], attributes := #[] }
def k2m10 : Method := { name := "isName", desc := "(I)Z", sig := { parameters := [.int], returnType := some .boolean }, accessFlags := 2, code := some k2c10 }
def k2c11 : Code := { maxStack := 2, maxLocals := 2, code := prog_1_method_18_code, exceptionTable := #[], attributes := #[] }
def k2m11 : Method := { name := "validHandle", desc := "(I)Z", sig := { parameters := [.int], returnType := some .boolean }, accessFlags := 2, code := some k2c11 }
def k2c12 : Code := { maxStack := 3, maxLocals := 3, code := prog_1_method_19_code, exceptionTable := #[], attributes := #[] }
def k2m12 : Method := { name := "hash", desc := "(I)I", sig := { parameters := [.int], returnType := some .int }, accessFlags := 2, code := some k2c12 }
def k2c13 : Code := { maxStack := 3, maxLocals := 3, code := prog_1_method_20_code, exceptionTable := #[], attributes := #[] }
def k2m13 : Method := { name := "keyAt", desc := "(I)I", sig := { parameters := [.int], returnType := some .int }, accessFlags := 2, code := some k2c13 }
def k2c14 : Code := { maxStack := 2, maxLocals := 7, code := prog_1_method_21_code, exceptionTable := #[], attributes := #[] }
def k2m14 : Method := { name := "findLeafPos", desc := "(I)I", sig := { parameters := [.int], returnType := some .int }, accessFlags := 2, code := some k2c14 }
def k2c15 : Code := { maxStack := 3, maxLocals := 7, code := prog_1_method_22_code, exceptionTable := #[], attributes := #[] }
def k2m15 : Method := { name := "locate", desc := "(I)I", sig := { parameters := [.int], returnType := some .int }, accessFlags := 2, code := some k2c15 }
def k2c16 : Code := { maxStack := 3, maxLocals := 7, code := prog_1_method_23_code, exceptionTable := #[], attributes := #[] }
def k2m16 : Method := { name := "firstAtLeast", desc := "(I)I", sig := { parameters := [.int], returnType := some .int }, accessFlags := 2, code := some k2c16 }
def k2c17 : Code := { maxStack := 3, maxLocals := 3, code := prog_1_method_24_code, exceptionTable := #[], attributes := #[] }
def k2m17 : Method := { name := "entryIndex", desc := "(I)I", sig := { parameters := [.int], returnType := some .int }, accessFlags := 2, code := some k2c17 }
def k2c18 : Code := { maxStack := 3, maxLocals := 2, code := prog_1_method_26_code, exceptionTable := #[], attributes := #[] }
def k2m18 : Method := { name := "allocLeaf", desc := "()I", sig := { parameters := [], returnType := some .int }, accessFlags := 2, code := some k2c18 }
def k2c19 : Code := { maxStack := 4, maxLocals := 2, code := prog_1_method_27_code, exceptionTable := #[], attributes := #[] }
def k2m19 : Method := { name := "freeLeaf", desc := "(I)V", sig := { parameters := [.int], returnType := none }, accessFlags := 2, code := some k2c19 }
def k2c20 : Code := { maxStack := 3, maxLocals := 2, code := prog_1_method_28_code, exceptionTable := #[], attributes := #[] }
def k2m20 : Method := { name := "createFirstLeaf", desc := "()Z", sig := { parameters := [], returnType := some .boolean }, accessFlags := 2, code := some k2c20 }
def k2c21 : Code := { maxStack := 5, maxLocals := 4, code := prog_1_method_29_code, exceptionTable := #[], attributes := #[] }
def k2m21 : Method := { name := "indexInsert", desc := "(II)V", sig := { parameters := [.int, .int], returnType := none }, accessFlags := 2, code := some k2c21 }
def k2c22 : Code := { maxStack := 5, maxLocals := 3, code := prog_1_method_30_code, exceptionTable := #[], attributes := #[] }
def k2m22 : Method := { name := "indexRemove", desc := "(I)V", sig := { parameters := [.int], returnType := none }, accessFlags := 2, code := some k2c22 }
def k2c23 : Code := { maxStack := 4, maxLocals := 3, code := prog_1_method_31_code, exceptionTable := #[], attributes := #[] }
def k2m23 : Method := { name := "copyEntry", desc := "(II)V", sig := { parameters := [.int, .int], returnType := none }, accessFlags := 2, code := some k2c23 }
def k2c24 : Code := { maxStack := 4, maxLocals := 8, code := prog_1_method_32_code, exceptionTable := #[], attributes := #[] }
def k2m24 : Method := { name := "splitLeaf", desc := "(II)I", sig := { parameters := [.int, .int], returnType := some .int }, accessFlags := 2, code := some k2c24 }
def k2c25 : Code := { maxStack := 4, maxLocals := 8, code := prog_1_method_33_code, exceptionTable := #[], attributes := #[] }
def k2m25 : Method := { name := "insertIntoLeaf", desc := "(IIII)V", sig := { parameters := [.int, .int, .int, .int], returnType := none }, accessFlags := 2, code := some k2c25 }
def k2c26 : Code := { maxStack := 4, maxLocals := 6, code := prog_1_method_34_code, exceptionTable := #[], attributes := #[] }
def k2m26 : Method := { name := "deleteFromLeaf", desc := "(II)V", sig := { parameters := [.int, .int], returnType := none }, accessFlags := 2, code := some k2c26 }
def k2c27 : Code := { maxStack := 5, maxLocals := 4, code := prog_1_method_35_code, exceptionTable := #[], attributes := #[] }
def k2m27 : Method := { name := "rebalance", desc := "(I)V", sig := { parameters := [.int], returnType := none }, accessFlags := 2, code := some k2c27 }
def k2c28 : Code := { maxStack := 4, maxLocals := 9, code := prog_1_method_36_code, exceptionTable := #[], attributes := #[] }
def k2m28 : Method := { name := "mergeWithNext", desc := "(I)V", sig := { parameters := [.int], returnType := none }, accessFlags := 2, code := some k2c28 }
/-- HtreeDir -/
def k2 : Class := { plain "HtreeDir" (some 0) with
  accessFlags := 49
  interfaces := #[]
  cf := some (fileOf pool2 8 #[] #[{ accessFlags := 1, nameIndex := 5, descriptorIndex := 81, attributes := #[] }, { accessFlags := 1, nameIndex := 148, descriptorIndex := 59, attributes := #[] }, { accessFlags := 1, nameIndex := 149, descriptorIndex := 73, attributes := #[] }, { accessFlags := 1, nameIndex := 150, descriptorIndex := 59, attributes := #[] }, { accessFlags := 1, nameIndex := 151, descriptorIndex := 73, attributes := #[] }, { accessFlags := 1, nameIndex := 152, descriptorIndex := 59, attributes := #[] }, { accessFlags := 1, nameIndex := 156, descriptorIndex := 106, attributes := #[] }, { accessFlags := 1, nameIndex := 157, descriptorIndex := 59, attributes := #[] }, { accessFlags := 1, nameIndex := 159, descriptorIndex := 160, attributes := #[] }, { accessFlags := 1, nameIndex := 161, descriptorIndex := 55, attributes := #[] }, { accessFlags := 2, nameIndex := 54, descriptorIndex := 55, attributes := #[] }, { accessFlags := 2, nameIndex := 95, descriptorIndex := 55, attributes := #[] }, { accessFlags := 2, nameIndex := 58, descriptorIndex := 59, attributes := #[] }, { accessFlags := 2, nameIndex := 102, descriptorIndex := 59, attributes := #[] }, { accessFlags := 2, nameIndex := 69, descriptorIndex := 59, attributes := #[] }, { accessFlags := 2, nameIndex := 62, descriptorIndex := 59, attributes := #[] }, { accessFlags := 2, nameIndex := 98, descriptorIndex := 59, attributes := #[] }, { accessFlags := 2, nameIndex := 88, descriptorIndex := 59, attributes := #[] }, { accessFlags := 2, nameIndex := 105, descriptorIndex := 106, attributes := #[] }, { accessFlags := 2, nameIndex := 118, descriptorIndex := 85, attributes := #[] }, { accessFlags := 2, nameIndex := 65, descriptorIndex := 66, attributes := #[] }, { accessFlags := 2, nameIndex := 112, descriptorIndex := 81, attributes := #[] }, { accessFlags := 2, nameIndex := 115, descriptorIndex := 85, attributes := #[] }, { accessFlags := 2, nameIndex := 109, descriptorIndex := 81, attributes := #[] }, { accessFlags := 2, nameIndex := 72, descriptorIndex := 73, attributes := #[] }, { accessFlags := 2, nameIndex := 76, descriptorIndex := 77, attributes := #[] }, { accessFlags := 2, nameIndex := 80, descriptorIndex := 81, attributes := #[] }, { accessFlags := 2, nameIndex := 84, descriptorIndex := 85, attributes := #[] }, { accessFlags := 2, nameIndex := 121, descriptorIndex := 85, attributes := #[] }] 49 2 #[] #[{ accessFlags := 25, nameIndex := 122, descriptorIndex := 39, attributes := #[] }, { accessFlags := 25, nameIndex := 125, descriptorIndex := 39, attributes := #[] }, { accessFlags := 25, nameIndex := 127, descriptorIndex := 39, attributes := #[] }, { accessFlags := 25, nameIndex := 129, descriptorIndex := 39, attributes := #[] }, { accessFlags := 25, nameIndex := 131, descriptorIndex := 39, attributes := #[] }, { accessFlags := 25, nameIndex := 133, descriptorIndex := 39, attributes := #[] }, { accessFlags := 25, nameIndex := 135, descriptorIndex := 39, attributes := #[] }, { accessFlags := 25, nameIndex := 137, descriptorIndex := 39, attributes := #[] }, { accessFlags := 25, nameIndex := 139, descriptorIndex := 39, attributes := #[] }, { accessFlags := 25, nameIndex := 140, descriptorIndex := 39, attributes := #[] }, { accessFlags := 25, nameIndex := 141, descriptorIndex := 39, attributes := #[] }, { accessFlags := 25, nameIndex := 142, descriptorIndex := 39, attributes := #[] }, { accessFlags := 2, nameIndex := 38, descriptorIndex := 39, attributes := #[] }, { accessFlags := 2, nameIndex := 42, descriptorIndex := 39, attributes := #[] }, { accessFlags := 2, nameIndex := 45, descriptorIndex := 39, attributes := #[] }, { accessFlags := 2, nameIndex := 11, descriptorIndex := 12, attributes := #[] }, { accessFlags := 2, nameIndex := 15, descriptorIndex := 12, attributes := #[] }, { accessFlags := 2, nameIndex := 18, descriptorIndex := 12, attributes := #[] }, { accessFlags := 2, nameIndex := 21, descriptorIndex := 12, attributes := #[] }, { accessFlags := 2, nameIndex := 24, descriptorIndex := 12, attributes := #[] }, { accessFlags := 2, nameIndex := 48, descriptorIndex := 39, attributes := #[] }, { accessFlags := 2, nameIndex := 27, descriptorIndex := 12, attributes := #[] }, { accessFlags := 2, nameIndex := 51, descriptorIndex := 39, attributes := #[] }, { accessFlags := 2, nameIndex := 30, descriptorIndex := 31, attributes := #[] }, { accessFlags := 2, nameIndex := 34, descriptorIndex := 12, attributes := #[] }])
  fields := #[{ name := "OK", type := .int, accessFlags := 25, slot := 0, constantValue := 0 }, { name := "DUP", type := .int, accessFlags := 25, slot := 1, constantValue := 0 }, { name := "FULL", type := .int, accessFlags := 25, slot := 2, constantValue := 0 }, { name := "ABSENT", type := .int, accessFlags := 25, slot := 3, constantValue := 0 }, { name := "BAD_NAME", type := .int, accessFlags := 25, slot := 4, constantValue := 0 }, { name := "BAD_INODE", type := .int, accessFlags := 25, slot := 5, constantValue := 0 }, { name := "END", type := .int, accessFlags := 25, slot := 6, constantValue := 0 }, { name := "BAD_HANDLE", type := .int, accessFlags := 25, slot := 7, constantValue := 0 }, { name := "COOKIE_START", type := .int, accessFlags := 25, slot := 8, constantValue := 0 }, { name := "COOKIE_EOF", type := .int, accessFlags := 25, slot := 9, constantValue := 0 }, { name := "MAX_HANDLES", type := .int, accessFlags := 25, slot := 10, constantValue := 0 }, { name := "NAME_MAX", type := .int, accessFlags := 25, slot := 11, constantValue := 0 }, { name := "seed", type := .int, accessFlags := 2, slot := 0, constantValue := 0 }, { name := "cap", type := .int, accessFlags := 2, slot := 1, constantValue := 0 }, { name := "size", type := .int, accessFlags := 2, slot := 2, constantValue := 0 }, { name := "eHash", type := (.array .int), accessFlags := 2, slot := 3, constantValue := 0 }, { name := "eName", type := (.array .int), accessFlags := 2, slot := 4, constantValue := 0 }, { name := "eInode", type := (.array .int), accessFlags := 2, slot := 5, constantValue := 0 }, { name := "leafLen", type := (.array .int), accessFlags := 2, slot := 6, constantValue := 0 }, { name := "idxLeaf", type := (.array .int), accessFlags := 2, slot := 7, constantValue := 0 }, { name := "numLeaves", type := .int, accessFlags := 2, slot := 8, constantValue := 0 }, { name := "freeStack", type := (.array .int), accessFlags := 2, slot := 9, constantValue := 0 }, { name := "freeTop", type := .int, accessFlags := 2, slot := 10, constantValue := 0 }, { name := "open", type := (.array .boolean), accessFlags := 2, slot := 11, constantValue := 0 }, { name := "cookie", type := (.array .int), accessFlags := 2, slot := 12, constantValue := 0 }]
  methods := #[k2m0, k2m1, k2m2, k2m3, k2m4, k2m5, k2m6, k2m7, k2m8, k2m9, k2m10, k2m11, k2m12, k2m13, k2m14, k2m15, k2m16, k2m17, k2m18, k2m19, k2m20, k2m21, k2m22, k2m23, k2m24, k2m25, k2m26, k2m27, k2m28]
  instanceTypes := #[.int, .int, .int, (.array .int), (.array .int), (.array .int), (.array .int), (.array .int), .int, (.array .int), .int, (.array .boolean), (.array .int)]
  staticTypes := #[.int, .int, .int, .int, .int, .int, .int, .int, .int, .int, .int, .int]
  resolved := Array.replicate 164 none
  statics := none }

def pool3 : Array CpInfo := pool [(1, u "java/lang/Cloneable"), (0, .class_ 1), (0, u "java/lang/Object"), (0, .class_ 3)] 3

/-- java/lang/Cloneable -/
def k3 : Class := { plain "java/lang/Cloneable" (some 0) with
  accessFlags := 1537
  interfaces := #[]
  cf := some (fileOf pool3 2 #[] #[] 1537 4 #[] #[])
  fields := #[]
  methods := #[]
  instanceTypes := #[]
  staticTypes := #[]
  resolved := Array.replicate 8 none
  statics := none }

def pool4 : Array CpInfo := pool [(1, u "java/io/Serializable"), (0, .class_ 1), (0, u "java/lang/Object"), (0, .class_ 3)] 3

/-- java/io/Serializable -/
def k4 : Class := { plain "java/io/Serializable" (some 0) with
  accessFlags := 1537
  interfaces := #[]
  cf := some (fileOf pool4 2 #[] #[] 1537 4 #[] #[])
  fields := #[]
  methods := #[]
  instanceTypes := #[]
  staticTypes := #[]
  resolved := Array.replicate 8 none
  statics := none }

/-- the primitive boolean -/
def k5 : Class := { plain "boolean" none with kind := .primitive 'Z', accessFlags := 0x411 }
/-- [Z -/
def k6 : Class := { plain "[Z" (some 0) with kind := .array 5 .boolean, interfaces := #[3, 4], accessFlags := 1041 }

/-- the primitive byte -/
def k7 : Class := { plain "byte" none with kind := .primitive 'B', accessFlags := 0x411 }
/-- [B -/
def k8 : Class := { plain "[B" (some 0) with kind := .array 7 .byte, interfaces := #[3, 4], accessFlags := 1041 }

/-- the primitive int -/
def k9 : Class := { plain "int" none with kind := .primitive 'I', accessFlags := 0x411 }
/-- [I -/
def k10 : Class := { plain "[I" (some 0) with kind := .array 9 .int, interfaces := #[3, 4], accessFlags := 1041 }

def heap : Heap := #[{ cls := 10, slots := #[.int 1, .int 2, .int 3], vm := .none }]
def classes : Array Class := #[k0, k1, k2, k3, k4, k5, k6, k7, k8, k9, k10]
def interned : List (Array UInt16 × Addr) := []
def slotsUsed : Nat := 3
def theMethod : MethodId := ⟨1, 10⟩
def args0 : Array Value := #[.ref 0]
def aboutOver (below : List Frame) : State where
  vm := { classes := classes, interned := interned.toArray }
  heap := heap
  slotsUsed := slotsUsed
  threads := #[{ frames := .invoking theMethod args0 :: below }]
def below0 : List Frame := [.native { method := ⟨0, 0⟩, args := #[] }]
def about1 : State := aboutOver below0
def p0 : Program := .bare "" "" ""
def e0 : Env := launch0.env 0 0 0
theorem w_frames : about1.frames = Frame.invoking theMethod args0 :: below0 := rfl
set_option maxRecDepth 65536 in
theorem w_args : argsFit about1.vm theMethod args0 = true := by decide +kernel
set_option maxRecDepth 65536 in
theorem w_heap : heapFits about1 = true := by decide +kernel
set_option maxRecDepth 65536 in
theorem w_runnable : about1.curStatus? = some .runnable := by decide +kernel
set_option maxRecDepth 65536 in
theorem w_alone : about1.alone = true := by decide +kernel
set_option maxRecDepth 65536 in
theorem w_named : about1.methodNamed? x = some theMethod := by decide +kernel
set_option maxRecDepth 65536 in
theorem w_hears : about1.hears theMethod below0 = true := by decide +kernel
set_option maxRecDepth 65536 in
theorem w_ripe : about1.ripe theMethod args0 below0 = true := by decide +kernel
theorem w_running : about1.status = .running := rfl
set_option maxRecDepth 65536 in
theorem w_room : about1.hasRoom e0.platform room_1 = true :=
  launch0.hasRoom_least _ room_1 (by decide +kernel) (by decide +kernel) (by decide +kernel) (by decide +kernel) (by decide +kernel) (by decide +kernel)
theorem allAtoms_all (ts : List Jvm.Cond) (a : Array Jvm.Value) (st : Jvm.State) : (allAtoms ts).before a st = ts.all (fun c => c.before a st) := by
  induction ts with
  | nil => rfl
  | cons c t ih =>
    show (Jvm.Cond.and c (allAtoms t)).before a st = _
    rw [Jvm.Cond.before_and, ih, List.all_cons]
def words1 : List Jvm.Cond := Jvm.Cond.code x code maxLocals ret :: tables_1
/-- a 'code' word, met by the world's own term for the bytes: nothing is compared byte by byte -/
theorem code_word {y : MethodName} {bytes : ByteArray} {mx : Nat} {rt : Option FieldType} {a : Array Value} {s : State} {m : MethodId} {meth : Method} {c : Code} (h1 : s.methodNamed? y = some m) (h2 : s.vm.method? m = some meth) (h3 : meth.code = some c) (h4 : c.code = bytes)
    (h5 : (c.maxLocals == mx && c.exceptionTable.isEmpty && decide (c.maxStack ≤ mostOperands) && decide (meth.sig.returnType = rt) && !meth.locks && decide (parseMethodDescriptor y.desc = some meth.sig)) = true) : (Jvm.Cond.code y bytes mx rt).before a s = true := by
  simp only [Bool.and_eq_true, beq_iff_eq, Bool.not_eq_true', decide_eq_true_eq] at h5
  obtain ⟨⟨⟨⟨⟨g1, g2⟩, g3⟩, g4⟩, g5⟩, g6⟩ := h5
  simp [Cond.before, Cond.holds, Cond.value, h1, h2, h3, h4, g1, g2, g3, g4, g5, g6]
def isCode : Jvm.Cond → Bool
  | .code _ _ _ _ => true
  | _ => false
theorem all_split {L : List Jvm.Cond} {P : Jvm.Cond → Bool} (h1 : L.all (fun c => isCode c || P c) = true) (h2 : ∀ c ∈ L.filter isCode, P c = true) : L.all P = true := by
  refine List.all_eq_true.mpr fun c hc => ?_
  have h := List.all_eq_true.mp h1 c hc
  rcases Bool.eq_false_or_eq_true (isCode c) with hi | hi
  · exact h2 c (List.mem_filter.mpr ⟨hc, hi⟩)
  · simpa [hi] using h
set_option maxRecDepth 65536 in
theorem w_c0 : (Jvm.Cond.code x code maxLocals ret).before args0 about1 = true := code_word (m := ⟨1, 10⟩) (meth := k1m10) (c := k1c10) (by decide +kernel) rfl rfl rfl (by decide +kernel)
set_option maxRecDepth 65536 in
theorem w_c1 : (Jvm.Cond.code ({ cls := "HtreeDirOwnLaw", name := "cell", desc := "([II)I" } : Jvm.MethodName) method_2_code (2 : Nat) (Option.some Jvm.ClassFile.FieldType.int)).before args0 about1 = true := code_word (m := ⟨1, 1⟩) (meth := k1m1) (c := k1c1) (by decide +kernel) rfl rfl rfl (by decide +kernel)
set_option maxRecDepth 65536 in
theorem w_c2 : (Jvm.Cond.code ({ cls := "HtreeDir", name := "<init>", desc := "(II)V" } : Jvm.MethodName) prog_1_method_1_code (6 : Nat) (Option.none : Option Jvm.ClassFile.FieldType)).before args0 about1 = true := code_word (m := ⟨2, 0⟩) (meth := k2m0) (c := k2c0) (by decide +kernel) rfl rfl rfl (by decide +kernel)
set_option maxRecDepth 65536 in
theorem w_c3 : (Jvm.Cond.code ({ cls := "java/lang/Object", name := "<init>", desc := "()V" } : Jvm.MethodName) object_method_1_code (1 : Nat) (Option.none : Option Jvm.ClassFile.FieldType)).before args0 about1 = true := code_word (m := ⟨0, 0⟩) (meth := k0m0) (c := k0c0) (by decide +kernel) rfl rfl rfl (by decide +kernel)
set_option maxRecDepth 65536 in
theorem w_c4 : (Jvm.Cond.code ({ cls := "HtreeDirOwnLaw", name := "nameOf", desc := "(I)I" } : Jvm.MethodName) method_3_code (1 : Nat) (Option.some Jvm.ClassFile.FieldType.int)).before args0 about1 = true := code_word (m := ⟨1, 2⟩) (meth := k1m2) (c := k1c2) (by decide +kernel) rfl rfl rfl (by decide +kernel)
set_option maxRecDepth 65536 in
theorem w_c5 : (Jvm.Cond.code ({ cls := "HtreeDir", name := "insert", desc := "(II)I" } : Jvm.MethodName) prog_1_method_5_code (6 : Nat) (Option.some Jvm.ClassFile.FieldType.int)).before args0 about1 = true := code_word (m := ⟨2, 2⟩) (meth := k2m2) (c := k2c2) (by decide +kernel) rfl rfl rfl (by decide +kernel)
set_option maxRecDepth 65536 in
theorem w_c6 : (Jvm.Cond.code ({ cls := "HtreeDir", name := "isName", desc := "(I)Z" } : Jvm.MethodName) prog_1_method_17_code (2 : Nat) (Option.some Jvm.ClassFile.FieldType.boolean)).before args0 about1 = true := code_word (m := ⟨2, 10⟩) (meth := k2m10) (c := k2c10) (by decide +kernel) rfl rfl rfl (by decide +kernel)
set_option maxRecDepth 65536 in
theorem w_c7 : (Jvm.Cond.code ({ cls := "HtreeDir", name := "lookup", desc := "(I)I" } : Jvm.MethodName) prog_1_method_8_code (4 : Nat) (Option.some Jvm.ClassFile.FieldType.int)).before args0 about1 = true := code_word (m := ⟨2, 5⟩) (meth := k2m5) (c := k2c5) (by decide +kernel) rfl rfl rfl (by decide +kernel)
set_option maxRecDepth 65536 in
theorem w_c8 : (Jvm.Cond.code ({ cls := "HtreeDir", name := "hash", desc := "(I)I" } : Jvm.MethodName) prog_1_method_19_code (3 : Nat) (Option.some Jvm.ClassFile.FieldType.int)).before args0 about1 = true := code_word (m := ⟨2, 12⟩) (meth := k2m12) (c := k2c12) (by decide +kernel) rfl rfl rfl (by decide +kernel)
set_option maxRecDepth 65536 in
theorem w_c9 : (Jvm.Cond.code ({ cls := "HtreeDir", name := "locate", desc := "(I)I" } : Jvm.MethodName) prog_1_method_22_code (7 : Nat) (Option.some Jvm.ClassFile.FieldType.int)).before args0 about1 = true := code_word (m := ⟨2, 15⟩) (meth := k2m15) (c := k2c15) (by decide +kernel) rfl rfl rfl (by decide +kernel)
set_option maxRecDepth 65536 in
theorem w_c10 : (Jvm.Cond.code ({ cls := "HtreeDirOwnLaw", name := "nib", desc := "(JI)I" } : Jvm.MethodName) method_9_code (3 : Nat) (Option.some Jvm.ClassFile.FieldType.int)).before args0 about1 = true := code_word (m := ⟨1, 8⟩) (meth := k1m8) (c := k1c8) (by decide +kernel) rfl rfl rfl (by decide +kernel)
set_option maxRecDepth 65536 in
theorem w_c11 : (Jvm.Cond.code ({ cls := "HtreeDir", name := "setInode", desc := "(II)I" } : Jvm.MethodName) prog_1_method_7_code (5 : Nat) (Option.some Jvm.ClassFile.FieldType.int)).before args0 about1 = true := code_word (m := ⟨2, 4⟩) (meth := k2m4) (c := k2c4) (by decide +kernel) rfl rfl rfl (by decide +kernel)
set_option maxRecDepth 65536 in
theorem w_c12 : (Jvm.Cond.code ({ cls := "HtreeDir", name := "remove", desc := "(I)I" } : Jvm.MethodName) prog_1_method_6_code (5 : Nat) (Option.some Jvm.ClassFile.FieldType.int)).before args0 about1 = true := code_word (m := ⟨2, 3⟩) (meth := k2m3) (c := k2c3) (by decide +kernel) rfl rfl rfl (by decide +kernel)
set_option maxRecDepth 65536 in
theorem w_c13 : (Jvm.Cond.code ({ cls := "HtreeDirOwnLaw", name := "pick", desc := "(JJJJI)J" } : Jvm.MethodName) method_5_code (9 : Nat) (Option.some Jvm.ClassFile.FieldType.long)).before args0 about1 = true := code_word (m := ⟨1, 4⟩) (meth := k1m4) (c := k1c4) (by decide +kernel) rfl rfl rfl (by decide +kernel)
set_option maxRecDepth 65536 in
theorem w_c14 : (Jvm.Cond.code ({ cls := "HtreeDir", name := "readNext", desc := "(I)I" } : Jvm.MethodName) prog_1_method_13_code (5 : Nat) (Option.some Jvm.ClassFile.FieldType.int)).before args0 about1 = true := code_word (m := ⟨2, 7⟩) (meth := k2m7) (c := k2c7) (by decide +kernel) rfl rfl rfl (by decide +kernel)
set_option maxRecDepth 65536 in
theorem w_c15 : (Jvm.Cond.code ({ cls := "HtreeDir", name := "validHandle", desc := "(I)Z" } : Jvm.MethodName) prog_1_method_18_code (2 : Nat) (Option.some Jvm.ClassFile.FieldType.boolean)).before args0 about1 = true := code_word (m := ⟨2, 11⟩) (meth := k2m11) (c := k2c11) (by decide +kernel) rfl rfl rfl (by decide +kernel)
set_option maxRecDepth 65536 in
theorem w_c16 : (Jvm.Cond.code ({ cls := "HtreeDirOwnLaw", name := "active", desc := "(J)Z" } : Jvm.MethodName) method_7_code (2 : Nat) (Option.some Jvm.ClassFile.FieldType.boolean)).before args0 about1 = true := code_word (m := ⟨1, 6⟩) (meth := k1m6) (c := k1c6) (by decide +kernel) rfl rfl rfl (by decide +kernel)
set_option maxRecDepth 65536 in
theorem w_c17 : (Jvm.Cond.code ({ cls := "HtreeDir", name := "seekDir", desc := "(II)Z" } : Jvm.MethodName) prog_1_method_15_code (3 : Nat) (Option.some Jvm.ClassFile.FieldType.boolean)).before args0 about1 = true := code_word (m := ⟨2, 8⟩) (meth := k2m8) (c := k2c8) (by decide +kernel) rfl rfl rfl (by decide +kernel)
set_option maxRecDepth 65536 in
theorem w_c18 : (Jvm.Cond.code ({ cls := "HtreeDir", name := "openDir", desc := "()I" } : Jvm.MethodName) prog_1_method_12_code (2 : Nat) (Option.some Jvm.ClassFile.FieldType.int)).before args0 about1 = true := code_word (m := ⟨2, 6⟩) (meth := k2m6) (c := k2c6) (by decide +kernel) rfl rfl rfl (by decide +kernel)
set_option maxRecDepth 65536 in
theorem w_c19 : (Jvm.Cond.code ({ cls := "HtreeDirOwnLaw", name := "startWalk", desc := "(I)J" } : Jvm.MethodName) method_6_code (1 : Nat) (Option.some Jvm.ClassFile.FieldType.long)).before args0 about1 = true := code_word (m := ⟨1, 5⟩) (meth := k1m5) (c := k1c5) (by decide +kernel) rfl rfl rfl (by decide +kernel)
set_option maxRecDepth 65536 in
theorem w_c20 : (Jvm.Cond.code ({ cls := "HtreeDir", name := "firstAtLeast", desc := "(I)I" } : Jvm.MethodName) prog_1_method_23_code (7 : Nat) (Option.some Jvm.ClassFile.FieldType.int)).before args0 about1 = true := code_word (m := ⟨2, 16⟩) (meth := k2m16) (c := k2c16) (by decide +kernel) rfl rfl rfl (by decide +kernel)
set_option maxRecDepth 65536 in
theorem w_c21 : (Jvm.Cond.code ({ cls := "HtreeDir", name := "closeDir", desc := "(I)Z" } : Jvm.MethodName) prog_1_method_16_code (2 : Nat) (Option.some Jvm.ClassFile.FieldType.boolean)).before args0 about1 = true := code_word (m := ⟨2, 9⟩) (meth := k2m9) (c := k2c9) (by decide +kernel) rfl rfl rfl (by decide +kernel)
set_option maxRecDepth 65536 in
theorem w_c22 : (Jvm.Cond.code ({ cls := "HtreeDir", name := "createFirstLeaf", desc := "()Z" } : Jvm.MethodName) prog_1_method_28_code (2 : Nat) (Option.some Jvm.ClassFile.FieldType.boolean)).before args0 about1 = true := code_word (m := ⟨2, 20⟩) (meth := k2m20) (c := k2c20) (by decide +kernel) rfl rfl rfl (by decide +kernel)
set_option maxRecDepth 65536 in
theorem w_c23 : (Jvm.Cond.code ({ cls := "HtreeDir", name := "allocLeaf", desc := "()I" } : Jvm.MethodName) prog_1_method_26_code (2 : Nat) (Option.some Jvm.ClassFile.FieldType.int)).before args0 about1 = true := code_word (m := ⟨2, 18⟩) (meth := k2m18) (c := k2c18) (by decide +kernel) rfl rfl rfl (by decide +kernel)
set_option maxRecDepth 65536 in
theorem w_c24 : (Jvm.Cond.code ({ cls := "HtreeDir", name := "findLeafPos", desc := "(I)I" } : Jvm.MethodName) prog_1_method_21_code (7 : Nat) (Option.some Jvm.ClassFile.FieldType.int)).before args0 about1 = true := code_word (m := ⟨2, 14⟩) (meth := k2m14) (c := k2c14) (by decide +kernel) rfl rfl rfl (by decide +kernel)
set_option maxRecDepth 65536 in
theorem w_c25 : (Jvm.Cond.code ({ cls := "HtreeDir", name := "keyAt", desc := "(I)I" } : Jvm.MethodName) prog_1_method_20_code (3 : Nat) (Option.some Jvm.ClassFile.FieldType.int)).before args0 about1 = true := code_word (m := ⟨2, 13⟩) (meth := k2m13) (c := k2c13) (by decide +kernel) rfl rfl rfl (by decide +kernel)
set_option maxRecDepth 65536 in
theorem w_c26 : (Jvm.Cond.code ({ cls := "HtreeDir", name := "insertIntoLeaf", desc := "(IIII)V" } : Jvm.MethodName) prog_1_method_33_code (8 : Nat) (Option.none : Option Jvm.ClassFile.FieldType)).before args0 about1 = true := code_word (m := ⟨2, 25⟩) (meth := k2m25) (c := k2c25) (by decide +kernel) rfl rfl rfl (by decide +kernel)
set_option maxRecDepth 65536 in
theorem w_c27 : (Jvm.Cond.code ({ cls := "HtreeDirOwnLaw", name := "setNib", desc := "(JII)J" } : Jvm.MethodName) method_10_code (4 : Nat) (Option.some Jvm.ClassFile.FieldType.long)).before args0 about1 = true := code_word (m := ⟨1, 9⟩) (meth := k1m9) (c := k1c9) (by decide +kernel) rfl rfl rfl (by decide +kernel)
set_option maxRecDepth 65536 in
theorem w_c28 : (Jvm.Cond.code ({ cls := "HtreeDir", name := "entryIndex", desc := "(I)I" } : Jvm.MethodName) prog_1_method_24_code (3 : Nat) (Option.some Jvm.ClassFile.FieldType.int)).before args0 about1 = true := code_word (m := ⟨2, 17⟩) (meth := k2m17) (c := k2c17) (by decide +kernel) rfl rfl rfl (by decide +kernel)
set_option maxRecDepth 65536 in
theorem w_c29 : (Jvm.Cond.code ({ cls := "HtreeDir", name := "hashOf", desc := "(I)I" } : Jvm.MethodName) prog_1_method_4_code (2 : Nat) (Option.some Jvm.ClassFile.FieldType.int)).before args0 about1 = true := code_word (m := ⟨2, 1⟩) (meth := k2m1) (c := k2c1) (by decide +kernel) rfl rfl rfl (by decide +kernel)
set_option maxRecDepth 65536 in
theorem w_c30 : (Jvm.Cond.code ({ cls := "HtreeDirOwnLaw", name := "idxOf", desc := "(I)I" } : Jvm.MethodName) method_4_code (3 : Nat) (Option.some Jvm.ClassFile.FieldType.int)).before args0 about1 = true := code_word (m := ⟨1, 3⟩) (meth := k1m3) (c := k1c3) (by decide +kernel) rfl rfl rfl (by decide +kernel)
set_option maxRecDepth 65536 in
theorem w_c31 : (Jvm.Cond.code ({ cls := "HtreeDir", name := "copyEntry", desc := "(II)V" } : Jvm.MethodName) prog_1_method_31_code (3 : Nat) (Option.none : Option Jvm.ClassFile.FieldType)).before args0 about1 = true := code_word (m := ⟨2, 23⟩) (meth := k2m23) (c := k2c23) (by decide +kernel) rfl rfl rfl (by decide +kernel)
set_option maxRecDepth 65536 in
theorem w_c32 : (Jvm.Cond.code ({ cls := "HtreeDir", name := "deleteFromLeaf", desc := "(II)V" } : Jvm.MethodName) prog_1_method_34_code (6 : Nat) (Option.none : Option Jvm.ClassFile.FieldType)).before args0 about1 = true := code_word (m := ⟨2, 26⟩) (meth := k2m26) (c := k2c26) (by decide +kernel) rfl rfl rfl (by decide +kernel)
set_option maxRecDepth 65536 in
theorem w_c33 : (Jvm.Cond.code ({ cls := "HtreeDir", name := "rebalance", desc := "(I)V" } : Jvm.MethodName) prog_1_method_35_code (4 : Nat) (Option.none : Option Jvm.ClassFile.FieldType)).before args0 about1 = true := code_word (m := ⟨2, 27⟩) (meth := k2m27) (c := k2c27) (by decide +kernel) rfl rfl rfl (by decide +kernel)
set_option maxRecDepth 65536 in
theorem w_c34 : (Jvm.Cond.code ({ cls := "HtreeDirOwnLaw", name := "dropReq", desc := "(JI)J" } : Jvm.MethodName) method_8_code (3 : Nat) (Option.some Jvm.ClassFile.FieldType.long)).before args0 about1 = true := code_word (m := ⟨1, 7⟩) (meth := k1m7) (c := k1c7) (by decide +kernel) rfl rfl rfl (by decide +kernel)
set_option maxRecDepth 65536 in
theorem w_c35 : (Jvm.Cond.code ({ cls := "HtreeDir", name := "splitLeaf", desc := "(II)I" } : Jvm.MethodName) prog_1_method_32_code (8 : Nat) (Option.some Jvm.ClassFile.FieldType.int)).before args0 about1 = true := code_word (m := ⟨2, 24⟩) (meth := k2m24) (c := k2c24) (by decide +kernel) rfl rfl rfl (by decide +kernel)
set_option maxRecDepth 65536 in
theorem w_c36 : (Jvm.Cond.code ({ cls := "HtreeDir", name := "indexInsert", desc := "(II)V" } : Jvm.MethodName) prog_1_method_29_code (4 : Nat) (Option.none : Option Jvm.ClassFile.FieldType)).before args0 about1 = true := code_word (m := ⟨2, 21⟩) (meth := k2m21) (c := k2c21) (by decide +kernel) rfl rfl rfl (by decide +kernel)
set_option maxRecDepth 65536 in
theorem w_c37 : (Jvm.Cond.code ({ cls := "HtreeDir", name := "mergeWithNext", desc := "(I)V" } : Jvm.MethodName) prog_1_method_36_code (9 : Nat) (Option.none : Option Jvm.ClassFile.FieldType)).before args0 about1 = true := code_word (m := ⟨2, 28⟩) (meth := k2m28) (c := k2c28) (by decide +kernel) rfl rfl rfl (by decide +kernel)
set_option maxRecDepth 65536 in
theorem w_c38 : (Jvm.Cond.code ({ cls := "HtreeDir", name := "indexRemove", desc := "(I)V" } : Jvm.MethodName) prog_1_method_30_code (3 : Nat) (Option.none : Option Jvm.ClassFile.FieldType)).before args0 about1 = true := code_word (m := ⟨2, 22⟩) (meth := k2m22) (c := k2c22) (by decide +kernel) rfl rfl rfl (by decide +kernel)
set_option maxRecDepth 65536 in
theorem w_c39 : (Jvm.Cond.code ({ cls := "HtreeDir", name := "freeLeaf", desc := "(I)V" } : Jvm.MethodName) prog_1_method_27_code (2 : Nat) (Option.none : Option Jvm.ClassFile.FieldType)).before args0 about1 = true := code_word (m := ⟨2, 19⟩) (meth := k2m19) (c := k2c19) (by decide +kernel) rfl rfl rfl (by decide +kernel)
def codes1 : List Jvm.Cond := [Jvm.Cond.code x code maxLocals ret, Jvm.Cond.code ({ cls := "HtreeDirOwnLaw", name := "cell", desc := "([II)I" } : Jvm.MethodName) method_2_code (2 : Nat) (Option.some Jvm.ClassFile.FieldType.int), Jvm.Cond.code ({ cls := "HtreeDir", name := "<init>", desc := "(II)V" } : Jvm.MethodName) prog_1_method_1_code (6 : Nat) (Option.none : Option Jvm.ClassFile.FieldType), Jvm.Cond.code ({ cls := "java/lang/Object", name := "<init>", desc := "()V" } : Jvm.MethodName) object_method_1_code (1 : Nat) (Option.none : Option Jvm.ClassFile.FieldType), Jvm.Cond.code ({ cls := "HtreeDirOwnLaw", name := "nameOf", desc := "(I)I" } : Jvm.MethodName) method_3_code (1 : Nat) (Option.some Jvm.ClassFile.FieldType.int), Jvm.Cond.code ({ cls := "HtreeDir", name := "insert", desc := "(II)I" } : Jvm.MethodName) prog_1_method_5_code (6 : Nat) (Option.some Jvm.ClassFile.FieldType.int), Jvm.Cond.code ({ cls := "HtreeDir", name := "isName", desc := "(I)Z" } : Jvm.MethodName) prog_1_method_17_code (2 : Nat) (Option.some Jvm.ClassFile.FieldType.boolean), Jvm.Cond.code ({ cls := "HtreeDir", name := "lookup", desc := "(I)I" } : Jvm.MethodName) prog_1_method_8_code (4 : Nat) (Option.some Jvm.ClassFile.FieldType.int), Jvm.Cond.code ({ cls := "HtreeDir", name := "hash", desc := "(I)I" } : Jvm.MethodName) prog_1_method_19_code (3 : Nat) (Option.some Jvm.ClassFile.FieldType.int), Jvm.Cond.code ({ cls := "HtreeDir", name := "locate", desc := "(I)I" } : Jvm.MethodName) prog_1_method_22_code (7 : Nat) (Option.some Jvm.ClassFile.FieldType.int), Jvm.Cond.code ({ cls := "HtreeDirOwnLaw", name := "nib", desc := "(JI)I" } : Jvm.MethodName) method_9_code (3 : Nat) (Option.some Jvm.ClassFile.FieldType.int), Jvm.Cond.code ({ cls := "HtreeDir", name := "setInode", desc := "(II)I" } : Jvm.MethodName) prog_1_method_7_code (5 : Nat) (Option.some Jvm.ClassFile.FieldType.int), Jvm.Cond.code ({ cls := "HtreeDir", name := "remove", desc := "(I)I" } : Jvm.MethodName) prog_1_method_6_code (5 : Nat) (Option.some Jvm.ClassFile.FieldType.int), Jvm.Cond.code ({ cls := "HtreeDirOwnLaw", name := "pick", desc := "(JJJJI)J" } : Jvm.MethodName) method_5_code (9 : Nat) (Option.some Jvm.ClassFile.FieldType.long), Jvm.Cond.code ({ cls := "HtreeDir", name := "readNext", desc := "(I)I" } : Jvm.MethodName) prog_1_method_13_code (5 : Nat) (Option.some Jvm.ClassFile.FieldType.int), Jvm.Cond.code ({ cls := "HtreeDir", name := "validHandle", desc := "(I)Z" } : Jvm.MethodName) prog_1_method_18_code (2 : Nat) (Option.some Jvm.ClassFile.FieldType.boolean), Jvm.Cond.code ({ cls := "HtreeDirOwnLaw", name := "active", desc := "(J)Z" } : Jvm.MethodName) method_7_code (2 : Nat) (Option.some Jvm.ClassFile.FieldType.boolean), Jvm.Cond.code ({ cls := "HtreeDir", name := "seekDir", desc := "(II)Z" } : Jvm.MethodName) prog_1_method_15_code (3 : Nat) (Option.some Jvm.ClassFile.FieldType.boolean), Jvm.Cond.code ({ cls := "HtreeDir", name := "openDir", desc := "()I" } : Jvm.MethodName) prog_1_method_12_code (2 : Nat) (Option.some Jvm.ClassFile.FieldType.int), Jvm.Cond.code ({ cls := "HtreeDirOwnLaw", name := "startWalk", desc := "(I)J" } : Jvm.MethodName) method_6_code (1 : Nat) (Option.some Jvm.ClassFile.FieldType.long), Jvm.Cond.code ({ cls := "HtreeDir", name := "firstAtLeast", desc := "(I)I" } : Jvm.MethodName) prog_1_method_23_code (7 : Nat) (Option.some Jvm.ClassFile.FieldType.int), Jvm.Cond.code ({ cls := "HtreeDir", name := "closeDir", desc := "(I)Z" } : Jvm.MethodName) prog_1_method_16_code (2 : Nat) (Option.some Jvm.ClassFile.FieldType.boolean), Jvm.Cond.code ({ cls := "HtreeDir", name := "createFirstLeaf", desc := "()Z" } : Jvm.MethodName) prog_1_method_28_code (2 : Nat) (Option.some Jvm.ClassFile.FieldType.boolean), Jvm.Cond.code ({ cls := "HtreeDir", name := "allocLeaf", desc := "()I" } : Jvm.MethodName) prog_1_method_26_code (2 : Nat) (Option.some Jvm.ClassFile.FieldType.int), Jvm.Cond.code ({ cls := "HtreeDir", name := "findLeafPos", desc := "(I)I" } : Jvm.MethodName) prog_1_method_21_code (7 : Nat) (Option.some Jvm.ClassFile.FieldType.int), Jvm.Cond.code ({ cls := "HtreeDir", name := "keyAt", desc := "(I)I" } : Jvm.MethodName) prog_1_method_20_code (3 : Nat) (Option.some Jvm.ClassFile.FieldType.int), Jvm.Cond.code ({ cls := "HtreeDir", name := "insertIntoLeaf", desc := "(IIII)V" } : Jvm.MethodName) prog_1_method_33_code (8 : Nat) (Option.none : Option Jvm.ClassFile.FieldType), Jvm.Cond.code ({ cls := "HtreeDirOwnLaw", name := "setNib", desc := "(JII)J" } : Jvm.MethodName) method_10_code (4 : Nat) (Option.some Jvm.ClassFile.FieldType.long), Jvm.Cond.code ({ cls := "HtreeDir", name := "entryIndex", desc := "(I)I" } : Jvm.MethodName) prog_1_method_24_code (3 : Nat) (Option.some Jvm.ClassFile.FieldType.int), Jvm.Cond.code ({ cls := "HtreeDir", name := "hashOf", desc := "(I)I" } : Jvm.MethodName) prog_1_method_4_code (2 : Nat) (Option.some Jvm.ClassFile.FieldType.int), Jvm.Cond.code ({ cls := "HtreeDirOwnLaw", name := "idxOf", desc := "(I)I" } : Jvm.MethodName) method_4_code (3 : Nat) (Option.some Jvm.ClassFile.FieldType.int), Jvm.Cond.code ({ cls := "HtreeDir", name := "copyEntry", desc := "(II)V" } : Jvm.MethodName) prog_1_method_31_code (3 : Nat) (Option.none : Option Jvm.ClassFile.FieldType), Jvm.Cond.code ({ cls := "HtreeDir", name := "deleteFromLeaf", desc := "(II)V" } : Jvm.MethodName) prog_1_method_34_code (6 : Nat) (Option.none : Option Jvm.ClassFile.FieldType), Jvm.Cond.code ({ cls := "HtreeDir", name := "rebalance", desc := "(I)V" } : Jvm.MethodName) prog_1_method_35_code (4 : Nat) (Option.none : Option Jvm.ClassFile.FieldType), Jvm.Cond.code ({ cls := "HtreeDirOwnLaw", name := "dropReq", desc := "(JI)J" } : Jvm.MethodName) method_8_code (3 : Nat) (Option.some Jvm.ClassFile.FieldType.long), Jvm.Cond.code ({ cls := "HtreeDir", name := "splitLeaf", desc := "(II)I" } : Jvm.MethodName) prog_1_method_32_code (8 : Nat) (Option.some Jvm.ClassFile.FieldType.int), Jvm.Cond.code ({ cls := "HtreeDir", name := "indexInsert", desc := "(II)V" } : Jvm.MethodName) prog_1_method_29_code (4 : Nat) (Option.none : Option Jvm.ClassFile.FieldType), Jvm.Cond.code ({ cls := "HtreeDir", name := "mergeWithNext", desc := "(I)V" } : Jvm.MethodName) prog_1_method_36_code (9 : Nat) (Option.none : Option Jvm.ClassFile.FieldType), Jvm.Cond.code ({ cls := "HtreeDir", name := "indexRemove", desc := "(I)V" } : Jvm.MethodName) prog_1_method_30_code (3 : Nat) (Option.none : Option Jvm.ClassFile.FieldType), Jvm.Cond.code ({ cls := "HtreeDir", name := "freeLeaf", desc := "(I)V" } : Jvm.MethodName) prog_1_method_27_code (2 : Nat) (Option.none : Option Jvm.ClassFile.FieldType)]
set_option maxRecDepth 65536 in
theorem codes_eq : words1.filter isCode = codes1 := rfl
theorem w_codes : ∀ c ∈ words1.filter isCode, c.before args0 about1 = true := by
  rw [codes_eq]
  intro c hc
  simp only [codes1, List.mem_cons, List.not_mem_nil, or_false] at hc
  rcases hc with rfl | rfl | rfl | rfl | rfl | rfl | rfl | rfl | rfl | rfl | rfl | rfl | rfl | rfl | rfl | rfl | rfl | rfl | rfl | rfl | rfl | rfl | rfl | rfl | rfl | rfl | rfl | rfl | rfl | rfl | rfl | rfl | rfl | rfl | rfl | rfl | rfl | rfl | rfl | rfl
  · exact w_c0
  · exact w_c1
  · exact w_c2
  · exact w_c3
  · exact w_c4
  · exact w_c5
  · exact w_c6
  · exact w_c7
  · exact w_c8
  · exact w_c9
  · exact w_c10
  · exact w_c11
  · exact w_c12
  · exact w_c13
  · exact w_c14
  · exact w_c15
  · exact w_c16
  · exact w_c17
  · exact w_c18
  · exact w_c19
  · exact w_c20
  · exact w_c21
  · exact w_c22
  · exact w_c23
  · exact w_c24
  · exact w_c25
  · exact w_c26
  · exact w_c27
  · exact w_c28
  · exact w_c29
  · exact w_c30
  · exact w_c31
  · exact w_c32
  · exact w_c33
  · exact w_c34
  · exact w_c35
  · exact w_c36
  · exact w_c37
  · exact w_c38
  · exact w_c39
set_option maxRecDepth 65536 in
theorem w_t1 : (words1.take 24).all (fun c => isCode c || c.before args0 about1) = true := by decide +kernel
set_option maxRecDepth 65536 in
theorem w_t2 : ((words1.drop 24).take 24).all (fun c => isCode c || c.before args0 about1) = true := by decide +kernel
set_option maxRecDepth 65536 in
theorem w_t3 : (((words1.drop 24).drop 24).take 24).all (fun c => isCode c || c.before args0 about1) = true := by decide +kernel
set_option maxRecDepth 65536 in
theorem w_t4 : ((((words1.drop 24).drop 24).drop 24).take 24).all (fun c => isCode c || c.before args0 about1) = true := by decide +kernel
set_option maxRecDepth 65536 in
theorem w_t5 : (((((words1.drop 24).drop 24).drop 24).drop 24).take 24).all (fun c => isCode c || c.before args0 about1) = true := by decide +kernel
set_option maxRecDepth 65536 in
theorem w_t6 : ((((((words1.drop 24).drop 24).drop 24).drop 24).drop 24).take 24).all (fun c => isCode c || c.before args0 about1) = true := by decide +kernel
set_option maxRecDepth 65536 in
theorem w_t7 : (((((((words1.drop 24).drop 24).drop 24).drop 24).drop 24).drop 24).take 24).all (fun c => isCode c || c.before args0 about1) = true := by decide +kernel
set_option maxRecDepth 65536 in
theorem w_t8 : ((((((((words1.drop 24).drop 24).drop 24).drop 24).drop 24).drop 24).drop 24).take 24).all (fun c => isCode c || c.before args0 about1) = true := by decide +kernel
set_option maxRecDepth 65536 in
theorem w_t9 : ((((((((words1.drop 24).drop 24).drop 24).drop 24).drop 24).drop 24).drop 24).drop 24).all (fun c => isCode c || c.before args0 about1) = true := by decide +kernel
theorem w_tables : (allAtoms (Jvm.Cond.code x code maxLocals ret :: tables_1)).before args0 about1 = true := by
  rw [allAtoms_all]
  show words1.all (fun c => c.before args0 about1) = true
  refine all_split ?_ w_codes
  rw [← List.take_append_drop 24 words1, List.all_append, w_t1, ← List.take_append_drop 24 (words1.drop 24), List.all_append, w_t2, ← List.take_append_drop 24 ((words1.drop 24).drop 24), List.all_append, w_t3, ← List.take_append_drop 24 (((words1.drop 24).drop 24).drop 24), List.all_append, w_t4, ← List.take_append_drop 24 ((((words1.drop 24).drop 24).drop 24).drop 24), List.all_append, w_t5, ← List.take_append_drop 24 (((((words1.drop 24).drop 24).drop 24).drop 24).drop 24), List.all_append, w_t6, ← List.take_append_drop 24 ((((((words1.drop 24).drop 24).drop 24).drop 24).drop 24).drop 24), List.all_append, w_t7, ← List.take_append_drop 24 (((((((words1.drop 24).drop 24).drop 24).drop 24).drop 24).drop 24).drop 24), List.all_append, w_t8, w_t9]
  rfl
set_option maxRecDepth 65536 in
theorem w_rest : rest_1_c.before args0 about1 = true := by decide +kernel
set_option maxRecDepth 65536 in
theorem w_case : (Jvm.Cond.and given_1 narrow_1).before args0 about1 = true := by decide +kernel
theorem w_applies : (headSpec (Jvm.Cond.code x code maxLocals ret :: tables_1) room_1).applies x e0.platform about1 = true :=
  (Spec.applies_iff w_frames).mpr ⟨w_running, w_runnable, w_alone, w_named, w_hears, w_ripe, w_room, w_tables⟩
theorem atStart : AtStart classFile x code maxLocals ret World_1 tables_1 room_1 Calls_1 rest_1 Pre_1 launch0 p0 e0 about1 theMethod args0 below0 :=
  ⟨lists_1, trivial, launch0.admits_env _ _ _, launch0.least_env, fairChoices_fair.cas, fairChoices_fair.clock, w_frames, w_args, w_heap, w_applies, trivial, w_rest, w_case⟩
end start1
theorem witness_1 : WitnessClaimed_1 := ⟨start1.p0, start1.e0, start1.about1, start1.theMethod, start1.args0, start1.below0, start1.atStart⟩
end Jvm.Pilot.@@N@@
