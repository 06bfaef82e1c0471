import JvmDerived
import JvmDerived.Pilot.@@N@@Statement
import JvmDerived.Pilot.@@N@@Code
set_option linter.unusedVariables false
set_option linter.unusedSimpArgs false
namespace Jvm.OwnEv
open Sem ClassFile Op Lib Jvm.Stand Jvm.Free Jvm.LawKit Jvm.RoadKit
/-! PART 1: a small evaluator of bytecode over a memory of its own (defs alone). A memory: the cells made (kind, class, size), and what they hold: ints, longs, references. -/
abbrev ELay : Type := List (Nat × String × Nat)
abbrev EMem : Type := ELay × (Nat → Nat → Int32) × (Nat → Nat → Int64) × (Nat → Nat → Value)
def up {α : Type} (f : Nat → Nat → α) (a k : Nat) (v : α) : Nat → Nat → α := fun x y => if x = a ∧ y = k then v else f x y
def szL (L : ELay) : Nat := (L.map fun c => c.2.2).sum
def wt (vs : List Value) : Nat := (vs.map fun v => v.category).sum
def setL : List Slot → Nat → Slot → Option (List Slot)
  | [], _, _ => none
  | _ :: t, 0, x => some (x :: t)
  | h :: t, n + 1, x => match setL t n x with
    | some t' => some (h :: t')
    | none => none
def storeSelfL (l : List Slot) (i : Nat) (v : Value) : Option (List Slot) :=
  match setL l i (.val v) with
  | none => none
  | some l1 => if v.category = 2 then
      match l1[i + 1]? with
      | none => none
      | some (.val old) => if old.category = 2 then
          match setL l1 (i + 2) .unset with
          | none => none
          | some l2 => setL l2 (i + 1) .second
        else setL l1 (i + 1) .second
      | some _ => setL l1 (i + 1) .second
    else some l1
def storeL (l : List Slot) (i : Nat) (v : Value) : Option (List Slot) :=
  match l[i]? with
  | none => none
  | some .second => match setL l (i - 1) .unset with
    | none => none
    | some l' => storeSelfL l' i v
  | some (.val old) => if old.category = 2 then
      match setL l (i + 1) .unset with
      | none => none
      | some l' => storeSelfL l' i v
    else storeSelfL l i v
  | some .unset => storeSelfL l i v
def fillL : List Value → List Slot
  | [] => []
  | v :: t => if v.category = 2 then .val v :: .second :: fillL t else .val v :: fillL t
def entryL (as : List Value) (maxL : Nat) : List Slot := fillL as ++ List.replicate (maxL - (fillL as).length) .unset
/-! what the sheet's words say -/
def kindD (d : String) : Nat := match parseFieldDescriptor d with
  | some .int => 1
  | some .boolean => 2
  | some .long => 3
  | some (.array _) => 4
  | some (.object _) => 4
  | _ => 0
def layGo (C n : String) : List Jvm.Cond → Nat → Option (Nat × String × Bool)
  | [], _ => none
  | .lays c o n' d :: t, k => if n' = n ∧ c = C ∧ o = C then some (k, d, false) else layGo C n t (k + 1)
  | .laysFinal c o n' d :: t, k => if n' = n ∧ c = C ∧ o = C then some (k, d, true) else layGo C n t (k + 1)
  | _ :: t, k => layGo C n t (k + 1)
def layAt (W : List Jvm.Cond) (C n : String) : Option (Nat × String × Bool) := layGo C n W 0
def fieldLk (own : String) (idx : Nat) : List Jvm.Cond → Option (String × String × String)
  | [] => none
  | .fieldLink o i r n d :: t => if i = idx ∧ o = own then some (r, n, d) else fieldLk own idx t
  | _ :: t => fieldLk own idx t
/-- the class, the field's place, its kind, final or not -/
def fieldAt (W : List Jvm.Cond) (own : String) (idx : Nat) : Option (String × Nat × Nat × Bool) :=
  match fieldLk own idx W with
  | none => none
  | some (r, n, d) => match layAt W r n with
    | none => none
    | some (k, d', fin) => if d' = d ∧ kindD d ≠ 0 then some (r, k, kindD d, fin) else none
def methodLk (own : String) (idx : Nat) : List Jvm.Cond → Option MethodName
  | [] => none
  | .methodLink o i y :: t => if i = idx ∧ o = own then some y else methodLk own idx t
  | _ :: t => methodLk own idx t
def classLk (own : String) (idx : Nat) : List Jvm.Cond → Option String
  | [] => none
  | .classLink o i C :: t => if i = idx ∧ o = own then some C else classLk own idx t
  | _ :: t => classLk own idx t
def instLk (C : String) : List Jvm.Cond → Option Nat
  | [] => none
  | .instantiable c n :: t => if c = C then some n else instLk C t
  | _ :: t => instLk C t
def meq (z y : MethodName) : Bool := decide (z.name = y.name) && (decide (z.desc = y.desc) && decide (z.cls = y.cls))
def codeLk (y : MethodName) : List Jvm.Cond → Option (ByteArray × Nat × Option FieldType)
  | [] => none
  | .code z b n r :: t => if meq z y = true then some (b, n, r) else codeLk y t
  | _ :: t => codeLk y t
def intLk (own : String) (idx : Nat) : List Jvm.Cond → Option Int32
  | [] => none
  | .constant o i v :: t => if i = idx ∧ o = own then some v else intLk own idx t
  | _ :: t => intLk own idx t
def longLk (own : String) (idx : Nat) : List Jvm.Cond → Option Int64
  | [] => none
  | .constantLong o i v :: t => if i = idx ∧ o = own then some v else longLk own idx t
  | _ :: t => longLk own idx t
def hasInit (C : String) : List Jvm.Cond → Bool
  | [] => false
  | .initialized c :: t => if c = C then true else hasInit C t
  | _ :: t => hasInit C t
def hasInst (y : MethodName) : List Jvm.Cond → Bool
  | [] => false
  | .instanceMethod z :: t => if meq z y = true then true else hasInst y t
  | _ :: t => hasInst y t
def hasPriv (y : MethodName) : List Jvm.Cond → Bool
  | [] => false
  | .privateMethod z :: t => if meq z y = true then true else hasPriv y t
  | _ :: t => hasPriv y t
def hasStat (y : MethodName) : List Jvm.Cond → Bool
  | [] => false
  | .static z :: t => if meq z y = true then true else hasStat y t
  | _ :: t => hasStat y t
def hasDecl (y : MethodName) : List Jvm.Cond → Bool
  | [] => false
  | .declares z :: t => if meq z y = true then true else hasDecl y t
  | _ :: t => hasDecl y t
def hasSel (y : MethodName) : List Jvm.Cond → Bool
  | [] => false
  | .selects C z z' :: t => if meq z y = true ∧ meq z' y = true ∧ C = y.cls then true else hasSel y t
  | _ :: t => hasSel y t
def hasArr (ty : FieldType) : List Jvm.Cond → Bool
  | [] => false
  | .arrayClass z :: t => if z = ty then true else hasArr ty t
  | _ :: t => hasArr ty t
def newAt (W : List Jvm.Cond) (own : String) (idx : Nat) : Option (String × Nat) :=
  match classLk own idx W with
  | none => none
  | some C => match instLk C W with
    | none => none
    | some n => if hasInit C W = true then some (C, n) else none
/-- kind: 0 invokevirtual of a public method, 1 of a private one, 2 a constructor, 3 static; the method, how many arguments, its body -/
def callAt (W : List Jvm.Cond) (own : String) (idx : Nat) (kd : Nat) : Option (MethodName × Nat × ByteArray × Nat × Option FieldType) :=
  match methodLk own idx W with
  | none => none
  | some z => match codeLk z W, parseMethodDescriptor z.desc with
    | some (b, n, r), some sig =>
      if hasInit z.cls W = true ∧ plainName z.cls = true ∧ z.cls ≠ "java/lang/invoke/MethodHandle" ∧ z.cls ≠ "java/lang/invoke/VarHandle" ∧
         ((kd = 0 ∧ hasDecl z W = true ∧ hasSel z W = true ∧ hasInst z W = true) ∨ (kd = 1 ∧ hasPriv z W = true ∧ hasInst z W = true ∧ (instLk z.cls W).isSome = true) ∨ (kd = 2 ∧ z.name = "<init>" ∧ hasInst z W = true ∧ r = none) ∨ (kd = 3 ∧ hasStat z W = true))
      then some (z, sig.parameters.length, b, n, r) else none
    | _, _ => none
def objInitAt (W : List Jvm.Cond) (own : String) (idx : Nat) : Bool :=
  match methodLk own idx W, codeLk Lib.objectInit W with
  | some z, some (b, n, r) => decide (z = Lib.objectInit) && hasInst Lib.objectInit W && decide (b = ⟨#[0xb1]⟩) && decide (n = 1) && decide (r = none)
  | _, _ => false
def jump (pc : Nat) (o : Int) : Option Nat := match (pc : Int) + o with
  | .ofNat n => some n
  | .negSucc _ => none
def getV (kd : Nat) (i : Int32) (j : Int64) (r : Value) : Value := match kd with
  | 1 => .int i
  | 2 => .int i
  | 3 => .long j
  | _ => r
def inb (j : Int32) (n : Nat) : Bool := decide (¬ j < 0) && decide (j.toNatClampNeg < n)
def lenOk (len : Nat) : Instr → Bool
  | .aload _ | .iload _ | .lload _ | .astore _ | .istore _ | .lstore _ | .bipush _ | .ldc _ | .newarray _ => len == 2
  | .sipush _ | .iinc _ _ | .ldc_w _ | .ldc2_w _ | .goto _ | .ifCond _ _ | .if_icmp _ _ | .ifnull _ | .ifnonnull _ | .getfield _ | .putfield _ | .new _ | .invokevirtual _ | .invokespecial _ | .invokestatic _ => len == 3
  | .tableswitch _ _ _ _ => true
  | _ => len == 1
/-- the steps that leave the memory as it is -/
def execP (W : List Jvm.Cond) (F Lb : Nat) (y : MethodName) (ins : Instr) (pc len : Nat) (ls : List Slot) (st : List Value) (M : EMem) : Option (Nat × List Slot × List Value) :=
  match ins with
  | .aload k => match ls[k]? with
    | some (.val (.ref a)) => some (pc + 2, ls, .ref a :: st)
    | some (.val .null) => some (pc + 2, ls, .null :: st)
    | _ => none
  | .aload_n k => match ls[k.val]? with
    | some (.val (.ref a)) => some (pc + 1, ls, .ref a :: st)
    | some (.val .null) => some (pc + 1, ls, .null :: st)
    | _ => none
  | .iload k => match ls[k]? with
    | some (.val (.int v)) => some (pc + 2, ls, .int v :: st)
    | _ => none
  | .iload_n k => match ls[k.val]? with
    | some (.val (.int v)) => some (pc + 1, ls, .int v :: st)
    | _ => none
  | .lload k => match ls[k]? with
    | some (.val (.long v)) => some (pc + 2, ls, .long v :: st)
    | _ => none
  | .lload_n k => match ls[k.val]? with
    | some (.val (.long v)) => some (pc + 1, ls, .long v :: st)
    | _ => none
  | .istore k => match st with
    | .int x :: r => match storeL ls k (.int x) with
      | some l' => some (pc + 2, l', r)
      | none => none
    | _ => none
  | .istore_n k => match st with
    | .int x :: r => match storeL ls k.val (.int x) with
      | some l' => some (pc + 1, l', r)
      | none => none
    | _ => none
  | .lstore k => match st with
    | .long x :: r => match storeL ls k (.long x) with
      | some l' => some (pc + 2, l', r)
      | none => none
    | _ => none
  | .lstore_n k => match st with
    | .long x :: r => match storeL ls k.val (.long x) with
      | some l' => some (pc + 1, l', r)
      | none => none
    | _ => none
  | .astore k => match st with
    | .ref x :: r => match storeL ls k (.ref x) with
      | some l' => some (pc + 2, l', r)
      | none => none
    | _ => none
  | .astore_n k => match st with
    | .ref x :: r => match storeL ls k.val (.ref x) with
      | some l' => some (pc + 1, l', r)
      | none => none
    | _ => none
  | .iinc k d => match ls[k]? with
    | some (.val (.int v)) => match storeL ls k (.int (v + Int32.ofInt d)) with
      | some l' => some (pc + 3, l', st)
      | none => none
    | _ => none
  | .iconst i => some (pc + 1, ls, .int (Int32.ofInt i) :: st)
  | .bipush i => some (pc + 2, ls, .int (Int8.ofInt i).toInt32 :: st)
  | .sipush i => some (pc + 3, ls, .int (Int16.ofInt i).toInt32 :: st)
  | .lconst k => some (pc + 1, ls, .long (Int64.ofNat k) :: st)
  | .ldc i => match intLk y.cls i W with
    | some v => some (pc + 2, ls, .int v :: st)
    | none => none
  | .ldc_w i => match intLk y.cls i W with
    | some v => some (pc + 3, ls, .int v :: st)
    | none => none
  | .ldc2_w i => match longLk y.cls i W with
    | some v => some (pc + 3, ls, .long v :: st)
    | none => none
  | .iadd => match st with
    | .int b :: .int a :: r => some (pc + 1, ls, .int (a + b) :: r)
    | _ => none
  | .isub => match st with
    | .int b :: .int a :: r => some (pc + 1, ls, .int (a - b) :: r)
    | _ => none
  | .imul => match st with
    | .int b :: .int a :: r => some (pc + 1, ls, .int (a * b) :: r)
    | _ => none
  | .iand => match st with
    | .int b :: .int a :: r => some (pc + 1, ls, .int (a &&& b) :: r)
    | _ => none
  | .ior => match st with
    | .int b :: .int a :: r => some (pc + 1, ls, .int (a ||| b) :: r)
    | _ => none
  | .ixor => match st with
    | .int b :: .int a :: r => some (pc + 1, ls, .int (a ^^^ b) :: r)
    | _ => none
  | .ishl => match st with
    | .int b :: .int a :: r => some (pc + 1, ls, .int (a <<< (b &&& 31)) :: r)
    | _ => none
  | .ishr => match st with
    | .int b :: .int a :: r => some (pc + 1, ls, .int (a >>> (b &&& 31)) :: r)
    | _ => none
  | .iushr => match st with
    | .int b :: .int a :: r => some (pc + 1, ls, .int (XT.ushr a b) :: r)
    | _ => none
  | .idiv => match st with
    | .int b :: .int a :: r => if b = 0 then none else some (pc + 1, ls, .int (a / b) :: r)
    | _ => none
  | .irem => match st with
    | .int b :: .int a :: r => if b = 0 then none else some (pc + 1, ls, .int (a - (a / b) * b) :: r)
    | _ => none
  | .ineg => match st with
    | .int a :: r => some (pc + 1, ls, .int (-a) :: r)
    | _ => none
  | .ladd => match st with
    | .long b :: .long a :: r => some (pc + 1, ls, .long (a + b) :: r)
    | _ => none
  | .lsub => match st with
    | .long b :: .long a :: r => some (pc + 1, ls, .long (a - b) :: r)
    | _ => none
  | .lmul => match st with
    | .long b :: .long a :: r => some (pc + 1, ls, .long (a * b) :: r)
    | _ => none
  | .land => match st with
    | .long b :: .long a :: r => some (pc + 1, ls, .long (a &&& b) :: r)
    | _ => none
  | .lor => match st with
    | .long b :: .long a :: r => some (pc + 1, ls, .long (a ||| b) :: r)
    | _ => none
  | .lxor => match st with
    | .long b :: .long a :: r => some (pc + 1, ls, .long (a ^^^ b) :: r)
    | _ => none
  | .lshl => match st with
    | .int b :: .long a :: r => some (pc + 1, ls, .long (a <<< (b.toInt64 &&& 63)) :: r)
    | _ => none
  | .lshr => match st with
    | .int b :: .long a :: r => some (pc + 1, ls, .long (a >>> (b.toInt64 &&& 63)) :: r)
    | _ => none
  | .lushr => match st with
    | .int b :: .long a :: r => some (pc + 1, ls, .long (XT.ushrL a b) :: r)
    | _ => none
  | .ldiv => match st with
    | .long b :: .long a :: r => if b = 0 then none else some (pc + 1, ls, .long (a / b) :: r)
    | _ => none
  | .lrem => match st with
    | .long b :: .long a :: r => if b = 0 then none else some (pc + 1, ls, .long (a - (a / b) * b) :: r)
    | _ => none
  | .lneg => match st with
    | .long a :: r => some (pc + 1, ls, .long (-a) :: r)
    | _ => none
  | .lcmp => match st with
    | .long b :: .long a :: r => some (pc + 1, ls, .int (XT.cmpL a b) :: r)
    | _ => none
  | .i2l => match st with
    | .int a :: r => some (pc + 1, ls, .long a.toInt64 :: r)
    | _ => none
  | .l2i => match st with
    | .long a :: r => some (pc + 1, ls, .int a.toInt32 :: r)
    | _ => none
  | .i2s => match st with
    | .int a :: r => some (pc + 1, ls, .int a.toInt16.toInt32 :: r)
    | _ => none
  | .dup => match st with
    | .int a :: r => some (pc + 1, ls, .int a :: .int a :: r)
    | .ref a :: r => some (pc + 1, ls, .ref a :: .ref a :: r)
    | _ => none
  | .dup2 => match st with
    | .int b :: .int a :: r => some (pc + 1, ls, .int b :: .int a :: .int b :: .int a :: r)
    | .int b :: .ref a :: r => some (pc + 1, ls, .int b :: .ref a :: .int b :: .ref a :: r)
    | .long b :: r => some (pc + 1, ls, .long b :: .long b :: r)
    | _ => none
  | .dup_x1 => match st with
    | .int b :: .ref a :: r => some (pc + 1, ls, .int b :: .ref a :: .int b :: r)
    | _ => none
  | .pop => match st with
    | .int _ :: r => some (pc + 1, ls, r)
    | .ref _ :: r => some (pc + 1, ls, r)
    | _ => none
  | .goto o => match jump pc o with
    | some t => some (t, ls, st)
    | none => none
  | .ifCond cd o => match st with
    | .int a :: r => match jump pc o with
      | some t => some (if ifCond.holds cd a = true then t else pc + 3, ls, r)
      | none => none
    | _ => none
  | .if_icmp cd o => match st with
    | .int b :: .int a :: r => match jump pc o with
      | some t => some (if if_icmp.holds cd a b = true then t else pc + 3, ls, r)
      | none => none
    | _ => none
  | .ifnull o => match st with
    | .null :: r => match jump pc o with
      | some t => some (t, ls, r)
      | none => none
    | .ref _ :: r => some (pc + 3, ls, r)
    | _ => none
  | .ifnonnull o => match st with
    | .ref _ :: r => match jump pc o with
      | some t => some (t, ls, r)
      | none => none
    | .null :: r => some (pc + 3, ls, r)
    | _ => none
  | .tableswitch dflt low high offs => match st with
    | .int i :: r => if i.toInt < low ∨ i.toInt > high then
        match jump pc dflt with
        | some t => some (t, ls, r)
        | none => none
      else match offs[(i.toInt - low).toNat]? with
        | none => none
        | some o => match jump pc o with
          | some t => some (t, ls, r)
          | none => none
    | _ => none
  | .getfield idx => match st with
    | .ref a :: r => match fieldAt W y.cls idx, M.1[a]? with
      | some (C, k, kd, _), some (0, C', _) => if C' = C then some (pc + 3, ls, getV kd (M.2.1 a k) (M.2.2.1 a k) (M.2.2.2 a k) :: r) else none
      | _, _ => none
    | _ => none
  | .arraylength => match st with
    | .ref a :: r => match M.1[a]? with
      | some (1, _, n) => some (pc + 1, ls, .int n.toInt32 :: r)
      | some (2, _, n) => some (pc + 1, ls, .int n.toInt32 :: r)
      | some (3, _, n) => some (pc + 1, ls, .int n.toInt32 :: r)
      | _ => none
    | _ => none
  | .iaload => match st with
    | .int j :: .ref a :: r => match M.1[a]? with
      | some (1, _, n) => if inb j n = true then some (pc + 1, ls, .int (M.2.1 a j.toNatClampNeg) :: r) else none
      | _ => none
    | _ => none
  | .baload => match st with
    | .int j :: .ref a :: r => match M.1[a]? with
      | some (3, _, n) => if inb j n = true then some (pc + 1, ls, .int (M.2.1 a j.toNatClampNeg) :: r) else none
      | _ => none
    | _ => none
  | .laload => match st with
    | .int j :: .ref a :: r => match M.1[a]? with
      | some (2, _, n) => if inb j n = true then some (pc + 1, ls, .long (M.2.2.1 a j.toNatClampNeg) :: r) else none
      | _ => none
    | _ => none
  | .invokespecial idx => match st with
    | .ref _ :: r => if objInitAt W y.cls idx = true ∧ 1 ≤ F ∧ wt r + 12 ≤ Lb then some (pc + 3, ls, r) else none
    | _ => none
  | _ => none
/-- the steps that write or make; ro: the cells below it are not written -/
def execM (W : List Jvm.Cond) (ro : Nat) (y : MethodName) (ins : Instr) (st : List Value) (M : EMem) : Option (List Value × EMem) :=
  match ins with
  | .putfield idx => match st with
    | v :: .ref a :: r => match fieldAt W y.cls idx, M.1[a]? with
      | some (C, k, kd, fin), some (0, C', _) =>
        if C' = C ∧ ro ≤ a ∧ (fin = false ∨ (y.cls = C ∧ y.name = "<init>")) ∧ (instLk C W).isSome = true then
          match kd, v with
          | 1, .int x => some (r, M.1, up M.2.1 a k x, M.2.2.1, M.2.2.2)
          | 2, .int x => some (r, M.1, up M.2.1 a k (x &&& 1), M.2.2.1, M.2.2.2)
          | 3, .long x => some (r, M.1, M.2.1, up M.2.2.1 a k x, M.2.2.2)
          | 4, .ref b => some (r, M.1, M.2.1, M.2.2.1, up M.2.2.2 a k (.ref b))
          | _, _ => none
        else none
      | _, _ => none
    | _ => none
  | .iastore => match st with
    | .int x :: .int j :: .ref a :: r => match M.1[a]? with
      | some (1, _, n) => if inb j n = true ∧ ro ≤ a then some (r, M.1, up M.2.1 a j.toNatClampNeg x, M.2.2.1, M.2.2.2) else none
      | _ => none
    | _ => none
  | .bastore => match st with
    | .int x :: .int j :: .ref a :: r => match M.1[a]? with
      | some (3, _, n) => if inb j n = true ∧ ro ≤ a then some (r, M.1, up M.2.1 a j.toNatClampNeg (x &&& 1), M.2.2.1, M.2.2.2) else none
      | _ => none
    | _ => none
  | .lastore => match st with
    | .long x :: .int j :: .ref a :: r => match M.1[a]? with
      | some (2, _, n) => if inb j n = true ∧ ro ≤ a then some (r, M.1, M.2.1, up M.2.2.1 a j.toNatClampNeg x, M.2.2.2) else none
      | _ => none
    | _ => none
  | .new idx => match newAt W y.cls idx with
    | some (C, n) => some (.ref M.1.length :: st, M.1 ++ [(0, C, n)], M.2.1, M.2.2.1, M.2.2.2)
    | none => none
  | .newarray .int => match st with
    | .int n :: r => if ¬ n < 0 ∧ n.toNatClampNeg * 8 ≤ 536870912 ∧ hasArr .int W = true then some (.ref M.1.length :: r, M.1 ++ [(1, "", n.toNatClampNeg)], M.2.1, M.2.2.1, M.2.2.2) else none
    | _ => none
  | .newarray .long => match st with
    | .int n :: r => if ¬ n < 0 ∧ n.toNatClampNeg * 8 ≤ 536870912 ∧ hasArr .long W = true then some (.ref M.1.length :: r, M.1 ++ [(2, "", n.toNatClampNeg)], M.2.1, M.2.2.1, M.2.2.2) else none
    | _ => none
  | .newarray .boolean => match st with
    | .int n :: r => if ¬ n < 0 ∧ n.toNatClampNeg * 8 ≤ 536870912 ∧ hasArr .boolean W = true then some (.ref M.1.length :: r, M.1 ++ [(3, "", n.toNatClampNeg)], M.2.1, M.2.2.1, M.2.2.2) else none
    | _ => none
  | _ => none
def retOf (ins : Instr) (len : Nat) (ret : Option FieldType) (st : List Value) : Option (Option Value) :=
  if len = 1 then
    match ins, ret, st with
    | .return_, none, [] => some none
    | .ireturn, some .int, [.int z] => some (some (.int z))
    | .ireturn, some .boolean, [.int z] => some (some (.int (z &&& 1)))
    | .lreturn, some .long, [.long z] => some (some (.long z))
    | _, _, _ => none
  else none
/-- the callee, her arguments (the receiver first), what lies under, her body -/
def callOf (W : List Jvm.Cond) (y : MethodName) (ins : Instr) (len : Nat) (st : List Value) (M : EMem) : Option (MethodName × List Value × List Value × ByteArray × Nat × Option FieldType) :=
  if len = 3 then
    match ins with
    | .invokevirtual idx => match callAt W y.cls idx 1 with
      | some (z, na, b, n, r) => match (st.drop na) with
        | .ref a :: rest => match M.1[a]? with
          | some (0, C, _) => if C = z.cls ∧ (st.take na).length = na then some (z, .ref a :: (st.take na).reverse, rest, b, n, r) else none
          | _ => none
        | _ => none
      | none => match callAt W y.cls idx 0 with
        | some (z, na, b, n, r) => match (st.drop na) with
          | .ref a :: rest => match M.1[a]? with
            | some (0, C, _) => if C = z.cls ∧ (st.take na).length = na then some (z, .ref a :: (st.take na).reverse, rest, b, n, r) else none
            | _ => none
          | _ => none
        | none => none
    | .invokespecial idx => match callAt W y.cls idx 2 with
      | some (z, na, b, n, r) => match (st.drop na) with
        | .ref a :: rest => if (st.take na).length = na then some (z, .ref a :: (st.take na).reverse, rest, b, n, r) else none
        | _ => none
      | none => none
    | .invokestatic idx => match callAt W y.cls idx 3 with
      | some (z, na, b, n, r) => if (st.take na).length = na then some (z, (st.take na).reverse, st.drop na, b, n, r) else none
      | none => none
    | _ => none
  else none
def run (W : List Jvm.Cond) (ro : Nat) : Nat → Nat → Nat → MethodName → ByteArray → Option FieldType → Nat → List Slot → List Value → EMem → Option (Option Value × EMem)
  | 0, _, _, _, _, _, _, _, _, _ => none
  | n + 1, F, Lb, y, code, ret, pc, ls, st, M =>
    match decode code pc with
    | .ok (ins, len) =>
      match (if lenOk len ins = true then execP W F Lb y ins pc len ls st M else none) with
      | some (pc', ls', st') => run W ro n F Lb y code ret pc' ls' st' M
      | none => match (if lenOk len ins = true then execM W ro y ins st M else none) with
        | some (st', M') => run W ro n F Lb y code ret (pc + len) ls st' M'
        | none => match retOf ins len ret st with
          | some v => some (v, M)
          | none => match callOf W y ins len st M with
            | some (z, as, rest, b, mx, r) =>
              if 1 ≤ F ∧ wt rest + (mx + 11) ≤ Lb ∧ (fillL as).length ≤ mx then
                match run W ro n (F - 1) (Lb - (wt rest + (mx + 11))) z b r 0 (entryL as mx) [] M with
                | some (v, M') => run W ro n F Lb y code ret (pc + 3) ls (v.toList ++ rest) M'
                | none => none
              else none
            | none => none
    | .error _ => none
end Jvm.OwnEv
namespace Jvm.OwnEv
open Sem ClassFile Op Lib Jvm.Stand Jvm.Free Jvm.LawKit Jvm.RoadKit
/-! PART 2: small facts: the variables, the words -/
def conc (ρ : Nat → Addr) : Value → Value
  | .ref a => .ref (ρ a)
  | v => v
def concS (ρ : Nat → Addr) : Slot → Slot
  | .val v => .val (conc ρ v)
  | s => s
theorem conc_cat (ρ : Nat → Addr) (v : Value) : (conc ρ v).category = v.category := by cases v <;> rfl
theorem wt_conc (ρ : Nat → Addr) (vs : List Value) : ((vs.map (conc ρ)).map fun v => v.category).sum = wt vs := by
  unfold wt
  rw [List.map_map]
  congr 1
  exact List.map_congr_left fun v _ => conc_cat ρ v
abbrev cl (ρ : Nat → Addr) (ls : List Slot) : Array Slot := (ls.map (concS ρ)).toArray
abbrev cs (ρ : Nat → Addr) (st : List Value) : List Value := st.map (conc ρ)
theorem get_cl {ρ : Nat → Addr} {ls : List Slot} {k : Nat} {x : Slot} (h : ls[k]? = some x) : (cl ρ ls)[k]? = some (concS ρ x) := by simp [cl, h]
theorem setL_some : ∀ {l : List Slot} {i : Nat} {x : Slot} {l' : List Slot}, setL l i x = some l' → i < l.length ∧ l' = l.set i x
  | [], _, _, _, h => by simp [setL] at h
  | _ :: t, 0, x, l', h => by simp only [setL, Option.some.injEq] at h; subst h; simp
  | y :: t, n + 1, x, l', h => by
    simp only [setL] at h
    split at h
    · rename_i t' ht
      cases h
      obtain ⟨h1, h2⟩ := setL_some ht
      subst h2
      exact ⟨by simp; omega, by simp⟩
    · cases h
theorem setAt_conc {ρ : Nat → Addr} {l : List Slot} {i : Nat} {x : Slot} {l' : List Slot} (h : setL l i x = some l') : setAt (cl ρ l) i (concS ρ x) = some (cl ρ l') := by
  obtain ⟨hi, rfl⟩ := setL_some h
  simp [setAt, hi, cl, List.map_set]
theorem setL_len {l : List Slot} {i : Nat} {x : Slot} {l' : List Slot} (h : setL l i x = some l') : l'.length = l.length := by
  obtain ⟨-, rfl⟩ := setL_some h; simp
theorem cl_get {ρ : Nat → Addr} {l : List Slot} {i : Nat} : (cl ρ l)[i]? = (l[i]?).map (concS ρ) := by simp [cl]
theorem storeSelf_conc {ρ : Nat → Addr} {l : List Slot} {i : Nat} {v : Value} {l' : List Slot} (h : storeSelfL l i v = some l') : storeSelf (cl ρ l) i (conc ρ v) = some (cl ρ l') := by
  unfold storeSelfL at h
  split at h
  · cases h
  rename_i l1 h1
  have e1 : setAt (cl ρ l) i (.val (conc ρ v)) = some (cl ρ l1) := setAt_conc (ρ := ρ) h1
  unfold storeSelf
  rw [e1]
  simp only [Option.bind_eq_bind, Option.bind_some, conc_cat]
  split at h
  · rename_i hc
    rw [if_pos hc, cl_get]
    split at h
    · cases h
    · rename_i old ho
      rw [ho]
      simp only [Option.map_some, Option.bind_some, concS, conc_cat]
      split at h
      · rename_i hc2
        rw [if_pos hc2]
        split at h
        · cases h
        · rename_i l2 h2
          have e2 : setAt (cl ρ l1) (i + 2) .unset = some (cl ρ l2) := setAt_conc (ρ := ρ) h2
          have e3 : setAt (cl ρ l2) (i + 1) .second = some (cl ρ l') := setAt_conc (ρ := ρ) h
          rw [e2]
          exact e3
      · rename_i hc2
        rw [if_neg hc2]
        exact setAt_conc (ρ := ρ) h
    · rename_i x hx ho
      have e3 : setAt (cl ρ l1) (i + 1) .second = some (cl ρ l') := setAt_conc (ρ := ρ) h
      rw [ho]
      cases x with
      | val w => exact absurd rfl (hx w)
      | unset => exact e3
      | second => exact e3
  · rename_i hc
    rw [if_neg hc]
    cases h
    rfl
theorem storeL_conc {ρ : Nat → Addr} {l : List Slot} {i : Nat} {v : Value} {l' : List Slot} (h : storeL l i v = some l') : storeLocals (cl ρ l) i (conc ρ v) = some (cl ρ l') := by
  unfold storeL at h
  unfold storeLocals
  rw [cl_get]
  split at h
  · cases h
  · rename_i ho
    rw [ho]
    split at h
    · cases h
    · rename_i l1 h1
      have e1 : setAt (cl ρ l) (i - 1) .unset = some (cl ρ l1) := setAt_conc (ρ := ρ) h1
      have e2 := storeSelf_conc (ρ := ρ) h
      simp only [Option.map_some, Option.bind_eq_bind, Option.bind_some, concS, e1]
      exact e2
  · rename_i old ho
    rw [ho]
    simp only [Option.map_some, Option.bind_eq_bind, Option.bind_some, concS, conc_cat]
    split at h
    · rename_i hc
      rw [if_pos hc]
      split at h
      · cases h
      · rename_i l1 h1
        have e1 : setAt (cl ρ l) (i + 1) .unset = some (cl ρ l1) := setAt_conc (ρ := ρ) h1
        rw [e1]
        exact storeSelf_conc (ρ := ρ) h
    · rename_i hc
      rw [if_neg hc]
      exact storeSelf_conc (ρ := ρ) h
  · rename_i ho
    rw [ho]
    exact storeSelf_conc (ρ := ρ) h
theorem storeSelfL_len {l : List Slot} {i : Nat} {v : Value} {l' : List Slot} (h : storeSelfL l i v = some l') : l'.length = l.length := by
  unfold storeSelfL at h
  split at h
  · cases h
  rename_i l1 h1
  have e1 := setL_len h1
  split at h
  · split at h
    · cases h
    · split at h
      · split at h
        · cases h
        · rename_i l2 h2
          rw [setL_len h, setL_len h2, e1]
      · rw [setL_len h, e1]
    · rw [setL_len h, e1]
  · cases h; exact e1
theorem storeL_len {l : List Slot} {i : Nat} {v : Value} {l' : List Slot} (h : storeL l i v = some l') : l'.length = l.length := by
  unfold storeL at h
  split at h
  · cases h
  · split at h
    · cases h
    · rename_i l1 h1
      rw [storeSelfL_len h, setL_len h1]
  · split at h
    · split at h
      · cases h
      · rename_i l1 h1
        rw [storeSelfL_len h, setL_len h1]
    · exact storeSelfL_len h
  · exact storeSelfL_len h
theorem fill_fold (ρ : Nat → Addr) : ∀ (as : List Value) (acc : Array Slot), (as.map (conc ρ)).foldl (fun acc v => if v.category = 2 then (acc.push (Slot.val v)).push .second else acc.push (.val v)) acc = acc ++ ((fillL as).map (concS ρ)).toArray
  | [], acc => by simp [fillL]
  | v :: t, acc => by
    simp only [List.map_cons, List.foldl_cons, conc_cat]
    rw [fill_fold ρ t]
    rw [show fillL (v :: t) = if v.category = 2 then .val v :: .second :: fillL t else .val v :: fillL t from rfl]
    apply Array.ext'
    split
    · simp [concS]
    · simp [concS]
theorem args_conc (ρ : Nat → Addr) (as : List Value) (mx : Nat) : argsToLocals (as.map (conc ρ)).toArray mx = cl ρ (entryL as mx) := by
  unfold argsToLocals
  simp only [List.foldl_toArray, fill_fold ρ as]
  simp [entryL, cl, concS]
theorem entryL_len {as : List Value} {mx : Nat} (h : (fillL as).length ≤ mx) : (entryL as mx).length = mx := by simp [entryL]; omega
theorem meq_eq {z y : MethodName} (h : meq z y = true) : z = y := by
  simp only [meq, Bool.and_eq_true, decide_eq_true_eq] at h
  obtain ⟨h1, h2, h3⟩ := h
  cases z; cases y
  simp only at h1 h2 h3
  subst h1 h2 h3
  rfl
/-! the words -/
theorem fieldLk_mem {own : String} {idx : Nat} {r n d : String} : ∀ {t : List Jvm.Cond}, fieldLk own idx t = some (r, n, d) → Jvm.Cond.fieldLink own idx r n d ∈ t
  | [], h => by simp [fieldLk] at h
  | w :: t, h => by
    unfold fieldLk at h
    split at h
    · rename_i heq; cases heq
    · rename_i heq
      cases heq
      split at h
      · rename_i hc; obtain ⟨rfl, rfl⟩ := hc; cases h; exact List.mem_cons_self
      · exact List.mem_cons_of_mem _ (fieldLk_mem h)
    · rename_i heq; cases heq; exact List.mem_cons_of_mem _ (fieldLk_mem h)
theorem methodLk_mem {own : String} {idx : Nat} {y : MethodName} : ∀ {t : List Jvm.Cond}, methodLk own idx t = some y → Jvm.Cond.methodLink own idx y ∈ t
  | [], h => by simp [methodLk] at h
  | w :: t, h => by
    unfold methodLk at h
    split at h
    · rename_i heq; cases heq
    · rename_i heq
      cases heq
      split at h
      · rename_i hc; obtain ⟨rfl, rfl⟩ := hc; cases h; exact List.mem_cons_self
      · exact List.mem_cons_of_mem _ (methodLk_mem h)
    · rename_i heq; cases heq; exact List.mem_cons_of_mem _ (methodLk_mem h)
theorem classLk_mem {own : String} {idx : Nat} {y : String} : ∀ {t : List Jvm.Cond}, classLk own idx t = some y → Jvm.Cond.classLink own idx y ∈ t
  | [], h => by simp [classLk] at h
  | w :: t, h => by
    unfold classLk at h
    split at h
    · rename_i heq; cases heq
    · rename_i heq
      cases heq
      split at h
      · rename_i hc; obtain ⟨rfl, rfl⟩ := hc; cases h; exact List.mem_cons_self
      · exact List.mem_cons_of_mem _ (classLk_mem h)
    · rename_i heq; cases heq; exact List.mem_cons_of_mem _ (classLk_mem h)
theorem intLk_mem {own : String} {idx : Nat} {y : Int32} : ∀ {t : List Jvm.Cond}, intLk own idx t = some y → Jvm.Cond.constant own idx y ∈ t
  | [], h => by simp [intLk] at h
  | w :: t, h => by
    unfold intLk at h
    split at h
    · rename_i heq; cases heq
    · rename_i heq
      cases heq
      split at h
      · rename_i hc; obtain ⟨rfl, rfl⟩ := hc; cases h; exact List.mem_cons_self
      · exact List.mem_cons_of_mem _ (intLk_mem h)
    · rename_i heq; cases heq; exact List.mem_cons_of_mem _ (intLk_mem h)
theorem longLk_mem {own : String} {idx : Nat} {y : Int64} : ∀ {t : List Jvm.Cond}, longLk own idx t = some y → Jvm.Cond.constantLong own idx y ∈ t
  | [], h => by simp [longLk] at h
  | w :: t, h => by
    unfold longLk at h
    split at h
    · rename_i heq; cases heq
    · rename_i heq
      cases heq
      split at h
      · rename_i hc; obtain ⟨rfl, rfl⟩ := hc; cases h; exact List.mem_cons_self
      · exact List.mem_cons_of_mem _ (longLk_mem h)
    · rename_i heq; cases heq; exact List.mem_cons_of_mem _ (longLk_mem h)
theorem instLk_mem {C : String} {n : Nat} : ∀ {t : List Jvm.Cond}, instLk C t = some n → Jvm.Cond.instantiable C n ∈ t
  | [], h => by simp [instLk] at h
  | w :: t, h => by
    unfold instLk at h
    split at h
    · rename_i heq; cases heq
    · rename_i heq
      cases heq
      split at h
      · rename_i hc; subst hc; cases h; exact List.mem_cons_self
      · exact List.mem_cons_of_mem _ (instLk_mem h)
    · rename_i heq; cases heq; exact List.mem_cons_of_mem _ (instLk_mem h)
theorem codeLk_mem {y : MethodName} {b : ByteArray} {n : Nat} {r : Option FieldType} : ∀ {t : List Jvm.Cond}, codeLk y t = some (b, n, r) → Jvm.Cond.code y b n r ∈ t
  | [], h => by simp [codeLk] at h
  | w :: t, h => by
    unfold codeLk at h
    split at h
    · rename_i heq; cases heq
    · rename_i heq
      cases heq
      split at h
      · rename_i hc; cases meq_eq hc; cases h; exact List.mem_cons_self
      · exact List.mem_cons_of_mem _ (codeLk_mem h)
    · rename_i heq; cases heq; exact List.mem_cons_of_mem _ (codeLk_mem h)
theorem hasInit_mem {y : String} : ∀ {t : List Jvm.Cond}, hasInit y t = true → Jvm.Cond.initialized y ∈ t
  | [], h => by simp [hasInit] at h
  | w :: t, h => by
    unfold hasInit at h
    split at h
    · rename_i heq; cases heq
    · rename_i heq
      cases heq
      split at h
      · rename_i hc; subst hc; exact List.mem_cons_self
      · exact List.mem_cons_of_mem _ (hasInit_mem h)
    · rename_i heq; cases heq; exact List.mem_cons_of_mem _ (hasInit_mem h)
theorem hasInst_mem {y : MethodName} : ∀ {t : List Jvm.Cond}, hasInst y t = true → Jvm.Cond.instanceMethod y ∈ t
  | [], h => by simp [hasInst] at h
  | w :: t, h => by
    unfold hasInst at h
    split at h
    · rename_i heq; cases heq
    · rename_i heq
      cases heq
      split at h
      · rename_i hc; cases meq_eq hc; exact List.mem_cons_self
      · exact List.mem_cons_of_mem _ (hasInst_mem h)
    · rename_i heq; cases heq; exact List.mem_cons_of_mem _ (hasInst_mem h)
theorem hasPriv_mem {y : MethodName} : ∀ {t : List Jvm.Cond}, hasPriv y t = true → Jvm.Cond.privateMethod y ∈ t
  | [], h => by simp [hasPriv] at h
  | w :: t, h => by
    unfold hasPriv at h
    split at h
    · rename_i heq; cases heq
    · rename_i heq
      cases heq
      split at h
      · rename_i hc; cases meq_eq hc; exact List.mem_cons_self
      · exact List.mem_cons_of_mem _ (hasPriv_mem h)
    · rename_i heq; cases heq; exact List.mem_cons_of_mem _ (hasPriv_mem h)
theorem hasStat_mem {y : MethodName} : ∀ {t : List Jvm.Cond}, hasStat y t = true → Jvm.Cond.static y ∈ t
  | [], h => by simp [hasStat] at h
  | w :: t, h => by
    unfold hasStat at h
    split at h
    · rename_i heq; cases heq
    · rename_i heq
      cases heq
      split at h
      · rename_i hc; cases meq_eq hc; exact List.mem_cons_self
      · exact List.mem_cons_of_mem _ (hasStat_mem h)
    · rename_i heq; cases heq; exact List.mem_cons_of_mem _ (hasStat_mem h)
theorem hasDecl_mem {y : MethodName} : ∀ {t : List Jvm.Cond}, hasDecl y t = true → Jvm.Cond.declares y ∈ t
  | [], h => by simp [hasDecl] at h
  | w :: t, h => by
    unfold hasDecl at h
    split at h
    · rename_i heq; cases heq
    · rename_i heq
      cases heq
      split at h
      · rename_i hc; cases meq_eq hc; exact List.mem_cons_self
      · exact List.mem_cons_of_mem _ (hasDecl_mem h)
    · rename_i heq; cases heq; exact List.mem_cons_of_mem _ (hasDecl_mem h)
theorem hasArr_mem {y : FieldType} : ∀ {t : List Jvm.Cond}, hasArr y t = true → Jvm.Cond.arrayClass y ∈ t
  | [], h => by simp [hasArr] at h
  | w :: t, h => by
    unfold hasArr at h
    split at h
    · rename_i heq; cases heq
    · rename_i heq
      cases heq
      split at h
      · rename_i hc; subst hc; exact List.mem_cons_self
      · exact List.mem_cons_of_mem _ (hasArr_mem h)
    · rename_i heq; cases heq; exact List.mem_cons_of_mem _ (hasArr_mem h)
theorem hasSel_mem {y : MethodName} : ∀ {t : List Jvm.Cond}, hasSel y t = true → Jvm.Cond.selects y.cls y y ∈ t
  | [], h => by simp [hasSel] at h
  | w :: t, h => by
    unfold hasSel at h
    split at h
    · rename_i heq; cases heq
    · rename_i heq
      cases heq
      split at h
      · rename_i hc; obtain ⟨c1, c2, rfl⟩ := hc; cases meq_eq c1; cases meq_eq c2; exact List.mem_cons_self
      · exact List.mem_cons_of_mem _ (hasSel_mem h)
    · rename_i heq; cases heq; exact List.mem_cons_of_mem _ (hasSel_mem h)
theorem layGo_spec {C n : String} {k : Nat} {d : String} {fin : Bool} : ∀ {t : List Jvm.Cond} {k0 : Nat}, layGo C n t k0 = some (k, d, fin) → k0 ≤ k ∧ t[k - k0]? = some (if fin = true then Jvm.Cond.laysFinal C C n d else Jvm.Cond.lays C C n d)
  | [], _, h => by simp [layGo] at h
  | w :: t, k0, h => by
    have next : layGo C n t (k0 + 1) = some (k, d, fin) → k0 ≤ k ∧ (w :: t)[k - k0]? = some (if fin = true then Jvm.Cond.laysFinal C C n d else Jvm.Cond.lays C C n d) := fun q => by
      obtain ⟨h1, h2⟩ := layGo_spec q
      refine ⟨by omega, ?_⟩
      have e : k - k0 = (k - (k0 + 1)) + 1 := by omega
      rw [e, List.getElem?_cons_succ]
      exact h2
    unfold layGo at h
    split at h
    · rename_i heq; cases heq
    · rename_i heq
      cases heq
      split at h
      · rename_i hc
        obtain ⟨rfl, rfl, rfl⟩ := hc
        cases h
        exact ⟨Nat.le_refl _, by simp⟩
      · exact next h
    · rename_i heq
      cases heq
      split at h
      · rename_i hc
        obtain ⟨rfl, rfl, rfl⟩ := hc
        cases h
        exact ⟨Nat.le_refl _, by simp⟩
      · exact next h
    · rename_i heq; cases heq; exact next h
theorem layAt_spec {W : List Jvm.Cond} {C n : String} {k : Nat} {d : String} {fin : Bool} (h : layAt W C n = some (k, d, fin)) : W[k]? = some (if fin = true then Jvm.Cond.laysFinal C C n d else Jvm.Cond.lays C C n d) := (layGo_spec h).2
theorem layAt_inj {W : List Jvm.Cond} {C n n' : String} {k : Nat} {d d' : String} {fin fin' : Bool} (h : layAt W C n = some (k, d, fin)) (h' : layAt W C n' = some (k, d', fin')) : n = n' := by
  have e := (layAt_spec h).symm.trans (layAt_spec h')
  cases fin <;> cases fin' <;> simp at e
  · exact e.1
  · exact e.1
theorem layAt_laid {W : List Jvm.Cond} {C n : String} {k : Nat} {d : String} {fin : Bool} {Z : State} {a0 : Array Value} (hw : ∀ d ∈ W, d.before a0 Z = true) (h : layAt W C n = some (k, d, fin)) : Laid Z a0 C C n d := by
  have e := hw _ (List.mem_of_getElem? (layAt_spec h))
  cases fin
  · exact Or.inl e
  · exact Or.inr e
theorem fieldAt_spec {W : List Jvm.Cond} {own : String} {idx : Nat} {C : String} {k kd : Nat} {fin : Bool} (h : fieldAt W own idx = some (C, k, kd, fin)) : ∃ n d, Jvm.Cond.fieldLink own idx C n d ∈ W ∧ layAt W C n = some (k, d, fin) ∧ kd = kindD d ∧ kindD d ≠ 0 := by
  unfold fieldAt at h
  split at h
  · cases h
  · rename_i r n d h1
    split at h
    · cases h
    · rename_i k' d' fin' h2
      split at h
      · rename_i hc
        cases h
        obtain ⟨rfl, hk⟩ := hc
        exact ⟨n, _, fieldLk_mem h1, h2, rfl, hk⟩
      · cases h
theorem kindD_1 {d : String} (h : kindD d = 1) : parseFieldDescriptor d = some .int := by
  unfold kindD at h
  split at h <;> first | assumption | (simp at h)
theorem kindD_2 {d : String} (h : kindD d = 2) : parseFieldDescriptor d = some .boolean := by
  unfold kindD at h
  split at h <;> first | assumption | (simp at h)
theorem kindD_3 {d : String} (h : kindD d = 3) : parseFieldDescriptor d = some .long := by
  unfold kindD at h
  split at h <;> first | assumption | (simp at h)
theorem kindD_4 {d : String} (h : kindD d = 4) : ∃ ty, parseFieldDescriptor d = some ty ∧ (∀ v : Value, narrow ty v = v) ∧ (∀ a, fits ty (.ref a) = true) ∧ defaultValue ty = .null := by
  unfold kindD at h
  split at h
  · simp at h
  · simp at h
  · simp at h
  · rename_i t ht; exact ⟨_, ht, fun _ => rfl, fun _ => rfl, rfl⟩
  · rename_i t ht; exact ⟨_, ht, fun _ => rfl, fun _ => rfl, rfl⟩
  · simp at h
theorem kindD_lt (d : String) : kindD d = 0 ∨ kindD d = 1 ∨ kindD d = 2 ∨ kindD d = 3 ∨ kindD d = 4 := by
  unfold kindD
  split <;> simp
theorem jump_spec {pc : Nat} {o : Int} {t : Nat} (h : jump pc o = some t) : 0 ≤ (pc : Int) + o ∧ ((pc : Int) + o).toNat = t := by
  unfold jump at h
  split at h
  · rename_i n hn
    cases h
    rw [hn]
    exact ⟨Int.natCast_nonneg _, rfl⟩
  · cases h
theorem inb_spec {j : Int32} {n : Nat} (h : inb j n = true) : ¬ (j < 0 ∨ n ≤ j.toNatClampNeg) := by
  simp only [inb, Bool.and_eq_true, decide_eq_true_eq] at h
  rintro (q | q)
  · exact h.1 q
  · omega
end Jvm.OwnEv
namespace Jvm.OwnEv
open Sem ClassFile Op Lib Jvm.Stand Jvm.Free Jvm.LawKit Jvm.RoadKit
/-! PART 3: the memory and the heap -/
def RelC (Z : State) (W : List Jvm.Cond) (ρ : Nat → Addr) (h : Heap) (mi : Nat → Nat → Int32) (ml : Nat → Nat → Int64) (mr : Nat → Nat → Value) (a : Nat) (c : Nat × String × Nat) : Prop :=
  (c.1 = 0 → Exa Z h (ρ a) c.2.1 ∧ ∀ n k d fin, layAt W c.2.1 n = some (k, d, fin) → kindD d ≠ 0 → Fld Z h (ρ a) c.2.1 n d (conc ρ (getV (kindD d) (mi a k) (ml a k) (mr a k)))) ∧
  (c.1 = 1 → ∃ cell : Cell, Arr Z h (ρ a) cell .int ∧ cell.slots.size = c.2.2 ∧ ∀ k, k < c.2.2 → cell.slots[k]? = some (.int (mi a k))) ∧
  (c.1 = 2 → ∃ cell : Cell, Arr Z h (ρ a) cell .long ∧ cell.slots.size = c.2.2 ∧ ∀ k, k < c.2.2 → cell.slots[k]? = some (.long (ml a k))) ∧
  (c.1 = 3 → ∃ cell : Cell, Arr Z h (ρ a) cell .boolean ∧ cell.slots.size = c.2.2 ∧ ∀ k, k < c.2.2 → cell.slots[k]? = some (.int (mi a k)))
def Rel (Z : State) (W : List Jvm.Cond) (ρ : Nat → Addr) (ro n0 : Nat) (h : Heap) (M : EMem) : Prop :=
  h.size = n0 + (M.1.length - ro) ∧ ro ≤ M.1.length ∧ (∀ a c, M.1[a]? = some c → RelC Z W ρ h M.2.1 M.2.2.1 M.2.2.2 a c) ∧
  (∀ a, M.1.length ≤ a → ∀ k, M.2.1 a k = 0 ∧ M.2.2.1 a k = 0 ∧ M.2.2.2 a k = .null)
section R
variable {Z : State} {W : List Jvm.Cond} {ρ : Nat → Addr} {h h' : Heap} {mi mi' : Nat → Nat → Int32} {ml ml' : Nat → Nat → Int64} {mr mr' : Nat → Nat → Value} {a b : Nat} {c : Nat × String × Nat} {a0 : Array Value}
theorem RelC.mono (hE : ∀ C, Exa Z h (ρ a) C → Exa Z h' (ρ a) C) (hF : ∀ C n d v, Fld Z h (ρ a) C n d v → Fld Z h' (ρ a) C n d v) (hA : ∀ cell ty, Arr Z h (ρ a) cell ty → Arr Z h' (ρ a) cell ty)
    (hi : ∀ k, mi' a k = mi a k) (hl : ∀ k, ml' a k = ml a k) (hr : ∀ k, mr' a k = mr a k) (X : RelC Z W ρ h mi ml mr a c) : RelC Z W ρ h' mi' ml' mr' a c := by
  obtain ⟨x0, x1, x2, x3⟩ := X
  refine ⟨fun q => ?_, fun q => ?_, fun q => ?_, fun q => ?_⟩
  · obtain ⟨e1, e2⟩ := x0 q
    exact ⟨hE _ e1, fun n k d fin e3 e4 => by rw [hi, hl, hr]; exact hF _ _ _ _ (e2 n k d fin e3 e4)⟩
  · obtain ⟨cell, e1, e2, e3⟩ := x1 q
    exact ⟨cell, hA _ _ e1, e2, fun k hk => by rw [hi]; exact e3 k hk⟩
  · obtain ⟨cell, e1, e2, e3⟩ := x2 q
    exact ⟨cell, hA _ _ e1, e2, fun k hk => by rw [hl]; exact e3 k hk⟩
  · obtain ⟨cell, e1, e2, e3⟩ := x3 q
    exact ⟨cell, hA _ _ e1, e2, fun k hk => by rw [hi]; exact e3 k hk⟩
theorem up_ne {α : Type} {f : Nat → Nat → α} {a k : Nat} {v : α} {x : Nat} (h : x ≠ a) (y : Nat) : up f a k v x y = f x y := by simp [up, h]
theorem up_eq {α : Type} {f : Nat → Nat → α} {a k : Nat} {v : α} : up f a k v a k = v := by simp [up]
theorem up_ne' {α : Type} {f : Nat → Nat → α} {a k : Nat} {v : α} {y : Nat} (h : y ≠ k) (x : Nat) : up f a k v x y = f x y := by simp [up, h]
theorem RelC.other {sl : Nat} {v : Value} (w : Wr h h' (ρ b) sl v) (ne : ρ a ≠ ρ b) (hi : ∀ k, mi' a k = mi a k) (hl : ∀ k, ml' a k = ml a k) (hr : ∀ k, mr' a k = mr a k) (X : RelC Z W ρ h mi ml mr a c) : RelC Z W ρ h' mi' ml' mr' a c :=
  X.mono (fun _ q => q.wr w) (fun _ _ _ _ q => q.other w (Or.inl ne)) (fun _ _ q => q.other w ne) hi hl hr
theorem RelC.ext (E : Ext h h') (X : RelC Z W ρ h mi ml mr a c) : RelC Z W ρ h' mi ml mr a c :=
  X.mono (fun _ q => q.ext E) (fun _ _ _ _ q => q.ext E) (fun _ _ q => q.ext E) (fun _ => rfl) (fun _ => rfl) (fun _ => rfl)
/-- a field is written -/
theorem RelC.put (hw : ∀ d ∈ W, d.before a0 Z = true) {C n d : String} {k : Nat} {fin : Bool} {u : Nat} {v : Value} (hla : layAt W C n = some (k, d, fin)) (hk0 : kindD d ≠ 0) (w : Wr h h' (ρ a) (Jvm.RoadKit.slotOf Z C n d) v)
    (hv : conc ρ (getV (kindD d) (mi' a k) (ml' a k) (mr' a k)) = v)
    (hi : ∀ j, j ≠ k → mi' a j = mi a j) (hl : ∀ j, j ≠ k → ml' a j = ml a j) (hr : ∀ j, j ≠ k → mr' a j = mr a j) (X : RelC Z W ρ h mi ml mr a (0, C, u)) : RelC Z W ρ h' mi' ml' mr' a (0, C, u) := by
  obtain ⟨x0, -⟩ := X
  refine ⟨fun q => ?_, fun q => (by cases q), fun q => (by cases q), fun q => (by cases q)⟩
  obtain ⟨e1, e2⟩ := x0 q
  refine ⟨e1.wr w, fun n' k' d' fin' e3 e4 => ?_⟩
  by_cases hn : n' = n
  · subst hn
    cases hla.symm.trans e3
    rw [hv]
    exact Fld.same w (e2 _ _ _ _ e3 e4)
  · have hk : k' ≠ k := fun q => by subst q; exact hn (layAt_inj e3 hla)
    rw [hi _ hk, hl _ hk, hr _ hk]
    have pd : ∀ {x : String}, kindD x ≠ 0 → ∃ t, parseFieldDescriptor x = some t := fun {x} q => by
      rcases kindD_lt x with z | z | z | z | z
      · exact absurd z q
      · exact ⟨_, kindD_1 z⟩
      · exact ⟨_, kindD_2 z⟩
      · exact ⟨_, kindD_3 z⟩
      · obtain ⟨t, ht, -⟩ := kindD_4 z; exact ⟨t, ht⟩
    obtain ⟨t1, ht1⟩ := pd e4
    obtain ⟨t2, ht2⟩ := pd hk0
    exact (e2 _ _ _ _ e3 e4).other w (Or.inr (slot_ne (layAt_laid hw e3) (layAt_laid hw hla) hn ht1 ht2))
theorem get_set {cell : Cell} {j k n : Nat} {v : Value} (hs : cell.slots.size = n) (hk : k < n) : (cell.setSlot j v).slots[k]? = if j = k then some v else cell.slots[k]? := by
  by_cases e : j = k
  · subst e
    simp [Cell.setSlot, hs, hk]
  · rw [if_neg e]
    exact Array.getElem?_setIfInBounds_ne e
theorem RelC.st1 {n : Nat} {u : String} {j : Nat} {x : Int32} (w : Wr h h' (ρ a) j (.int x)) (X : RelC Z W ρ h mi ml mr a (1, u, n)) : RelC Z W ρ h' (up mi a j x) ml mr a (1, u, n) := by
  obtain ⟨-, x1, -⟩ := X
  refine ⟨fun q => (by cases q), fun q => ?_, fun q => (by cases q), fun q => (by cases q)⟩
  obtain ⟨cell, e1, e2, e3⟩ := x1 q
  refine ⟨_, e1.same w, (sz_set _ _ _).trans e2, fun k hk => ?_⟩
  rw [get_set e2 hk]
  by_cases e : j = k
  · subst e; simp [up]
  · rw [if_neg e, e3 k hk]; simp [up, Ne.symm e]
theorem RelC.st3 {n : Nat} {u : String} {j : Nat} {x : Int32} (w : Wr h h' (ρ a) j (.int x)) (X : RelC Z W ρ h mi ml mr a (3, u, n)) : RelC Z W ρ h' (up mi a j x) ml mr a (3, u, n) := by
  obtain ⟨-, -, -, x1⟩ := X
  refine ⟨fun q => (by cases q), fun q => (by cases q), fun q => (by cases q), fun q => ?_⟩
  obtain ⟨cell, e1, e2, e3⟩ := x1 q
  refine ⟨_, e1.same w, (sz_set _ _ _).trans e2, fun k hk => ?_⟩
  rw [get_set e2 hk]
  by_cases e : j = k
  · subst e; simp [up]
  · rw [if_neg e, e3 k hk]; simp [up, Ne.symm e]
theorem RelC.st2 {n : Nat} {u : String} {j : Nat} {x : Int64} (w : Wr h h' (ρ a) j (.long x)) (X : RelC Z W ρ h mi ml mr a (2, u, n)) : RelC Z W ρ h' mi (up ml a j x) mr a (2, u, n) := by
  obtain ⟨-, -, x1, -⟩ := X
  refine ⟨fun q => (by cases q), fun q => (by cases q), fun q => ?_, fun q => (by cases q)⟩
  obtain ⟨cell, e1, e2, e3⟩ := x1 q
  refine ⟨_, e1.same w, (sz_set _ _ _).trans e2, fun k hk => ?_⟩
  rw [get_set e2 hk]
  by_cases e : j = k
  · subst e; simp [up]
  · rw [if_neg e, e3 k hk]; simp [up, Ne.symm e]
/-- one cell is written, the others stay -/
theorem Rel.write {ro n0 : Nat} {L : ELay} {sl : Nat} {v : Value} (hρ : ∀ a b, ρ a = ρ b → a = b) (w : Wr h h' (ρ a) sl v) (hc : L[a]? = some c)
    (hi : ∀ x, x ≠ a → ∀ k, mi' x k = mi x k) (hl : ∀ x, x ≠ a → ∀ k, ml' x k = ml x k) (hr : ∀ x, x ≠ a → ∀ k, mr' x k = mr x k)
    (self : RelC Z W ρ h mi ml mr a c → RelC Z W ρ h' mi' ml' mr' a c) (X : Rel Z W ρ ro n0 h (L, mi, ml, mr)) : Rel Z W ρ ro n0 h' (L, mi', ml', mr') := by
  obtain ⟨x1, x2, x3, x4⟩ := X
  have hlt : a < L.length := (List.getElem?_eq_some_iff.mp hc).1
  refine ⟨by rw [w.size]; exact x1, x2, fun b cb hb => ?_, fun b hb k => ?_⟩
  · by_cases e : b = a
    · subst e
      cases hc.symm.trans hb
      exact self (x3 _ _ hc)
    · exact (x3 b cb hb).other w (fun q => e (hρ _ _ q)) (hi b e) (hl b e) (hr b e)
  · have e : b ≠ a := fun q => by
      have hb' : L.length ≤ b := hb
      omega
    obtain ⟨y1, y2, y3⟩ := x4 b hb k
    exact ⟨(hi b e k).trans y1, (hl b e k).trans y2, (hr b e k).trans y3⟩
/-- one cell more -/
theorem Rel.push {ro n0 : Nat} {L : ELay} (E : Ext h h') (hsz : h'.size = h.size + 1) (new : RelC Z W ρ h' mi ml mr L.length c) (X : Rel Z W ρ ro n0 h (L, mi, ml, mr)) : Rel Z W ρ ro n0 h' (L ++ [c], mi, ml, mr) := by
  obtain ⟨x1, x2, x3, x4⟩ := X
  have x2' : ro ≤ L.length := x2
  have x1' : h.size = n0 + (L.length - ro) := x1
  refine ⟨?_, ?_, fun b cb hb => ?_, fun b hb k => ?_⟩
  · show h'.size = n0 + ((L ++ [c]).length - ro)
    rw [hsz, x1', List.length_append]
    simp; omega
  · show ro ≤ (L ++ [c]).length
    rw [List.length_append]; omega
  · have hb' : (L ++ [c])[b]? = some cb := hb
    by_cases e : b < L.length
    · rw [List.getElem?_append_left e] at hb'
      exact (x3 b cb hb').ext E
    · have hlt := (List.getElem?_eq_some_iff.mp hb').1
      rw [List.length_append] at hlt
      have : b = L.length := by simp at hlt; omega
      subst this
      simp at hb'
      subst hb'
      exact new
  · have hb' : (L ++ [c]).length ≤ b := hb
    rw [List.length_append] at hb'
    exact x4 b (by show L.length ≤ b; omega) k
end R
end Jvm.OwnEv
namespace Jvm.OwnEv
open Sem ClassFile Op Lib Jvm.Stand Jvm.Free Jvm.LawKit Jvm.RoadKit
/-! PART 4: the evaluator's plain steps are steps of the model -/
def Here (p : Program) (l : Launch) (e : Env) (R : Room) (s : State) (m : MethodId) (args : Array Value) (below : List Frame) (meth : Method) (c : Code) (Z : State) (W : List Jvm.Cond) (ρ : Nat → Addr) (ro n0 : Nat) (L0 : ELay) (T : State) (M : EMem) : Prop :=
  ∃ locs, Stand p l e R s m args below meth c T locs (M.1.length - L0.length) (szL M.1 - szL L0) ∧ Fr n0 locs ∧ Rel Z W ρ ro n0 T.heap M
theorem objInitAt_spec {W : List Jvm.Cond} {own : String} {idx : Nat} (h : objInitAt W own idx = true) : Jvm.Cond.methodLink own idx Lib.objectInit ∈ W ∧ Jvm.Cond.instanceMethod Lib.objectInit ∈ W ∧ Jvm.Cond.code Lib.objectInit ⟨#[0xb1]⟩ 1 none ∈ W := by
  unfold objInitAt at h
  split at h
  · rename_i z b n r h1 h2
    simp only [Bool.and_eq_true, decide_eq_true_eq] at h
    obtain ⟨⟨⟨⟨rfl, h3⟩, rfl⟩, rfl⟩, rfl⟩ := h
    exact ⟨methodLk_mem h1, hasInst_mem h3, codeLk_mem h2⟩
  · cases h
section S
variable {p : Program} {l : Launch} {e : Env} {R : Room} {s : State} {m : MethodId} {args : Array Value} {below : List Frame} {meth : Method} {c : Code} {Z : State} {a0 : Array Value} {W : List Jvm.Cond} {ρ : Nat → Addr} {ro n0 : Nat} {L0 : ELay} {y : MethodName} {T : State} {M : EMem}
set_option maxRecDepth 65536 in
set_option maxHeartbeats 40000000 in
theorem execP_sound (H : Here p l e R s m args below meth c Z W ρ ro n0 L0 T M) (hx : p.tables.exec = Jvm.exec) (hZ : Z.Warmed39 s.vm) (hw : ∀ d ∈ W, d.before a0 Z = true) (hown : s.vm.findClass y.cls = some m.cls) {F Lb : Nat} (hF : F ≤ R.frames) (hLb : Lb ≤ R.locals)
    {ls ls' : List Slot} {st st' : List Value} {ins : Instr} {pc pc' len : Nat} (hsz : ls.length = c.maxLocals) (hd : decode c.code pc = .ok (ins, len)) (hl : lenOk len ins = true) (h : execP W F Lb y ins pc len ls st M = some (pc', ls', st')) :
    ls'.length = ls.length ∧ ∃ T', Here p l e R s m args below meth c Z W ρ ro n0 L0 T' M ∧ ∀ target, Steps p.tables e below (T'.setTop (mkF m pc' (cl ρ ls') (cs ρ st'))) target → Steps p.tables e below (T.setTop (mkF m pc (cl ρ ls) (cs ρ st))) target := by
  obtain ⟨locs, X, N, Rl⟩ := H
  have A := X.here
  unfold execP at h
  split at h
  · rename_i k
    obtain rfl : len = 2 := by simpa [lenOk] using hl
    split at h
    · rename_i a ha; cases h; exact ⟨rfl, T, ⟨locs, X, N, Rl⟩, fun t k => XS.aload A hx rfl hd (get_cl ha) rfl k⟩
    · rename_i ha; cases h; exact ⟨rfl, T, ⟨locs, X, N, Rl⟩, fun t k => XS.aload A hx rfl hd (get_cl ha) rfl k⟩
    · cases h
  · rename_i k
    obtain rfl : len = 1 := by simpa [lenOk] using hl
    split at h
    · rename_i a ha; cases h; exact ⟨rfl, T, ⟨locs, X, N, Rl⟩, fun t k => XS.aloadN A hx rfl hd (get_cl ha) rfl k⟩
    · rename_i ha; cases h; exact ⟨rfl, T, ⟨locs, X, N, Rl⟩, fun t k => XS.aloadN A hx rfl hd (get_cl ha) rfl k⟩
    · cases h
  · rename_i k
    obtain rfl : len = 2 := by simpa [lenOk] using hl
    split at h
    · rename_i a ha; cases h; exact ⟨rfl, T, ⟨locs, X, N, Rl⟩, fun t k => XS.iload A hx rfl hd (get_cl ha) k⟩
    · cases h
  · rename_i k
    obtain rfl : len = 1 := by simpa [lenOk] using hl
    split at h
    · rename_i a ha; cases h; exact ⟨rfl, T, ⟨locs, X, N, Rl⟩, fun t k => XS.iloadN A hx rfl hd (get_cl ha) k⟩
    · cases h
  · rename_i k
    obtain rfl : len = 2 := by simpa [lenOk] using hl
    split at h
    · rename_i a ha; cases h; exact ⟨rfl, T, ⟨locs, X, N, Rl⟩, fun t k => XT.lload A hx rfl hd (get_cl ha) k⟩
    · cases h
  · rename_i k
    obtain rfl : len = 1 := by simpa [lenOk] using hl
    split at h
    · rename_i a ha; cases h; exact ⟨rfl, T, ⟨locs, X, N, Rl⟩, fun t k => XT.lloadN A hx rfl hd (get_cl ha) k⟩
    · cases h
  · rename_i k
    obtain rfl : len = 2 := by simpa [lenOk] using hl
    split at h
    · split at h
      · rename_i l' hs; cases h; exact ⟨storeL_len hs, T, ⟨locs, X, N, Rl⟩, fun t k => XS.istore A hx rfl hd rfl (storeL_conc (ρ := ρ) hs) k⟩
      · cases h
    · cases h
  · rename_i k
    obtain rfl : len = 1 := by simpa [lenOk] using hl
    split at h
    · split at h
      · rename_i l' hs; cases h; exact ⟨storeL_len hs, T, ⟨locs, X, N, Rl⟩, fun t k => XS.istoreN A hx rfl hd rfl (storeL_conc (ρ := ρ) hs) k⟩
      · cases h
    · cases h
  · rename_i k
    obtain rfl : len = 2 := by simpa [lenOk] using hl
    split at h
    · split at h
      · rename_i l' hs; cases h; exact ⟨storeL_len hs, T, ⟨locs, X, N, Rl⟩, fun t k => XT.lstore A hx rfl hd rfl (storeL_conc (ρ := ρ) hs) k⟩
      · cases h
    · cases h
  · rename_i k
    obtain rfl : len = 1 := by simpa [lenOk] using hl
    split at h
    · split at h
      · rename_i l' hs; cases h; exact ⟨storeL_len hs, T, ⟨locs, X, N, Rl⟩, fun t k => XT.lstoreN A hx rfl hd rfl (storeL_conc (ρ := ρ) hs) k⟩
      · cases h
    · cases h
  · rename_i k
    obtain rfl : len = 2 := by simpa [lenOk] using hl
    split at h
    · split at h
      · rename_i l' hs; cases h; exact ⟨storeL_len hs, T, ⟨locs, X, N, Rl⟩, fun t k => XS.astore A hx rfl hd rfl rfl (storeL_conc (ρ := ρ) hs) k⟩
      · cases h
    · cases h
  · rename_i k
    obtain rfl : len = 1 := by simpa [lenOk] using hl
    split at h
    · split at h
      · rename_i l' hs; cases h; exact ⟨storeL_len hs, T, ⟨locs, X, N, Rl⟩, fun t k => XS.astoreN A hx rfl hd rfl rfl (storeL_conc (ρ := ρ) hs) k⟩
      · cases h
    · cases h
  · rename_i k d
    obtain rfl : len = 3 := by simpa [lenOk] using hl
    split at h
    · rename_i v ha; split at h
      · rename_i l' hs; cases h; exact ⟨storeL_len hs, T, ⟨locs, X, N, Rl⟩, fun t k => XS.iinc A hx rfl hd (get_cl ha) (storeL_conc (ρ := ρ) hs) k⟩
      · cases h
    · cases h
  · rename_i i
    obtain rfl : len = 1 := by simpa [lenOk] using hl
    cases h; exact ⟨rfl, T, ⟨locs, X, N, Rl⟩, fun t k => XS.iconst A hx rfl hd k⟩
  · rename_i i
    obtain rfl : len = 2 := by simpa [lenOk] using hl
    cases h; exact ⟨rfl, T, ⟨locs, X, N, Rl⟩, fun t k => XS.bipush A hx rfl hd k⟩
  · rename_i i
    obtain rfl : len = 3 := by simpa [lenOk] using hl
    cases h; exact ⟨rfl, T, ⟨locs, X, N, Rl⟩, fun t k => XS.sipush A hx rfl hd k⟩
  · rename_i i
    obtain rfl : len = 1 := by simpa [lenOk] using hl
    cases h; exact ⟨rfl, T, ⟨locs, X, N, Rl⟩, fun t k => XT.lconst A hx rfl hd k⟩
  · rename_i i
    obtain rfl : len = 2 := by simpa [lenOk] using hl
    split at h
    · rename_i v hv; cases h; exact ⟨rfl, T, ⟨locs, X, N, Rl⟩, fun t k => X.ldcInt hx hown (mvT hZ (hw _ (intLk_mem hv))) (g := mkF m pc (cl ρ ls) (cs ρ st)) rfl hd t k⟩
    · cases h
  · rename_i i
    obtain rfl : len = 3 := by simpa [lenOk] using hl
    split at h
    · rename_i v hv; cases h; exact ⟨rfl, T, ⟨locs, X, N, Rl⟩, fun t k => X.ldcwInt hx hown (mvT hZ (hw _ (intLk_mem hv))) (g := mkF m pc (cl ρ ls) (cs ρ st)) rfl hd t k⟩
    · cases h
  · rename_i i
    obtain rfl : len = 3 := by simpa [lenOk] using hl
    split at h
    · rename_i v hv; cases h; exact ⟨rfl, T, ⟨locs, X, N, Rl⟩, fun t k => X.ldc2Long hx hown (mvT hZ (hw _ (longLk_mem hv))) (g := mkF m pc (cl ρ ls) (cs ρ st)) rfl hd t k⟩
    · cases h
  · obtain rfl : len = 1 := by simpa [lenOk] using hl
    split at h
    · cases h; exact ⟨rfl, T, ⟨locs, X, N, Rl⟩, fun t k => XS.iadd A hx rfl hd rfl k⟩
    · cases h
  · obtain rfl : len = 1 := by simpa [lenOk] using hl
    split at h
    · cases h; exact ⟨rfl, T, ⟨locs, X, N, Rl⟩, fun t k => XS.isub A hx rfl hd rfl k⟩
    · cases h
  · obtain rfl : len = 1 := by simpa [lenOk] using hl
    split at h
    · cases h; exact ⟨rfl, T, ⟨locs, X, N, Rl⟩, fun t k => XS.imul A hx rfl hd rfl k⟩
    · cases h
  · obtain rfl : len = 1 := by simpa [lenOk] using hl
    split at h
    · cases h; exact ⟨rfl, T, ⟨locs, X, N, Rl⟩, fun t k => XS.iand A hx rfl hd rfl k⟩
    · cases h
  · obtain rfl : len = 1 := by simpa [lenOk] using hl
    split at h
    · cases h; exact ⟨rfl, T, ⟨locs, X, N, Rl⟩, fun t k => XT.ior A hx rfl hd rfl k⟩
    · cases h
  · obtain rfl : len = 1 := by simpa [lenOk] using hl
    split at h
    · cases h; exact ⟨rfl, T, ⟨locs, X, N, Rl⟩, fun t k => XT.ixor A hx rfl hd rfl k⟩
    · cases h
  · obtain rfl : len = 1 := by simpa [lenOk] using hl
    split at h
    · cases h; exact ⟨rfl, T, ⟨locs, X, N, Rl⟩, fun t k => XT.ishl A hx rfl hd rfl k⟩
    · cases h
  · obtain rfl : len = 1 := by simpa [lenOk] using hl
    split at h
    · cases h; exact ⟨rfl, T, ⟨locs, X, N, Rl⟩, fun t k => XT.ishr A hx rfl hd rfl k⟩
    · cases h
  · obtain rfl : len = 1 := by simpa [lenOk] using hl
    split at h
    · cases h; exact ⟨rfl, T, ⟨locs, X, N, Rl⟩, fun t k => XT.iushr A hx rfl hd rfl k⟩
    · cases h
  · obtain rfl : len = 1 := by simpa [lenOk] using hl
    split at h
    · split at h
      · cases h
      · rename_i hb; cases h; exact ⟨rfl, T, ⟨locs, X, N, Rl⟩, fun t k => XS.idiv A hx rfl hd rfl hb k⟩
    · cases h
  · obtain rfl : len = 1 := by simpa [lenOk] using hl
    split at h
    · split at h
      · cases h
      · rename_i hb; cases h; exact ⟨rfl, T, ⟨locs, X, N, Rl⟩, fun t k => XS.irem A hx rfl hd rfl hb k⟩
    · cases h
  · obtain rfl : len = 1 := by simpa [lenOk] using hl
    split at h
    · cases h; exact ⟨rfl, T, ⟨locs, X, N, Rl⟩, fun t k => XS.ineg A hx rfl hd rfl k⟩
    · cases h
  · obtain rfl : len = 1 := by simpa [lenOk] using hl
    split at h
    · cases h; exact ⟨rfl, T, ⟨locs, X, N, Rl⟩, fun t k => XT.ladd A hx rfl hd rfl k⟩
    · cases h
  · obtain rfl : len = 1 := by simpa [lenOk] using hl
    split at h
    · cases h; exact ⟨rfl, T, ⟨locs, X, N, Rl⟩, fun t k => XT.lsub A hx rfl hd rfl k⟩
    · cases h
  · obtain rfl : len = 1 := by simpa [lenOk] using hl
    split at h
    · cases h; exact ⟨rfl, T, ⟨locs, X, N, Rl⟩, fun t k => XT.lmul A hx rfl hd rfl k⟩
    · cases h
  · obtain rfl : len = 1 := by simpa [lenOk] using hl
    split at h
    · cases h; exact ⟨rfl, T, ⟨locs, X, N, Rl⟩, fun t k => XT.land A hx rfl hd rfl k⟩
    · cases h
  · obtain rfl : len = 1 := by simpa [lenOk] using hl
    split at h
    · cases h; exact ⟨rfl, T, ⟨locs, X, N, Rl⟩, fun t k => XT.lor A hx rfl hd rfl k⟩
    · cases h
  · obtain rfl : len = 1 := by simpa [lenOk] using hl
    split at h
    · cases h; exact ⟨rfl, T, ⟨locs, X, N, Rl⟩, fun t k => XT.lxor A hx rfl hd rfl k⟩
    · cases h
  · obtain rfl : len = 1 := by simpa [lenOk] using hl
    split at h
    · cases h; exact ⟨rfl, T, ⟨locs, X, N, Rl⟩, fun t k => XT.lshl A hx rfl hd rfl k⟩
    · cases h
  · obtain rfl : len = 1 := by simpa [lenOk] using hl
    split at h
    · cases h; exact ⟨rfl, T, ⟨locs, X, N, Rl⟩, fun t k => XT.lshr A hx rfl hd rfl k⟩
    · cases h
  · obtain rfl : len = 1 := by simpa [lenOk] using hl
    split at h
    · cases h; exact ⟨rfl, T, ⟨locs, X, N, Rl⟩, fun t k => XT.lushr A hx rfl hd rfl k⟩
    · cases h
  · obtain rfl : len = 1 := by simpa [lenOk] using hl
    split at h
    · split at h
      · cases h
      · rename_i hb; cases h; exact ⟨rfl, T, ⟨locs, X, N, Rl⟩, fun t k => XT.ldiv A hx rfl hd rfl hb k⟩
    · cases h
  · obtain rfl : len = 1 := by simpa [lenOk] using hl
    split at h
    · split at h
      · cases h
      · rename_i hb; cases h; exact ⟨rfl, T, ⟨locs, X, N, Rl⟩, fun t k => XT.lrem A hx rfl hd rfl hb k⟩
    · cases h
  · obtain rfl : len = 1 := by simpa [lenOk] using hl
    split at h
    · cases h; exact ⟨rfl, T, ⟨locs, X, N, Rl⟩, fun t k => XT.lneg A hx rfl hd rfl k⟩
    · cases h
  · obtain rfl : len = 1 := by simpa [lenOk] using hl
    split at h
    · cases h; exact ⟨rfl, T, ⟨locs, X, N, Rl⟩, fun t k => XT.lcmp A hx rfl hd rfl k⟩
    · cases h
  · obtain rfl : len = 1 := by simpa [lenOk] using hl
    split at h
    · cases h; exact ⟨rfl, T, ⟨locs, X, N, Rl⟩, fun t k => XT.i2l A hx rfl hd rfl k⟩
    · cases h
  · obtain rfl : len = 1 := by simpa [lenOk] using hl
    split at h
    · cases h; exact ⟨rfl, T, ⟨locs, X, N, Rl⟩, fun t k => XT.l2i A hx rfl hd rfl k⟩
    · cases h
  · obtain rfl : len = 1 := by simpa [lenOk] using hl
    split at h
    · cases h; exact ⟨rfl, T, ⟨locs, X, N, Rl⟩, fun t k => XT.i2s A hx rfl hd rfl k⟩
    · cases h
  · obtain rfl : len = 1 := by simpa [lenOk] using hl
    split at h
    · cases h; exact ⟨rfl, T, ⟨locs, X, N, Rl⟩, fun t k => XS.dup A hx rfl hd rfl rfl k⟩
    · cases h; exact ⟨rfl, T, ⟨locs, X, N, Rl⟩, fun t k => XS.dup A hx rfl hd rfl rfl k⟩
    · cases h
  · obtain rfl : len = 1 := by simpa [lenOk] using hl
    split at h
    · cases h; exact ⟨rfl, T, ⟨locs, X, N, Rl⟩, fun t k => XT.dup2 A hx rfl hd rfl rfl rfl k⟩
    · cases h; exact ⟨rfl, T, ⟨locs, X, N, Rl⟩, fun t k => XT.dup2 A hx rfl hd rfl rfl rfl k⟩
    · cases h; exact ⟨rfl, T, ⟨locs, X, N, Rl⟩, fun t k => XT.dup2L A hx rfl hd rfl k⟩
    · cases h
  · obtain rfl : len = 1 := by simpa [lenOk] using hl
    split at h
    · cases h; exact ⟨rfl, T, ⟨locs, X, N, Rl⟩, fun t k => XT.dupX1 A hx rfl hd rfl rfl rfl k⟩
    · cases h
  · obtain rfl : len = 1 := by simpa [lenOk] using hl
    split at h
    · cases h; exact ⟨rfl, T, ⟨locs, X, N, Rl⟩, fun t k => XT.pop A hx rfl hd rfl rfl k⟩
    · cases h; exact ⟨rfl, T, ⟨locs, X, N, Rl⟩, fun t k => XT.pop A hx rfl hd rfl rfl k⟩
    · cases h
  · rename_i o
    obtain rfl : len = 3 := by simpa [lenOk] using hl
    split at h
    · rename_i t ht; cases h; obtain ⟨j1, j2⟩ := jump_spec ht
      exact ⟨rfl, T, ⟨locs, X, N, Rl⟩, fun t k => XS.goto A hx rfl rfl hd j1 j2 k⟩
    · cases h
  · rename_i cd o
    obtain rfl : len = 3 := by simpa [lenOk] using hl
    split at h
    · rename_i a r
      split at h
      · rename_i t ht; cases h; obtain ⟨j1, j2⟩ := jump_spec ht
        refine ⟨rfl, T, ⟨locs, X, N, Rl⟩, fun t k => ?_⟩
        cases hb : ifCond.holds cd a with
        | true => rw [hb, if_pos rfl] at k; exact XS.ifYes A hx rfl rfl hd rfl hb j1 j2 k
        | false => rw [hb, if_neg Bool.false_ne_true] at k; exact XS.ifNo A hx rfl hd rfl hb k
      · cases h
    · cases h
  · rename_i cd o
    obtain rfl : len = 3 := by simpa [lenOk] using hl
    split at h
    · rename_i b a r
      split at h
      · rename_i t ht; cases h; obtain ⟨j1, j2⟩ := jump_spec ht
        refine ⟨rfl, T, ⟨locs, X, N, Rl⟩, fun t k => ?_⟩
        cases hb : if_icmp.holds cd a b with
        | true => rw [hb, if_pos rfl] at k; exact XS.icmpYes A hx rfl rfl hd rfl hb j1 j2 k
        | false => rw [hb, if_neg Bool.false_ne_true] at k; exact XS.icmpNo A hx rfl hd rfl hb k
      · cases h
    · cases h
  · rename_i o
    obtain rfl : len = 3 := by simpa [lenOk] using hl
    split at h
    · split at h
      · rename_i t ht; cases h; obtain ⟨j1, j2⟩ := jump_spec ht
        exact ⟨rfl, T, ⟨locs, X, N, Rl⟩, fun t k => XS.ifnullYes A hx rfl rfl hd rfl j1 j2 k⟩
      · cases h
    · cases h; exact ⟨rfl, T, ⟨locs, X, N, Rl⟩, fun t k => XS.ifnullNo A hx rfl hd rfl k⟩
    · cases h
  · rename_i o
    obtain rfl : len = 3 := by simpa [lenOk] using hl
    split at h
    · split at h
      · rename_i t ht; cases h; obtain ⟨j1, j2⟩ := jump_spec ht
        exact ⟨rfl, T, ⟨locs, X, N, Rl⟩, fun t k => XT.ifnonnullYes A hx rfl rfl hd rfl j1 j2 k⟩
      · cases h
    · cases h; exact ⟨rfl, T, ⟨locs, X, N, Rl⟩, fun t k => XT.ifnonnullNo A hx rfl hd rfl k⟩
    · cases h
  · rename_i dflt low high offs
    split at h
    · split at h
      · rename_i hout; split at h
        · rename_i t ht; cases h; obtain ⟨j1, j2⟩ := jump_spec ht
          exact ⟨rfl, T, ⟨locs, X, N, Rl⟩, fun t k => XS.tswOut A hx rfl rfl hd rfl hout j1 j2 k⟩
        · cases h
      · rename_i hin; split at h
        · cases h
        · rename_i off hoff; split at h
          · rename_i t ht; cases h; obtain ⟨j1, j2⟩ := jump_spec ht
            exact ⟨rfl, T, ⟨locs, X, N, Rl⟩, fun t k => XS.tswIn A hx rfl rfl hd rfl hin hoff j1 j2 k⟩
          · cases h
    · cases h
  · rename_i idx
    obtain rfl : len = 3 := by simpa [lenOk] using hl
    split at h
    · rename_i a r; split at h
      · rename_i C k kd fin C' u hf hc
        split at h
        · rename_i hC
          cases h
          subst hC
          obtain ⟨n, d, q1, q2, rfl, q4⟩ := fieldAt_spec hf
          have Fd := ((Rl.2.2.1 _ _ hc).1 rfl).2 _ _ _ _ q2 q4
          obtain ⟨T', X', e', st'⟩ := getF X hx hZ hown (host := "") (Or.inl (hw _ q1)) Via.refl rfl Fd (g := mkF m pc (cl ρ ls) (cs ρ (.ref a :: r))) rfl rfl hd
          exact ⟨rfl, T', ⟨locs, X', N, by rw [e']; exact Rl⟩, fun t k => st' t k⟩
        · cases h
      · cases h
    · cases h
  · obtain rfl : len = 1 := by simpa [lenOk] using hl
    split at h
    · rename_i a r; split at h
      · rename_i u n hc
        cases h
        obtain ⟨cell, Ar, hs, -⟩ := (Rl.2.2.1 _ _ hc).2.1 rfl
        have hs' : cell.slots.size = n := hs
        refine ⟨rfl, T, ⟨locs, X, N, Rl⟩, fun t k => X.arraylength hx Ar.1 (State.isArrayOf_alike hZ.alike Ar.2.1) (g := mkF m pc (cl ρ ls) (cs ρ (.ref a :: r))) rfl rfl hd t ?_⟩
        rw [hs']; exact k
      · rename_i u n hc
        cases h
        obtain ⟨cell, Ar, hs, -⟩ := (Rl.2.2.1 _ _ hc).2.2.1 rfl
        have hs' : cell.slots.size = n := hs
        refine ⟨rfl, T, ⟨locs, X, N, Rl⟩, fun t k => X.arraylength hx Ar.1 (State.isArrayOf_alike hZ.alike Ar.2.1) (g := mkF m pc (cl ρ ls) (cs ρ (.ref a :: r))) rfl rfl hd t ?_⟩
        rw [hs']; exact k
      · rename_i u n hc
        cases h
        obtain ⟨cell, Ar, hs, -⟩ := (Rl.2.2.1 _ _ hc).2.2.2 rfl
        have hs' : cell.slots.size = n := hs
        refine ⟨rfl, T, ⟨locs, X, N, Rl⟩, fun t k => X.arraylength hx Ar.1 (State.isArrayOf_alike hZ.alike Ar.2.1) (g := mkF m pc (cl ρ ls) (cs ρ (.ref a :: r))) rfl rfl hd t ?_⟩
        rw [hs']; exact k
      · cases h
    · cases h
  · obtain rfl : len = 1 := by simpa [lenOk] using hl
    split at h
    · rename_i j a r; split at h
      · rename_i u n hc
        split at h
        · rename_i hj
          cases h
          obtain ⟨cell, Ar, hs, hv⟩ := (Rl.2.2.1 _ _ hc).2.1 rfl
          have hs' : cell.slots.size = n := hs
          have hj' := inb_spec hj
          have hlt : j.toNatClampNeg < n := by
            have := fun q => hj' (Or.inr q)
            omega
          exact ⟨rfl, T, ⟨locs, X, N, Rl⟩, fun t k => X.iaload hx Ar.1 (State.isArrayOf_alike hZ.alike Ar.2.1) Ar.2.2 (by rw [hs']; exact hj') (hv _ hlt) (g := mkF m pc (cl ρ ls) (cs ρ (.int j :: .ref a :: r))) rfl rfl hd t k⟩
        · cases h
      · cases h
    · cases h
  · obtain rfl : len = 1 := by simpa [lenOk] using hl
    split at h
    · rename_i j a r; split at h
      · rename_i u n hc
        split at h
        · rename_i hj
          cases h
          obtain ⟨cell, Ar, hs, hv⟩ := (Rl.2.2.1 _ _ hc).2.2.2 rfl
          have hs' : cell.slots.size = n := hs
          have hj' := inb_spec hj
          have hlt : j.toNatClampNeg < n := by
            have := fun q => hj' (Or.inr q)
            omega
          exact ⟨rfl, T, ⟨locs, X, N, Rl⟩, fun t k => X.baloadBooleans hx Ar.1 (State.isArrayOf_alike hZ.alike Ar.2.1) Ar.2.2 (by rw [hs']; exact hj') (hv _ hlt) (g := mkF m pc (cl ρ ls) (cs ρ (.int j :: .ref a :: r))) rfl rfl hd t k⟩
        · cases h
      · cases h
    · cases h
  · obtain rfl : len = 1 := by simpa [lenOk] using hl
    split at h
    · rename_i j a r; split at h
      · rename_i u n hc
        split at h
        · rename_i hj
          cases h
          obtain ⟨cell, Ar, hs, hv⟩ := (Rl.2.2.1 _ _ hc).2.2.1 rfl
          have hs' : cell.slots.size = n := hs
          have hj' := inb_spec hj
          have hlt : j.toNatClampNeg < n := by
            have := fun q => hj' (Or.inr q)
            omega
          exact ⟨rfl, T, ⟨locs, X, N, Rl⟩, fun t k => X.laload hx Ar.1 (State.isArrayOf_alike hZ.alike Ar.2.1) Ar.2.2 (by rw [hs']; exact hj') (hv _ hlt) (g := mkF m pc (cl ρ ls) (cs ρ (.int j :: .ref a :: r))) rfl rfl hd t k⟩
        · cases h
      · cases h
    · cases h
  · rename_i idx
    obtain rfl : len = 3 := by simpa [lenOk] using hl
    split at h
    · rename_i a r; split at h
      · rename_i hc
        cases h
        obtain ⟨c1, c2, c3⟩ := hc
        obtain ⟨w1, w2, w3⟩ := objInitAt_spec c1
        obtain ⟨T', X', e', stp⟩ := initO X hx hZ hown (hw _ w1) (hw _ w2) (hw _ w3) rfl (g := mkF m pc (cl ρ ls) (cs ρ (.ref a :: st'))) rfl (by simp [hsz]) rfl hd (by omega) (W := wt st') (by show 2 * 0 + ((st'.map (conc ρ)).map fun v => v.category).sum ≤ _; rw [wt_conc]; omega) (by omega)
        exact ⟨rfl, T', ⟨locs, X', N, by rw [e']; exact Rl⟩, fun t k => stp t k⟩
      · cases h
    · cases h
  · cases h
theorem execM_ext {ins : Instr} {st st' : List Value} {M M' : EMem} (h : execM W ro y ins st M = some (st', M')) : M.1.length ≤ M'.1.length ∧ szL M.1 ≤ szL M'.1 := by
  have push : ∀ (L : ELay) (x : Nat × String × Nat), L.length ≤ (L ++ [x]).length ∧ szL L ≤ szL (L ++ [x]) := fun L x => by simp [szL]
  unfold execM at h
  split at h
  · split at h
    · split at h
      · split at h
        · split at h <;> first | (cases h; exact ⟨Nat.le_refl _, Nat.le_refl _⟩) | cases h
        · cases h
      · cases h
    · cases h
  all_goals first
    | (split at h
       · split at h
         · split at h
           · cases h; exact ⟨Nat.le_refl _, Nat.le_refl _⟩
           · cases h
         · cases h
       · cases h)
    | (split at h
       · cases h; exact push _ _
       · cases h)
    | (split at h
       · split at h
         · cases h; exact push _ _
         · cases h
       · cases h)
    | cases h
theorem szL_push (L : ELay) (x : Nat × String × Nat) : szL (L ++ [x]) = szL L + x.2.2 := by simp [szL]
set_option maxRecDepth 65536 in
set_option maxHeartbeats 40000000 in
theorem execM_sound (H : Here p l e R s m args below meth c Z W ρ ro n0 L0 T M) (hx : p.tables.exec = Jvm.exec) (hZ : Z.Warmed39 s.vm) (hw : ∀ d ∈ W, d.before a0 Z = true) (hown : s.vm.findClass y.cls = some m.cls) (hnm : meth.name = y.name)
    (hρ : ∀ a b, ρ a = ρ b → a = b) (hρn : ∀ a, ro ≤ a → ρ a = n0 + (a - ro)) (hL : L0.length ≤ M.1.length) (hS : szL L0 ≤ szL M.1) (hs0 : s.heap.size = n0 + (L0.length - ro)) (hro : ro ≤ L0.length)
    {ls : List Slot} {st st' : List Value} {M' : EMem} {ins : Instr} {pc len : Nat} (hd : decode c.code pc = .ok (ins, len)) (hl : lenOk len ins = true) (hRc : M'.1.length - L0.length ≤ R.cells) (hRs : szL M'.1 - szL L0 ≤ R.slots) (h : execM W ro y ins st M = some (st', M')) :
    ∃ T', Here p l e R s m args below meth c Z W ρ ro n0 L0 T' M' ∧ ∀ target, Steps p.tables e below (T'.setTop (mkF m (pc + len) (cl ρ ls) (cs ρ st'))) target → Steps p.tables e below (T.setTop (mkF m pc (cl ρ ls) (cs ρ st))) target := by
  obtain ⟨locs, X, N, Rl⟩ := H
  obtain ⟨L, mi, ml, mr⟩ := M
  have hL' : L0.length ≤ L.length := hL
  have hS' : szL L0 ≤ szL L := hS
  have hsize : T.heap.size = n0 + (L.length - ro) := Rl.1
  have hnew : T.heap.size = ρ L.length := by rw [hρn _ (Nat.le_trans hro hL'), hsize]
  unfold execM at h
  split at h
  · rename_i idx
    obtain rfl : len = 3 := by simpa [lenOk] using hl
    split at h
    · rename_i v a r
      split at h
      · rename_i C k kd fin C' u hf hc
        split at h
        · rename_i hC
          obtain ⟨rfl, hra, hfin, hinst⟩ := hC
          obtain ⟨n, d, q1, q2, rfl, q4⟩ := fieldAt_spec hf
          obtain ⟨ni, hni⟩ := Option.isSome_iff_exists.mp hinst
          have hcell : L[a]? = some (0, C', u) := hc
          obtain ⟨Ex, Fs⟩ := (Rl.2.2.1 _ _ hc).1 rfl
          have Fd := Fs _ _ _ _ q2 q4
          have hge : n0 ≤ ρ a := by rw [hρn a hra]; omega
          have Lw : (Jvm.Cond.lays C' C' n d).before a0 Z = true ∨ ((Jvm.Cond.laysFinal C' C' n d).before a0 Z = true ∧ y.cls = C' ∧ meth.name = "<init>") := by
            have e := hw _ (List.mem_of_getElem? (layAt_spec q2))
            cases fin with
            | false => exact Or.inl e
            | true =>
              rcases hfin with z | ⟨z1, z2⟩
              · cases z
              · exact Or.inr ⟨e, z1, hnm.trans z2⟩
          split at h
          · rename_i x hk
            cases h
            obtain ⟨T', h', X', e', w, stp⟩ := putFN X hx hZ hown (hw _ q1) Via.refl rfl Fd Ex Lw (hw _ (instLk_mem hni)) (ty := .int) (v' := .int x) (kindD_1 hk) rfl rfl (g := mkF m pc (cl ρ ls) (cs ρ (.int x :: .ref a :: st'))) rfl rfl hd
            refine ⟨T', ⟨_, X', Fr.snoc X' N hge, ?_⟩, fun t k => stp t k⟩
            rw [e']
            exact Rel.write hρ w hcell (fun x hx k => up_ne hx k) (fun _ _ _ => rfl) (fun _ _ _ => rfl) (RelC.put hw q2 q4 w (by rw [hk, up_eq]; rfl) (fun j hj => up_ne' hj a) (fun _ _ => rfl) (fun _ _ => rfl)) Rl
          · rename_i x hk
            cases h
            obtain ⟨T', h', X', e', w, stp⟩ := putFN X hx hZ hown (hw _ q1) Via.refl rfl Fd Ex Lw (hw _ (instLk_mem hni)) (ty := .boolean) (v' := .int (x &&& 1)) (kindD_2 hk) rfl (fits_nar_bool x) (g := mkF m pc (cl ρ ls) (cs ρ (.int x :: .ref a :: st'))) rfl rfl hd
            refine ⟨T', ⟨_, X', Fr.snoc X' N hge, ?_⟩, fun t k => stp t k⟩
            rw [e']
            exact Rel.write hρ w hcell (fun x hx k => up_ne hx k) (fun _ _ _ => rfl) (fun _ _ _ => rfl) (RelC.put hw q2 q4 w (by rw [hk, up_eq]; rfl) (fun j hj => up_ne' hj a) (fun _ _ => rfl) (fun _ _ => rfl)) Rl
          · rename_i x hk
            cases h
            obtain ⟨T', h', X', e', w, stp⟩ := putFN X hx hZ hown (hw _ q1) Via.refl rfl Fd Ex Lw (hw _ (instLk_mem hni)) (ty := .long) (v' := .long x) (kindD_3 hk) rfl rfl (g := mkF m pc (cl ρ ls) (cs ρ (.long x :: .ref a :: st'))) rfl rfl hd
            refine ⟨T', ⟨_, X', Fr.snoc X' N hge, ?_⟩, fun t k => stp t k⟩
            rw [e']
            exact Rel.write hρ w hcell (fun _ _ _ => rfl) (fun x hx k => up_ne hx k) (fun _ _ _ => rfl) (RelC.put hw q2 q4 w (by rw [hk, up_eq]; rfl) (fun _ _ => rfl) (fun j hj => up_ne' hj a) (fun _ _ => rfl)) Rl
          · rename_i b hk
            cases h
            obtain ⟨ty, t1, t2, t3, -⟩ := kindD_4 hk
            obtain ⟨T', h', X', e', w, stp⟩ := putFN X hx hZ hown (hw _ q1) Via.refl rfl Fd Ex Lw (hw _ (instLk_mem hni)) (ty := ty) (v' := .ref (ρ b)) t1 (t2 _) (t3 _) (g := mkF m pc (cl ρ ls) (cs ρ (.ref b :: .ref a :: st'))) rfl rfl hd
            refine ⟨T', ⟨_, X', Fr.snoc X' N hge, ?_⟩, fun t k => stp t k⟩
            rw [e']
            exact Rel.write hρ w hcell (fun _ _ _ => rfl) (fun _ _ _ => rfl) (fun x hx k => up_ne hx k) (RelC.put hw q2 q4 w (by rw [hk, up_eq]; rfl) (fun _ _ => rfl) (fun _ _ => rfl) (fun j hj => up_ne' hj a)) Rl
          · cases h
        · cases h
      · cases h
    · cases h
  · obtain rfl : len = 1 := by simpa [lenOk] using hl
    split at h
    · rename_i x j a r
      split at h
      · rename_i u n hc
        split at h
        · rename_i hj
          obtain ⟨hj, hra⟩ := hj
          cases h
          have hcell : L[a]? = some (_, u, n) := hc
          obtain ⟨cell, Ar, hs, hv⟩ := (Rl.2.2.1 _ _ hc).2.1 rfl
          have hs' : cell.slots.size = n := hs
          have hge : n0 ≤ ρ a := by rw [hρn a hra]; omega
          obtain ⟨T', h', X', e', w, stp⟩ := stI X hx hZ rfl Ar (by rw [hs']; exact inb_spec hj) (g := mkF m pc (cl ρ ls) (cs ρ (.int x :: .int j :: .ref a :: st'))) rfl rfl hd
          refine ⟨T', ⟨_, X', Fr.snoc X' N hge, ?_⟩, fun t k => stp t k⟩
          rw [e']
          exact Rel.write hρ w hcell (fun x hx k => up_ne hx k) (fun _ _ _ => rfl) (fun _ _ _ => rfl) (RelC.st1 w) Rl
        · cases h
      · cases h
    · cases h
  · obtain rfl : len = 1 := by simpa [lenOk] using hl
    split at h
    · rename_i x j a r
      split at h
      · rename_i u n hc
        split at h
        · rename_i hj
          obtain ⟨hj, hra⟩ := hj
          cases h
          have hcell : L[a]? = some (_, u, n) := hc
          obtain ⟨cell, Ar, hs, hv⟩ := (Rl.2.2.1 _ _ hc).2.2.2 rfl
          have hs' : cell.slots.size = n := hs
          have hge : n0 ≤ ρ a := by rw [hρn a hra]; omega
          obtain ⟨T', h', X', e', w, stp⟩ := stZ X hx hZ rfl Ar (by rw [hs']; exact inb_spec hj) (g := mkF m pc (cl ρ ls) (cs ρ (.int x :: .int j :: .ref a :: st'))) rfl rfl hd
          refine ⟨T', ⟨_, X', Fr.snoc X' N hge, ?_⟩, fun t k => stp t k⟩
          rw [e']
          exact Rel.write hρ w hcell (fun x hx k => up_ne hx k) (fun _ _ _ => rfl) (fun _ _ _ => rfl) (RelC.st3 w) Rl
        · cases h
      · cases h
    · cases h
  · obtain rfl : len = 1 := by simpa [lenOk] using hl
    split at h
    · rename_i x j a r
      split at h
      · rename_i u n hc
        split at h
        · rename_i hj
          obtain ⟨hj, hra⟩ := hj
          cases h
          have hcell : L[a]? = some (_, u, n) := hc
          obtain ⟨cell, Ar, hs, hv⟩ := (Rl.2.2.1 _ _ hc).2.2.1 rfl
          have hs' : cell.slots.size = n := hs
          have hge : n0 ≤ ρ a := by rw [hρn a hra]; omega
          obtain ⟨T', h', X', e', w, stp⟩ := stJ X hx hZ rfl Ar (by rw [hs']; exact inb_spec hj) (g := mkF m pc (cl ρ ls) (cs ρ (.long x :: .int j :: .ref a :: st'))) rfl rfl hd
          refine ⟨T', ⟨_, X', Fr.snoc X' N hge, ?_⟩, fun t k => stp t k⟩
          rw [e']
          exact Rel.write hρ w hcell (fun _ _ _ => rfl) (fun x hx k => up_ne hx k) (fun _ _ _ => rfl) (RelC.st2 w) Rl
        · cases h
      · cases h
    · cases h
  · rename_i idx
    obtain rfl : len = 3 := by simpa [lenOk] using hl
    split at h
    · rename_i C n hn
      cases h
      obtain ⟨w1, w2, w3⟩ : Jvm.Cond.classLink y.cls idx C ∈ W ∧ Jvm.Cond.instantiable C n ∈ W ∧ Jvm.Cond.initialized C ∈ W := by
        unfold newAt at hn
        split at hn
        · cases hn
        · rename_i C' h1
          split at hn
          · cases hn
          · rename_i n' h2
            split at hn
            · rename_i h3
              cases hn
              exact ⟨classLk_mem h1, instLk_mem h2, hasInit_mem h3⟩
            · cases hn
      have c1 : (L ++ [((0 : Nat), C, n)]).length - L0.length = L.length - L0.length + 1 := by rw [List.length_append]; simp; omega
      have c2 : szL (L ++ [((0 : Nat), C, n)]) - szL L0 = szL L - szL L0 + n := by rw [szL_push]; simp only; omega
      have hRc' : (L ++ [((0 : Nat), C, n)]).length - L0.length ≤ R.cells := hRc
      have hRs' : szL (L ++ [((0 : Nat), C, n)]) - szL L0 ≤ R.slots := hRs
      obtain ⟨T', h', X', e', E, Ex, D, -, st'⟩ := newO X hx hZ hown (hw _ w1) (hw _ w2) (hw _ w3) rfl (g := mkF m pc (cl ρ ls) (cs ρ st)) rfl hd (by show L.length - L0.length + 1 ≤ _; omega) (by show szL L - szL L0 + n ≤ _; omega)
      have hup : T'.heap.size ≤ s.heap.size + (L.length - L0.length + 1) := X'.heapSize
      have hlo : T.heap.size < h'.size := Ex.lt
      refine ⟨T', ⟨locs, by rw [← c1, ← c2] at X'; exact X', N, ?_⟩, fun t k => st' t ?_⟩
      · rw [e']
        rw [e'] at hup
        refine Rel.push E (by omega) ⟨fun _ => ⟨by rw [← hnew]; exact Ex, fun nm k d fin q1 q2 => ?_⟩, fun q => (by cases q), fun q => (by cases q), fun q => (by cases q)⟩ Rl
        obtain ⟨z1, z2, z3⟩ := Rl.2.2.2 L.length (Nat.le_refl _) k
        have z1' : mi L.length k = 0 := z1
        have z2' : ml L.length k = 0 := z2
        have z3' : mr L.length k = .null := z3
        dsimp only
        rw [z1', z2', z3', ← hnew]
        have Lw := layAt_laid hw q1
        rcases kindD_lt d with z | z | z | z | z
        · exact absurd z q2
        · rw [z]; exact D Lw (kindD_1 z)
        · rw [z]; exact D Lw (kindD_2 z)
        · rw [z]; exact D Lw (kindD_3 z)
        · obtain ⟨ty, t1, -, -, t4⟩ := kindD_4 z
          have q := D Lw t1
          rw [t4] at q
          rw [z]; exact q
      · rw [hnew]; exact k
    · cases h
  · obtain rfl : len = 2 := by simpa [lenOk] using hl
    split at h
    · rename_i n r
      split at h
      · rename_i hc
        obtain ⟨hn, hb, ha⟩ := hc
        cases h
        have c1 : (L ++ [((1 : Nat), "", n.toNatClampNeg)]).length - L0.length = L.length - L0.length + 1 := by rw [List.length_append]; simp; omega
        have c2 : szL (L ++ [((1 : Nat), "", n.toNatClampNeg)]) - szL L0 = szL L - szL L0 + n.toNatClampNeg := by rw [szL_push]; simp only; omega
        have hRc' : (L ++ [((1 : Nat), "", n.toNatClampNeg)]).length - L0.length ≤ R.cells := hRc
        have hRs' : szL (L ++ [((1 : Nat), "", n.toNatClampNeg)]) - szL L0 ≤ R.slots := hRs
        obtain ⟨T', h', cA, X', e', E, Ar, st'⟩ := newP X hx hZ (aty := .int) (hw _ (hasArr_mem ha)) rfl (g := mkF m pc (cl ρ ls) (cs ρ (.int n :: r))) rfl hd rfl hn (cap := n.toNatClampNeg) (Nat.le_refl _) hb (by show L.length - L0.length + 1 ≤ _; omega) (by show szL L - szL L0 + n.toNatClampNeg ≤ _; omega)
        have hup : T'.heap.size ≤ s.heap.size + (L.length - L0.length + 1) := X'.heapSize
        have hlo : T.heap.size < h'.size := Ar.lt
        refine ⟨T', ⟨locs, by rw [← c1, ← c2] at X'; exact X', N, ?_⟩, fun t k => st' t ?_⟩
        · rw [e']
          rw [e'] at hup
          refine Rel.push E (by omega) ⟨fun q => (by cases q), fun _ => ?_, fun q => (by cases q), fun q => (by cases q)⟩ Rl
          refine ⟨_, by rw [← hnew]; exact Ar, sz_new _ _ _, fun k hk => ?_⟩
          have hk' : k < n.toNatClampNeg := hk
          have z1 : mi L.length k = 0 := (Rl.2.2.2 L.length (Nat.le_refl _) k).1
          dsimp only
          rw [z1]
          simp [newA, hk']
          rfl
        · rw [hnew]; exact k
      · cases h
    · cases h
  · obtain rfl : len = 2 := by simpa [lenOk] using hl
    split at h
    · rename_i n r
      split at h
      · rename_i hc
        obtain ⟨hn, hb, ha⟩ := hc
        cases h
        have c1 : (L ++ [((2 : Nat), "", n.toNatClampNeg)]).length - L0.length = L.length - L0.length + 1 := by rw [List.length_append]; simp; omega
        have c2 : szL (L ++ [((2 : Nat), "", n.toNatClampNeg)]) - szL L0 = szL L - szL L0 + n.toNatClampNeg := by rw [szL_push]; simp only; omega
        have hRc' : (L ++ [((2 : Nat), "", n.toNatClampNeg)]).length - L0.length ≤ R.cells := hRc
        have hRs' : szL (L ++ [((2 : Nat), "", n.toNatClampNeg)]) - szL L0 ≤ R.slots := hRs
        obtain ⟨T', h', cA, X', e', E, Ar, st'⟩ := newP X hx hZ (aty := .long) (hw _ (hasArr_mem ha)) rfl (g := mkF m pc (cl ρ ls) (cs ρ (.int n :: r))) rfl hd rfl hn (cap := n.toNatClampNeg) (Nat.le_refl _) hb (by show L.length - L0.length + 1 ≤ _; omega) (by show szL L - szL L0 + n.toNatClampNeg ≤ _; omega)
        have hup : T'.heap.size ≤ s.heap.size + (L.length - L0.length + 1) := X'.heapSize
        have hlo : T.heap.size < h'.size := Ar.lt
        refine ⟨T', ⟨locs, by rw [← c1, ← c2] at X'; exact X', N, ?_⟩, fun t k => st' t ?_⟩
        · rw [e']
          rw [e'] at hup
          refine Rel.push E (by omega) ⟨fun q => (by cases q), fun q => (by cases q), fun _ => ?_, fun q => (by cases q)⟩ Rl
          refine ⟨_, by rw [← hnew]; exact Ar, sz_new _ _ _, fun k hk => ?_⟩
          have hk' : k < n.toNatClampNeg := hk
          have z1 : ml L.length k = 0 := (Rl.2.2.2 L.length (Nat.le_refl _) k).2.1
          dsimp only
          rw [z1]
          simp [newA, hk']
          rfl
        · rw [hnew]; exact k
      · cases h
    · cases h
  · obtain rfl : len = 2 := by simpa [lenOk] using hl
    split at h
    · rename_i n r
      split at h
      · rename_i hc
        obtain ⟨hn, hb, ha⟩ := hc
        cases h
        have c1 : (L ++ [((3 : Nat), "", n.toNatClampNeg)]).length - L0.length = L.length - L0.length + 1 := by rw [List.length_append]; simp; omega
        have c2 : szL (L ++ [((3 : Nat), "", n.toNatClampNeg)]) - szL L0 = szL L - szL L0 + n.toNatClampNeg := by rw [szL_push]; simp only; omega
        have hRc' : (L ++ [((3 : Nat), "", n.toNatClampNeg)]).length - L0.length ≤ R.cells := hRc
        have hRs' : szL (L ++ [((3 : Nat), "", n.toNatClampNeg)]) - szL L0 ≤ R.slots := hRs
        obtain ⟨T', h', cA, X', e', E, Ar, st'⟩ := newP X hx hZ (aty := .boolean) (hw _ (hasArr_mem ha)) rfl (g := mkF m pc (cl ρ ls) (cs ρ (.int n :: r))) rfl hd rfl hn (cap := n.toNatClampNeg) (Nat.le_refl _) hb (by show L.length - L0.length + 1 ≤ _; omega) (by show szL L - szL L0 + n.toNatClampNeg ≤ _; omega)
        have hup : T'.heap.size ≤ s.heap.size + (L.length - L0.length + 1) := X'.heapSize
        have hlo : T.heap.size < h'.size := Ar.lt
        refine ⟨T', ⟨locs, by rw [← c1, ← c2] at X'; exact X', N, ?_⟩, fun t k => st' t ?_⟩
        · rw [e']
          rw [e'] at hup
          refine Rel.push E (by omega) ⟨fun q => (by cases q), fun q => (by cases q), fun q => (by cases q), fun _ => ?_⟩ Rl
          refine ⟨_, by rw [← hnew]; exact Ar, sz_new _ _ _, fun k hk => ?_⟩
          have hk' : k < n.toNatClampNeg := hk
          have z1 : mi L.length k = 0 := (Rl.2.2.2 L.length (Nat.le_refl _) k).1
          dsimp only
          rw [z1]
          simp [newA, hk']
          rfl
        · rw [hnew]; exact k
      · cases h
    · cases h
  · cases h
end S
end Jvm.OwnEv
namespace Jvm.OwnEv
open Sem ClassFile Op Lib Jvm.Stand Jvm.Free Jvm.LawKit Jvm.RoadKit
/-! PART 5: what the evaluator answers, the model does -/
theorem run_ext {W : List Jvm.Cond} {ro : Nat} : ∀ (n : Nat) {F Lb : Nat} {y : MethodName} {code : ByteArray} {ret : Option FieldType} {pc : Nat} {ls : List Slot} {st : List Value} {M M' : EMem} {v : Option Value},
    run W ro n F Lb y code ret pc ls st M = some (v, M') → M.1.length ≤ M'.1.length ∧ szL M.1 ≤ szL M'.1
  | 0, _, _, _, _, _, _, _, _, _, _, _, h => by simp [run] at h
  | n + 1, F, Lb, y, code, ret, pc, ls, st, M, M', v, h => by
    unfold run at h
    split at h
    · split at h
      · exact run_ext n h
      · split at h
        · rename_i he
          split at he
          · have q1 := execM_ext he
            have q2 := run_ext n h
            exact ⟨Nat.le_trans q1.1 q2.1, Nat.le_trans q1.2 q2.2⟩
          · cases he
        · split at h
          · cases h; exact ⟨Nat.le_refl _, Nat.le_refl _⟩
          · split at h
            · split at h
              · split at h
                · rename_i hr
                  have q1 := run_ext n hr
                  have q2 := run_ext n h
                  exact ⟨Nat.le_trans q1.1 q2.1, Nat.le_trans q1.2 q2.2⟩
                · cases h
              · cases h
            · cases h
    · cases h
theorem callAt_spec {W : List Jvm.Cond} {own : String} {idx kd : Nat} {z : MethodName} {na : Nat} {b : ByteArray} {mx : Nat} {r : Option FieldType} (h : callAt W own idx kd = some (z, na, b, mx, r)) :
    Jvm.Cond.methodLink own idx z ∈ W ∧ Jvm.Cond.code z b mx r ∈ W ∧ Jvm.Cond.initialized z.cls ∈ W ∧ plainName z.cls = true ∧ (z.cls ≠ "java/lang/invoke/MethodHandle" ∧ z.cls ≠ "java/lang/invoke/VarHandle") ∧ (∀ sig, parseMethodDescriptor z.desc = some sig → na = sig.parameters.length) ∧
    ((kd = 0 ∧ hasDecl z W = true ∧ hasSel z W = true ∧ hasInst z W = true) ∨ (kd = 1 ∧ hasPriv z W = true ∧ hasInst z W = true ∧ (instLk z.cls W).isSome = true) ∨ (kd = 2 ∧ z.name = "<init>" ∧ hasInst z W = true ∧ r = none) ∨ (kd = 3 ∧ hasStat z W = true)) := by
  unfold callAt at h
  split at h
  · cases h
  · rename_i z' h1
    split at h
    · rename_i b' n' r' sig h2 h3
      split at h
      · rename_i hc
        cases h
        obtain ⟨c2, c3, c4, c5, c6⟩ := hc
        exact ⟨methodLk_mem h1, codeLk_mem h2, hasInit_mem c2, c3, ⟨c4, c5⟩, fun sig' q => by rw [h3] at q; cases q; rfl, c6⟩
      · cases h
    · cases h
section S
variable {l : Launch} {Z : State} {a0 : Array Value} {W : List Jvm.Cond} {ρ : Nat → Addr} {ro n0 : Nat}
/-- what a run of n steps promises -/
def Good (l : Launch) (Z : State) (W : List Jvm.Cond) (ρ : Nat → Addr) (ro n0 : Nat) (n : Nat) : Prop :=
  ∀ ⦃F Lb : Nat⦄ ⦃y : MethodName⦄ ⦃code : ByteArray⦄ ⦃ret : Option FieldType⦄ ⦃pc : Nat⦄ ⦃ls : List Slot⦄ ⦃st : List Value⦄ ⦃M M' : EMem⦄ ⦃v : Option Value⦄, run W ro n F Lb y code ret pc ls st M = some (v, M') →
    ∀ ⦃p : Program⦄ ⦃e : Env⦄ ⦃R : Room⦄ ⦃s : State⦄ ⦃m : MethodId⦄ ⦃args : Array Value⦄ ⦃below : List Frame⦄ ⦃meth : Method⦄ ⦃c : Code⦄ ⦃L0 : ELay⦄ ⦃T : State⦄, p.tables.exec = Jvm.exec → Z.Warmed39 s.vm → s.vm.findClass y.cls = some m.cls → meth.name = y.name → c.code = code → meth.sig.returnType = ret → meth.locks = false → ls.length = c.maxLocals →
      F ≤ R.frames → Lb ≤ R.locals → M'.1.length - L0.length ≤ R.cells → szL M'.1 - szL L0 ≤ R.slots → L0.length ≤ M.1.length → szL L0 ≤ szL M.1 → s.heap.size = n0 + (L0.length - ro) → ro ≤ L0.length → Here p l e R s m args below meth c Z W ρ ro n0 L0 T M →
      ∃ (s₂ : State) (L : List Loc), Steps p.tables e below (T.setTop (mkF m pc (cl ρ ls) (cs ρ st))) s₂ ∧ s₂.status = .running ∧ Ended s₂ below (.returned (v.map (conc ρ))) ∧ Rel Z W ρ ro n0 s₂.heap M' ∧ Fr n0 L ∧ s.WarmedH s₂.vm ∧
        s.sameButNew ({ s₂ with vm := s.vm } : State) L (M'.1.length - L0.length) (szL M'.1 - szL L0)
theorem met_of {n : Nat} (G : Good l Z W ρ ro n0 n) {F Lb : Nat} {z : MethodName} {b : ByteArray} {r : Option FieldType} {as : List Value} {mx : Nat} {M M' : EMem} {v : Option Value} (h : run W ro n F Lb z b r 0 (entryL as mx) [] M = some (v, M'))
    (hfl : (fillL as).length ≤ mx) (hp : plainName z.cls = true) {h0 : Heap} (Rl : Rel Z W ρ ro n0 h0 M) {R : Room} (hF : F ≤ R.frames) (hLb : Lb ≤ R.locals) (hRc : M'.1.length - M.1.length ≤ R.cells) (hRs : szL M'.1 - szL M.1 ≤ R.slots) (ws : List Jvm.Cond) :
    MetFree l z (head1 (Jvm.Cond.code z b mx r :: ws) R) (fun a U => a = (as.map (conc ρ)).toArray ∧ Z.Warmed39 U.vm ∧ U.heap = h0) (fun _ _ _ _ _ => True)
      (fun _ U o U' => ∃ v' L, o = .returned v' ∧ (v' = v.map (conc ρ) ∧ Rel Z W ρ ro n0 U'.heap M' ∧ Fr n0 L) ∧ FrameEnd U o U' L (M'.1.length - M.1.length) (szL M'.1 - szL M.1)) := by
  refine MetFree.of_bodySF (plainFor_of_name hp) hisR ?_
  intro p e s m args below meth c s₁ Bd hml0 hP hK
  obtain ⟨rfl, hZ, hh⟩ := hP
  have hown : s.vm.findClass z.cls = some m.cls := findClass_of_methodNamed Bd.named
  have hnm := (name_of_methodNamed Bd.named Bd.method).1
  have X0 : Stand p l e R s m (as.map (conc ρ)).toArray below meth c s₁ [] 0 0 := Stand.of_body Bd
  have e0 : s₁.heap = h0 := by rw [← hh, Bd.state]; rfl
  have hH : Here p l e R s m (as.map (conc ρ)).toArray below meth c Z W ρ ro n0 M.1 s₁ M := ⟨[], by rw [Nat.sub_self, Nat.sub_self]; exact X0, Fr.nil n0, by rw [e0]; exact Rl⟩
  obtain ⟨s₂, L, q1, q2, q3, q4, q5, q6, q7⟩ := G h (p := p) (e := e) (R := R) (s := s) (m := m) (below := below) (L0 := M.1) (T := s₁) Bd.exec hZ hown hnm Bd.bytes Bd.returns Bd.notSynchronized (by rw [entryL_len hfl, hml0]) hF hLb hRc hRs (Nat.le_refl _) (Nat.le_refl _) (by rw [hh]; exact Rl.1) Rl.2.1 hH
  refine ⟨s₂, _, castTop ?_ q1, q2, q3, _, L, rfl, ⟨rfl, q4, q5⟩, ⟨_, rfl⟩, q6, q7⟩
  show ({ method := m, pc := 0, locals := argsToLocals (as.map (conc ρ)).toArray mx, stack := [], locked := none } : JFrame) = _
  rw [args_conc]
  rfl
theorem toL_conc (v : Option Value) (rest : List Value) : (v.map (conc ρ)).toList ++ cs ρ rest = cs ρ (v.toList ++ rest) := by cases v <;> simp
theorem split_st {st rest : List Value} {na : Nat} {x : Value} (h : st.drop na = x :: rest) : cs ρ st = ((st.take na).reverse.map (conc ρ)).reverse ++ conc ρ x :: cs ρ rest := by
  have e : st = st.take na ++ (x :: rest) := by rw [← h]; exact (List.take_append_drop na st).symm
  rw [← List.map_reverse, List.reverse_reverse]
  conv => lhs; rw [e]
  simp [cs]
theorem split_st0 {st : List Value} {na : Nat} : cs ρ st = ((st.take na).reverse.map (conc ρ)).reverse ++ cs ρ (st.drop na) := by
  rw [← List.map_reverse, List.reverse_reverse]
  conv => lhs; rw [← List.take_append_drop na st]
  simp [cs]
set_option maxRecDepth 65536 in
set_option maxHeartbeats 40000000 in
/-- a call by the callee's own run -/
theorem call_sound {n : Nat} (G : Good l Z W ρ ro n0 n) (hw : ∀ d ∈ W, d.before a0 Z = true) {p : Program} {e : Env} {R : Room} {s : State} {m : MethodId} {args : Array Value} {below : List Frame} {meth : Method} {c : Code} {L0 : ELay} {T : State} {M M' : EMem} {y : MethodName}
    (H : Here p l e R s m args below meth c Z W ρ ro n0 L0 T M) (hx : p.tables.exec = Jvm.exec) (hZ : Z.Warmed39 s.vm) (hown : s.vm.findClass y.cls = some m.cls) {F Lb : Nat} (hF : F ≤ R.frames) (hLb : Lb ≤ R.locals)
    {ls : List Slot} {st : List Value} {ins : Instr} {pc len : Nat} (hsz : ls.length = c.maxLocals) (hd : decode c.code pc = .ok (ins, len)) {z : MethodName} {as rest : List Value} {b : ByteArray} {mx : Nat} {r : Option FieldType} {v : Option Value}
    (hc : callOf W y ins len st M = some (z, as, rest, b, mx, r)) (h1 : 1 ≤ F) (h2 : wt rest + (mx + 11) ≤ Lb) (h3 : (fillL as).length ≤ mx) (hr : run W ro n (F - 1) (Lb - (wt rest + (mx + 11))) z b r 0 (entryL as mx) [] M = some (v, M'))
    (hL : L0.length ≤ M.1.length) (hS : szL L0 ≤ szL M.1) (hRc : M'.1.length - L0.length ≤ R.cells) (hRs : szL M'.1 - szL L0 ≤ R.slots) :
    ∃ T', Here p l e R s m args below meth c Z W ρ ro n0 L0 T' M' ∧ Steps p.tables e below (T.setTop (mkF m pc (cl ρ ls) (cs ρ st))) (T'.setTop (mkF m (pc + 3) (cl ρ ls) (cs ρ (v.toList ++ rest)))) := by
  obtain ⟨locs, X, N, Rl⟩ := H
  have hext := run_ext n hr
  have hsize : (mkF m pc (cl ρ ls) (cs ρ st)).locals.size = c.maxLocals := by simp [hsz]
  have hW : ∀ q : List Value, q = rest → 2 * (mkF m pc (cl ρ ls) (cs ρ st)).monitorRoom + ((cs ρ q).map fun v => v.category).sum ≤ wt rest := fun q e => by
    subst e
    show 2 * 0 + ((q.map (conc ρ)).map fun v => v.category).sum ≤ _
    rw [wt_conc]; omega
  unfold callOf at hc
  split at hc
  · rename_i hlen
    subst hlen
    split at hc
    · rename_i idx
      split at hc
      · rename_i z' na b' n' r' hca
        split at hc
        · rename_i a rest' hdrop
          split at hc
          · rename_i C u hcell
            split at hc
            · rename_i hcond
              cases hc
              obtain ⟨rfl, hna⟩ := hcond
              obtain ⟨k1, k2, k3, k4, k5, k6, k7⟩ := callAt_spec hca
              rcases k7 with ⟨q, -⟩ | ⟨-, g1, g2, g3⟩ | ⟨q, -⟩ | ⟨q, -⟩
              · cases q
              · obtain ⟨ni, hni⟩ := Option.isSome_iff_exists.mp g3
                have E := ((Rl.2.2.1 _ _ hcell).1 rfl).1
                obtain ⟨cq, q1, q2⟩ := E.cell
                have hpriv : s.PrivateAt z := Cond.privateMethod_at (mvP hZ (hw _ (hasPriv_mem g1)) (args := #[]))
                obtain ⟨ci, ki, i1, i2, i3, i4, -⟩ := Cond.instantiable_spec (mvT (args := args) hZ (hw _ (instLk_mem hni)))
                have hsel : (Jvm.Cond.selects z.cls z z).before args s = true := selects_self_of_private i1 i2 (by simp only [Bool.or_eq_false_iff] at i4; exact i4.1) hpriv (mvT hZ (hw _ (hasInst_mem g2))) k5
                have back := backOf (R := R) (p := p) (e := e) (below := below) (s := s) (args := args) (len := 3) (W := wt rest) (rm := { frames := F - 1, cells := M'.1.length - M.1.length, slots := szL M'.1 - szL M.1, locals := Lb - (wt rest + (mx + 11)) }) (Q := fun v' h' L => v' = v.map (conc ρ) ∧ Rel Z W ρ ro n0 h' M' ∧ Fr n0 L) (met_of G hr h3 k4 Rl (R := { frames := F - 1, cells := M'.1.length - M.1.length, slots := szL M'.1 - szL M.1, locals := Lb - (wt rest + (mx + 11)) }) (Nat.le_refl _) (Nat.le_refl _) (Nat.le_refl _) (Nat.le_refl _) []) hZ (hw _ k2) (hw _ k3) (by show F - 1 + 1 ≤ _; omega) (by show wt rest + (mx + 11) + (Lb - (wt rest + (mx + 11))) ≤ _; omega)
                obtain ⟨v', vm₁, ⟨T', Lq, cq', nq⟩, hW₁, X', ⟨L', ⟨rfl, hR', hN'⟩, l', y', z'⟩, st'⟩ := X.privateBack hx (y := z) hown (mvT hZ (hw _ k1)) (mvT hZ (hw _ (hasInst_mem g2))) hsel hpriv (mvT hZ (hw _ k2)) k5 back (g := mkF m pc (cl ρ ls) (cs ρ st)) rfl hsize (Steps.refl _) (a := ρ a) q1 q2 (argsL := (st.take na).reverse.map (conc ρ)) (rest := cs ρ rest)
                  (fun sig hs => by rw [← k6 sig hs]; simpa using hna) (split_st hdrop) (hW _ rfl) hd (fun _ _ => ⟨by simp [conc], rfl, by show M.1.length - L0.length + (M'.1.length - M.1.length) ≤ _; omega, by show szL M.1 - szL L0 + (szL M'.1 - szL M.1) ≤ _; omega⟩)
                dsimp only [Pt.U, Pt.locs, Pt.cells, Pt.slots] at X' l' y' z' st' hR'
                subst l' y' z'
                refine ⟨T', ⟨_, ?_, Fr.app N hN', hR'⟩, ?_⟩
                · have c1 : M'.1.length - L0.length = M.1.length - L0.length + (M'.1.length - M.1.length) := by omega
                  have c2 : szL M'.1 - szL L0 = szL M.1 - szL L0 + (szL M'.1 - szL M.1) := by omega
                  rw [c1, c2]; exact X'
                · rw [← toL_conc]; exact st'
              · cases q
              · cases q
            · cases hc
          · cases hc
        · cases hc
      · split at hc
        · rename_i z' na b' n' r' hca
          split at hc
          · rename_i a rest' hdrop
            split at hc
            · rename_i C u hcell
              split at hc
              · rename_i hcond
                cases hc
                obtain ⟨rfl, hna⟩ := hcond
                obtain ⟨k1, k2, k3, k4, k5, k6, k7⟩ := callAt_spec hca
                rcases k7 with ⟨-, g1, g2, g3⟩ | ⟨q, -⟩ | ⟨q, -⟩ | ⟨q, -⟩
                · have E := ((Rl.2.2.1 _ _ hcell).1 rfl).1
                  obtain ⟨cB, kB, q1, q2, q3⟩ := isOf (T := T) hZ rfl E
                  have back := backOf (R := R) (p := p) (e := e) (below := below) (s := s) (args := args) (len := 3) (W := wt rest) (rm := { frames := F - 1, cells := M'.1.length - M.1.length, slots := szL M'.1 - szL M.1, locals := Lb - (wt rest + (mx + 11)) }) (Q := fun v' h' L => v' = v.map (conc ρ) ∧ Rel Z W ρ ro n0 h' M' ∧ Fr n0 L) (met_of G hr h3 k4 Rl (R := { frames := F - 1, cells := M'.1.length - M.1.length, slots := szL M'.1 - szL M.1, locals := Lb - (wt rest + (mx + 11)) }) (Nat.le_refl _) (Nat.le_refl _) (Nat.le_refl _) (Nat.le_refl _) []) hZ (hw _ k2) (hw _ k3) (by show F - 1 + 1 ≤ _; omega) (by show wt rest + (mx + 11) + (Lb - (wt rest + (mx + 11))) ≤ _; omega)
                  have hsel : (Jvm.Cond.selects z.cls z z).before args s = true := mvT hZ (hw _ (hasSel_mem g2))
                  obtain ⟨v', vm₁, ⟨T', Lq, cq', nq⟩, hW₁, X', ⟨L', ⟨rfl, hR', hN'⟩, l', y', z'⟩, st'⟩ := X.virtualBack hx (y := z) (z := z) hown (mvT hZ (hw _ k1)) (mvT hZ (hw _ (hasDecl_mem g1))) (notFace_of_selects hsel) hsel (mvT hZ (hw _ (hasInst_mem g3))) k5 back q1 q3 (g := mkF m pc (cl ρ ls) (cs ρ st)) rfl hsize (Steps.refl _) (argsL := (st.take na).reverse.map (conc ρ)) (rest := cs ρ rest)
                    (fun sig hs => by rw [← k6 sig hs]; simpa using hna) (split_st hdrop) (hW _ rfl) hd (fun _ _ => ⟨by simp [conc], rfl, by show M.1.length - L0.length + (M'.1.length - M.1.length) ≤ _; omega, by show szL M.1 - szL L0 + (szL M'.1 - szL M.1) ≤ _; omega⟩)
                  dsimp only [Pt.U, Pt.locs, Pt.cells, Pt.slots] at X' l' y' z' st' hR'
                  subst l' y' z'
                  refine ⟨T', ⟨_, ?_, Fr.app N hN', hR'⟩, ?_⟩
                  · have c1 : M'.1.length - L0.length = M.1.length - L0.length + (M'.1.length - M.1.length) := by omega
                    have c2 : szL M'.1 - szL L0 = szL M.1 - szL L0 + (szL M'.1 - szL M.1) := by omega
                    rw [c1, c2]; exact X'
                  · rw [← toL_conc]; exact st'
                · cases q
                · cases q
                · cases q
              · cases hc
            · cases hc
          · cases hc
        · cases hc
    · rename_i idx
      split at hc
      · rename_i z' na b' n' r' hca
        split at hc
        · rename_i a rest' hdrop
          split at hc
          · rename_i hna
            cases hc
            obtain ⟨k1, k2, k3, k4, k5, k6, k7⟩ := callAt_spec hca
            rcases k7 with ⟨q, -⟩ | ⟨q, -⟩ | ⟨-, g1, g2, g3⟩ | ⟨q, -⟩
            · cases q
            · cases q
            · subst g3
              have back := backOf (R := R) (p := p) (e := e) (below := below) (s := s) (args := args) (len := 3) (W := wt rest) (rm := { frames := F - 1, cells := M'.1.length - M.1.length, slots := szL M'.1 - szL M.1, locals := Lb - (wt rest + (mx + 11)) }) (Q := fun v' h' L => v' = v.map (conc ρ) ∧ Rel Z W ρ ro n0 h' M' ∧ Fr n0 L) (met_of G hr h3 k4 Rl (R := { frames := F - 1, cells := M'.1.length - M.1.length, slots := szL M'.1 - szL M.1, locals := Lb - (wt rest + (mx + 11)) }) (Nat.le_refl _) (Nat.le_refl _) (Nat.le_refl _) (Nat.le_refl _) []) hZ (hw _ k2) (hw _ k3) (by show F - 1 + 1 ≤ _; omega) (by show wt rest + (mx + 11) + (Lb - (wt rest + (mx + 11))) ≤ _; omega)
              obtain ⟨v', vm₁, ⟨T', Lq, cq', nq⟩, hW₁, X', ⟨L', ⟨rfl, hR', hN'⟩, l', y', z'⟩, st'⟩ := X.specialBack hx (y := z) g1 hown (mvT hZ (hw _ k1)) (mvT hZ (hw _ (hasInst_mem g2))) (mvT hZ (hw _ k2)) k5 back (g := mkF m pc (cl ρ ls) (cs ρ st)) rfl hsize (Steps.refl _) (a := ρ a) (argsL := (st.take na).reverse.map (conc ρ)) (rest := cs ρ rest)
                (fun sig hs => by rw [← k6 sig hs]; simpa using hna) (split_st hdrop) (hW _ rfl) hd (fun _ _ => ⟨by simp [conc], rfl, by show M.1.length - L0.length + (M'.1.length - M.1.length) ≤ _; omega, by show szL M.1 - szL L0 + (szL M'.1 - szL M.1) ≤ _; omega⟩)
              dsimp only [Pt.U, Pt.locs, Pt.cells, Pt.slots] at X' l' y' z' st' hR'
              subst l' y' z'
              refine ⟨T', ⟨_, ?_, Fr.app N hN', hR'⟩, ?_⟩
              · have c1 : M'.1.length - L0.length = M.1.length - L0.length + (M'.1.length - M.1.length) := by omega
                have c2 : szL M'.1 - szL L0 = szL M.1 - szL L0 + (szL M'.1 - szL M.1) := by omega
                rw [c1, c2]; exact X'
              · rw [← toL_conc]; exact st'
            · cases q
          · cases hc
        · cases hc
      · cases hc
    · rename_i idx
      split at hc
      · rename_i z' na b' n' r' hca
        split at hc
        · rename_i hna
          cases hc
          obtain ⟨k1, k2, k3, k4, k5, k6, k7⟩ := callAt_spec hca
          rcases k7 with ⟨q, -⟩ | ⟨q, -⟩ | ⟨q, -⟩ | ⟨-, g1⟩
          · cases q
          · cases q
          · cases q
          · have back := backOf (R := R) (p := p) (e := e) (below := below) (s := s) (args := args) (len := 3) (W := wt (st.drop na)) (rm := { frames := F - 1, cells := M'.1.length - M.1.length, slots := szL M'.1 - szL M.1, locals := Lb - (wt (st.drop na) + (mx + 11)) }) (Q := fun v' h' L => v' = v.map (conc ρ) ∧ Rel Z W ρ ro n0 h' M' ∧ Fr n0 L) (met_of G hr h3 k4 Rl (R := { frames := F - 1, cells := M'.1.length - M.1.length, slots := szL M'.1 - szL M.1, locals := Lb - (wt (st.drop na) + (mx + 11)) }) (Nat.le_refl _) (Nat.le_refl _) (Nat.le_refl _) (Nat.le_refl _) []) hZ (hw _ k2) (hw _ k3) (by show F - 1 + 1 ≤ _; omega) (by show wt (st.drop na) + (mx + 11) + (Lb - (wt (st.drop na) + (mx + 11))) ≤ _; omega)
            obtain ⟨v', vm₁, ⟨T', Lq, cq', nq⟩, hW₁, X', ⟨L', ⟨rfl, hR', hN'⟩, l', y', z'⟩, st'⟩ := Jvm.LawKit.callS X hx (y := z) hown (mvT hZ (hw _ k1)) (mvT hZ (hw _ (hasStat_mem g1))) (mvT hZ (hw _ k3)) (mvT hZ (hw _ k2)) k5 back (g := mkF m pc (cl ρ ls) (cs ρ st)) rfl hsize (argsL := (st.take na).reverse.map (conc ρ)) (rest := cs ρ (st.drop na))
              (fun sig hs => by rw [← k6 sig hs]; simpa using hna) split_st0 (hW _ rfl) hd (fun _ _ => ⟨rfl, rfl, by show M.1.length - L0.length + (M'.1.length - M.1.length) ≤ _; omega, by show szL M.1 - szL L0 + (szL M'.1 - szL M.1) ≤ _; omega⟩)
            dsimp only [Pt.U, Pt.locs, Pt.cells, Pt.slots] at X' l' y' z' st' hR'
            subst l' y' z'
            refine ⟨T', ⟨_, ?_, Fr.app N hN', hR'⟩, ?_⟩
            · have c1 : M'.1.length - L0.length = M.1.length - L0.length + (M'.1.length - M.1.length) := by omega
              have c2 : szL M'.1 - szL L0 = szL M.1 - szL L0 + (szL M'.1 - szL M.1) := by omega
              rw [c1, c2]; exact X'
            · rw [← toL_conc]; exact st' _ (Steps.refl _)
        · cases hc
      · cases hc
    · cases hc
  · cases hc
set_option maxRecDepth 65536 in
set_option maxHeartbeats 40000000 in
theorem run_good (hw : ∀ d ∈ W, d.before a0 Z = true) (hρ : ∀ a b, ρ a = ρ b → a = b) (hρn : ∀ a, ro ≤ a → ρ a = n0 + (a - ro)) : ∀ n, Good l Z W ρ ro n0 n
  | 0 => fun F Lb y code ret pc ls st M M' v h => by simp [run] at h
  | n + 1 => by
    have G := run_good hw hρ hρn n
    intro F Lb y code ret pc ls st M M' v h p e R s m args below meth c L0 T hx hZ hown hnm hby hret hlocks hsz hF hLb hRc hRs hL hS hs0 hro H
    unfold run at h
    split at h
    · rename_i ins len hdec
      have hd : decode c.code pc = .ok (ins, len) := by rw [hby]; exact hdec
      split at h
      · rename_i pc' ls' st' hP
        split at hP
        · rename_i hlo
          obtain ⟨g1, T', H', g2⟩ := execP_sound H hx hZ hw hown hF hLb hsz hd hlo hP
          obtain ⟨s₂, L, q1, q⟩ := G h hx hZ hown hnm hby hret hlocks (g1.trans hsz) hF hLb hRc hRs hL hS hs0 hro H'
          exact ⟨s₂, L, g2 _ q1, q⟩
        · cases hP
      · split at h
        · rename_i st' M'' hM
          split at hM
          · rename_i hlo
            have q1 := execM_ext hM
            have q2 := run_ext n h
            obtain ⟨T', H', g2⟩ := execM_sound H hx hZ hw hown hnm hρ hρn hL hS hs0 hro (ls := ls) hd hlo (by omega) (by omega) hM
            obtain ⟨s₂, L, q1, q⟩ := G h hx hZ hown hnm hby hret hlocks hsz hF hLb hRc hRs (by omega) (by omega) hs0 hro H'
            exact ⟨s₂, L, g2 _ q1, q⟩
          · cases hM
        · split at h
          · rename_i v' hv
            cases h
            obtain ⟨locs, X, N, Rl⟩ := H
            unfold retOf at hv
            split at hv
            · rename_i hlen
              subst hlen
              split at hv
              · cases hv
                obtain ⟨fs, hr, hrun, hended, hWm, hsame⟩ := X.leave (v := none) (fun _ => rfl) hlocks
                exact ⟨_, locs, X.returnOut hx hret hd hr, hrun, hended, Rl, N, hWm, hsame⟩
              · rename_i zz _ _
                cases hv
                obtain ⟨fs, hr, hrun, hended, hWm, hsame⟩ := X.leave (v := some (.int zz)) (fun q => by rw [hret] at q; cases q) hlocks
                exact ⟨_, locs, X.ireturnOut hx hret rfl (Or.inl rfl) hd hr, hrun, hended, Rl, N, hWm, hsame⟩
              · rename_i zz _ _
                cases hv
                obtain ⟨fs, hr, hrun, hended, hWm, hsame⟩ := X.leave (v := some (.int (zz &&& 1))) (fun q => by rw [hret] at q; cases q) hlocks
                exact ⟨_, locs, retN X hx (t := .boolean) hret (Or.inl rfl) hd hr, hrun, hended, Rl, N, hWm, hsame⟩
              · rename_i zz _ _
                cases hv
                obtain ⟨fs, hr, hrun, hended, hWm, hsame⟩ := X.leave (v := some (.long zz)) (fun q => by rw [hret] at q; cases q) hlocks
                exact ⟨_, locs, X.lreturnOut hx hret hd hr, hrun, hended, Rl, N, hWm, hsame⟩
              · cases hv
            · cases hv
          · split at h
            · rename_i z as rest b mx r hc
              split at h
              · rename_i hcond
                obtain ⟨h1, h2, h3⟩ := hcond
                split at h
                · rename_i v'' M'' hr
                  have q1 := run_ext n hr
                  have q2 := run_ext n h
                  obtain ⟨T', H', g2⟩ := call_sound G hw H hx hZ hown hF hLb hsz hd hc h1 h2 h3 hr hL hS (by omega) (by omega)
                  obtain ⟨s₂, L, q1, q⟩ := G h hx hZ hown hnm hby hret hlocks hsz hF hLb hRc hRs (by omega) (by omega) hs0 hro H'
                  exact ⟨s₂, L, g2.trans q1, q⟩
                · cases h
              · cases h
            · cases h
    · cases h
end S
end Jvm.OwnEv
namespace Jvm.OwnEv
open Sem ClassFile Op Lib Jvm.Stand Jvm.Free Jvm.LawKit Jvm.RoadKit
/-! PART 6: the run comes to an end that Q says: the rules -/
theorem execP_special {W : List Jvm.Cond} {F Lb : Nat} {y : MethodName} {pc len idx : Nat} {ls : List Slot} {st : List Value} {M : EMem} : execP W F Lb y (.invokespecial idx) pc len ls st M = match st with
    | .ref _ :: r => if objInitAt W y.cls idx = true ∧ 1 ≤ F ∧ wt r + 12 ≤ Lb then some (pc + 3, ls, r) else none
    | _ => none := rfl
theorem objInit_no {W : List Jvm.Cond} {own : String} {idx kd : Nat} {z : MethodName} {na : Nat} {b : ByteArray} {mx : Nat} {r : Option FieldType} (h : callAt W own idx kd = some (z, na, b, mx, r)) : objInitAt W own idx = false := by
  cases q : objInitAt W own idx with
  | false => rfl
  | true =>
    have hm : methodLk own idx W = some Lib.objectInit := by
      unfold objInitAt at q
      split at q
      · rename_i z' b' n' r' h1 h2
        simp only [Bool.and_eq_true, decide_eq_true_eq] at q
        rw [h1, q.1.1.1.1]
      · cases q
    have hpn : plainName Lib.objectInit.cls = false := by decide
    unfold callAt at h
    rw [hm] at h
    simp only at h
    split at h
    · split at h
      · rename_i hc
        rw [hpn] at hc
        simp at hc
      · cases h
    · cases h
theorem run_succ {W : List Jvm.Cond} {ro : Nat} : ∀ (n : Nat) {F Lb : Nat} {y : MethodName} {code : ByteArray} {ret : Option FieldType} {pc : Nat} {ls : List Slot} {st : List Value} {M : EMem} {x : Option Value × EMem} {F' Lb' : Nat}, F ≤ F' → Lb ≤ Lb' →
    run W ro n F Lb y code ret pc ls st M = some x → run W ro (n + 1) F' Lb' y code ret pc ls st M = some x
  | 0, _, _, _, _, _, _, _, _, _, _, _, _, _, _, h => by simp [run] at h
  | n + 1, F, Lb, y, code, ret, pc, ls, st, M, x, F', Lb', hF, hL, h => by
    unfold run at h
    unfold run
    split at h
    · rename_i ins len hd
      split at h
      · rename_i pc' ls' st' hP
        have hP' : (if lenOk len ins = true then execP W F' Lb' y ins pc len ls st M else none) = some (pc', ls', st') := by
          split at hP
          · rename_i hl
            rw [if_pos hl]
            by_cases hi : ∃ idx, ins = .invokespecial idx
            · obtain ⟨idx, rfl⟩ := hi
              rw [execP_special] at hP ⊢
              split at hP
              · split at hP
                · rename_i hc
                  rw [if_pos ⟨hc.1, Nat.le_trans hc.2.1 hF, Nat.le_trans hc.2.2 hL⟩]
                  exact hP
                · cases hP
              · cases hP
            · have e : execP W F' Lb' y ins pc len ls st M = execP W F Lb y ins pc len ls st M := by
                cases ins <;> first | rfl | (exact absurd ⟨_, rfl⟩ hi)
              rw [e]; exact hP
          · cases hP
        rw [hP']
        exact run_succ n hF hL h
      · rename_i hP
        split at h
        · rename_i st' M' hM
          have hP' : (if lenOk len ins = true then execP W F' Lb' y ins pc len ls st M else none) = none := by
            split at hP
            · rename_i hl
              rw [if_pos hl]
              rw [if_pos hl] at hM
              cases ins <;> first | exact hP | (simp [execM] at hM)
            · rename_i hl
              rw [if_neg hl]
          rw [hP']
          exact run_succ n hF hL h
        · rename_i hM
          split at h
          · rename_i v hv
            have hP' : (if lenOk len ins = true then execP W F' Lb' y ins pc len ls st M else none) = none := by
              split at hP
              · rename_i hl
                rw [if_pos hl]
                cases ins <;> first | exact hP | (simp [retOf] at hv)
              · rename_i hl
                rw [if_neg hl]
            rw [hP']
            exact h
          · rename_i hv
            split at h
            · rename_i z as rest b mx r hc
              split at h
              · rename_i hcond
                obtain ⟨h1, h2, h3⟩ := hcond
                split at h
                · rename_i v M' hr
                  have hP' : (if lenOk len ins = true then execP W F' Lb' y ins pc len ls st M else none) = none := by
                    split at hP
                    · rename_i hl
                      rw [if_pos hl]
                      by_cases hi : ∃ idx, ins = .invokespecial idx
                      · obtain ⟨idx, rfl⟩ := hi
                        rw [execP_special]
                        split
                        · rw [if_neg]
                          intro q
                          have hcc : ∃ u, callAt W y.cls idx 2 = some u := by
                            cases hcq : callAt W y.cls idx 2 with
                            | some u => exact ⟨u, rfl⟩
                            | none =>
                              have e : ∀ s' : List Value, callOf W y (.invokespecial idx) len s' M = none := fun s' => by
                                unfold callOf
                                split
                                · simp only [hcq]
                                · rfl
                              rw [e] at hc; cases hc
                          obtain ⟨⟨u1, u2, u3, u4, u5⟩, hu⟩ := hcc
                          have q1 := q.1
                          rw [objInit_no hu] at q1
                          cases q1
                        · rfl
                      · have e : execP W F' Lb' y ins pc len ls st M = execP W F Lb y ins pc len ls st M := by
                          cases ins <;> first | rfl | (exact absurd ⟨_, rfl⟩ hi)
                        rw [e]; exact hP
                    · rename_i hl
                      rw [if_neg hl]
                  rw [hP']
                  simp only
                  rw [if_pos ⟨Nat.le_trans h1 hF, Nat.le_trans h2 hL, h3⟩, run_succ n (by omega) (by omega) hr]
                  exact run_succ n hF hL h
                · cases h
              · cases h
            · cases h
    · cases h
theorem run_mono {W : List Jvm.Cond} {ro n n' F Lb : Nat} {y : MethodName} {code : ByteArray} {ret : Option FieldType} {pc : Nat} {ls : List Slot} {st : List Value} {M : EMem} {x : Option Value × EMem} {F' Lb' : Nat} (hn : n < n') (hF : F ≤ F') (hL : Lb ≤ Lb')
    (h : run W ro n F Lb y code ret pc ls st M = some x) : run W ro n' F' Lb' y code ret pc ls st M = some x := by
  have : ∀ k, run W ro (n + 1 + k) F' Lb' y code ret pc ls st M = some x := fun k => by
    induction k with
    | zero => exact run_succ n hF hL h
    | succ k ih => exact run_succ _ (Nat.le_refl _) (Nat.le_refl _) ih
  have e : n' = n + 1 + (n' - (n + 1)) := by omega
  rw [e]; exact this _
def Wp (W : List Jvm.Cond) (ro F Lb : Nat) (y : MethodName) (code : ByteArray) (ret : Option FieldType) (pc : Nat) (ls : List Slot) (st : List Value) (M : EMem) (Q : Option Value → EMem → Prop) : Prop :=
  ∃ n v M', run W ro n F Lb y code ret pc ls st M = some (v, M') ∧ Q v M'
section Rules
variable {W : List Jvm.Cond} {ro F Lb : Nat} {y : MethodName} {code : ByteArray} {ret : Option FieldType} {pc : Nat} {ls : List Slot} {st : List Value} {M : EMem} {Q : Option Value → EMem → Prop}
theorem Wp.mono {Q' : Option Value → EMem → Prop} (h : Wp W ro F Lb y code ret pc ls st M Q) (q : ∀ v M', Q v M' → Q' v M') : Wp W ro F Lb y code ret pc ls st M Q' := by
  obtain ⟨n, v, M', h1, h2⟩ := h; exact ⟨n, v, M', h1, q _ _ h2⟩
theorem Wp.room {F' Lb' : Nat} (hF : F ≤ F') (hL : Lb ≤ Lb') (h : Wp W ro F Lb y code ret pc ls st M Q) : Wp W ro F' Lb' y code ret pc ls st M Q := by
  obtain ⟨n, v, M', h1, h2⟩ := h; exact ⟨n + 1, v, M', run_succ n hF hL h1, h2⟩
theorem Wp.p {ins : Instr} {len pc' : Nat} {ls' : List Slot} {st' : List Value} (hd : decode code pc = .ok (ins, len)) (hl : lenOk len ins = true) (he : execP W F Lb y ins pc len ls st M = some (pc', ls', st')) (k : Wp W ro F Lb y code ret pc' ls' st' M Q) : Wp W ro F Lb y code ret pc ls st M Q := by
  obtain ⟨n, v, M', h1, h2⟩ := k
  refine ⟨n + 1, v, M', ?_, h2⟩
  unfold run
  rw [hd]
  simp only
  rw [if_pos hl, he]
  exact h1
theorem Wp.m {ins : Instr} {len : Nat} {st' : List Value} {M1 : EMem} (hd : decode code pc = .ok (ins, len)) (hl : lenOk len ins = true) (hp : execP W F Lb y ins pc len ls st M = none) (he : execM W ro y ins st M = some (st', M1)) (k : Wp W ro F Lb y code ret (pc + len) ls st' M1 Q) : Wp W ro F Lb y code ret pc ls st M Q := by
  obtain ⟨n, v, M', h1, h2⟩ := k
  refine ⟨n + 1, v, M', ?_, h2⟩
  unfold run
  rw [hd]
  simp only
  rw [if_pos hl, hp]
  simp only
  rw [if_pos hl, he]
  exact h1
theorem Wp.r {ins : Instr} {len : Nat} {v : Option Value} (hd : decode code pc = .ok (ins, len)) (hp : execP W F Lb y ins pc len ls st M = none) (hm : execM W ro y ins st M = none) (hr : retOf ins len ret st = some v) (q : Q v M) : Wp W ro F Lb y code ret pc ls st M Q := by
  refine ⟨1, v, M, ?_, q⟩
  unfold run
  rw [hd]
  simp only
  rw [hp, ite_self, hm, ite_self]
  simp only
  rw [hr]
theorem Wp.c {ins : Instr} {len : Nat} {z : MethodName} {as rest : List Value} {b : ByteArray} {mx : Nat} {r : Option FieldType} {F' Lb' w : Nat} (hd : decode code pc = .ok (ins, len)) (hp : execP W F Lb y ins pc len ls st M = none) (hm : execM W ro y ins st M = none) (hr : retOf ins len ret st = none)
    (hc : callOf W y ins len st M = some (z, as, rest, b, mx, r)) (hw : wt rest = w) (h1 : F' + 1 ≤ F) (h2 : w + (mx + 11) + Lb' ≤ Lb) (h3 : (fillL as).length ≤ mx) (k : Wp W ro F' Lb' z b r 0 (entryL as mx) [] M fun v M' => Wp W ro F Lb y code ret (pc + 3) ls (v.toList ++ rest) M' Q) : Wp W ro F Lb y code ret pc ls st M Q := by
  obtain ⟨n1, v1, M1, k1, n2, v2, M2, k2, hq⟩ := k
  subst hw
  refine ⟨n1 + n2 + 3, v2, M2, ?_, hq⟩
  unfold run
  rw [hd]
  simp only
  rw [hp, ite_self, hm, ite_self]
  simp only
  rw [hr, hc]
  simp only
  rw [if_pos ⟨by omega, by omega, h3⟩, run_mono (n' := n1 + n2 + 2) (by omega) (by omega) (by omega) k1]
  exact run_mono (by omega) (Nat.le_refl _) (Nat.le_refl _) k2
theorem Wp.icmp {cd : ClassFile.Cond} {o : Int} {t : Nat} {a b : Int32} {r : List Value} (hd : decode code pc = .ok (.if_icmp cd o, 3)) (hj : jump pc o = some t) (k1 : if_icmp.holds cd a b = true → Wp W ro F Lb y code ret t ls r M Q) (k2 : if_icmp.holds cd a b = false → Wp W ro F Lb y code ret (pc + 3) ls r M Q) : Wp W ro F Lb y code ret pc ls (.int b :: .int a :: r) M Q := by
  have he : execP W F Lb y (.if_icmp cd o) pc 3 ls (.int b :: .int a :: r) M = some (if if_icmp.holds cd a b = true then t else pc + 3, ls, r) := by simp only [execP, hj]
  refine Wp.p hd rfl he ?_
  cases h : if_icmp.holds cd a b with
  | true => rw [if_pos rfl]; exact k1 h
  | false => rw [if_neg Bool.false_ne_true]; exact k2 h
theorem Wp.if0 {cd : ClassFile.Cond} {o : Int} {t : Nat} {a : Int32} {r : List Value} (hd : decode code pc = .ok (.ifCond cd o, 3)) (hj : jump pc o = some t) (k1 : if_icmp.holds cd a 0 = true → Wp W ro F Lb y code ret t ls r M Q) (k2 : if_icmp.holds cd a 0 = false → Wp W ro F Lb y code ret (pc + 3) ls r M Q) : Wp W ro F Lb y code ret pc ls (.int a :: r) M Q := by
  have he : execP W F Lb y (.ifCond cd o) pc 3 ls (.int a :: r) M = some (if ifCond.holds cd a = true then t else pc + 3, ls, r) := by simp only [execP, hj]
  refine Wp.p hd rfl he ?_
  rw [RoadKit.if0]
  cases h : if_icmp.holds cd a 0 with
  | true => rw [if_pos rfl]; exact k1 h
  | false => rw [if_neg Bool.false_ne_true]; exact k2 h
theorem Wp.icmp_lt {o : Int} {t : Nat} {a b : Int32} {r : List Value} (hd : decode code pc = .ok (.if_icmp .lt o, 3)) (hj : jump pc o = some t) (k1 : a < b → Wp W ro F Lb y code ret t ls r M Q) (k2 : ¬ a < b → Wp W ro F Lb y code ret (pc + 3) ls r M Q) : Wp W ro F Lb y code ret pc ls (.int b :: .int a :: r) M Q :=
  Wp.icmp hd hj (fun h => k1 (Classical.byContradiction fun q => by rw [(flt (x := a) (y := b) (by exact q)).1] at h; cases h)) (fun h => k2 (Classical.byContradiction fun q => by rw [(tlt (x := a) (y := b) (by simpa using q)).1] at h; cases h))
theorem Wp.if_lt {o : Int} {t : Nat} {a : Int32} {r : List Value} (hd : decode code pc = .ok (.ifCond .lt o, 3)) (hj : jump pc o = some t) (k1 : a < 0 → Wp W ro F Lb y code ret t ls r M Q) (k2 : ¬ a < 0 → Wp W ro F Lb y code ret (pc + 3) ls r M Q) : Wp W ro F Lb y code ret pc ls (.int a :: r) M Q :=
  Wp.if0 hd hj (fun h => k1 (Classical.byContradiction fun q => by rw [(flt (x := a) (y := 0) (by exact q)).1] at h; cases h)) (fun h => k2 (Classical.byContradiction fun q => by rw [(tlt (x := a) (y := 0) (by simpa using q)).1] at h; cases h))
theorem Wp.icmp_ge {o : Int} {t : Nat} {a b : Int32} {r : List Value} (hd : decode code pc = .ok (.if_icmp .ge o, 3)) (hj : jump pc o = some t) (k1 : ¬ a < b → Wp W ro F Lb y code ret t ls r M Q) (k2 : a < b → Wp W ro F Lb y code ret (pc + 3) ls r M Q) : Wp W ro F Lb y code ret pc ls (.int b :: .int a :: r) M Q :=
  Wp.icmp hd hj (fun h => k1 (Classical.byContradiction fun q => by rw [(tlt (x := a) (y := b) (by simpa using q)).2.1] at h; cases h)) (fun h => k2 (Classical.byContradiction fun q => by rw [(flt (x := a) (y := b) (by exact q)).2.1] at h; cases h))
theorem Wp.if_ge {o : Int} {t : Nat} {a : Int32} {r : List Value} (hd : decode code pc = .ok (.ifCond .ge o, 3)) (hj : jump pc o = some t) (k1 : ¬ a < 0 → Wp W ro F Lb y code ret t ls r M Q) (k2 : a < 0 → Wp W ro F Lb y code ret (pc + 3) ls r M Q) : Wp W ro F Lb y code ret pc ls (.int a :: r) M Q :=
  Wp.if0 hd hj (fun h => k1 (Classical.byContradiction fun q => by rw [(tlt (x := a) (y := 0) (by simpa using q)).2.1] at h; cases h)) (fun h => k2 (Classical.byContradiction fun q => by rw [(flt (x := a) (y := 0) (by exact q)).2.1] at h; cases h))
theorem Wp.icmp_gt {o : Int} {t : Nat} {a b : Int32} {r : List Value} (hd : decode code pc = .ok (.if_icmp .gt o, 3)) (hj : jump pc o = some t) (k1 : b < a → Wp W ro F Lb y code ret t ls r M Q) (k2 : ¬ b < a → Wp W ro F Lb y code ret (pc + 3) ls r M Q) : Wp W ro F Lb y code ret pc ls (.int b :: .int a :: r) M Q :=
  Wp.icmp hd hj (fun h => k1 (Classical.byContradiction fun q => by rw [(flt (x := b) (y := a) (by exact q)).2.2.1] at h; cases h)) (fun h => k2 (Classical.byContradiction fun q => by rw [(tlt (x := b) (y := a) (by simpa using q)).2.2.1] at h; cases h))
theorem Wp.if_gt {o : Int} {t : Nat} {a : Int32} {r : List Value} (hd : decode code pc = .ok (.ifCond .gt o, 3)) (hj : jump pc o = some t) (k1 : 0 < a → Wp W ro F Lb y code ret t ls r M Q) (k2 : ¬ 0 < a → Wp W ro F Lb y code ret (pc + 3) ls r M Q) : Wp W ro F Lb y code ret pc ls (.int a :: r) M Q :=
  Wp.if0 hd hj (fun h => k1 (Classical.byContradiction fun q => by rw [(flt (x := 0) (y := a) (by exact q)).2.2.1] at h; cases h)) (fun h => k2 (Classical.byContradiction fun q => by rw [(tlt (x := 0) (y := a) (by simpa using q)).2.2.1] at h; cases h))
theorem Wp.icmp_le {o : Int} {t : Nat} {a b : Int32} {r : List Value} (hd : decode code pc = .ok (.if_icmp .le o, 3)) (hj : jump pc o = some t) (k1 : ¬ b < a → Wp W ro F Lb y code ret t ls r M Q) (k2 : b < a → Wp W ro F Lb y code ret (pc + 3) ls r M Q) : Wp W ro F Lb y code ret pc ls (.int b :: .int a :: r) M Q :=
  Wp.icmp hd hj (fun h => k1 (Classical.byContradiction fun q => by rw [(tlt (x := b) (y := a) (by simpa using q)).2.2.2] at h; cases h)) (fun h => k2 (Classical.byContradiction fun q => by rw [(flt (x := b) (y := a) (by exact q)).2.2.2] at h; cases h))
theorem Wp.if_le {o : Int} {t : Nat} {a : Int32} {r : List Value} (hd : decode code pc = .ok (.ifCond .le o, 3)) (hj : jump pc o = some t) (k1 : ¬ 0 < a → Wp W ro F Lb y code ret t ls r M Q) (k2 : 0 < a → Wp W ro F Lb y code ret (pc + 3) ls r M Q) : Wp W ro F Lb y code ret pc ls (.int a :: r) M Q :=
  Wp.if0 hd hj (fun h => k1 (Classical.byContradiction fun q => by rw [(tlt (x := 0) (y := a) (by simpa using q)).2.2.2] at h; cases h)) (fun h => k2 (Classical.byContradiction fun q => by rw [(flt (x := 0) (y := a) (by exact q)).2.2.2] at h; cases h))
theorem Wp.icmp_eq {o : Int} {t : Nat} {a b : Int32} {r : List Value} (hd : decode code pc = .ok (.if_icmp .eq o, 3)) (hj : jump pc o = some t) (k1 : a = b → Wp W ro F Lb y code ret t ls r M Q) (k2 : ¬ a = b → Wp W ro F Lb y code ret (pc + 3) ls r M Q) : Wp W ro F Lb y code ret pc ls (.int b :: .int a :: r) M Q :=
  Wp.icmp hd hj (fun h => k1 (Classical.byContradiction fun q => by rw [(feq (x := a) (y := b) (by exact q)).1] at h; cases h)) (fun h => k2 (Classical.byContradiction fun q => by rw [(teq (x := a) (y := b) (by simpa using q)).1] at h; cases h))
theorem Wp.if_eq {o : Int} {t : Nat} {a : Int32} {r : List Value} (hd : decode code pc = .ok (.ifCond .eq o, 3)) (hj : jump pc o = some t) (k1 : a = 0 → Wp W ro F Lb y code ret t ls r M Q) (k2 : ¬ a = 0 → Wp W ro F Lb y code ret (pc + 3) ls r M Q) : Wp W ro F Lb y code ret pc ls (.int a :: r) M Q :=
  Wp.if0 hd hj (fun h => k1 (Classical.byContradiction fun q => by rw [(feq (x := a) (y := 0) (by exact q)).1] at h; cases h)) (fun h => k2 (Classical.byContradiction fun q => by rw [(teq (x := a) (y := 0) (by simpa using q)).1] at h; cases h))
theorem Wp.icmp_ne {o : Int} {t : Nat} {a b : Int32} {r : List Value} (hd : decode code pc = .ok (.if_icmp .ne o, 3)) (hj : jump pc o = some t) (k1 : ¬ a = b → Wp W ro F Lb y code ret t ls r M Q) (k2 : a = b → Wp W ro F Lb y code ret (pc + 3) ls r M Q) : Wp W ro F Lb y code ret pc ls (.int b :: .int a :: r) M Q :=
  Wp.icmp hd hj (fun h => k1 (Classical.byContradiction fun q => by rw [(teq (x := a) (y := b) (by simpa using q)).2] at h; cases h)) (fun h => k2 (Classical.byContradiction fun q => by rw [(feq (x := a) (y := b) (by exact q)).2] at h; cases h))
theorem Wp.if_ne {o : Int} {t : Nat} {a : Int32} {r : List Value} (hd : decode code pc = .ok (.ifCond .ne o, 3)) (hj : jump pc o = some t) (k1 : ¬ a = 0 → Wp W ro F Lb y code ret t ls r M Q) (k2 : a = 0 → Wp W ro F Lb y code ret (pc + 3) ls r M Q) : Wp W ro F Lb y code ret pc ls (.int a :: r) M Q :=
  Wp.if0 hd hj (fun h => k1 (Classical.byContradiction fun q => by rw [(teq (x := a) (y := 0) (by simpa using q)).2] at h; cases h)) (fun h => k2 (Classical.byContradiction fun q => by rw [(feq (x := a) (y := 0) (by exact q)).2] at h; cases h))
variable {L : ELay} {mi : Nat → Nat → Int32} {ml : Nat → Nat → Int64} {mr : Nat → Nat → Value}
theorem Wp.iconst {i : Int} {r : List Value} (v : Int32) (hd : decode code pc = .ok (.iconst i, 1)) (hv : Int32.ofInt i = v) (k : Wp W ro F Lb y code ret (pc + 1) ls (.int v :: r) M Q) : Wp W ro F Lb y code ret pc ls r M Q := by
  subst hv; exact Wp.p hd rfl rfl k
theorem Wp.bipush {i : Int} {r : List Value} (v : Int32) (hd : decode code pc = .ok (.bipush i, 2)) (hv : (Int8.ofInt i).toInt32 = v) (k : Wp W ro F Lb y code ret (pc + 2) ls (.int v :: r) M Q) : Wp W ro F Lb y code ret pc ls r M Q := by
  subst hv; exact Wp.p hd rfl rfl k
theorem Wp.sipush {i : Int} {r : List Value} (v : Int32) (hd : decode code pc = .ok (.sipush i, 3)) (hv : (Int16.ofInt i).toInt32 = v) (k : Wp W ro F Lb y code ret (pc + 3) ls (.int v :: r) M Q) : Wp W ro F Lb y code ret pc ls r M Q := by
  subst hv; exact Wp.p hd rfl rfl k
theorem Wp.lconst {i : Fin 2} {r : List Value} (v : Int64) (hd : decode code pc = .ok (.lconst i, 1)) (hv : Int64.ofNat i = v) (k : Wp W ro F Lb y code ret (pc + 1) ls (.long v :: r) M Q) : Wp W ro F Lb y code ret pc ls r M Q := by
  subst hv; exact Wp.p hd rfl rfl k
theorem Wp.iinc {i : Nat} {d : Int} {x : Int32} {l' : List Slot} (v : Int32) (hd : decode code pc = .ok (.iinc i d, 3)) (hv : Int32.ofInt d = v) (hl : ls[i]? = some (.val (.int x))) (hs : storeL ls i (.int (x + v)) = some l') (k : Wp W ro F Lb y code ret (pc + 3) l' st M Q) : Wp W ro F Lb y code ret pc ls st M Q := by
  subst hv
  exact Wp.p hd rfl (by simp only [execP, hl, hs]) k
theorem Wp.ldc {i : Nat} {r : List Value} {v : Int32} (hd : decode code pc = .ok (.ldc i, 2)) (hv : intLk y.cls i W = some v) (k : Wp W ro F Lb y code ret (pc + 2) ls (.int v :: r) M Q) : Wp W ro F Lb y code ret pc ls r M Q :=
  Wp.p hd rfl (by simp only [execP, hv]) k
theorem Wp.ldcw {i : Nat} {r : List Value} {v : Int32} (hd : decode code pc = .ok (.ldc_w i, 3)) (hv : intLk y.cls i W = some v) (k : Wp W ro F Lb y code ret (pc + 3) ls (.int v :: r) M Q) : Wp W ro F Lb y code ret pc ls r M Q :=
  Wp.p hd rfl (by simp only [execP, hv]) k
theorem Wp.ldc2 {i : Nat} {r : List Value} {v : Int64} (hd : decode code pc = .ok (.ldc2_w i, 3)) (hv : longLk y.cls i W = some v) (k : Wp W ro F Lb y code ret (pc + 3) ls (.long v :: r) M Q) : Wp W ro F Lb y code ret pc ls r M Q :=
  Wp.p hd rfl (by simp only [execP, hv]) k
theorem Wp.getI {i a k n : Nat} {C : String} {fin : Bool} {r : List Value} (v : Int32) (hd : decode code pc = .ok (.getfield i, 3)) (hf : fieldAt W y.cls i = some (C, k, 1, fin)) (hc : L[a]? = some (0, C, n)) (hv : mi a k = v) (q : Wp W ro F Lb y code ret (pc + 3) ls (.int v :: r) (L, mi, ml, mr) Q) : Wp W ro F Lb y code ret pc ls (.ref a :: r) (L, mi, ml, mr) Q := by
  subst hv
  exact Wp.p hd rfl (by simp only [execP, hf, hc, getV, if_true]) q
theorem Wp.getZ {i a k n : Nat} {C : String} {fin : Bool} {r : List Value} (v : Int32) (hd : decode code pc = .ok (.getfield i, 3)) (hf : fieldAt W y.cls i = some (C, k, 2, fin)) (hc : L[a]? = some (0, C, n)) (hv : mi a k = v) (q : Wp W ro F Lb y code ret (pc + 3) ls (.int v :: r) (L, mi, ml, mr) Q) : Wp W ro F Lb y code ret pc ls (.ref a :: r) (L, mi, ml, mr) Q := by
  subst hv
  exact Wp.p hd rfl (by simp only [execP, hf, hc, getV, if_true]) q
theorem Wp.getJ {i a k n : Nat} {C : String} {fin : Bool} {r : List Value} (v : Int64) (hd : decode code pc = .ok (.getfield i, 3)) (hf : fieldAt W y.cls i = some (C, k, 3, fin)) (hc : L[a]? = some (0, C, n)) (hv : ml a k = v) (q : Wp W ro F Lb y code ret (pc + 3) ls (.long v :: r) (L, mi, ml, mr) Q) : Wp W ro F Lb y code ret pc ls (.ref a :: r) (L, mi, ml, mr) Q := by
  subst hv
  exact Wp.p hd rfl (by simp only [execP, hf, hc, getV, if_true]) q
theorem Wp.getR {i a k n b : Nat} {C : String} {fin : Bool} {r : List Value} (hd : decode code pc = .ok (.getfield i, 3)) (hf : fieldAt W y.cls i = some (C, k, 4, fin)) (hc : L[a]? = some (0, C, n)) (hr : mr a k = .ref b) (q : Wp W ro F Lb y code ret (pc + 3) ls (.ref b :: r) (L, mi, ml, mr) Q) : Wp W ro F Lb y code ret pc ls (.ref a :: r) (L, mi, ml, mr) Q :=
  Wp.p hd rfl (by simp only [execP, hf, hc, getV, if_true, hr]) q
theorem Wp.len {a n kd : Nat} {u : String} {r : List Value} (hd : decode code pc = .ok (.arraylength, 1)) (hc : L[a]? = some (kd, u, n)) (hk : kd = 1 ∨ kd = 2 ∨ kd = 3) (q : Wp W ro F Lb y code ret (pc + 1) ls (.int n.toInt32 :: r) (L, mi, ml, mr) Q) : Wp W ro F Lb y code ret pc ls (.ref a :: r) (L, mi, ml, mr) Q := by
  rcases hk with rfl | rfl | rfl <;> exact Wp.p hd rfl (by simp only [execP, hc]) q
theorem Wp.iaload {a n k : Nat} {u : String} {j : Int32} {r : List Value} (v : Int32) (hd : decode code pc = .ok (.iaload, 1)) (hc : L[a]? = some (1, u, n)) (hk : j.toNatClampNeg = k) (hj : inb j n = true) (hv : mi a k = v) (q : Wp W ro F Lb y code ret (pc + 1) ls (.int v :: r) (L, mi, ml, mr) Q) : Wp W ro F Lb y code ret pc ls (.int j :: .ref a :: r) (L, mi, ml, mr) Q := by
  subst hk hv
  exact Wp.p hd rfl (by simp only [execP, hc, hj, if_true]) q
theorem Wp.baload {a n k : Nat} {u : String} {j : Int32} {r : List Value} (v : Int32) (hd : decode code pc = .ok (.baload, 1)) (hc : L[a]? = some (3, u, n)) (hk : j.toNatClampNeg = k) (hj : inb j n = true) (hv : mi a k = v) (q : Wp W ro F Lb y code ret (pc + 1) ls (.int v :: r) (L, mi, ml, mr) Q) : Wp W ro F Lb y code ret pc ls (.int j :: .ref a :: r) (L, mi, ml, mr) Q := by
  subst hk hv
  exact Wp.p hd rfl (by simp only [execP, hc, hj, if_true]) q
theorem Wp.laload {a n k : Nat} {u : String} {j : Int32} {r : List Value} (v : Int64) (hd : decode code pc = .ok (.laload, 1)) (hc : L[a]? = some (2, u, n)) (hk : j.toNatClampNeg = k) (hj : inb j n = true) (hv : ml a k = v) (q : Wp W ro F Lb y code ret (pc + 1) ls (.long v :: r) (L, mi, ml, mr) Q) : Wp W ro F Lb y code ret pc ls (.int j :: .ref a :: r) (L, mi, ml, mr) Q := by
  subst hk hv
  exact Wp.p hd rfl (by simp only [execP, hc, hj, if_true]) q
theorem Wp.iastore {a n k : Nat} {u : String} {j x : Int32} {r : List Value} (hd : decode code pc = .ok (.iastore, 1)) (hc : L[a]? = some (1, u, n)) (hk : j.toNatClampNeg = k) (hj : inb j n = true) (ha : ro ≤ a) (q : Wp W ro F Lb y code ret (pc + 1) ls r (L, up mi a k x, ml, mr) Q) : Wp W ro F Lb y code ret pc ls (.int x :: .int j :: .ref a :: r) (L, mi, ml, mr) Q := by
  subst hk
  exact Wp.m hd rfl rfl (by simp only [execM, hc]; rw [if_pos ⟨hj, ha⟩]) q
theorem Wp.bastore {a n k : Nat} {u : String} {j x : Int32} {r : List Value} (v : Int32) (hd : decode code pc = .ok (.bastore, 1)) (hc : L[a]? = some (3, u, n)) (hk : j.toNatClampNeg = k) (hj : inb j n = true) (ha : ro ≤ a) (hv : x &&& 1 = v) (q : Wp W ro F Lb y code ret (pc + 1) ls r (L, up mi a k v, ml, mr) Q) : Wp W ro F Lb y code ret pc ls (.int x :: .int j :: .ref a :: r) (L, mi, ml, mr) Q := by
  subst hk hv
  exact Wp.m hd rfl rfl (by simp only [execM, hc]; rw [if_pos ⟨hj, ha⟩]) q
theorem Wp.lastore {a n k : Nat} {u : String} {j : Int32} {x : Int64} {r : List Value} (hd : decode code pc = .ok (.lastore, 1)) (hc : L[a]? = some (2, u, n)) (hk : j.toNatClampNeg = k) (hj : inb j n = true) (ha : ro ≤ a) (q : Wp W ro F Lb y code ret (pc + 1) ls r (L, mi, up ml a k x, mr) Q) : Wp W ro F Lb y code ret pc ls (.long x :: .int j :: .ref a :: r) (L, mi, ml, mr) Q := by
  subst hk
  exact Wp.m hd rfl rfl (by simp only [execM, hc]; rw [if_pos ⟨hj, ha⟩]) q
theorem Wp.putI {i a k n u : Nat} {C : String} {fin : Bool} {x : Int32} {r : List Value} (hd : decode code pc = .ok (.putfield i, 3)) (hf : fieldAt W y.cls i = some (C, k, 1, fin)) (hc : L[a]? = some (0, C, n)) (ha : ro ≤ a) (hi : instLk C W = some u) (hfin : fin = false ∨ (y.cls = C ∧ y.name = "<init>")) (q : Wp W ro F Lb y code ret (pc + 3) ls r (L, up mi a k x, ml, mr) Q) : Wp W ro F Lb y code ret pc ls (.int x :: .ref a :: r) (L, mi, ml, mr) Q :=
  Wp.m hd rfl rfl (by simp only [execM, hf, hc]; rw [if_pos ⟨trivial, ha, hfin, by rw [hi]; rfl⟩]) q
theorem Wp.putZ {i a k n u : Nat} {C : String} {fin : Bool} {x : Int32} {r : List Value} (v : Int32) (hd : decode code pc = .ok (.putfield i, 3)) (hf : fieldAt W y.cls i = some (C, k, 2, fin)) (hc : L[a]? = some (0, C, n)) (ha : ro ≤ a) (hi : instLk C W = some u) (hfin : fin = false ∨ (y.cls = C ∧ y.name = "<init>")) (hv : x &&& 1 = v) (q : Wp W ro F Lb y code ret (pc + 3) ls r (L, up mi a k v, ml, mr) Q) : Wp W ro F Lb y code ret pc ls (.int x :: .ref a :: r) (L, mi, ml, mr) Q := by
  subst hv
  exact Wp.m hd rfl rfl (by simp only [execM, hf, hc]; rw [if_pos ⟨trivial, ha, hfin, by rw [hi]; rfl⟩]) q
theorem Wp.putJ {i a k n u : Nat} {C : String} {fin : Bool} {x : Int64} {r : List Value} (hd : decode code pc = .ok (.putfield i, 3)) (hf : fieldAt W y.cls i = some (C, k, 3, fin)) (hc : L[a]? = some (0, C, n)) (ha : ro ≤ a) (hi : instLk C W = some u) (hfin : fin = false ∨ (y.cls = C ∧ y.name = "<init>")) (q : Wp W ro F Lb y code ret (pc + 3) ls r (L, mi, up ml a k x, mr) Q) : Wp W ro F Lb y code ret pc ls (.long x :: .ref a :: r) (L, mi, ml, mr) Q :=
  Wp.m hd rfl rfl (by simp only [execM, hf, hc]; rw [if_pos ⟨trivial, ha, hfin, by rw [hi]; rfl⟩]) q
theorem Wp.putR {i a k n u b : Nat} {C : String} {fin : Bool} {r : List Value} (hd : decode code pc = .ok (.putfield i, 3)) (hf : fieldAt W y.cls i = some (C, k, 4, fin)) (hc : L[a]? = some (0, C, n)) (ha : ro ≤ a) (hi : instLk C W = some u) (hfin : fin = false ∨ (y.cls = C ∧ y.name = "<init>")) (q : Wp W ro F Lb y code ret (pc + 3) ls r (L, mi, ml, up mr a k (.ref b)) Q) : Wp W ro F Lb y code ret pc ls (.ref b :: .ref a :: r) (L, mi, ml, mr) Q :=
  Wp.m hd rfl rfl (by simp only [execM, hf, hc]; rw [if_pos ⟨trivial, ha, hfin, by rw [hi]; rfl⟩]) q
theorem Wp.new {i n a : Nat} {L' : ELay} {C : String} {r : List Value} (hd : decode code pc = .ok (.new i, 3)) (hn : newAt W y.cls i = some (C, n)) (ha : L.length = a) (hL : L ++ [(0, C, n)] = L') (q : Wp W ro F Lb y code ret (pc + 3) ls (.ref a :: r) (L', mi, ml, mr) Q) : Wp W ro F Lb y code ret pc ls r (L, mi, ml, mr) Q := by
  subst ha hL
  exact Wp.m hd rfl rfl (by simp only [execM, hn]) q
theorem Wp.new_int {n : Int32} {a z : Nat} {L' : ELay} {r : List Value} (hd : decode code pc = .ok (.newarray .int, 2)) (ha : hasArr .int W = true) (hn : ¬ n < 0 ∧ n.toNatClampNeg * 8 ≤ 536870912) (hz : n.toNatClampNeg = z) (he : L.length = a) (hL : L ++ [(1, "", z)] = L') (q : Wp W ro F Lb y code ret (pc + 2) ls (.ref a :: r) (L', mi, ml, mr) Q) : Wp W ro F Lb y code ret pc ls (.int n :: r) (L, mi, ml, mr) Q := by
  subst hz he hL
  exact Wp.m hd rfl rfl (by simp only [execM]; rw [if_pos ⟨hn.1, hn.2, ha⟩]) q
theorem Wp.new_long {n : Int32} {a z : Nat} {L' : ELay} {r : List Value} (hd : decode code pc = .ok (.newarray .long, 2)) (ha : hasArr .long W = true) (hn : ¬ n < 0 ∧ n.toNatClampNeg * 8 ≤ 536870912) (hz : n.toNatClampNeg = z) (he : L.length = a) (hL : L ++ [(2, "", z)] = L') (q : Wp W ro F Lb y code ret (pc + 2) ls (.ref a :: r) (L', mi, ml, mr) Q) : Wp W ro F Lb y code ret pc ls (.int n :: r) (L, mi, ml, mr) Q := by
  subst hz he hL
  exact Wp.m hd rfl rfl (by simp only [execM]; rw [if_pos ⟨hn.1, hn.2, ha⟩]) q
theorem Wp.new_boolean {n : Int32} {a z : Nat} {L' : ELay} {r : List Value} (hd : decode code pc = .ok (.newarray .boolean, 2)) (ha : hasArr .boolean W = true) (hn : ¬ n < 0 ∧ n.toNatClampNeg * 8 ≤ 536870912) (hz : n.toNatClampNeg = z) (he : L.length = a) (hL : L ++ [(3, "", z)] = L') (q : Wp W ro F Lb y code ret (pc + 2) ls (.ref a :: r) (L', mi, ml, mr) Q) : Wp W ro F Lb y code ret pc ls (.int n :: r) (L, mi, ml, mr) Q := by
  subst hz he hL
  exact Wp.m hd rfl rfl (by simp only [execM]; rw [if_pos ⟨hn.1, hn.2, ha⟩]) q
theorem Wp.objInit {i a w : Nat} {r : List Value} (hd : decode code pc = .ok (.invokespecial i, 3)) (ho : objInitAt W y.cls i = true) (hw : wt r = w) (h1 : 1 ≤ F) (h2 : w + 12 ≤ Lb) (q : Wp W ro F Lb y code ret (pc + 3) ls r M Q) : Wp W ro F Lb y code ret pc ls (.ref a :: r) M Q :=
  Wp.p hd rfl (by simp only [execP]; rw [if_pos ⟨ho, h1, by rw [hw]; exact h2⟩]) q
/-- a private method -/
theorem Wp.callP {i na mx a n F' Lb' w : Nat} {z : MethodName} {b : ByteArray} {rt : Option FieldType} {as rest : List Value} (hd : decode code pc = .ok (.invokevirtual i, 3)) (hc : callAt W y.cls i 1 = some (z, na, b, mx, rt)) (hl : L[a]? = some (0, z.cls, n)) (hs : st = as.reverse ++ .ref a :: rest) (hna : as.length = na) (hw : wt rest = w) (h1 : F' + 1 ≤ F) (h2 : w + (mx + 11) + Lb' ≤ Lb) (h3 : (fillL (.ref a :: as)).length ≤ mx)
    (k : Wp W ro F' Lb' z b rt 0 (entryL (.ref a :: as) mx) [] (L, mi, ml, mr) fun v M' => Wp W ro F Lb y code ret (pc + 3) ls (v.toList ++ rest) M' Q) : Wp W ro F Lb y code ret pc ls st (L, mi, ml, mr) Q := by
  subst hs hna
  refine Wp.c hd rfl rfl rfl ?_ hw h1 h2 h3 k
  have e1 : (as.reverse ++ Value.ref a :: rest).drop as.length = .ref a :: rest := by rw [← List.length_reverse (as := as), List.drop_left]
  have e2 : (as.reverse ++ Value.ref a :: rest).take as.length = as.reverse := by rw [← List.length_reverse (as := as), List.take_left]
  simp only [callOf, if_true, hc, e1, e2, hl, List.length_reverse, and_self, List.reverse_reverse]
theorem Wp.callV {i na mx a n F' Lb' w : Nat} {z : MethodName} {b : ByteArray} {rt : Option FieldType} {as rest : List Value} (hd : decode code pc = .ok (.invokevirtual i, 3)) (hc0 : callAt W y.cls i 1 = none) (hc : callAt W y.cls i 0 = some (z, na, b, mx, rt)) (hl : L[a]? = some (0, z.cls, n)) (hs : st = as.reverse ++ .ref a :: rest) (hna : as.length = na) (hw : wt rest = w) (h1 : F' + 1 ≤ F) (h2 : w + (mx + 11) + Lb' ≤ Lb) (h3 : (fillL (.ref a :: as)).length ≤ mx)
    (k : Wp W ro F' Lb' z b rt 0 (entryL (.ref a :: as) mx) [] (L, mi, ml, mr) fun v M' => Wp W ro F Lb y code ret (pc + 3) ls (v.toList ++ rest) M' Q) : Wp W ro F Lb y code ret pc ls st (L, mi, ml, mr) Q := by
  subst hs hna
  refine Wp.c hd rfl rfl rfl ?_ hw h1 h2 h3 k
  have e1 : (as.reverse ++ Value.ref a :: rest).drop as.length = .ref a :: rest := by rw [← List.length_reverse (as := as), List.drop_left]
  have e2 : (as.reverse ++ Value.ref a :: rest).take as.length = as.reverse := by rw [← List.length_reverse (as := as), List.take_left]
  simp only [callOf, if_true, hc0, hc, e1, e2, hl, List.length_reverse, and_self, List.reverse_reverse]
theorem Wp.callI {i na mx a F' Lb' w : Nat} {z : MethodName} {b : ByteArray} {rt : Option FieldType} {as rest : List Value} (hd : decode code pc = .ok (.invokespecial i, 3)) (ho : objInitAt W y.cls i = false) (hc : callAt W y.cls i 2 = some (z, na, b, mx, rt)) (hs : st = as.reverse ++ .ref a :: rest) (hna : as.length = na) (hw : wt rest = w) (h1 : F' + 1 ≤ F) (h2 : w + (mx + 11) + Lb' ≤ Lb) (h3 : (fillL (.ref a :: as)).length ≤ mx)
    (k : Wp W ro F' Lb' z b rt 0 (entryL (.ref a :: as) mx) [] M fun v M' => Wp W ro F Lb y code ret (pc + 3) ls (v.toList ++ rest) M' Q) : Wp W ro F Lb y code ret pc ls st M Q := by
  subst hs hna
  refine Wp.c hd ?_ rfl rfl ?_ hw h1 h2 h3 k
  · have e : ∀ s' : List Value, execP W F Lb y (.invokespecial i) pc 3 ls s' M = none := fun s' => by
      simp only [execP, ho]
      split
      · rw [if_neg]; intro q; cases q.1
      · rfl
    exact e _
  have e1 : (as.reverse ++ Value.ref a :: rest).drop as.length = .ref a :: rest := by rw [← List.length_reverse (as := as), List.drop_left]
  have e2 : (as.reverse ++ Value.ref a :: rest).take as.length = as.reverse := by rw [← List.length_reverse (as := as), List.take_left]
  simp only [callOf, if_true, hc, e1, e2, List.length_reverse, List.reverse_reverse]
theorem Wp.callS {i na mx F' Lb' w : Nat} {z : MethodName} {b : ByteArray} {rt : Option FieldType} {as rest : List Value} (hd : decode code pc = .ok (.invokestatic i, 3)) (hc : callAt W y.cls i 3 = some (z, na, b, mx, rt)) (hs : st = as.reverse ++ rest) (hna : as.length = na) (hw : wt rest = w) (h1 : F' + 1 ≤ F) (h2 : w + (mx + 11) + Lb' ≤ Lb) (h3 : (fillL as).length ≤ mx)
    (k : Wp W ro F' Lb' z b rt 0 (entryL as mx) [] M fun v M' => Wp W ro F Lb y code ret (pc + 3) ls (v.toList ++ rest) M' Q) : Wp W ro F Lb y code ret pc ls st M Q := by
  subst hs hna
  refine Wp.c hd rfl rfl rfl ?_ hw h1 h2 h3 k
  have e1 : (as.reverse ++ rest).drop as.length = rest := by rw [← List.length_reverse (as := as), List.drop_left]
  have e2 : (as.reverse ++ rest).take as.length = as.reverse := by rw [← List.length_reverse (as := as), List.take_left]
  simp only [callOf, if_true, hc, e1, e2, List.length_reverse, List.reverse_reverse]
theorem Wp.top {a : Int32} {r : List Value} (v : Int32) (h : a = v) (k : Wp W ro F Lb y code ret pc ls (.int v :: r) M Q) : Wp W ro F Lb y code ret pc ls (.int a :: r) M Q := by subst h; exact k
theorem Wp.topJ {a : Int64} {r : List Value} (v : Int64) (h : a = v) (k : Wp W ro F Lb y code ret pc ls (.long v :: r) M Q) : Wp W ro F Lb y code ret pc ls (.long a :: r) M Q := by subst h; exact k
theorem Wp.icmpT {cd : ClassFile.Cond} {o : Int} {t : Nat} {a b : Int32} {r : List Value} (hd : decode code pc = .ok (.if_icmp cd o, 3)) (hj : jump pc o = some t) (h : if_icmp.holds cd a b = true) (k : Wp W ro F Lb y code ret t ls r M Q) : Wp W ro F Lb y code ret pc ls (.int b :: .int a :: r) M Q :=
  Wp.icmp hd hj (fun _ => k) (fun q => by rw [h] at q; cases q)
theorem Wp.icmpF {cd : ClassFile.Cond} {o : Int} {t : Nat} {a b : Int32} {r : List Value} (hd : decode code pc = .ok (.if_icmp cd o, 3)) (hj : jump pc o = some t) (h : if_icmp.holds cd a b = false) (k : Wp W ro F Lb y code ret (pc + 3) ls r M Q) : Wp W ro F Lb y code ret pc ls (.int b :: .int a :: r) M Q :=
  Wp.icmp hd hj (fun q => by rw [h] at q; cases q) (fun _ => k)
theorem Wp.ifT {cd : ClassFile.Cond} {o : Int} {t : Nat} {a : Int32} {r : List Value} (hd : decode code pc = .ok (.ifCond cd o, 3)) (hj : jump pc o = some t) (h : if_icmp.holds cd a 0 = true) (k : Wp W ro F Lb y code ret t ls r M Q) : Wp W ro F Lb y code ret pc ls (.int a :: r) M Q :=
  Wp.if0 hd hj (fun _ => k) (fun q => by rw [h] at q; cases q)
theorem Wp.ifF {cd : ClassFile.Cond} {o : Int} {t : Nat} {a : Int32} {r : List Value} (hd : decode code pc = .ok (.ifCond cd o, 3)) (hj : jump pc o = some t) (h : if_icmp.holds cd a 0 = false) (k : Wp W ro F Lb y code ret (pc + 3) ls r M Q) : Wp W ro F Lb y code ret pc ls (.int a :: r) M Q :=
  Wp.if0 hd hj (fun q => by rw [h] at q; cases q) (fun _ => k)
theorem Wp.idiv {a b : Int32} {r : List Value} (hd : decode code pc = .ok (.idiv, 1)) (hb : ¬ b = 0) (k : Wp W ro F Lb y code ret (pc + 1) ls (.int (a / b) :: r) M Q) : Wp W ro F Lb y code ret pc ls (.int b :: .int a :: r) M Q :=
  Wp.p hd rfl (by simp only [execP]; rw [if_neg hb]) k
theorem Wp.irem {a b : Int32} {r : List Value} (hd : decode code pc = .ok (.irem, 1)) (hb : ¬ b = 0) (k : Wp W ro F Lb y code ret (pc + 1) ls (.int (a - (a / b) * b) :: r) M Q) : Wp W ro F Lb y code ret pc ls (.int b :: .int a :: r) M Q :=
  Wp.p hd rfl (by simp only [execP]; rw [if_neg hb]) k
theorem Wp.ldiv {a b : Int64} {r : List Value} (hd : decode code pc = .ok (.ldiv, 1)) (hb : ¬ b = 0) (k : Wp W ro F Lb y code ret (pc + 1) ls (.long (a / b) :: r) M Q) : Wp W ro F Lb y code ret pc ls (.long b :: .long a :: r) M Q :=
  Wp.p hd rfl (by simp only [execP]; rw [if_neg hb]) k
theorem Wp.lrem {a b : Int64} {r : List Value} (hd : decode code pc = .ok (.lrem, 1)) (hb : ¬ b = 0) (k : Wp W ro F Lb y code ret (pc + 1) ls (.long (a - (a / b) * b) :: r) M Q) : Wp W ro F Lb y code ret pc ls (.long b :: .long a :: r) M Q :=
  Wp.p hd rfl (by simp only [execP]; rw [if_neg hb]) k
theorem storeL_one {l l' : List Slot} {i : Nat} {o : Slot} {v : Value} (h : l[i]? = some o) (ho : One o) (hv : v.category = 1) (hs : setL l i (.val v) = some l') : storeL l i v = some l' := by
  unfold storeL
  rw [h]
  have e : storeSelfL l i v = some l' := by
    unfold storeSelfL
    rw [hs]
    simp [hv]
  rcases ho with rfl | ⟨w, rfl, hw⟩
  · exact e
  · simp [hw, e]
theorem Wp.istoreO {ins : Instr} {i len : Nat} {o : Slot} {x : Int32} {l' : List Slot} {r : List Value} (hd : decode code pc = .ok (ins, len)) (hi : (ins = .istore i ∧ len = 2) ∨ (∃ n : Fin 4, ins = .istore_n n ∧ n.val = i ∧ len = 1)) (h : ls[i]? = some o) (ho : One o) (hs : setL ls i (.val (.int x)) = some l') (k : Wp W ro F Lb y code ret (pc + len) l' r M Q) : Wp W ro F Lb y code ret pc ls (.int x :: r) M Q := by
  rcases hi with ⟨rfl, rfl⟩ | ⟨n, rfl, rfl, rfl⟩
  · exact Wp.p hd rfl (by simp only [execP, storeL_one h ho (v := .int x) rfl hs]) k
  · exact Wp.p hd rfl (by simp only [execP, storeL_one h ho (v := .int x) rfl hs]) k
def OneJ (a b : Slot) : Prop := (a = .unset ∧ b = .unset) ∨ (∃ w, a = .val (.long w) ∧ b = .second)
theorem storeL_oneJ {l l1 l2 : List Slot} {i : Nat} {a b : Slot} {x : Int64} (h : l[i]? = some a) (h' : l[i + 1]? = some b) (ho : OneJ a b) (h1 : setL l i (.val (.long x)) = some l1) (h2 : setL l1 (i + 1) .second = some l2) : storeL l i (.long x) = some l2 := by
  obtain ⟨hi, rfl⟩ := setL_some h1
  obtain ⟨hi2, rfl⟩ := setL_some h2
  have hlen : i + 1 < l.length := by simpa using hi2
  have set_ok : ∀ (l : List Slot) (j : Nat) (y : Slot), j < l.length → setL l j y = some (l.set j y) := fun l => by
    induction l with
    | nil => intro j y hj; simp at hj
    | cons q t ih =>
      intro j y hj
      cases j with
      | zero => rfl
      | succ j => simp only [setL, ih j y (by simpa using hj), List.set_cons_succ]
  rcases ho with ⟨rfl, rfl⟩ | ⟨w, rfl, rfl⟩
  · have e : (l.set i (.val (.long x)))[i + 1]? = some .unset := by rw [List.getElem?_set_ne (by omega)]; exact h'
    simp only [storeL, h, storeSelfL, h1, Value.category, if_true, e]
    exact h2
  · have e0 : setL l (i + 1) .unset = some (l.set (i + 1) .unset) := set_ok _ _ _ hlen
    have e1 : setL (l.set (i + 1) .unset) i (.val (.long x)) = some ((l.set (i + 1) .unset).set i (.val (.long x))) := set_ok _ _ _ (by simpa using hi)
    have e2 : ((l.set (i + 1) .unset).set i (.val (.long x)))[i + 1]? = some .unset := by rw [List.getElem?_set_ne (by omega)]; simp [hlen]
    have e3 : setL ((l.set (i + 1) .unset).set i (.val (.long x))) (i + 1) .second = some (((l.set (i + 1) .unset).set i (.val (.long x))).set (i + 1) .second) := set_ok _ _ _ (by simpa using hlen)
    simp only [storeL, h, storeSelfL, Value.category, if_true, e0, e1, e2, e3]
    congr 1
    apply List.ext_getElem?
    intro j
    by_cases q1 : j = i + 1
    · subst q1; simp [hlen]
    · by_cases q2 : j = i
      · subst q2
        have z1 : (((l.set (j + 1) Slot.unset).set j (.val (.long x))).set (j + 1) .second)[j]? = some (.val (.long x)) := by
          rw [List.getElem?_set_ne (by omega)]; exact List.getElem?_set_self (by simpa using hi)
        have z2 : ((l.set j (Slot.val (.long x))).set (j + 1) .second)[j]? = some (.val (.long x)) := by
          rw [List.getElem?_set_ne (by omega)]; exact List.getElem?_set_self hi
        rw [z1, z2]
      · rw [List.getElem?_set_ne (by omega), List.getElem?_set_ne (by omega), List.getElem?_set_ne (by omega), List.getElem?_set_ne (by omega), List.getElem?_set_ne (by omega)]
theorem Wp.lstoreO {ins : Instr} {i len : Nat} {a b : Slot} {x : Int64} {l1 l2 : List Slot} {r : List Value} (hd : decode code pc = .ok (ins, len)) (hi : (ins = .lstore i ∧ len = 2) ∨ (∃ n : Fin 4, ins = .lstore_n n ∧ n.val = i ∧ len = 1)) (h : ls[i]? = some a) (h' : ls[i + 1]? = some b) (ho : OneJ a b) (h1 : setL ls i (.val (.long x)) = some l1) (h2 : setL l1 (i + 1) .second = some l2) (k : Wp W ro F Lb y code ret (pc + len) l2 r M Q) : Wp W ro F Lb y code ret pc ls (.long x :: r) M Q := by
  rcases hi with ⟨rfl, rfl⟩ | ⟨n, rfl, rfl, rfl⟩
  · exact Wp.p hd rfl (by simp only [execP, storeL_oneJ h h' ho h1 h2]) k
  · exact Wp.p hd rfl (by simp only [execP, storeL_oneJ h h' ho h1 h2]) k
theorem Wp.tswD {dflt low high : Int} {offs : Array Int} {len t : Nat} {i : Int32} {r : List Value} (hd : decode code pc = .ok (.tableswitch dflt low high offs, len)) (hout : i.toInt < low ∨ i.toInt > high) (hj : jump pc dflt = some t) (k : Wp W ro F Lb y code ret t ls r M Q) : Wp W ro F Lb y code ret pc ls (.int i :: r) M Q :=
  Wp.p hd rfl (by simp only [execP]; rw [if_pos hout, hj]) k
theorem Wp.retV (hd : decode code pc = .ok (.return_, 1)) (q : Q none M) : Wp W ro F Lb y code none pc ls [] M Q := Wp.r hd rfl rfl rfl q
theorem Wp.retI {x : Int32} (hd : decode code pc = .ok (.ireturn, 1)) (q : Q (some (.int x)) M) : Wp W ro F Lb y code (some .int) pc ls [.int x] M Q := Wp.r hd rfl rfl rfl q
theorem Wp.retJ {x : Int64} (hd : decode code pc = .ok (.lreturn, 1)) (q : Q (some (.long x)) M) : Wp W ro F Lb y code (some .long) pc ls [.long x] M Q := Wp.r hd rfl rfl rfl q
theorem Wp.retZ {x : Int32} (v : Int32) (hd : decode code pc = .ok (.ireturn, 1)) (hv : x &&& 1 = v) (q : Q (some (.int v)) M) : Wp W ro F Lb y code (some .boolean) pc ls [.int x] M Q := by
  subst hv; exact Wp.r hd rfl rfl rfl q
end Rules
end Jvm.OwnEv
namespace Jvm.OwnEv
open Sem ClassFile Op Lib Jvm.Stand Jvm.Free Jvm.LawKit Jvm.RoadKit
/-! PART 7: from a law's run to its claim -/
theorem law_run {l : Launch} {W : List Jvm.Cond} {x : MethodName} {code : ByteArray} {maxL : Nat} {ret : Option FieldType} {R : Room} {as : List Value} {s : State} {a0 : Array Value} (hw : ∀ d ∈ W, d.before a0 s = true) {ro : Nat} {M0 : EMem} {ρ : Nat → Addr} (hρ : ∀ a b, ρ a = ρ b → a = b) (hρn : ∀ a, ro ≤ a → ρ a = s.heap.size + (a - ro))
    (Rl : Rel s W ρ ro s.heap.size s.heap M0) (hp : plainName x.cls = true) (hfl : (fillL as).length ≤ maxL)
    (h : Wp W ro R.frames R.locals x code ret 0 (entryL as maxL) [] M0 fun v M' => v = some (.int 1) ∧ M'.1.length - M0.1.length ≤ R.cells ∧ szL M'.1 - szL M0.1 ≤ R.slots) (ws : List Jvm.Cond) :
    MetFree l x (head1 (Jvm.Cond.code x code maxL ret :: ws) R) (fun a U => a = (as.map (conc ρ)).toArray ∧ s.Warmed39 U.vm ∧ U.heap = s.heap) (fun _ _ _ _ _ => True)
      (fun _ U o U' => ∃ v' L, o = .returned v' ∧ (v' = some (.int 1) ∧ Fr s.heap.size L) ∧ FrameEnd U o U' L R.cells R.slots) := by
  obtain ⟨n, v, M', h1, rfl, h3, h4⟩ := h
  have M1 := met_of (run_good (l := l) hw hρ hρn n) h1 hfl hp Rl (R := R) (Nat.le_refl _) (Nat.le_refl _) h3 h4 ws
  intro p e ha hc hk s' m args below hf happ hP hK
  obtain ⟨n', o, q1, q2, q3, v', L, q4, ⟨q5, q6, q7⟩, q8⟩ := M1 p e ha hc hk s' m args below hf happ hP hK
  exact ⟨n', o, q1, q2, q3, v', L, q4, ⟨q5, q7⟩, q8.1, q8.2.1, q8.2.2.mono h3 h4⟩
/-- the memory ahead of a law of ints -/
abbrev mem0 : EMem := ([], fun _ _ => 0, fun _ _ => 0, fun _ _ => .null)
theorem rel0 (s : State) (W : List Jvm.Cond) : Rel s W (fun a => s.heap.size + a) 0 s.heap.size s.heap mem0 :=
  ⟨rfl, Nat.le_refl _, fun a c h => by simp at h, fun _ _ _ => ⟨rfl, rfl, rfl⟩⟩
/-- the memory ahead of a law that is handed an array of ints -/
abbrev mem1 (n : Nat) (f : Nat → Int32) : EMem := ([(1, "", n)], fun a k => if a = 0 then f k else 0, fun _ _ => 0, fun _ _ => .null)
def rho1 (sa n0 : Nat) : Nat → Nat := fun a => if a = 0 then sa else n0 + (a - 1)
theorem rho1_inj {sa n0 : Nat} (h : sa < n0) (a b : Nat) (e : rho1 sa n0 a = rho1 sa n0 b) : a = b := by
  unfold rho1 at e
  split at e <;> split at e <;> omega
theorem rho1_n {sa n0 : Nat} (a : Nat) (h : 1 ≤ a) : rho1 sa n0 a = n0 + (a - 1) := by
  unfold rho1
  rw [if_neg (by omega)]
theorem rel1 {s : State} (W : List Jvm.Cond) {sa : Addr} {c : Cell} {f : Nat → Int32} (A : Arr s s.heap sa c .int) (hf : ∀ k, k < c.slots.size → c.slots[k]? = some (.int (f k))) : Rel s W (rho1 sa s.heap.size) 1 s.heap.size s.heap (mem1 c.slots.size f) := by
  refine ⟨rfl, Nat.le_refl _, fun a cc h => ?_, fun a h k => ⟨?_, rfl, rfl⟩⟩
  · cases a with
    | zero =>
      simp at h
      subst h
      exact ⟨fun q => (by cases q), fun _ => ⟨c, A, rfl, fun k hk => by simpa using hf k hk⟩, fun q => (by cases q), fun q => (by cases q)⟩
    | succ a => simp at h
  · have h' : 1 ≤ a := h
    exact if_neg (by omega)
theorem script_start {s : State} {a : Addr} {c : Cell} (hf : Fit s) (A : Arr s s.heap a c .int) (hn : c.slots.size < 2 ^ 31) : ∃ f : Nat → Int32, ∀ k, k < c.slots.size → c.slots[k]? = some (.int (f k)) := by
  refine ⟨fun k => atv c k.toInt32, fun k hk => ?_⟩
  obtain ⟨n, -, S⟩ := Scr.start hf A hn
  have h1 := idx_in hk hn
  have e : k.toInt32.toNatClampNeg = k := by
    have q : k.toInt32.toInt = k := len_toInt (by omega)
    simp only [Int32.toNatClampNeg, q]; rfl
  have h2 := S.2.2.2 k.toInt32 h1
  rw [e] at h2
  exact h2
theorem script_len {s : State} {a : Addr} {c : Cell} (A : Arr s s.heap a c .int) (h : (Jvm.Cond.le (Term.length (Term.arg 0)) (Term.int 260)).value #[Value.ref a] s none s [] = some true) : c.slots.size ≤ 260 := by
  have e := A.fin (Vm.Alike.refl _)
  by_cases hn : c.slots.size < 2 ^ 31
  · have el : (Term.length (Term.arg 0)).eval #[Value.ref a] s none [] s = some (.int c.slots.size.toInt32) := by
      simp [Term.eval, e, hn]
    have q := gotT (Cond.le_ints el (Term.int_eval 260)) h
    rw [Int32.le_iff_toInt_le, len_toInt hn] at q
    simp at q
    omega
  · have el : (Term.length (Term.arg 0)).eval #[Value.ref a] s none [] s = none := by
      simp [Term.eval, e, hn]
    simp [Cond.value, el] at h
end Jvm.OwnEv
namespace Jvm.OwnEv
open Sem ClassFile Op Lib Jvm.Stand Jvm.Free Jvm.LawKit Jvm.RoadKit
/-! PART 8: small facts on ints -/
theorem inb_iff {j : Int32} {n : Nat} : inb j n = true ↔ 0 ≤ j.toInt ∧ j.toInt < n := by
  simp only [inb, Bool.and_eq_true, decide_eq_true_eq, Int32.lt_iff_toInt_lt, Int32.toNatClampNeg, Int32.reduceToInt]
  omega
theorem inb_of {j : Int32} {n : Nat} (h : 0 ≤ j.toInt ∧ j.toInt < n) : inb j n = true := inb_iff.mpr h
theorem inb_lt {j : Int32} {n : Nat} (m : Int32) (h1 : ¬ j < 0) (h2 : j < m) (hm : m.toInt = n) : inb j n = true := by
  rw [inb_iff]
  rw [Int32.lt_iff_toInt_lt] at h1 h2
  simp at h1
  omega
theorem clamp_inj {a b : Int32} (ha : ¬ a < 0) (hb : ¬ b < 0) (h : a.toNatClampNeg = b.toNatClampNeg) : a = b := by
  rw [Int32.lt_iff_toInt_lt] at ha hb
  simp at ha hb
  simp only [Int32.toNatClampNeg] at h
  apply Int32.toInt_inj.mp
  omega
theorem clamp_lt {j : Int32} {n : Nat} (m : Int32) (h1 : ¬ j < 0) (h2 : j < m) (hm : m.toInt = n) : j.toNatClampNeg < n := by
  rw [Int32.lt_iff_toInt_lt] at h1 h2
  simp at h1
  simp only [Int32.toNatClampNeg]
  omega
theorem up_at {α : Type} (f : Nat → Nat → α) (a k : Nat) (v : α) (x y : Nat) : up f a k v x y = if x = a ∧ y = k then v else f x y := rfl
end Jvm.OwnEv
namespace Jvm.Pilot.@@N@@
open Jvm Jvm.ClassFile Sem Op Lib Jvm.Free Jvm.Stand Jvm.LawKit Jvm.RoadKit Jvm.OwnEv Bundle Jvm.Pilot.@@N@@.Jvm.D
abbrev RR1 : Nat → Nat → Value := (up (up (up (up (up (up (up (up (fun _ _ => Value.null) 0 11 (.ref 1)) 0 13 (.ref 2)) 0 15 (.ref 3)) 0 17 (.ref 4)) 0 19 (.ref 5)) 0 21 (.ref 6)) 0 24 (.ref 7)) 0 26 (.ref 8))
abbrev LL1 : ELay := [(0, "HtreeDir", 13), (1, "", 128), (1, "", 128), (1, "", 128), (1, "", 32), (1, "", 32), (1, "", 32), (3, "", 4), (1, "", 4)]
abbrev QL : Option Value → EMem → Prop := fun v M' => v = some (.int 1) ∧ M'.1.length - 0 ≤ room_1.cells ∧ szL M'.1 - 0 ≤ room_1.slots
theorem ql1 {mi : Nat → Nat → Int32} {ml : Nat → Nat → Int64} {v : Int32} (h : v = 1) : QL (some (.int v)) (LL1, mi, ml, RR1) := ⟨by rw [h], by show LL1.length - 0 ≤ room_1.cells; decide, by show szL LL1 - 0 ≤ room_1.slots; decide⟩
theorem d_capacity_0 : decode prog_1_method_2_code 0 = .ok (.aload_n 0, 1) := by decide +kernel
theorem d_capacity_1 : decode prog_1_method_2_code 1 = .ok (.getfield 40, 3) := by decide +kernel
theorem fa_c40 : fieldAt tables_1 "HtreeDir" 40 = some ("HtreeDir", 31, 1, false) := by decide +kernel
theorem d_capacity_4 : decode prog_1_method_2_code 4 = .ok (.ireturn, 1) := by decide +kernel
abbrev W_capacity (pc : Nat) (ls : List Slot) (st : List Value) (M : EMem) (Q : Option Value → EMem → Prop) : Prop := Wp tables_1 0 0 0 (⟨"HtreeDir", "capacity", "()I"⟩ : MethodName) prog_1_method_2_code (some .int) pc ls st M Q
theorem d_count_0 : decode prog_1_method_3_code 0 = .ok (.aload_n 0, 1) := by decide +kernel
theorem d_count_1 : decode prog_1_method_3_code 1 = .ok (.getfield 43, 3) := by decide +kernel
theorem fa_c43 : fieldAt tables_1 "HtreeDir" 43 = some ("HtreeDir", 33, 1, false) := by decide +kernel
theorem d_count_4 : decode prog_1_method_3_code 4 = .ok (.ireturn, 1) := by decide +kernel
abbrev W_count (pc : Nat) (ls : List Slot) (st : List Value) (M : EMem) (Q : Option Value → EMem → Prop) : Prop := Wp tables_1 0 0 0 (⟨"HtreeDir", "count", "()I"⟩ : MethodName) prog_1_method_3_code (some .int) pc ls st M Q
theorem d_isName_0 : decode prog_1_method_17_code 0 = .ok (.iload_n 1, 1) := by decide +kernel
theorem d_isName_1 : decode prog_1_method_17_code 1 = .ok (.ifCond .lt 13, 3) := by decide +kernel
theorem d_isName_14 : decode prog_1_method_17_code 14 = .ok (.iconst 0, 1) := by decide +kernel
theorem d_isName_4 : decode prog_1_method_17_code 4 = .ok (.iload_n 1, 1) := by decide +kernel
theorem d_isName_5 : decode prog_1_method_17_code 5 = .ok (.ldc 35, 2) := by decide +kernel
theorem ik_c35 : intLk "HtreeDir" 35 tables_1 = some (65535 : Int32) := by decide +kernel
theorem d_isName_10 : decode prog_1_method_17_code 10 = .ok (.iconst 1, 1) := by decide +kernel
theorem d_isName_11 : decode prog_1_method_17_code 11 = .ok (.goto 4, 3) := by decide +kernel
theorem d_isName_7 : decode prog_1_method_17_code 7 = .ok (.if_icmp .gt 7, 3) := by decide +kernel
abbrev W_isName (pc : Nat) (ls : List Slot) (st : List Value) (M : EMem) (Q : Option Value → EMem → Prop) : Prop := Wp tables_1 0 0 0 (⟨"HtreeDir", "isName", "(I)Z"⟩ : MethodName) prog_1_method_17_code (some .boolean) pc ls st M Q
theorem d_isName_15 : decode prog_1_method_17_code 15 = .ok (.ireturn, 1) := by decide +kernel
theorem d_hash_0 : decode prog_1_method_19_code 0 = .ok (.iload_n 1, 1) := by decide +kernel
theorem d_hash_1 : decode prog_1_method_19_code 1 = .ok (.aload_n 0, 1) := by decide +kernel
theorem d_hash_2 : decode prog_1_method_19_code 2 = .ok (.getfield 36, 3) := by decide +kernel
theorem fa_c36 : fieldAt tables_1 "HtreeDir" 36 = some ("HtreeDir", 29, 1, false) := by decide +kernel
theorem d_hash_5 : decode prog_1_method_19_code 5 = .ok (.ixor, 1) := by decide +kernel
theorem d_hash_6 : decode prog_1_method_19_code 6 = .ok (.ldc 35, 2) := by decide +kernel
theorem d_hash_8 : decode prog_1_method_19_code 8 = .ok (.iand, 1) := by decide +kernel
theorem d_hash_9 : decode prog_1_method_19_code 9 = .ok (.istore_n 2, 1) := by decide +kernel
theorem d_hash_10 : decode prog_1_method_19_code 10 = .ok (.iload_n 2, 1) := by decide +kernel
theorem d_hash_11 : decode prog_1_method_19_code 11 = .ok (.ldc 99, 2) := by decide +kernel
theorem ik_c99 : intLk "HtreeDir" 99 tables_1 = some (40507 : Int32) := by decide +kernel
theorem d_hash_13 : decode prog_1_method_19_code 13 = .ok (.imul, 1) := by decide +kernel
theorem d_hash_14 : decode prog_1_method_19_code 14 = .ok (.ldc 35, 2) := by decide +kernel
theorem d_hash_16 : decode prog_1_method_19_code 16 = .ok (.iand, 1) := by decide +kernel
theorem d_hash_17 : decode prog_1_method_19_code 17 = .ok (.istore_n 2, 1) := by decide +kernel
theorem d_hash_18 : decode prog_1_method_19_code 18 = .ok (.iload_n 2, 1) := by decide +kernel
theorem d_hash_19 : decode prog_1_method_19_code 19 = .ok (.iload_n 2, 1) := by decide +kernel
theorem d_hash_20 : decode prog_1_method_19_code 20 = .ok (.bipush 7, 2) := by decide +kernel
theorem d_hash_22 : decode prog_1_method_19_code 22 = .ok (.iushr, 1) := by decide +kernel
theorem d_hash_23 : decode prog_1_method_19_code 23 = .ok (.ixor, 1) := by decide +kernel
theorem d_hash_24 : decode prog_1_method_19_code 24 = .ok (.istore_n 2, 1) := by decide +kernel
theorem d_hash_25 : decode prog_1_method_19_code 25 = .ok (.iload_n 2, 1) := by decide +kernel
theorem d_hash_26 : decode prog_1_method_19_code 26 = .ok (.sipush 23505, 3) := by decide +kernel
theorem d_hash_29 : decode prog_1_method_19_code 29 = .ok (.imul, 1) := by decide +kernel
theorem d_hash_30 : decode prog_1_method_19_code 30 = .ok (.ldc 35, 2) := by decide +kernel
theorem d_hash_32 : decode prog_1_method_19_code 32 = .ok (.iand, 1) := by decide +kernel
theorem d_hash_33 : decode prog_1_method_19_code 33 = .ok (.istore_n 2, 1) := by decide +kernel
theorem d_hash_34 : decode prog_1_method_19_code 34 = .ok (.iload_n 2, 1) := by decide +kernel
theorem d_hash_35 : decode prog_1_method_19_code 35 = .ok (.iload_n 2, 1) := by decide +kernel
theorem d_hash_36 : decode prog_1_method_19_code 36 = .ok (.bipush 9, 2) := by decide +kernel
theorem d_hash_38 : decode prog_1_method_19_code 38 = .ok (.iushr, 1) := by decide +kernel
theorem d_hash_39 : decode prog_1_method_19_code 39 = .ok (.ixor, 1) := by decide +kernel
theorem d_hash_40 : decode prog_1_method_19_code 40 = .ok (.istore_n 2, 1) := by decide +kernel
theorem d_hash_41 : decode prog_1_method_19_code 41 = .ok (.iload_n 2, 1) := by decide +kernel
theorem d_hash_42 : decode prog_1_method_19_code 42 = .ok (.ireturn, 1) := by decide +kernel
abbrev W_hash (pc : Nat) (ls : List Slot) (st : List Value) (M : EMem) (Q : Option Value → EMem → Prop) : Prop := Wp tables_1 0 0 0 (⟨"HtreeDir", "hash", "(I)I"⟩ : MethodName) prog_1_method_19_code (some .int) pc ls st M Q
theorem d_law_hash_0 : decode method_3_code 0 = .ok (.iload_n 1, 1) := by decide +kernel
theorem d_law_hash_1 : decode method_3_code 1 = .ok (.iload_n 0, 1) := by decide +kernel
theorem d_law_hash_2 : decode method_3_code 2 = .ok (.ixor, 1) := by decide +kernel
theorem d_law_hash_3 : decode method_3_code 3 = .ok (.ldc 12, 2) := by decide +kernel
theorem ik_w12 : intLk "HtreeDirL1" 12 tables_1 = some (65535 : Int32) := by decide +kernel
theorem d_law_hash_5 : decode method_3_code 5 = .ok (.iand, 1) := by decide +kernel
theorem d_law_hash_6 : decode method_3_code 6 = .ok (.istore_n 2, 1) := by decide +kernel
theorem d_law_hash_7 : decode method_3_code 7 = .ok (.iload_n 2, 1) := by decide +kernel
theorem d_law_hash_8 : decode method_3_code 8 = .ok (.ldc 39, 2) := by decide +kernel
theorem ik_w39 : intLk "HtreeDirL1" 39 tables_1 = some (40507 : Int32) := by decide +kernel
theorem d_law_hash_10 : decode method_3_code 10 = .ok (.imul, 1) := by decide +kernel
theorem d_law_hash_11 : decode method_3_code 11 = .ok (.ldc 12, 2) := by decide +kernel
theorem d_law_hash_13 : decode method_3_code 13 = .ok (.iand, 1) := by decide +kernel
theorem d_law_hash_14 : decode method_3_code 14 = .ok (.istore_n 2, 1) := by decide +kernel
theorem d_law_hash_15 : decode method_3_code 15 = .ok (.iload_n 2, 1) := by decide +kernel
theorem d_law_hash_16 : decode method_3_code 16 = .ok (.iload_n 2, 1) := by decide +kernel
theorem d_law_hash_17 : decode method_3_code 17 = .ok (.bipush 7, 2) := by decide +kernel
theorem d_law_hash_19 : decode method_3_code 19 = .ok (.iushr, 1) := by decide +kernel
theorem d_law_hash_20 : decode method_3_code 20 = .ok (.ixor, 1) := by decide +kernel
theorem d_law_hash_21 : decode method_3_code 21 = .ok (.istore_n 2, 1) := by decide +kernel
theorem d_law_hash_22 : decode method_3_code 22 = .ok (.iload_n 2, 1) := by decide +kernel
theorem d_law_hash_23 : decode method_3_code 23 = .ok (.sipush 23505, 3) := by decide +kernel
theorem d_law_hash_26 : decode method_3_code 26 = .ok (.imul, 1) := by decide +kernel
theorem d_law_hash_27 : decode method_3_code 27 = .ok (.ldc 12, 2) := by decide +kernel
theorem d_law_hash_29 : decode method_3_code 29 = .ok (.iand, 1) := by decide +kernel
theorem d_law_hash_30 : decode method_3_code 30 = .ok (.istore_n 2, 1) := by decide +kernel
theorem d_law_hash_31 : decode method_3_code 31 = .ok (.iload_n 2, 1) := by decide +kernel
theorem d_law_hash_32 : decode method_3_code 32 = .ok (.iload_n 2, 1) := by decide +kernel
theorem d_law_hash_33 : decode method_3_code 33 = .ok (.bipush 9, 2) := by decide +kernel
theorem d_law_hash_35 : decode method_3_code 35 = .ok (.iushr, 1) := by decide +kernel
theorem d_law_hash_36 : decode method_3_code 36 = .ok (.ixor, 1) := by decide +kernel
theorem d_law_hash_37 : decode method_3_code 37 = .ok (.istore_n 2, 1) := by decide +kernel
theorem d_law_hash_38 : decode method_3_code 38 = .ok (.iload_n 2, 1) := by decide +kernel
theorem d_law_hash_39 : decode method_3_code 39 = .ok (.ireturn, 1) := by decide +kernel
abbrev W_law_hash (pc : Nat) (ls : List Slot) (st : List Value) (M : EMem) (Q : Option Value → EMem → Prop) : Prop := Wp tables_1 0 0 0 (⟨"HtreeDirL1", "hash", "(II)I"⟩ : MethodName) method_3_code (some .int) pc ls st M Q
theorem d_hashOf_0 : decode prog_1_method_4_code 0 = .ok (.aload_n 0, 1) := by decide +kernel
theorem d_hashOf_1 : decode prog_1_method_4_code 1 = .ok (.iload_n 1, 1) := by decide +kernel
theorem d_hashOf_2 : decode prog_1_method_4_code 2 = .ok (.invokevirtual 52, 3) := by decide +kernel
theorem ca_c52_1 : callAt tables_1 "HtreeDir" 52 1 = some ((⟨"HtreeDir", "isName", "(I)Z"⟩ : MethodName), 1, prog_1_method_17_code, 2, (some .boolean)) := by decide +kernel
abbrev W_hashOf (pc : Nat) (ls : List Slot) (st : List Value) (M : EMem) (Q : Option Value → EMem → Prop) : Prop := Wp tables_1 0 1 14 (⟨"HtreeDir", "hashOf", "(I)I"⟩ : MethodName) prog_1_method_4_code (some .int) pc ls st M Q
theorem d_hashOf_5 : decode prog_1_method_4_code 5 = .ok (.ifCond .ne 5, 3) := by decide +kernel
theorem d_hashOf_10 : decode prog_1_method_4_code 10 = .ok (.aload_n 0, 1) := by decide +kernel
theorem d_hashOf_11 : decode prog_1_method_4_code 11 = .ok (.iload_n 1, 1) := by decide +kernel
theorem d_hashOf_12 : decode prog_1_method_4_code 12 = .ok (.invokevirtual 56, 3) := by decide +kernel
theorem ca_c56_1 : callAt tables_1 "HtreeDir" 56 1 = some ((⟨"HtreeDir", "hash", "(I)I"⟩ : MethodName), 1, prog_1_method_19_code, 3, (some .int)) := by decide +kernel
theorem d_hashOf_8 : decode prog_1_method_4_code 8 = .ok (.iconst (-1), 1) := by decide +kernel
theorem d_hashOf_9 : decode prog_1_method_4_code 9 = .ok (.ireturn, 1) := by decide +kernel
theorem d_hashOf_15 : decode prog_1_method_4_code 15 = .ok (.ireturn, 1) := by decide +kernel
theorem d_init_0 : decode prog_1_method_1_code 0 = .ok (.aload_n 0, 1) := by decide +kernel
theorem d_init_1 : decode prog_1_method_1_code 1 = .ok (.invokespecial 1, 3) := by decide +kernel
theorem oi_c1 : objInitAt tables_1 "HtreeDir" 1 = true := by decide +kernel
theorem d_init_4 : decode prog_1_method_1_code 4 = .ok (.aload_n 0, 1) := by decide +kernel
theorem d_init_5 : decode prog_1_method_1_code 5 = .ok (.sipush 128, 3) := by decide +kernel
theorem d_init_8 : decode prog_1_method_1_code 8 = .ok (.newarray .int, 2) := by decide +kernel
theorem ar_int : hasArr .int tables_1 = true := by decide +kernel
theorem d_init_10 : decode prog_1_method_1_code 10 = .ok (.putfield 7, 3) := by decide +kernel
theorem fa_c7 : fieldAt tables_1 "HtreeDir" 7 = some ("HtreeDir", 11, 4, false) := by decide +kernel
theorem in_HtreeDir : instLk "HtreeDir" tables_1 = some 13 := by decide +kernel
theorem d_init_13 : decode prog_1_method_1_code 13 = .ok (.aload_n 0, 1) := by decide +kernel
theorem d_init_14 : decode prog_1_method_1_code 14 = .ok (.sipush 128, 3) := by decide +kernel
theorem d_init_17 : decode prog_1_method_1_code 17 = .ok (.newarray .int, 2) := by decide +kernel
theorem d_init_19 : decode prog_1_method_1_code 19 = .ok (.putfield 13, 3) := by decide +kernel
theorem fa_c13 : fieldAt tables_1 "HtreeDir" 13 = some ("HtreeDir", 13, 4, false) := by decide +kernel
theorem d_init_22 : decode prog_1_method_1_code 22 = .ok (.aload_n 0, 1) := by decide +kernel
theorem d_init_23 : decode prog_1_method_1_code 23 = .ok (.sipush 128, 3) := by decide +kernel
theorem d_init_26 : decode prog_1_method_1_code 26 = .ok (.newarray .int, 2) := by decide +kernel
theorem d_init_28 : decode prog_1_method_1_code 28 = .ok (.putfield 16, 3) := by decide +kernel
theorem fa_c16 : fieldAt tables_1 "HtreeDir" 16 = some ("HtreeDir", 15, 4, false) := by decide +kernel
theorem d_init_31 : decode prog_1_method_1_code 31 = .ok (.aload_n 0, 1) := by decide +kernel
theorem d_init_32 : decode prog_1_method_1_code 32 = .ok (.bipush 32, 2) := by decide +kernel
theorem d_init_34 : decode prog_1_method_1_code 34 = .ok (.newarray .int, 2) := by decide +kernel
theorem d_init_36 : decode prog_1_method_1_code 36 = .ok (.putfield 19, 3) := by decide +kernel
theorem fa_c19 : fieldAt tables_1 "HtreeDir" 19 = some ("HtreeDir", 17, 4, false) := by decide +kernel
theorem d_init_39 : decode prog_1_method_1_code 39 = .ok (.aload_n 0, 1) := by decide +kernel
theorem d_init_40 : decode prog_1_method_1_code 40 = .ok (.bipush 32, 2) := by decide +kernel
theorem d_init_42 : decode prog_1_method_1_code 42 = .ok (.newarray .int, 2) := by decide +kernel
theorem d_init_44 : decode prog_1_method_1_code 44 = .ok (.putfield 22, 3) := by decide +kernel
theorem fa_c22 : fieldAt tables_1 "HtreeDir" 22 = some ("HtreeDir", 19, 4, false) := by decide +kernel
theorem d_init_47 : decode prog_1_method_1_code 47 = .ok (.aload_n 0, 1) := by decide +kernel
theorem d_init_48 : decode prog_1_method_1_code 48 = .ok (.bipush 32, 2) := by decide +kernel
theorem d_init_50 : decode prog_1_method_1_code 50 = .ok (.newarray .int, 2) := by decide +kernel
theorem d_init_52 : decode prog_1_method_1_code 52 = .ok (.putfield 25, 3) := by decide +kernel
theorem fa_c25 : fieldAt tables_1 "HtreeDir" 25 = some ("HtreeDir", 21, 4, false) := by decide +kernel
theorem d_init_55 : decode prog_1_method_1_code 55 = .ok (.aload_n 0, 1) := by decide +kernel
theorem d_init_56 : decode prog_1_method_1_code 56 = .ok (.iconst 4, 1) := by decide +kernel
theorem d_init_57 : decode prog_1_method_1_code 57 = .ok (.newarray .boolean, 2) := by decide +kernel
theorem ar_boolean : hasArr .boolean tables_1 = true := by decide +kernel
theorem d_init_59 : decode prog_1_method_1_code 59 = .ok (.putfield 28, 3) := by decide +kernel
theorem fa_c28 : fieldAt tables_1 "HtreeDir" 28 = some ("HtreeDir", 24, 4, false) := by decide +kernel
theorem d_init_62 : decode prog_1_method_1_code 62 = .ok (.aload_n 0, 1) := by decide +kernel
theorem d_init_63 : decode prog_1_method_1_code 63 = .ok (.iconst 4, 1) := by decide +kernel
theorem d_init_64 : decode prog_1_method_1_code 64 = .ok (.newarray .int, 2) := by decide +kernel
theorem d_init_66 : decode prog_1_method_1_code 66 = .ok (.putfield 32, 3) := by decide +kernel
theorem fa_c32 : fieldAt tables_1 "HtreeDir" 32 = some ("HtreeDir", 26, 4, false) := by decide +kernel
theorem d_init_69 : decode prog_1_method_1_code 69 = .ok (.iload_n 1, 1) := by decide +kernel
theorem d_init_70 : decode prog_1_method_1_code 70 = .ok (.istore_n 3, 1) := by decide +kernel
theorem d_init_71 : decode prog_1_method_1_code 71 = .ok (.iload_n 3, 1) := by decide +kernel
theorem d_init_72 : decode prog_1_method_1_code 72 = .ok (.ifCond .ge 5, 3) := by decide +kernel
theorem d_init_75 : decode prog_1_method_1_code 75 = .ok (.iconst 0, 1) := by decide +kernel
theorem d_init_76 : decode prog_1_method_1_code 76 = .ok (.istore_n 3, 1) := by decide +kernel
abbrev W_init (pc : Nat) (ls : List Slot) (st : List Value) (M : EMem) (Q : Option Value → EMem → Prop) : Prop := Wp tables_1 0 1 12 (⟨"HtreeDir", "<init>", "(II)V"⟩ : MethodName) prog_1_method_1_code none pc ls st M Q
theorem d_init_77 : decode prog_1_method_1_code 77 = .ok (.iload_n 3, 1) := by decide +kernel
theorem d_init_78 : decode prog_1_method_1_code 78 = .ok (.ldc 35, 2) := by decide +kernel
theorem d_init_80 : decode prog_1_method_1_code 80 = .ok (.if_icmp .le 6, 3) := by decide +kernel
theorem d_init_83 : decode prog_1_method_1_code 83 = .ok (.ldc 35, 2) := by decide +kernel
theorem d_init_85 : decode prog_1_method_1_code 85 = .ok (.istore_n 3, 1) := by decide +kernel
theorem d_init_86 : decode prog_1_method_1_code 86 = .ok (.iload_n 2, 1) := by decide +kernel
theorem d_init_87 : decode prog_1_method_1_code 87 = .ok (.istore 4, 2) := by decide +kernel
theorem d_init_89 : decode prog_1_method_1_code 89 = .ok (.iload 4, 2) := by decide +kernel
theorem d_init_91 : decode prog_1_method_1_code 91 = .ok (.bipush 8, 2) := by decide +kernel
theorem d_init_93 : decode prog_1_method_1_code 93 = .ok (.if_icmp .ge 7, 3) := by decide +kernel
theorem d_init_96 : decode prog_1_method_1_code 96 = .ok (.bipush 8, 2) := by decide +kernel
theorem d_init_98 : decode prog_1_method_1_code 98 = .ok (.istore 4, 2) := by decide +kernel
theorem d_init_100 : decode prog_1_method_1_code 100 = .ok (.iload 4, 2) := by decide +kernel
theorem d_init_102 : decode prog_1_method_1_code 102 = .ok (.bipush 32, 2) := by decide +kernel
theorem d_init_104 : decode prog_1_method_1_code 104 = .ok (.if_icmp .le 7, 3) := by decide +kernel
theorem d_init_107 : decode prog_1_method_1_code 107 = .ok (.bipush 32, 2) := by decide +kernel
theorem d_init_109 : decode prog_1_method_1_code 109 = .ok (.istore 4, 2) := by decide +kernel
theorem d_init_111 : decode prog_1_method_1_code 111 = .ok (.aload_n 0, 1) := by decide +kernel
theorem d_init_112 : decode prog_1_method_1_code 112 = .ok (.iload_n 3, 1) := by decide +kernel
theorem d_init_113 : decode prog_1_method_1_code 113 = .ok (.putfield 36, 3) := by decide +kernel
theorem d_init_116 : decode prog_1_method_1_code 116 = .ok (.aload_n 0, 1) := by decide +kernel
theorem d_init_117 : decode prog_1_method_1_code 117 = .ok (.iload 4, 2) := by decide +kernel
theorem d_init_119 : decode prog_1_method_1_code 119 = .ok (.putfield 40, 3) := by decide +kernel
theorem d_init_122 : decode prog_1_method_1_code 122 = .ok (.aload_n 0, 1) := by decide +kernel
theorem d_init_123 : decode prog_1_method_1_code 123 = .ok (.iconst 0, 1) := by decide +kernel
theorem d_init_124 : decode prog_1_method_1_code 124 = .ok (.putfield 43, 3) := by decide +kernel
theorem d_init_127 : decode prog_1_method_1_code 127 = .ok (.aload_n 0, 1) := by decide +kernel
theorem d_init_128 : decode prog_1_method_1_code 128 = .ok (.iconst 0, 1) := by decide +kernel
theorem d_init_129 : decode prog_1_method_1_code 129 = .ok (.putfield 46, 3) := by decide +kernel
theorem fa_c46 : fieldAt tables_1 "HtreeDir" 46 = some ("HtreeDir", 35, 1, false) := by decide +kernel
theorem d_init_132 : decode prog_1_method_1_code 132 = .ok (.iconst 0, 1) := by decide +kernel
theorem d_init_133 : decode prog_1_method_1_code 133 = .ok (.istore 5, 2) := by decide +kernel
theorem d_init_135 : decode prog_1_method_1_code 135 = .ok (.iload 5, 2) := by decide +kernel
theorem d_init_137 : decode prog_1_method_1_code 137 = .ok (.bipush 32, 2) := by decide +kernel
theorem d_init_139 : decode prog_1_method_1_code 139 = .ok (.if_icmp .ge 21, 3) := by decide +kernel
theorem d_init_142 : decode prog_1_method_1_code 142 = .ok (.aload_n 0, 1) := by decide +kernel
theorem d_init_143 : decode prog_1_method_1_code 143 = .ok (.getfield 25, 3) := by decide +kernel
theorem d_init_146 : decode prog_1_method_1_code 146 = .ok (.iload 5, 2) := by decide +kernel
theorem d_init_148 : decode prog_1_method_1_code 148 = .ok (.bipush 31, 2) := by decide +kernel
theorem d_init_150 : decode prog_1_method_1_code 150 = .ok (.iload 5, 2) := by decide +kernel
theorem d_init_152 : decode prog_1_method_1_code 152 = .ok (.isub, 1) := by decide +kernel
theorem d_init_153 : decode prog_1_method_1_code 153 = .ok (.iastore, 1) := by decide +kernel
theorem d_init_154 : decode prog_1_method_1_code 154 = .ok (.iinc 5 1, 3) := by decide +kernel
theorem d_init_157 : decode prog_1_method_1_code 157 = .ok (.goto (-22), 3) := by decide +kernel
theorem d_init_160 : decode prog_1_method_1_code 160 = .ok (.aload_n 0, 1) := by decide +kernel
theorem d_init_161 : decode prog_1_method_1_code 161 = .ok (.bipush 32, 2) := by decide +kernel
theorem d_init_163 : decode prog_1_method_1_code 163 = .ok (.putfield 49, 3) := by decide +kernel
theorem fa_c49 : fieldAt tables_1 "HtreeDir" 49 = some ("HtreeDir", 37, 1, false) := by decide +kernel
theorem d_init_166 : decode prog_1_method_1_code 166 = .ok (.return_, 1) := by decide +kernel
theorem d_locate_0 : decode prog_1_method_22_code 0 = .ok (.aload_n 0, 1) := by decide +kernel
theorem d_locate_1 : decode prog_1_method_22_code 1 = .ok (.getfield 46, 3) := by decide +kernel
theorem d_locate_4 : decode prog_1_method_22_code 4 = .ok (.ifCond .gt 5, 3) := by decide +kernel
theorem d_locate_9 : decode prog_1_method_22_code 9 = .ok (.aload_n 0, 1) := by decide +kernel
theorem d_locate_10 : decode prog_1_method_22_code 10 = .ok (.iload_n 1, 1) := by decide +kernel
theorem d_locate_7 : decode prog_1_method_22_code 7 = .ok (.iconst (-1), 1) := by decide +kernel
theorem d_locate_8 : decode prog_1_method_22_code 8 = .ok (.ireturn, 1) := by decide +kernel
abbrev W_locate (pc : Nat) (ls : List Slot) (st : List Value) (M : EMem) (Q : Option Value → EMem → Prop) : Prop := Wp tables_1 0 0 0 (⟨"HtreeDir", "locate", "(I)I"⟩ : MethodName) prog_1_method_22_code (some .int) pc ls st M Q
theorem d_lookup_0 : decode prog_1_method_8_code 0 = .ok (.aload_n 0, 1) := by decide +kernel
theorem d_lookup_1 : decode prog_1_method_8_code 1 = .ok (.iload_n 1, 1) := by decide +kernel
theorem d_lookup_2 : decode prog_1_method_8_code 2 = .ok (.invokevirtual 52, 3) := by decide +kernel
abbrev W_lookup (pc : Nat) (ls : List Slot) (st : List Value) (M : EMem) (Q : Option Value → EMem → Prop) : Prop := Wp tables_1 0 1 18 (⟨"HtreeDir", "lookup", "(I)I"⟩ : MethodName) prog_1_method_8_code (some .int) pc ls st M Q
theorem d_lookup_5 : decode prog_1_method_8_code 5 = .ok (.ifCond .ne 5, 3) := by decide +kernel
theorem d_lookup_10 : decode prog_1_method_8_code 10 = .ok (.aload_n 0, 1) := by decide +kernel
theorem d_lookup_11 : decode prog_1_method_8_code 11 = .ok (.iload_n 1, 1) := by decide +kernel
theorem d_lookup_12 : decode prog_1_method_8_code 12 = .ok (.invokevirtual 56, 3) := by decide +kernel
theorem d_lookup_8 : decode prog_1_method_8_code 8 = .ok (.iconst 0, 1) := by decide +kernel
theorem d_lookup_9 : decode prog_1_method_8_code 9 = .ok (.ireturn, 1) := by decide +kernel
theorem d_lookup_15 : decode prog_1_method_8_code 15 = .ok (.istore_n 2, 1) := by decide +kernel
theorem d_lookup_16 : decode prog_1_method_8_code 16 = .ok (.aload_n 0, 1) := by decide +kernel
theorem d_lookup_17 : decode prog_1_method_8_code 17 = .ok (.iload_n 2, 1) := by decide +kernel
theorem d_lookup_18 : decode prog_1_method_8_code 18 = .ok (.invokevirtual 60, 3) := by decide +kernel
theorem ca_c60_1 : callAt tables_1 "HtreeDir" 60 1 = some ((⟨"HtreeDir", "locate", "(I)I"⟩ : MethodName), 1, prog_1_method_22_code, 7, (some .int)) := by decide +kernel
theorem d_lookup_21 : decode prog_1_method_8_code 21 = .ok (.istore_n 3, 1) := by decide +kernel
theorem d_lookup_22 : decode prog_1_method_8_code 22 = .ok (.iload_n 3, 1) := by decide +kernel
theorem d_lookup_23 : decode prog_1_method_8_code 23 = .ok (.ifCond .ge 5, 3) := by decide +kernel
theorem d_lookup_28 : decode prog_1_method_8_code 28 = .ok (.aload_n 0, 1) := by decide +kernel
theorem d_lookup_29 : decode prog_1_method_8_code 29 = .ok (.getfield 16, 3) := by decide +kernel
theorem d_lookup_32 : decode prog_1_method_8_code 32 = .ok (.aload_n 0, 1) := by decide +kernel
theorem d_lookup_33 : decode prog_1_method_8_code 33 = .ok (.iload_n 3, 1) := by decide +kernel
theorem d_lookup_26 : decode prog_1_method_8_code 26 = .ok (.iconst 0, 1) := by decide +kernel
theorem d_lookup_27 : decode prog_1_method_8_code 27 = .ok (.ireturn, 1) := by decide +kernel
theorem d_nameAtRank_0 : decode prog_1_method_10_code 0 = .ok (.iload_n 1, 1) := by decide +kernel
theorem d_nameAtRank_1 : decode prog_1_method_10_code 1 = .ok (.ifCond .lt 11, 3) := by decide +kernel
theorem d_nameAtRank_12 : decode prog_1_method_10_code 12 = .ok (.iconst (-1), 1) := by decide +kernel
theorem d_nameAtRank_13 : decode prog_1_method_10_code 13 = .ok (.ireturn, 1) := by decide +kernel
theorem d_nameAtRank_4 : decode prog_1_method_10_code 4 = .ok (.iload_n 1, 1) := by decide +kernel
theorem d_nameAtRank_5 : decode prog_1_method_10_code 5 = .ok (.aload_n 0, 1) := by decide +kernel
theorem d_nameAtRank_6 : decode prog_1_method_10_code 6 = .ok (.getfield 43, 3) := by decide +kernel
theorem d_nameAtRank_14 : decode prog_1_method_10_code 14 = .ok (.iload_n 1, 1) := by decide +kernel
theorem d_nameAtRank_15 : decode prog_1_method_10_code 15 = .ok (.istore_n 2, 1) := by decide +kernel
theorem d_nameAtRank_16 : decode prog_1_method_10_code 16 = .ok (.iconst 0, 1) := by decide +kernel
theorem d_nameAtRank_17 : decode prog_1_method_10_code 17 = .ok (.istore_n 3, 1) := by decide +kernel
theorem d_nameAtRank_9 : decode prog_1_method_10_code 9 = .ok (.if_icmp .lt 5, 3) := by decide +kernel
abbrev W_nameAtRank (pc : Nat) (ls : List Slot) (st : List Value) (M : EMem) (Q : Option Value → EMem → Prop) : Prop := Wp tables_1 0 0 0 (⟨"HtreeDir", "nameAtRank", "(I)I"⟩ : MethodName) prog_1_method_10_code (some .int) pc ls st M Q
theorem d_nameAtRank_18 : decode prog_1_method_10_code 18 = .ok (.iload_n 3, 1) := by decide +kernel
theorem d_nameAtRank_19 : decode prog_1_method_10_code 19 = .ok (.aload_n 0, 1) := by decide +kernel
theorem d_nameAtRank_20 : decode prog_1_method_10_code 20 = .ok (.getfield 46, 3) := by decide +kernel
theorem d_nameAtRank_23 : decode prog_1_method_10_code 23 = .ok (.if_icmp .ge 55, 3) := by decide +kernel
theorem d_nameAtRank_78 : decode prog_1_method_10_code 78 = .ok (.iconst (-1), 1) := by decide +kernel
theorem d_nameAtRank_79 : decode prog_1_method_10_code 79 = .ok (.ireturn, 1) := by decide +kernel
theorem d_nameAtRank_26 : decode prog_1_method_10_code 26 = .ok (.iload_n 3, 1) := by decide +kernel
theorem d_nameAtRank_27 : decode prog_1_method_10_code 27 = .ok (.bipush 32, 2) := by decide +kernel
theorem d_nameAtRank_32 : decode prog_1_method_10_code 32 = .ok (.aload_n 0, 1) := by decide +kernel
theorem d_nameAtRank_33 : decode prog_1_method_10_code 33 = .ok (.getfield 22, 3) := by decide +kernel
theorem d_nameAtRank_36 : decode prog_1_method_10_code 36 = .ok (.iload_n 3, 1) := by decide +kernel
theorem d_nameAtRank_37 : decode prog_1_method_10_code 37 = .ok (.iaload, 1) := by decide +kernel
theorem d_nameAtRank_38 : decode prog_1_method_10_code 38 = .ok (.istore 4, 2) := by decide +kernel
theorem d_nameAtRank_40 : decode prog_1_method_10_code 40 = .ok (.aload_n 0, 1) := by decide +kernel
theorem d_nameAtRank_41 : decode prog_1_method_10_code 41 = .ok (.getfield 19, 3) := by decide +kernel
theorem d_nameAtRank_44 : decode prog_1_method_10_code 44 = .ok (.iload 4, 2) := by decide +kernel
theorem d_nameAtRank_46 : decode prog_1_method_10_code 46 = .ok (.iaload, 1) := by decide +kernel
theorem d_nameAtRank_47 : decode prog_1_method_10_code 47 = .ok (.istore 5, 2) := by decide +kernel
theorem d_nameAtRank_49 : decode prog_1_method_10_code 49 = .ok (.iload_n 2, 1) := by decide +kernel
theorem d_nameAtRank_50 : decode prog_1_method_10_code 50 = .ok (.iload 5, 2) := by decide +kernel
theorem d_nameAtRank_67 : decode prog_1_method_10_code 67 = .ok (.iload_n 2, 1) := by decide +kernel
theorem d_nameAtRank_68 : decode prog_1_method_10_code 68 = .ok (.iload 5, 2) := by decide +kernel
theorem d_nameAtRank_70 : decode prog_1_method_10_code 70 = .ok (.isub, 1) := by decide +kernel
theorem d_nameAtRank_71 : decode prog_1_method_10_code 71 = .ok (.istore_n 2, 1) := by decide +kernel
theorem d_nameAtRank_72 : decode prog_1_method_10_code 72 = .ok (.iinc 3 1, 3) := by decide +kernel
theorem d_nameAtRank_75 : decode prog_1_method_10_code 75 = .ok (.goto (-57), 3) := by decide +kernel
theorem d_nameAtRank_29 : decode prog_1_method_10_code 29 = .ok (.if_icmp .ge 49, 3) := by decide +kernel
theorem d_nameAtRank_52 : decode prog_1_method_10_code 52 = .ok (.if_icmp .ge 15, 3) := by decide +kernel
theorem d_nameAtRank_55 : decode prog_1_method_10_code 55 = .ok (.aload_n 0, 1) := by decide +kernel
theorem d_nameAtRank_56 : decode prog_1_method_10_code 56 = .ok (.getfield 13, 3) := by decide +kernel
theorem d_nameAtRank_59 : decode prog_1_method_10_code 59 = .ok (.iload 4, 2) := by decide +kernel
theorem d_nameAtRank_61 : decode prog_1_method_10_code 61 = .ok (.iconst 4, 1) := by decide +kernel
theorem d_nameAtRank_62 : decode prog_1_method_10_code 62 = .ok (.imul, 1) := by decide +kernel
theorem d_nameAtRank_63 : decode prog_1_method_10_code 63 = .ok (.iload_n 2, 1) := by decide +kernel
theorem d_nameAtRank_64 : decode prog_1_method_10_code 64 = .ok (.iadd, 1) := by decide +kernel
theorem d_nameAtRank_65 : decode prog_1_method_10_code 65 = .ok (.iaload, 1) := by decide +kernel
theorem d_nameAtRank_66 : decode prog_1_method_10_code 66 = .ok (.ireturn, 1) := by decide +kernel
theorem d_validHandle_0 : decode prog_1_method_18_code 0 = .ok (.iload_n 1, 1) := by decide +kernel
theorem d_validHandle_1 : decode prog_1_method_18_code 1 = .ok (.ifCond .lt 21, 3) := by decide +kernel
theorem d_validHandle_22 : decode prog_1_method_18_code 22 = .ok (.iconst 0, 1) := by decide +kernel
theorem d_validHandle_4 : decode prog_1_method_18_code 4 = .ok (.iload_n 1, 1) := by decide +kernel
theorem d_validHandle_5 : decode prog_1_method_18_code 5 = .ok (.iconst 4, 1) := by decide +kernel
theorem d_validHandle_9 : decode prog_1_method_18_code 9 = .ok (.aload_n 0, 1) := by decide +kernel
theorem d_validHandle_10 : decode prog_1_method_18_code 10 = .ok (.getfield 28, 3) := by decide +kernel
theorem d_validHandle_13 : decode prog_1_method_18_code 13 = .ok (.iload_n 1, 1) := by decide +kernel
theorem d_validHandle_14 : decode prog_1_method_18_code 14 = .ok (.baload, 1) := by decide +kernel
theorem d_validHandle_18 : decode prog_1_method_18_code 18 = .ok (.iconst 1, 1) := by decide +kernel
theorem d_validHandle_19 : decode prog_1_method_18_code 19 = .ok (.goto 4, 3) := by decide +kernel
theorem d_validHandle_15 : decode prog_1_method_18_code 15 = .ok (.ifCond .eq 7, 3) := by decide +kernel
theorem d_validHandle_6 : decode prog_1_method_18_code 6 = .ok (.if_icmp .ge 16, 3) := by decide +kernel
abbrev W_validHandle (pc : Nat) (ls : List Slot) (st : List Value) (M : EMem) (Q : Option Value → EMem → Prop) : Prop := Wp tables_1 0 0 0 (⟨"HtreeDir", "validHandle", "(I)Z"⟩ : MethodName) prog_1_method_18_code (some .boolean) pc ls st M Q
theorem d_validHandle_23 : decode prog_1_method_18_code 23 = .ok (.ireturn, 1) := by decide +kernel
theorem d_tellDir_0 : decode prog_1_method_14_code 0 = .ok (.aload_n 0, 1) := by decide +kernel
theorem d_tellDir_1 : decode prog_1_method_14_code 1 = .ok (.iload_n 1, 1) := by decide +kernel
theorem d_tellDir_2 : decode prog_1_method_14_code 2 = .ok (.invokevirtual 93, 3) := by decide +kernel
theorem ca_c93_1 : callAt tables_1 "HtreeDir" 93 1 = some ((⟨"HtreeDir", "validHandle", "(I)Z"⟩ : MethodName), 1, prog_1_method_18_code, 2, (some .boolean)) := by decide +kernel
abbrev W_tellDir (pc : Nat) (ls : List Slot) (st : List Value) (M : EMem) (Q : Option Value → EMem → Prop) : Prop := Wp tables_1 0 1 13 (⟨"HtreeDir", "tellDir", "(I)I"⟩ : MethodName) prog_1_method_14_code (some .int) pc ls st M Q
theorem d_tellDir_5 : decode prog_1_method_14_code 5 = .ok (.ifCond .ne 6, 3) := by decide +kernel
theorem d_tellDir_11 : decode prog_1_method_14_code 11 = .ok (.aload_n 0, 1) := by decide +kernel
theorem d_tellDir_12 : decode prog_1_method_14_code 12 = .ok (.getfield 32, 3) := by decide +kernel
theorem d_tellDir_15 : decode prog_1_method_14_code 15 = .ok (.iload_n 1, 1) := by decide +kernel
theorem d_tellDir_16 : decode prog_1_method_14_code 16 = .ok (.iaload, 1) := by decide +kernel
theorem d_tellDir_17 : decode prog_1_method_14_code 17 = .ok (.ireturn, 1) := by decide +kernel
theorem d_tellDir_8 : decode prog_1_method_14_code 8 = .ok (.bipush (-2), 2) := by decide +kernel
theorem d_tellDir_10 : decode prog_1_method_14_code 10 = .ok (.ireturn, 1) := by decide +kernel
theorem d_law_0 : decode code 0 = .ok (.new 7, 3) := by decide +kernel
theorem na_w7 : newAt tables_1 "HtreeDirL1" 7 = some ("HtreeDir", 13) := by decide +kernel
theorem d_law_3 : decode code 3 = .ok (.dup, 1) := by decide +kernel
theorem d_law_4 : decode code 4 = .ok (.iload_n 0, 1) := by decide +kernel
theorem d_law_5 : decode code 5 = .ok (.iload_n 1, 1) := by decide +kernel
theorem d_law_6 : decode code 6 = .ok (.invokespecial 9, 3) := by decide +kernel
theorem ca_w9_2 : callAt tables_1 "HtreeDirL1" 9 2 = some ((⟨"HtreeDir", "<init>", "(II)V"⟩ : MethodName), 2, prog_1_method_1_code, 6, none) := by decide +kernel
theorem on_w9 : objInitAt tables_1 "HtreeDirL1" 9 = false := by decide +kernel
abbrev W_law (pc : Nat) (ls : List Slot) (st : List Value) (M : EMem) (Q : Option Value → EMem → Prop) : Prop := Wp tables_1 0 5 128 x code (some .boolean) pc ls st M Q
theorem d_law_9 : decode code 9 = .ok (.astore_n 3, 1) := by decide +kernel
theorem d_law_10 : decode code 10 = .ok (.iload_n 1, 1) := by decide +kernel
theorem d_law_11 : decode code 11 = .ok (.bipush 8, 2) := by decide +kernel
theorem d_law_13 : decode code 13 = .ok (.if_icmp .ge 8, 3) := by decide +kernel
theorem d_law_21 : decode code 21 = .ok (.iload_n 1, 1) := by decide +kernel
theorem d_law_22 : decode code 22 = .ok (.bipush 32, 2) := by decide +kernel
theorem d_law_32 : decode code 32 = .ok (.iload_n 1, 1) := by decide +kernel
theorem d_law_27 : decode code 27 = .ok (.bipush 32, 2) := by decide +kernel
theorem d_law_29 : decode code 29 = .ok (.goto 4, 3) := by decide +kernel
theorem d_law_24 : decode code 24 = .ok (.if_icmp .le 8, 3) := by decide +kernel
theorem d_law_16 : decode code 16 = .ok (.bipush 8, 2) := by decide +kernel
theorem d_law_18 : decode code 18 = .ok (.goto 15, 3) := by decide +kernel
theorem d_law_33 : decode code 33 = .ok (.istore 4, 2) := by decide +kernel
theorem d_law_35 : decode code 35 = .ok (.iload_n 0, 1) := by decide +kernel
theorem d_law_36 : decode code 36 = .ok (.ifCond .ge 7, 3) := by decide +kernel
theorem d_law_43 : decode code 43 = .ok (.iload_n 0, 1) := by decide +kernel
theorem d_law_44 : decode code 44 = .ok (.ldc 12, 2) := by decide +kernel
theorem d_law_54 : decode code 54 = .ok (.iload_n 0, 1) := by decide +kernel
theorem d_law_49 : decode code 49 = .ok (.ldc 12, 2) := by decide +kernel
theorem d_law_51 : decode code 51 = .ok (.goto 4, 3) := by decide +kernel
theorem d_law_46 : decode code 46 = .ok (.if_icmp .le 8, 3) := by decide +kernel
theorem d_law_39 : decode code 39 = .ok (.iconst 0, 1) := by decide +kernel
theorem d_law_40 : decode code 40 = .ok (.goto 15, 3) := by decide +kernel
theorem d_law_55 : decode code 55 = .ok (.istore 5, 2) := by decide +kernel
theorem d_law_57 : decode code 57 = .ok (.iload_n 2, 1) := by decide +kernel
theorem d_law_58 : decode code 58 = .ok (.ifCond .lt 9, 3) := by decide +kernel
theorem d_law_67 : decode code 67 = .ok (.iconst (-1), 1) := by decide +kernel
theorem d_law_68 : decode code 68 = .ok (.goto 9, 3) := by decide +kernel
theorem d_law_61 : decode code 61 = .ok (.iload_n 2, 1) := by decide +kernel
theorem d_law_62 : decode code 62 = .ok (.ldc 12, 2) := by decide +kernel
theorem d_law_71 : decode code 71 = .ok (.iload 5, 2) := by decide +kernel
theorem d_law_73 : decode code 73 = .ok (.iload_n 2, 1) := by decide +kernel
theorem d_law_64 : decode code 64 = .ok (.if_icmp .le 7, 3) := by decide +kernel
theorem d_law_74 : decode code 74 = .ok (.invokestatic 13, 3) := by decide +kernel
theorem ca_w13_3 : callAt tables_1 "HtreeDirL1" 13 3 = some ((⟨"HtreeDirL1", "hash", "(II)I"⟩ : MethodName), 2, method_3_code, 3, (some .int)) := by decide +kernel
theorem d_law_77 : decode code 77 = .ok (.istore 6, 2) := by decide +kernel
theorem d_law_79 : decode code 79 = .ok (.aload_n 3, 1) := by decide +kernel
theorem d_law_80 : decode code 80 = .ok (.invokevirtual 19, 3) := by decide +kernel
theorem ca_w19_0 : callAt tables_1 "HtreeDirL1" 19 0 = some ((⟨"HtreeDir", "capacity", "()I"⟩ : MethodName), 0, prog_1_method_2_code, 1, (some .int)) := by decide +kernel
theorem ca_w19_0n : callAt tables_1 "HtreeDirL1" 19 1 = none := by decide +kernel
theorem d_law_83 : decode code 83 = .ok (.iload 4, 2) := by decide +kernel
theorem d_law_85 : decode code 85 = .ok (.if_icmp .eq 5, 3) := by decide +kernel
theorem d_law_90 : decode code 90 = .ok (.aload_n 3, 1) := by decide +kernel
theorem d_law_91 : decode code 91 = .ok (.invokevirtual 23, 3) := by decide +kernel
theorem ca_w23_0 : callAt tables_1 "HtreeDirL1" 23 0 = some ((⟨"HtreeDir", "count", "()I"⟩ : MethodName), 0, prog_1_method_3_code, 1, (some .int)) := by decide +kernel
theorem ca_w23_0n : callAt tables_1 "HtreeDirL1" 23 1 = none := by decide +kernel
theorem d_law_94 : decode code 94 = .ok (.ifCond .eq 5, 3) := by decide +kernel
theorem d_law_99 : decode code 99 = .ok (.aload_n 3, 1) := by decide +kernel
theorem d_law_100 : decode code 100 = .ok (.iload_n 2, 1) := by decide +kernel
theorem d_law_101 : decode code 101 = .ok (.invokevirtual 26, 3) := by decide +kernel
theorem ca_w26_0 : callAt tables_1 "HtreeDirL1" 26 0 = some ((⟨"HtreeDir", "hashOf", "(I)I"⟩ : MethodName), 1, prog_1_method_4_code, 2, (some .int)) := by decide +kernel
theorem ca_w26_0n : callAt tables_1 "HtreeDirL1" 26 1 = none := by decide +kernel
theorem d_law_97 : decode code 97 = .ok (.iconst 0, 1) := by decide +kernel
theorem d_law_98 : decode code 98 = .ok (.ireturn, 1) := by decide +kernel
theorem d_law_88 : decode code 88 = .ok (.iconst 0, 1) := by decide +kernel
theorem d_law_89 : decode code 89 = .ok (.ireturn, 1) := by decide +kernel
theorem d_law_104 : decode code 104 = .ok (.iload 6, 2) := by decide +kernel
theorem d_law_106 : decode code 106 = .ok (.if_icmp .eq 5, 3) := by decide +kernel
theorem d_law_111 : decode code 111 = .ok (.aload_n 3, 1) := by decide +kernel
theorem d_law_112 : decode code 112 = .ok (.iload_n 2, 1) := by decide +kernel
theorem d_law_113 : decode code 113 = .ok (.invokevirtual 30, 3) := by decide +kernel
theorem ca_w30_0 : callAt tables_1 "HtreeDirL1" 30 0 = some ((⟨"HtreeDir", "lookup", "(I)I"⟩ : MethodName), 1, prog_1_method_8_code, 4, (some .int)) := by decide +kernel
theorem ca_w30_0n : callAt tables_1 "HtreeDirL1" 30 1 = none := by decide +kernel
theorem d_law_109 : decode code 109 = .ok (.iconst 0, 1) := by decide +kernel
theorem d_law_110 : decode code 110 = .ok (.ireturn, 1) := by decide +kernel
theorem d_law_116 : decode code 116 = .ok (.ifCond .eq 5, 3) := by decide +kernel
theorem d_law_121 : decode code 121 = .ok (.aload_n 3, 1) := by decide +kernel
theorem d_law_122 : decode code 122 = .ok (.iconst 0, 1) := by decide +kernel
theorem d_law_123 : decode code 123 = .ok (.invokevirtual 33, 3) := by decide +kernel
theorem ca_w33_0 : callAt tables_1 "HtreeDirL1" 33 0 = some ((⟨"HtreeDir", "nameAtRank", "(I)I"⟩ : MethodName), 1, prog_1_method_10_code, 6, (some .int)) := by decide +kernel
theorem ca_w33_0n : callAt tables_1 "HtreeDirL1" 33 1 = none := by decide +kernel
theorem d_law_119 : decode code 119 = .ok (.iconst 0, 1) := by decide +kernel
theorem d_law_120 : decode code 120 = .ok (.ireturn, 1) := by decide +kernel
theorem d_law_126 : decode code 126 = .ok (.iconst (-1), 1) := by decide +kernel
theorem d_law_127 : decode code 127 = .ok (.if_icmp .eq 5, 3) := by decide +kernel
theorem d_law_132 : decode code 132 = .ok (.aload_n 3, 1) := by decide +kernel
theorem d_law_133 : decode code 133 = .ok (.iload_n 2, 1) := by decide +kernel
theorem d_law_134 : decode code 134 = .ok (.invokevirtual 36, 3) := by decide +kernel
theorem ca_w36_0 : callAt tables_1 "HtreeDirL1" 36 0 = some ((⟨"HtreeDir", "tellDir", "(I)I"⟩ : MethodName), 1, prog_1_method_14_code, 2, (some .int)) := by decide +kernel
theorem ca_w36_0n : callAt tables_1 "HtreeDirL1" 36 1 = none := by decide +kernel
theorem d_law_130 : decode code 130 = .ok (.iconst 0, 1) := by decide +kernel
theorem d_law_131 : decode code 131 = .ok (.ireturn, 1) := by decide +kernel
theorem d_law_137 : decode code 137 = .ok (.bipush (-2), 2) := by decide +kernel
theorem d_law_139 : decode code 139 = .ok (.if_icmp .eq 5, 3) := by decide +kernel
theorem d_law_144 : decode code 144 = .ok (.iconst 1, 1) := by decide +kernel
theorem d_law_145 : decode code 145 = .ok (.ireturn, 1) := by decide +kernel
theorem d_law_142 : decode code 142 = .ok (.iconst 0, 1) := by decide +kernel
theorem d_law_143 : decode code 143 = .ok (.ireturn, 1) := by decide +kernel
set_option maxRecDepth 65536 in
set_option maxHeartbeats 4000000 in
theorem L_capacity_0 {mi : Nat → Nat → Int32} {ml : Nat → Nat → Int64} {Q : Option Value → EMem → Prop}
    (h1 : Q (some (.int (mi 0 31))) (LL1, mi, ml, RR1)) :
    W_capacity 0 [.val (.ref 0)] [] (LL1, mi, ml, RR1) Q := by
  refine Wp.p (pc' := 1) d_capacity_0 rfl rfl ?_
  refine Wp.getI (mi 0 31) d_capacity_1 fa_c40 rfl rfl ?_
  refine Wp.retI d_capacity_4 ?_
  exact h1
set_option maxRecDepth 65536 in
set_option maxHeartbeats 4000000 in
theorem L_count_0 {mi : Nat → Nat → Int32} {ml : Nat → Nat → Int64} {Q : Option Value → EMem → Prop}
    (h1 : Q (some (.int (mi 0 33))) (LL1, mi, ml, RR1)) :
    W_count 0 [.val (.ref 0)] [] (LL1, mi, ml, RR1) Q := by
  refine Wp.p (pc' := 1) d_count_0 rfl rfl ?_
  refine Wp.getI (mi 0 33) d_count_1 fa_c43 rfl rfl ?_
  refine Wp.retI d_count_4 ?_
  exact h1
set_option maxRecDepth 65536 in
set_option maxHeartbeats 4000000 in
theorem L_isName_0 {x1 : Int32} {mi : Nat → Nat → Int32} {ml : Nat → Nat → Int64} {Q : Option Value → EMem → Prop}
    (h1 : ∀ v1 : Int32, v1 = (if x1 < (0 : Int32) then (0 : Int32) else (if (65535 : Int32) < x1 then (0 : Int32) else (1 : Int32))) → Q (some (.int (v1 &&& 1))) (LL1, mi, ml, RR1)) :
    W_isName 0 [.val (.ref 0), .val (.int x1)] [] (LL1, mi, ml, RR1) Q := by
  refine Wp.p (pc' := 1) d_isName_0 rfl rfl ?_
  obtain ⟨v1, e1⟩ : ∃ z : Int32, z = (if x1 < (0 : Int32) then (0 : Int32) else (if (65535 : Int32) < x1 then (0 : Int32) else (1 : Int32))) := ⟨_, rfl⟩
  suffices K : W_isName 15 [.val (.ref 0), .val (.int x1)] [.int v1] (LL1, mi, ml, RR1) Q by
    refine Wp.if_lt d_isName_1 rfl (fun q0 => ?_) (fun q0 => ?_)
    ·
      refine Wp.iconst (0 : Int32) d_isName_14 (by decide) ?_
      rw [if_pos q0] at e1; subst e1
      exact K
    ·
      refine Wp.p (pc' := 5) d_isName_4 rfl rfl ?_
      refine Wp.ldc d_isName_5 ik_c35 ?_
      refine Wp.icmp_gt d_isName_7 rfl (fun q1 => ?_) (fun q1 => ?_)
      ·
        refine Wp.iconst (0 : Int32) d_isName_14 (by decide) ?_
        rw [if_neg q0, if_pos q1] at e1; subst e1
        exact K
      ·
        refine Wp.iconst (1 : Int32) d_isName_10 (by decide) ?_
        refine Wp.p (pc' := 15) d_isName_11 rfl rfl ?_
        rw [if_neg q0, if_neg q1] at e1; subst e1
        exact K
  refine Wp.retZ (v1 &&& 1) d_isName_15 (by rfl) ?_
  exact (h1 v1 e1)
set_option maxRecDepth 65536 in
set_option maxHeartbeats 4000000 in
theorem L_hash_0 {x1 : Int32} {mi : Nat → Nat → Int32} {ml : Nat → Nat → Int64} {Q : Option Value → EMem → Prop}
    (h1 : Q (some (.int ((((((((x1 ^^^ (mi 0 29)) &&& (65535 : Int32)) * (40507 : Int32)) &&& (65535 : Int32)) ^^^ (XT.ushr ((((x1 ^^^ (mi 0 29)) &&& (65535 : Int32)) * (40507 : Int32)) &&& (65535 : Int32)) (7 : Int32))) * (23505 : Int32)) &&& (65535 : Int32)) ^^^ (XT.ushr (((((((x1 ^^^ (mi 0 29)) &&& (65535 : Int32)) * (40507 : Int32)) &&& (65535 : Int32)) ^^^ (XT.ushr ((((x1 ^^^ (mi 0 29)) &&& (65535 : Int32)) * (40507 : Int32)) &&& (65535 : Int32)) (7 : Int32))) * (23505 : Int32)) &&& (65535 : Int32)) (9 : Int32))))) (LL1, mi, ml, RR1)) :
    W_hash 0 [.val (.ref 0), .val (.int x1), .unset] [] (LL1, mi, ml, RR1) Q := by
  refine Wp.p (pc' := 1) d_hash_0 rfl rfl ?_
  refine Wp.p (pc' := 2) d_hash_1 rfl rfl ?_
  refine Wp.getI (mi 0 29) d_hash_2 fa_c36 rfl rfl ?_
  refine Wp.p (pc' := 6) d_hash_5 rfl rfl ?_
  refine Wp.ldc d_hash_6 ik_c35 ?_
  refine Wp.p (pc' := 9) d_hash_8 rfl rfl ?_
  refine Wp.p (pc' := 10) d_hash_9 rfl rfl ?_
  refine Wp.p (pc' := 11) d_hash_10 rfl rfl ?_
  refine Wp.ldc d_hash_11 ik_c99 ?_
  refine Wp.p (pc' := 14) d_hash_13 rfl rfl ?_
  refine Wp.ldc d_hash_14 ik_c35 ?_
  refine Wp.p (pc' := 17) d_hash_16 rfl rfl ?_
  refine Wp.p (pc' := 18) d_hash_17 rfl rfl ?_
  refine Wp.p (pc' := 19) d_hash_18 rfl rfl ?_
  refine Wp.p (pc' := 20) d_hash_19 rfl rfl ?_
  refine Wp.bipush (7 : Int32) d_hash_20 (by decide) ?_
  refine Wp.p (pc' := 23) d_hash_22 rfl rfl ?_
  refine Wp.p (pc' := 24) d_hash_23 rfl rfl ?_
  refine Wp.p (pc' := 25) d_hash_24 rfl rfl ?_
  refine Wp.p (pc' := 26) d_hash_25 rfl rfl ?_
  refine Wp.sipush (23505 : Int32) d_hash_26 (by decide) ?_
  refine Wp.p (pc' := 30) d_hash_29 rfl rfl ?_
  refine Wp.ldc d_hash_30 ik_c35 ?_
  refine Wp.p (pc' := 33) d_hash_32 rfl rfl ?_
  refine Wp.p (pc' := 34) d_hash_33 rfl rfl ?_
  refine Wp.p (pc' := 35) d_hash_34 rfl rfl ?_
  refine Wp.p (pc' := 36) d_hash_35 rfl rfl ?_
  refine Wp.bipush (9 : Int32) d_hash_36 (by decide) ?_
  refine Wp.p (pc' := 39) d_hash_38 rfl rfl ?_
  refine Wp.p (pc' := 40) d_hash_39 rfl rfl ?_
  refine Wp.p (pc' := 41) d_hash_40 rfl rfl ?_
  refine Wp.p (pc' := 42) d_hash_41 rfl rfl ?_
  refine Wp.retI d_hash_42 ?_
  exact h1
set_option maxRecDepth 65536 in
set_option maxHeartbeats 4000000 in
theorem L_law_hash_0 {x0 x1 : Int32} {mi : Nat → Nat → Int32} {ml : Nat → Nat → Int64} {Q : Option Value → EMem → Prop}
    (h1 : Q (some (.int ((((((((x1 ^^^ x0) &&& (65535 : Int32)) * (40507 : Int32)) &&& (65535 : Int32)) ^^^ (XT.ushr ((((x1 ^^^ x0) &&& (65535 : Int32)) * (40507 : Int32)) &&& (65535 : Int32)) (7 : Int32))) * (23505 : Int32)) &&& (65535 : Int32)) ^^^ (XT.ushr (((((((x1 ^^^ x0) &&& (65535 : Int32)) * (40507 : Int32)) &&& (65535 : Int32)) ^^^ (XT.ushr ((((x1 ^^^ x0) &&& (65535 : Int32)) * (40507 : Int32)) &&& (65535 : Int32)) (7 : Int32))) * (23505 : Int32)) &&& (65535 : Int32)) (9 : Int32))))) (LL1, mi, ml, RR1)) :
    W_law_hash 0 [.val (.int x0), .val (.int x1), .unset] [] (LL1, mi, ml, RR1) Q := by
  refine Wp.p (pc' := 1) d_law_hash_0 rfl rfl ?_
  refine Wp.p (pc' := 2) d_law_hash_1 rfl rfl ?_
  refine Wp.p (pc' := 3) d_law_hash_2 rfl rfl ?_
  refine Wp.ldc d_law_hash_3 ik_w12 ?_
  refine Wp.p (pc' := 6) d_law_hash_5 rfl rfl ?_
  refine Wp.p (pc' := 7) d_law_hash_6 rfl rfl ?_
  refine Wp.p (pc' := 8) d_law_hash_7 rfl rfl ?_
  refine Wp.ldc d_law_hash_8 ik_w39 ?_
  refine Wp.p (pc' := 11) d_law_hash_10 rfl rfl ?_
  refine Wp.ldc d_law_hash_11 ik_w12 ?_
  refine Wp.p (pc' := 14) d_law_hash_13 rfl rfl ?_
  refine Wp.p (pc' := 15) d_law_hash_14 rfl rfl ?_
  refine Wp.p (pc' := 16) d_law_hash_15 rfl rfl ?_
  refine Wp.p (pc' := 17) d_law_hash_16 rfl rfl ?_
  refine Wp.bipush (7 : Int32) d_law_hash_17 (by decide) ?_
  refine Wp.p (pc' := 20) d_law_hash_19 rfl rfl ?_
  refine Wp.p (pc' := 21) d_law_hash_20 rfl rfl ?_
  refine Wp.p (pc' := 22) d_law_hash_21 rfl rfl ?_
  refine Wp.p (pc' := 23) d_law_hash_22 rfl rfl ?_
  refine Wp.sipush (23505 : Int32) d_law_hash_23 (by decide) ?_
  refine Wp.p (pc' := 27) d_law_hash_26 rfl rfl ?_
  refine Wp.ldc d_law_hash_27 ik_w12 ?_
  refine Wp.p (pc' := 30) d_law_hash_29 rfl rfl ?_
  refine Wp.p (pc' := 31) d_law_hash_30 rfl rfl ?_
  refine Wp.p (pc' := 32) d_law_hash_31 rfl rfl ?_
  refine Wp.p (pc' := 33) d_law_hash_32 rfl rfl ?_
  refine Wp.bipush (9 : Int32) d_law_hash_33 (by decide) ?_
  refine Wp.p (pc' := 36) d_law_hash_35 rfl rfl ?_
  refine Wp.p (pc' := 37) d_law_hash_36 rfl rfl ?_
  refine Wp.p (pc' := 38) d_law_hash_37 rfl rfl ?_
  refine Wp.p (pc' := 39) d_law_hash_38 rfl rfl ?_
  refine Wp.retI d_law_hash_39 ?_
  exact h1
set_option maxRecDepth 65536 in
set_option maxHeartbeats 4000000 in
theorem L_hashOf_0 {x1 : Int32} {mi : Nat → Nat → Int32} {ml : Nat → Nat → Int64} {Q : Option Value → EMem → Prop}
    (h1 : ∀ v1 : Int32, v1 = (if x1 < (0 : Int32) then (0 : Int32) else (if (65535 : Int32) < x1 then (0 : Int32) else (1 : Int32))) → ¬ (v1 &&& 1) = (0 : Int32) → W_hash 0 [.val (.ref 0), .val (.int x1), .unset] [] (LL1, mi, ml, RR1) (fun v M' => W_hashOf 15 [.val (.ref 0), .val (.int x1)] (v.toList ++ []) M' Q))
    (h2 : ∀ v1 : Int32, v1 = (if x1 < (0 : Int32) then (0 : Int32) else (if (65535 : Int32) < x1 then (0 : Int32) else (1 : Int32))) → (v1 &&& 1) = (0 : Int32) → Q (some (.int (-1 : Int32))) (LL1, mi, ml, RR1)) :
    W_hashOf 0 [.val (.ref 0), .val (.int x1)] [] (LL1, mi, ml, RR1) Q := by
  refine Wp.p (pc' := 1) d_hashOf_0 rfl rfl ?_
  refine Wp.p (pc' := 2) d_hashOf_1 rfl rfl ?_
  refine Wp.callP (a := 0) (as := [.int x1]) (rest := []) (w := 0) (F' := 0) (Lb' := 0) d_hashOf_2 ca_c52_1 rfl rfl rfl rfl (by decide) (by decide) (Nat.le_of_ble_eq_true rfl) ?_
  refine L_isName_0 ?_
  intro v1 e1
  show W_hashOf 5 [.val (.ref 0), .val (.int x1)] [.int (v1 &&& 1)] (LL1, mi, ml, RR1) Q
  refine Wp.if_ne d_hashOf_5 rfl (fun c2 => ?_) (fun c2 => ?_)
  ·
    refine Wp.p (pc' := 11) d_hashOf_10 rfl rfl ?_
    refine Wp.p (pc' := 12) d_hashOf_11 rfl rfl ?_
    refine Wp.callP (a := 0) (as := [.int x1]) (rest := []) (w := 0) (F' := 0) (Lb' := 0) d_hashOf_12 ca_c56_1 rfl rfl rfl rfl (by decide) (by decide) (Nat.le_of_ble_eq_true rfl) ?_
    exact (h1 v1 e1 c2)
  ·
    refine Wp.iconst (-1 : Int32) d_hashOf_8 (by decide) ?_
    refine Wp.retI d_hashOf_9 ?_
    exact (h2 v1 e1 c2)
set_option maxRecDepth 65536 in
set_option maxHeartbeats 4000000 in
theorem L_hashOf_15 {x1 y0 : Int32} {mi : Nat → Nat → Int32} {ml : Nat → Nat → Int64} {Q : Option Value → EMem → Prop}
    (h1 : Q (some (.int y0)) (LL1, mi, ml, RR1)) :
    W_hashOf 15 [.val (.ref 0), .val (.int x1)] [.int y0] (LL1, mi, ml, RR1) Q := by
  refine Wp.retI d_hashOf_15 ?_
  exact h1
set_option maxRecDepth 65536 in
set_option maxHeartbeats 4000000 in
theorem L_init_0 {x1 x2 : Int32} {mi : Nat → Nat → Int32} {ml : Nat → Nat → Int64} {Q : Option Value → EMem → Prop}
    (h1 : ∀ v1 : Int32, v1 = (if x1 < (0 : Int32) then (0 : Int32) else x1) → ∀ v2 : Int32, v2 = (if (65535 : Int32) < v1 then (65535 : Int32) else v1) → ∀ v3 : Int32, v3 = (if x2 < (8 : Int32) then (8 : Int32) else x2) → ∀ v4 : Int32, v4 = (if (32 : Int32) < v3 then (32 : Int32) else v3) → Q none (LL1, (up (up (up (up (up (up (up (up (up (up (up (up (up (up (up (up (up (up (up (up (up (up (up (up (up (up (up (up (up (up (up (up (up (up (up (up (up mi 0 29 v2) 0 31 v4) 0 33 (0 : Int32)) 0 35 (0 : Int32)) 6 0 (31 : Int32)) 6 1 (30 : Int32)) 6 2 (29 : Int32)) 6 3 (28 : Int32)) 6 4 (27 : Int32)) 6 5 (26 : Int32)) 6 6 (25 : Int32)) 6 7 (24 : Int32)) 6 8 (23 : Int32)) 6 9 (22 : Int32)) 6 10 (21 : Int32)) 6 11 (20 : Int32)) 6 12 (19 : Int32)) 6 13 (18 : Int32)) 6 14 (17 : Int32)) 6 15 (16 : Int32)) 6 16 (15 : Int32)) 6 17 (14 : Int32)) 6 18 (13 : Int32)) 6 19 (12 : Int32)) 6 20 (11 : Int32)) 6 21 (10 : Int32)) 6 22 (9 : Int32)) 6 23 (8 : Int32)) 6 24 (7 : Int32)) 6 25 (6 : Int32)) 6 26 (5 : Int32)) 6 27 (4 : Int32)) 6 28 (3 : Int32)) 6 29 (2 : Int32)) 6 30 (1 : Int32)) 6 31 (0 : Int32)) 0 37 (32 : Int32)), ml, RR1)) :
    W_init 0 [.val (.ref 0), .val (.int x1), .val (.int x2), .unset, .unset, .unset] [] ([(0, "HtreeDir", 13)], mi, ml, (fun _ _ => Value.null)) Q := by
  refine Wp.p (pc' := 1) d_init_0 rfl rfl ?_
  refine Wp.objInit (w := 0) d_init_1 oi_c1 rfl (by decide) (by decide) ?_
  refine Wp.p (pc' := 5) d_init_4 rfl rfl ?_
  refine Wp.sipush (128 : Int32) d_init_5 (by decide) ?_
  refine Wp.new_int (a := 1) (z := 128) (L' := [(0, "HtreeDir", 13), (1, "", 128)]) d_init_8 ar_int (by decide) (by decide) rfl rfl ?_
  refine Wp.putR d_init_10 fa_c7 rfl (by decide) in_HtreeDir (Or.inl rfl) ?_
  refine Wp.p (pc' := 14) d_init_13 rfl rfl ?_
  refine Wp.sipush (128 : Int32) d_init_14 (by decide) ?_
  refine Wp.new_int (a := 2) (z := 128) (L' := [(0, "HtreeDir", 13), (1, "", 128), (1, "", 128)]) d_init_17 ar_int (by decide) (by decide) rfl rfl ?_
  refine Wp.putR d_init_19 fa_c13 rfl (by decide) in_HtreeDir (Or.inl rfl) ?_
  refine Wp.p (pc' := 23) d_init_22 rfl rfl ?_
  refine Wp.sipush (128 : Int32) d_init_23 (by decide) ?_
  refine Wp.new_int (a := 3) (z := 128) (L' := [(0, "HtreeDir", 13), (1, "", 128), (1, "", 128), (1, "", 128)]) d_init_26 ar_int (by decide) (by decide) rfl rfl ?_
  refine Wp.putR d_init_28 fa_c16 rfl (by decide) in_HtreeDir (Or.inl rfl) ?_
  refine Wp.p (pc' := 32) d_init_31 rfl rfl ?_
  refine Wp.bipush (32 : Int32) d_init_32 (by decide) ?_
  refine Wp.new_int (a := 4) (z := 32) (L' := [(0, "HtreeDir", 13), (1, "", 128), (1, "", 128), (1, "", 128), (1, "", 32)]) d_init_34 ar_int (by decide) (by decide) rfl rfl ?_
  refine Wp.putR d_init_36 fa_c19 rfl (by decide) in_HtreeDir (Or.inl rfl) ?_
  refine Wp.p (pc' := 40) d_init_39 rfl rfl ?_
  refine Wp.bipush (32 : Int32) d_init_40 (by decide) ?_
  refine Wp.new_int (a := 5) (z := 32) (L' := [(0, "HtreeDir", 13), (1, "", 128), (1, "", 128), (1, "", 128), (1, "", 32), (1, "", 32)]) d_init_42 ar_int (by decide) (by decide) rfl rfl ?_
  refine Wp.putR d_init_44 fa_c22 rfl (by decide) in_HtreeDir (Or.inl rfl) ?_
  refine Wp.p (pc' := 48) d_init_47 rfl rfl ?_
  refine Wp.bipush (32 : Int32) d_init_48 (by decide) ?_
  refine Wp.new_int (a := 6) (z := 32) (L' := [(0, "HtreeDir", 13), (1, "", 128), (1, "", 128), (1, "", 128), (1, "", 32), (1, "", 32), (1, "", 32)]) d_init_50 ar_int (by decide) (by decide) rfl rfl ?_
  refine Wp.putR d_init_52 fa_c25 rfl (by decide) in_HtreeDir (Or.inl rfl) ?_
  refine Wp.p (pc' := 56) d_init_55 rfl rfl ?_
  refine Wp.iconst (4 : Int32) d_init_56 (by decide) ?_
  refine Wp.new_boolean (a := 7) (z := 4) (L' := [(0, "HtreeDir", 13), (1, "", 128), (1, "", 128), (1, "", 128), (1, "", 32), (1, "", 32), (1, "", 32), (3, "", 4)]) d_init_57 ar_boolean (by decide) (by decide) rfl rfl ?_
  refine Wp.putR d_init_59 fa_c28 rfl (by decide) in_HtreeDir (Or.inl rfl) ?_
  refine Wp.p (pc' := 63) d_init_62 rfl rfl ?_
  refine Wp.iconst (4 : Int32) d_init_63 (by decide) ?_
  refine Wp.new_int (a := 8) (z := 4) (L' := [(0, "HtreeDir", 13), (1, "", 128), (1, "", 128), (1, "", 128), (1, "", 32), (1, "", 32), (1, "", 32), (3, "", 4), (1, "", 4)]) d_init_64 ar_int (by decide) (by decide) rfl rfl ?_
  refine Wp.putR d_init_66 fa_c32 rfl (by decide) in_HtreeDir (Or.inl rfl) ?_
  refine Wp.p (pc' := 70) d_init_69 rfl rfl ?_
  refine Wp.p (pc' := 71) d_init_70 rfl rfl ?_
  refine Wp.p (pc' := 72) d_init_71 rfl rfl ?_
  obtain ⟨v1, e1⟩ : ∃ z : Int32, z = (if x1 < (0 : Int32) then (0 : Int32) else x1) := ⟨_, rfl⟩
  suffices K : W_init 77 [.val (.ref 0), .val (.int x1), .val (.int x2), .val (.int v1), .unset, .unset] [] (LL1, mi, ml, RR1) Q by
    refine Wp.if_ge d_init_72 rfl (fun q0 => ?_) (fun q0 => ?_)
    ·
      rw [if_neg q0] at e1; subst e1
      exact K
    ·
      refine Wp.iconst (0 : Int32) d_init_75 (by decide) ?_
      refine Wp.p (pc' := 77) d_init_76 rfl rfl ?_
      rw [if_pos q0] at e1; subst e1
      exact K
  refine Wp.p (pc' := 78) d_init_77 rfl rfl ?_
  refine Wp.ldc d_init_78 ik_c35 ?_
  obtain ⟨v2, e2⟩ : ∃ z : Int32, z = (if (65535 : Int32) < v1 then (65535 : Int32) else v1) := ⟨_, rfl⟩
  suffices K : W_init 86 [.val (.ref 0), .val (.int x1), .val (.int x2), .val (.int v2), .unset, .unset] [] (LL1, mi, ml, RR1) Q by
    refine Wp.icmp_le d_init_80 rfl (fun q0 => ?_) (fun q0 => ?_)
    ·
      rw [if_neg q0] at e2; subst e2
      exact K
    ·
      refine Wp.ldc d_init_83 ik_c35 ?_
      refine Wp.p (pc' := 86) d_init_85 rfl rfl ?_
      rw [if_pos q0] at e2; subst e2
      exact K
  refine Wp.p (pc' := 87) d_init_86 rfl rfl ?_
  refine Wp.p (pc' := 89) d_init_87 rfl rfl ?_
  refine Wp.p (pc' := 91) d_init_89 rfl rfl ?_
  refine Wp.bipush (8 : Int32) d_init_91 (by decide) ?_
  obtain ⟨v3, e3⟩ : ∃ z : Int32, z = (if x2 < (8 : Int32) then (8 : Int32) else x2) := ⟨_, rfl⟩
  suffices K : W_init 100 [.val (.ref 0), .val (.int x1), .val (.int x2), .val (.int v2), .val (.int v3), .unset] [] (LL1, mi, ml, RR1) Q by
    refine Wp.icmp_ge d_init_93 rfl (fun q0 => ?_) (fun q0 => ?_)
    ·
      rw [if_neg q0] at e3; subst e3
      exact K
    ·
      refine Wp.bipush (8 : Int32) d_init_96 (by decide) ?_
      refine Wp.p (pc' := 100) d_init_98 rfl rfl ?_
      rw [if_pos q0] at e3; subst e3
      exact K
  refine Wp.p (pc' := 102) d_init_100 rfl rfl ?_
  refine Wp.bipush (32 : Int32) d_init_102 (by decide) ?_
  obtain ⟨v4, e4⟩ : ∃ z : Int32, z = (if (32 : Int32) < v3 then (32 : Int32) else v3) := ⟨_, rfl⟩
  suffices K : W_init 111 [.val (.ref 0), .val (.int x1), .val (.int x2), .val (.int v2), .val (.int v4), .unset] [] (LL1, mi, ml, RR1) Q by
    refine Wp.icmp_le d_init_104 rfl (fun q0 => ?_) (fun q0 => ?_)
    ·
      rw [if_neg q0] at e4; subst e4
      exact K
    ·
      refine Wp.bipush (32 : Int32) d_init_107 (by decide) ?_
      refine Wp.p (pc' := 111) d_init_109 rfl rfl ?_
      rw [if_pos q0] at e4; subst e4
      exact K
  refine Wp.p (pc' := 112) d_init_111 rfl rfl ?_
  refine Wp.p (pc' := 113) d_init_112 rfl rfl ?_
  refine Wp.putI d_init_113 fa_c36 rfl (by decide) in_HtreeDir (Or.inl rfl) ?_
  refine Wp.p (pc' := 117) d_init_116 rfl rfl ?_
  refine Wp.p (pc' := 119) d_init_117 rfl rfl ?_
  refine Wp.putI d_init_119 fa_c40 rfl (by decide) in_HtreeDir (Or.inl rfl) ?_
  refine Wp.p (pc' := 123) d_init_122 rfl rfl ?_
  refine Wp.iconst (0 : Int32) d_init_123 (by decide) ?_
  refine Wp.putI d_init_124 fa_c43 rfl (by decide) in_HtreeDir (Or.inl rfl) ?_
  refine Wp.p (pc' := 128) d_init_127 rfl rfl ?_
  refine Wp.iconst (0 : Int32) d_init_128 (by decide) ?_
  refine Wp.putI d_init_129 fa_c46 rfl (by decide) in_HtreeDir (Or.inl rfl) ?_
  refine Wp.iconst (0 : Int32) d_init_132 (by decide) ?_
  refine Wp.p (pc' := 135) d_init_133 rfl rfl ?_
  refine Wp.p (pc' := 137) d_init_135 rfl rfl ?_
  refine Wp.bipush (32 : Int32) d_init_137 (by decide) ?_
  refine Wp.icmpF d_init_139 rfl (by decide) ?_
  refine Wp.p (pc' := 143) d_init_142 rfl rfl ?_
  refine Wp.getR (b := 6) d_init_143 fa_c25 rfl rfl ?_
  refine Wp.p (pc' := 148) d_init_146 rfl rfl ?_
  refine Wp.bipush (31 : Int32) d_init_148 (by decide) ?_
  refine Wp.p (pc' := 152) d_init_150 rfl rfl ?_
  refine Wp.p (pc' := 153) d_init_152 rfl rfl ?_
  refine Wp.top (31 : Int32) (by decide) ?_
  refine Wp.iastore d_init_153 rfl (k := 0) (by decide) (by decide) (by decide) ?_
  refine Wp.p (pc' := 157) (ls' := [.val (.ref 0), .val (.int x1), .val (.int x2), .val (.int v2), .val (.int v4), .val (.int (1 : Int32))]) d_init_154 rfl rfl ?_
  refine Wp.p (pc' := 135) d_init_157 rfl rfl ?_
  refine Wp.p (pc' := 137) d_init_135 rfl rfl ?_
  refine Wp.bipush (32 : Int32) d_init_137 (by decide) ?_
  refine Wp.icmpF d_init_139 rfl (by decide) ?_
  refine Wp.p (pc' := 143) d_init_142 rfl rfl ?_
  refine Wp.getR (b := 6) d_init_143 fa_c25 rfl rfl ?_
  refine Wp.p (pc' := 148) d_init_146 rfl rfl ?_
  refine Wp.bipush (31 : Int32) d_init_148 (by decide) ?_
  refine Wp.p (pc' := 152) d_init_150 rfl rfl ?_
  refine Wp.p (pc' := 153) d_init_152 rfl rfl ?_
  refine Wp.top (30 : Int32) (by decide) ?_
  refine Wp.iastore d_init_153 rfl (k := 1) (by decide) (by decide) (by decide) ?_
  refine Wp.p (pc' := 157) (ls' := [.val (.ref 0), .val (.int x1), .val (.int x2), .val (.int v2), .val (.int v4), .val (.int (2 : Int32))]) d_init_154 rfl rfl ?_
  refine Wp.p (pc' := 135) d_init_157 rfl rfl ?_
  refine Wp.p (pc' := 137) d_init_135 rfl rfl ?_
  refine Wp.bipush (32 : Int32) d_init_137 (by decide) ?_
  refine Wp.icmpF d_init_139 rfl (by decide) ?_
  refine Wp.p (pc' := 143) d_init_142 rfl rfl ?_
  refine Wp.getR (b := 6) d_init_143 fa_c25 rfl rfl ?_
  refine Wp.p (pc' := 148) d_init_146 rfl rfl ?_
  refine Wp.bipush (31 : Int32) d_init_148 (by decide) ?_
  refine Wp.p (pc' := 152) d_init_150 rfl rfl ?_
  refine Wp.p (pc' := 153) d_init_152 rfl rfl ?_
  refine Wp.top (29 : Int32) (by decide) ?_
  refine Wp.iastore d_init_153 rfl (k := 2) (by decide) (by decide) (by decide) ?_
  refine Wp.p (pc' := 157) (ls' := [.val (.ref 0), .val (.int x1), .val (.int x2), .val (.int v2), .val (.int v4), .val (.int (3 : Int32))]) d_init_154 rfl rfl ?_
  refine Wp.p (pc' := 135) d_init_157 rfl rfl ?_
  refine Wp.p (pc' := 137) d_init_135 rfl rfl ?_
  refine Wp.bipush (32 : Int32) d_init_137 (by decide) ?_
  refine Wp.icmpF d_init_139 rfl (by decide) ?_
  refine Wp.p (pc' := 143) d_init_142 rfl rfl ?_
  refine Wp.getR (b := 6) d_init_143 fa_c25 rfl rfl ?_
  refine Wp.p (pc' := 148) d_init_146 rfl rfl ?_
  refine Wp.bipush (31 : Int32) d_init_148 (by decide) ?_
  refine Wp.p (pc' := 152) d_init_150 rfl rfl ?_
  refine Wp.p (pc' := 153) d_init_152 rfl rfl ?_
  refine Wp.top (28 : Int32) (by decide) ?_
  refine Wp.iastore d_init_153 rfl (k := 3) (by decide) (by decide) (by decide) ?_
  refine Wp.p (pc' := 157) (ls' := [.val (.ref 0), .val (.int x1), .val (.int x2), .val (.int v2), .val (.int v4), .val (.int (4 : Int32))]) d_init_154 rfl rfl ?_
  refine Wp.p (pc' := 135) d_init_157 rfl rfl ?_
  refine Wp.p (pc' := 137) d_init_135 rfl rfl ?_
  refine Wp.bipush (32 : Int32) d_init_137 (by decide) ?_
  refine Wp.icmpF d_init_139 rfl (by decide) ?_
  refine Wp.p (pc' := 143) d_init_142 rfl rfl ?_
  refine Wp.getR (b := 6) d_init_143 fa_c25 rfl rfl ?_
  refine Wp.p (pc' := 148) d_init_146 rfl rfl ?_
  refine Wp.bipush (31 : Int32) d_init_148 (by decide) ?_
  refine Wp.p (pc' := 152) d_init_150 rfl rfl ?_
  refine Wp.p (pc' := 153) d_init_152 rfl rfl ?_
  refine Wp.top (27 : Int32) (by decide) ?_
  refine Wp.iastore d_init_153 rfl (k := 4) (by decide) (by decide) (by decide) ?_
  refine Wp.p (pc' := 157) (ls' := [.val (.ref 0), .val (.int x1), .val (.int x2), .val (.int v2), .val (.int v4), .val (.int (5 : Int32))]) d_init_154 rfl rfl ?_
  refine Wp.p (pc' := 135) d_init_157 rfl rfl ?_
  refine Wp.p (pc' := 137) d_init_135 rfl rfl ?_
  refine Wp.bipush (32 : Int32) d_init_137 (by decide) ?_
  refine Wp.icmpF d_init_139 rfl (by decide) ?_
  refine Wp.p (pc' := 143) d_init_142 rfl rfl ?_
  refine Wp.getR (b := 6) d_init_143 fa_c25 rfl rfl ?_
  refine Wp.p (pc' := 148) d_init_146 rfl rfl ?_
  refine Wp.bipush (31 : Int32) d_init_148 (by decide) ?_
  refine Wp.p (pc' := 152) d_init_150 rfl rfl ?_
  refine Wp.p (pc' := 153) d_init_152 rfl rfl ?_
  refine Wp.top (26 : Int32) (by decide) ?_
  refine Wp.iastore d_init_153 rfl (k := 5) (by decide) (by decide) (by decide) ?_
  refine Wp.p (pc' := 157) (ls' := [.val (.ref 0), .val (.int x1), .val (.int x2), .val (.int v2), .val (.int v4), .val (.int (6 : Int32))]) d_init_154 rfl rfl ?_
  refine Wp.p (pc' := 135) d_init_157 rfl rfl ?_
  refine Wp.p (pc' := 137) d_init_135 rfl rfl ?_
  refine Wp.bipush (32 : Int32) d_init_137 (by decide) ?_
  refine Wp.icmpF d_init_139 rfl (by decide) ?_
  refine Wp.p (pc' := 143) d_init_142 rfl rfl ?_
  refine Wp.getR (b := 6) d_init_143 fa_c25 rfl rfl ?_
  refine Wp.p (pc' := 148) d_init_146 rfl rfl ?_
  refine Wp.bipush (31 : Int32) d_init_148 (by decide) ?_
  refine Wp.p (pc' := 152) d_init_150 rfl rfl ?_
  refine Wp.p (pc' := 153) d_init_152 rfl rfl ?_
  refine Wp.top (25 : Int32) (by decide) ?_
  refine Wp.iastore d_init_153 rfl (k := 6) (by decide) (by decide) (by decide) ?_
  refine Wp.p (pc' := 157) (ls' := [.val (.ref 0), .val (.int x1), .val (.int x2), .val (.int v2), .val (.int v4), .val (.int (7 : Int32))]) d_init_154 rfl rfl ?_
  refine Wp.p (pc' := 135) d_init_157 rfl rfl ?_
  refine Wp.p (pc' := 137) d_init_135 rfl rfl ?_
  refine Wp.bipush (32 : Int32) d_init_137 (by decide) ?_
  refine Wp.icmpF d_init_139 rfl (by decide) ?_
  refine Wp.p (pc' := 143) d_init_142 rfl rfl ?_
  refine Wp.getR (b := 6) d_init_143 fa_c25 rfl rfl ?_
  refine Wp.p (pc' := 148) d_init_146 rfl rfl ?_
  refine Wp.bipush (31 : Int32) d_init_148 (by decide) ?_
  refine Wp.p (pc' := 152) d_init_150 rfl rfl ?_
  refine Wp.p (pc' := 153) d_init_152 rfl rfl ?_
  refine Wp.top (24 : Int32) (by decide) ?_
  refine Wp.iastore d_init_153 rfl (k := 7) (by decide) (by decide) (by decide) ?_
  refine Wp.p (pc' := 157) (ls' := [.val (.ref 0), .val (.int x1), .val (.int x2), .val (.int v2), .val (.int v4), .val (.int (8 : Int32))]) d_init_154 rfl rfl ?_
  refine Wp.p (pc' := 135) d_init_157 rfl rfl ?_
  refine Wp.p (pc' := 137) d_init_135 rfl rfl ?_
  refine Wp.bipush (32 : Int32) d_init_137 (by decide) ?_
  refine Wp.icmpF d_init_139 rfl (by decide) ?_
  refine Wp.p (pc' := 143) d_init_142 rfl rfl ?_
  refine Wp.getR (b := 6) d_init_143 fa_c25 rfl rfl ?_
  refine Wp.p (pc' := 148) d_init_146 rfl rfl ?_
  refine Wp.bipush (31 : Int32) d_init_148 (by decide) ?_
  refine Wp.p (pc' := 152) d_init_150 rfl rfl ?_
  refine Wp.p (pc' := 153) d_init_152 rfl rfl ?_
  refine Wp.top (23 : Int32) (by decide) ?_
  refine Wp.iastore d_init_153 rfl (k := 8) (by decide) (by decide) (by decide) ?_
  refine Wp.p (pc' := 157) (ls' := [.val (.ref 0), .val (.int x1), .val (.int x2), .val (.int v2), .val (.int v4), .val (.int (9 : Int32))]) d_init_154 rfl rfl ?_
  refine Wp.p (pc' := 135) d_init_157 rfl rfl ?_
  refine Wp.p (pc' := 137) d_init_135 rfl rfl ?_
  refine Wp.bipush (32 : Int32) d_init_137 (by decide) ?_
  refine Wp.icmpF d_init_139 rfl (by decide) ?_
  refine Wp.p (pc' := 143) d_init_142 rfl rfl ?_
  refine Wp.getR (b := 6) d_init_143 fa_c25 rfl rfl ?_
  refine Wp.p (pc' := 148) d_init_146 rfl rfl ?_
  refine Wp.bipush (31 : Int32) d_init_148 (by decide) ?_
  refine Wp.p (pc' := 152) d_init_150 rfl rfl ?_
  refine Wp.p (pc' := 153) d_init_152 rfl rfl ?_
  refine Wp.top (22 : Int32) (by decide) ?_
  refine Wp.iastore d_init_153 rfl (k := 9) (by decide) (by decide) (by decide) ?_
  refine Wp.p (pc' := 157) (ls' := [.val (.ref 0), .val (.int x1), .val (.int x2), .val (.int v2), .val (.int v4), .val (.int (10 : Int32))]) d_init_154 rfl rfl ?_
  refine Wp.p (pc' := 135) d_init_157 rfl rfl ?_
  refine Wp.p (pc' := 137) d_init_135 rfl rfl ?_
  refine Wp.bipush (32 : Int32) d_init_137 (by decide) ?_
  refine Wp.icmpF d_init_139 rfl (by decide) ?_
  refine Wp.p (pc' := 143) d_init_142 rfl rfl ?_
  refine Wp.getR (b := 6) d_init_143 fa_c25 rfl rfl ?_
  refine Wp.p (pc' := 148) d_init_146 rfl rfl ?_
  refine Wp.bipush (31 : Int32) d_init_148 (by decide) ?_
  refine Wp.p (pc' := 152) d_init_150 rfl rfl ?_
  refine Wp.p (pc' := 153) d_init_152 rfl rfl ?_
  refine Wp.top (21 : Int32) (by decide) ?_
  refine Wp.iastore d_init_153 rfl (k := 10) (by decide) (by decide) (by decide) ?_
  refine Wp.p (pc' := 157) (ls' := [.val (.ref 0), .val (.int x1), .val (.int x2), .val (.int v2), .val (.int v4), .val (.int (11 : Int32))]) d_init_154 rfl rfl ?_
  refine Wp.p (pc' := 135) d_init_157 rfl rfl ?_
  refine Wp.p (pc' := 137) d_init_135 rfl rfl ?_
  refine Wp.bipush (32 : Int32) d_init_137 (by decide) ?_
  refine Wp.icmpF d_init_139 rfl (by decide) ?_
  refine Wp.p (pc' := 143) d_init_142 rfl rfl ?_
  refine Wp.getR (b := 6) d_init_143 fa_c25 rfl rfl ?_
  refine Wp.p (pc' := 148) d_init_146 rfl rfl ?_
  refine Wp.bipush (31 : Int32) d_init_148 (by decide) ?_
  refine Wp.p (pc' := 152) d_init_150 rfl rfl ?_
  refine Wp.p (pc' := 153) d_init_152 rfl rfl ?_
  refine Wp.top (20 : Int32) (by decide) ?_
  refine Wp.iastore d_init_153 rfl (k := 11) (by decide) (by decide) (by decide) ?_
  refine Wp.p (pc' := 157) (ls' := [.val (.ref 0), .val (.int x1), .val (.int x2), .val (.int v2), .val (.int v4), .val (.int (12 : Int32))]) d_init_154 rfl rfl ?_
  refine Wp.p (pc' := 135) d_init_157 rfl rfl ?_
  refine Wp.p (pc' := 137) d_init_135 rfl rfl ?_
  refine Wp.bipush (32 : Int32) d_init_137 (by decide) ?_
  refine Wp.icmpF d_init_139 rfl (by decide) ?_
  refine Wp.p (pc' := 143) d_init_142 rfl rfl ?_
  refine Wp.getR (b := 6) d_init_143 fa_c25 rfl rfl ?_
  refine Wp.p (pc' := 148) d_init_146 rfl rfl ?_
  refine Wp.bipush (31 : Int32) d_init_148 (by decide) ?_
  refine Wp.p (pc' := 152) d_init_150 rfl rfl ?_
  refine Wp.p (pc' := 153) d_init_152 rfl rfl ?_
  refine Wp.top (19 : Int32) (by decide) ?_
  refine Wp.iastore d_init_153 rfl (k := 12) (by decide) (by decide) (by decide) ?_
  refine Wp.p (pc' := 157) (ls' := [.val (.ref 0), .val (.int x1), .val (.int x2), .val (.int v2), .val (.int v4), .val (.int (13 : Int32))]) d_init_154 rfl rfl ?_
  refine Wp.p (pc' := 135) d_init_157 rfl rfl ?_
  refine Wp.p (pc' := 137) d_init_135 rfl rfl ?_
  refine Wp.bipush (32 : Int32) d_init_137 (by decide) ?_
  refine Wp.icmpF d_init_139 rfl (by decide) ?_
  refine Wp.p (pc' := 143) d_init_142 rfl rfl ?_
  refine Wp.getR (b := 6) d_init_143 fa_c25 rfl rfl ?_
  refine Wp.p (pc' := 148) d_init_146 rfl rfl ?_
  refine Wp.bipush (31 : Int32) d_init_148 (by decide) ?_
  refine Wp.p (pc' := 152) d_init_150 rfl rfl ?_
  refine Wp.p (pc' := 153) d_init_152 rfl rfl ?_
  refine Wp.top (18 : Int32) (by decide) ?_
  refine Wp.iastore d_init_153 rfl (k := 13) (by decide) (by decide) (by decide) ?_
  refine Wp.p (pc' := 157) (ls' := [.val (.ref 0), .val (.int x1), .val (.int x2), .val (.int v2), .val (.int v4), .val (.int (14 : Int32))]) d_init_154 rfl rfl ?_
  refine Wp.p (pc' := 135) d_init_157 rfl rfl ?_
  refine Wp.p (pc' := 137) d_init_135 rfl rfl ?_
  refine Wp.bipush (32 : Int32) d_init_137 (by decide) ?_
  refine Wp.icmpF d_init_139 rfl (by decide) ?_
  refine Wp.p (pc' := 143) d_init_142 rfl rfl ?_
  refine Wp.getR (b := 6) d_init_143 fa_c25 rfl rfl ?_
  refine Wp.p (pc' := 148) d_init_146 rfl rfl ?_
  refine Wp.bipush (31 : Int32) d_init_148 (by decide) ?_
  refine Wp.p (pc' := 152) d_init_150 rfl rfl ?_
  refine Wp.p (pc' := 153) d_init_152 rfl rfl ?_
  refine Wp.top (17 : Int32) (by decide) ?_
  refine Wp.iastore d_init_153 rfl (k := 14) (by decide) (by decide) (by decide) ?_
  refine Wp.p (pc' := 157) (ls' := [.val (.ref 0), .val (.int x1), .val (.int x2), .val (.int v2), .val (.int v4), .val (.int (15 : Int32))]) d_init_154 rfl rfl ?_
  refine Wp.p (pc' := 135) d_init_157 rfl rfl ?_
  refine Wp.p (pc' := 137) d_init_135 rfl rfl ?_
  refine Wp.bipush (32 : Int32) d_init_137 (by decide) ?_
  refine Wp.icmpF d_init_139 rfl (by decide) ?_
  refine Wp.p (pc' := 143) d_init_142 rfl rfl ?_
  refine Wp.getR (b := 6) d_init_143 fa_c25 rfl rfl ?_
  refine Wp.p (pc' := 148) d_init_146 rfl rfl ?_
  refine Wp.bipush (31 : Int32) d_init_148 (by decide) ?_
  refine Wp.p (pc' := 152) d_init_150 rfl rfl ?_
  refine Wp.p (pc' := 153) d_init_152 rfl rfl ?_
  refine Wp.top (16 : Int32) (by decide) ?_
  refine Wp.iastore d_init_153 rfl (k := 15) (by decide) (by decide) (by decide) ?_
  refine Wp.p (pc' := 157) (ls' := [.val (.ref 0), .val (.int x1), .val (.int x2), .val (.int v2), .val (.int v4), .val (.int (16 : Int32))]) d_init_154 rfl rfl ?_
  refine Wp.p (pc' := 135) d_init_157 rfl rfl ?_
  refine Wp.p (pc' := 137) d_init_135 rfl rfl ?_
  refine Wp.bipush (32 : Int32) d_init_137 (by decide) ?_
  refine Wp.icmpF d_init_139 rfl (by decide) ?_
  refine Wp.p (pc' := 143) d_init_142 rfl rfl ?_
  refine Wp.getR (b := 6) d_init_143 fa_c25 rfl rfl ?_
  refine Wp.p (pc' := 148) d_init_146 rfl rfl ?_
  refine Wp.bipush (31 : Int32) d_init_148 (by decide) ?_
  refine Wp.p (pc' := 152) d_init_150 rfl rfl ?_
  refine Wp.p (pc' := 153) d_init_152 rfl rfl ?_
  refine Wp.top (15 : Int32) (by decide) ?_
  refine Wp.iastore d_init_153 rfl (k := 16) (by decide) (by decide) (by decide) ?_
  refine Wp.p (pc' := 157) (ls' := [.val (.ref 0), .val (.int x1), .val (.int x2), .val (.int v2), .val (.int v4), .val (.int (17 : Int32))]) d_init_154 rfl rfl ?_
  refine Wp.p (pc' := 135) d_init_157 rfl rfl ?_
  refine Wp.p (pc' := 137) d_init_135 rfl rfl ?_
  refine Wp.bipush (32 : Int32) d_init_137 (by decide) ?_
  refine Wp.icmpF d_init_139 rfl (by decide) ?_
  refine Wp.p (pc' := 143) d_init_142 rfl rfl ?_
  refine Wp.getR (b := 6) d_init_143 fa_c25 rfl rfl ?_
  refine Wp.p (pc' := 148) d_init_146 rfl rfl ?_
  refine Wp.bipush (31 : Int32) d_init_148 (by decide) ?_
  refine Wp.p (pc' := 152) d_init_150 rfl rfl ?_
  refine Wp.p (pc' := 153) d_init_152 rfl rfl ?_
  refine Wp.top (14 : Int32) (by decide) ?_
  refine Wp.iastore d_init_153 rfl (k := 17) (by decide) (by decide) (by decide) ?_
  refine Wp.p (pc' := 157) (ls' := [.val (.ref 0), .val (.int x1), .val (.int x2), .val (.int v2), .val (.int v4), .val (.int (18 : Int32))]) d_init_154 rfl rfl ?_
  refine Wp.p (pc' := 135) d_init_157 rfl rfl ?_
  refine Wp.p (pc' := 137) d_init_135 rfl rfl ?_
  refine Wp.bipush (32 : Int32) d_init_137 (by decide) ?_
  refine Wp.icmpF d_init_139 rfl (by decide) ?_
  refine Wp.p (pc' := 143) d_init_142 rfl rfl ?_
  refine Wp.getR (b := 6) d_init_143 fa_c25 rfl rfl ?_
  refine Wp.p (pc' := 148) d_init_146 rfl rfl ?_
  refine Wp.bipush (31 : Int32) d_init_148 (by decide) ?_
  refine Wp.p (pc' := 152) d_init_150 rfl rfl ?_
  refine Wp.p (pc' := 153) d_init_152 rfl rfl ?_
  refine Wp.top (13 : Int32) (by decide) ?_
  refine Wp.iastore d_init_153 rfl (k := 18) (by decide) (by decide) (by decide) ?_
  refine Wp.p (pc' := 157) (ls' := [.val (.ref 0), .val (.int x1), .val (.int x2), .val (.int v2), .val (.int v4), .val (.int (19 : Int32))]) d_init_154 rfl rfl ?_
  refine Wp.p (pc' := 135) d_init_157 rfl rfl ?_
  refine Wp.p (pc' := 137) d_init_135 rfl rfl ?_
  refine Wp.bipush (32 : Int32) d_init_137 (by decide) ?_
  refine Wp.icmpF d_init_139 rfl (by decide) ?_
  refine Wp.p (pc' := 143) d_init_142 rfl rfl ?_
  refine Wp.getR (b := 6) d_init_143 fa_c25 rfl rfl ?_
  refine Wp.p (pc' := 148) d_init_146 rfl rfl ?_
  refine Wp.bipush (31 : Int32) d_init_148 (by decide) ?_
  refine Wp.p (pc' := 152) d_init_150 rfl rfl ?_
  refine Wp.p (pc' := 153) d_init_152 rfl rfl ?_
  refine Wp.top (12 : Int32) (by decide) ?_
  refine Wp.iastore d_init_153 rfl (k := 19) (by decide) (by decide) (by decide) ?_
  refine Wp.p (pc' := 157) (ls' := [.val (.ref 0), .val (.int x1), .val (.int x2), .val (.int v2), .val (.int v4), .val (.int (20 : Int32))]) d_init_154 rfl rfl ?_
  refine Wp.p (pc' := 135) d_init_157 rfl rfl ?_
  refine Wp.p (pc' := 137) d_init_135 rfl rfl ?_
  refine Wp.bipush (32 : Int32) d_init_137 (by decide) ?_
  refine Wp.icmpF d_init_139 rfl (by decide) ?_
  refine Wp.p (pc' := 143) d_init_142 rfl rfl ?_
  refine Wp.getR (b := 6) d_init_143 fa_c25 rfl rfl ?_
  refine Wp.p (pc' := 148) d_init_146 rfl rfl ?_
  refine Wp.bipush (31 : Int32) d_init_148 (by decide) ?_
  refine Wp.p (pc' := 152) d_init_150 rfl rfl ?_
  refine Wp.p (pc' := 153) d_init_152 rfl rfl ?_
  refine Wp.top (11 : Int32) (by decide) ?_
  refine Wp.iastore d_init_153 rfl (k := 20) (by decide) (by decide) (by decide) ?_
  refine Wp.p (pc' := 157) (ls' := [.val (.ref 0), .val (.int x1), .val (.int x2), .val (.int v2), .val (.int v4), .val (.int (21 : Int32))]) d_init_154 rfl rfl ?_
  refine Wp.p (pc' := 135) d_init_157 rfl rfl ?_
  refine Wp.p (pc' := 137) d_init_135 rfl rfl ?_
  refine Wp.bipush (32 : Int32) d_init_137 (by decide) ?_
  refine Wp.icmpF d_init_139 rfl (by decide) ?_
  refine Wp.p (pc' := 143) d_init_142 rfl rfl ?_
  refine Wp.getR (b := 6) d_init_143 fa_c25 rfl rfl ?_
  refine Wp.p (pc' := 148) d_init_146 rfl rfl ?_
  refine Wp.bipush (31 : Int32) d_init_148 (by decide) ?_
  refine Wp.p (pc' := 152) d_init_150 rfl rfl ?_
  refine Wp.p (pc' := 153) d_init_152 rfl rfl ?_
  refine Wp.top (10 : Int32) (by decide) ?_
  refine Wp.iastore d_init_153 rfl (k := 21) (by decide) (by decide) (by decide) ?_
  refine Wp.p (pc' := 157) (ls' := [.val (.ref 0), .val (.int x1), .val (.int x2), .val (.int v2), .val (.int v4), .val (.int (22 : Int32))]) d_init_154 rfl rfl ?_
  refine Wp.p (pc' := 135) d_init_157 rfl rfl ?_
  refine Wp.p (pc' := 137) d_init_135 rfl rfl ?_
  refine Wp.bipush (32 : Int32) d_init_137 (by decide) ?_
  refine Wp.icmpF d_init_139 rfl (by decide) ?_
  refine Wp.p (pc' := 143) d_init_142 rfl rfl ?_
  refine Wp.getR (b := 6) d_init_143 fa_c25 rfl rfl ?_
  refine Wp.p (pc' := 148) d_init_146 rfl rfl ?_
  refine Wp.bipush (31 : Int32) d_init_148 (by decide) ?_
  refine Wp.p (pc' := 152) d_init_150 rfl rfl ?_
  refine Wp.p (pc' := 153) d_init_152 rfl rfl ?_
  refine Wp.top (9 : Int32) (by decide) ?_
  refine Wp.iastore d_init_153 rfl (k := 22) (by decide) (by decide) (by decide) ?_
  refine Wp.p (pc' := 157) (ls' := [.val (.ref 0), .val (.int x1), .val (.int x2), .val (.int v2), .val (.int v4), .val (.int (23 : Int32))]) d_init_154 rfl rfl ?_
  refine Wp.p (pc' := 135) d_init_157 rfl rfl ?_
  refine Wp.p (pc' := 137) d_init_135 rfl rfl ?_
  refine Wp.bipush (32 : Int32) d_init_137 (by decide) ?_
  refine Wp.icmpF d_init_139 rfl (by decide) ?_
  refine Wp.p (pc' := 143) d_init_142 rfl rfl ?_
  refine Wp.getR (b := 6) d_init_143 fa_c25 rfl rfl ?_
  refine Wp.p (pc' := 148) d_init_146 rfl rfl ?_
  refine Wp.bipush (31 : Int32) d_init_148 (by decide) ?_
  refine Wp.p (pc' := 152) d_init_150 rfl rfl ?_
  refine Wp.p (pc' := 153) d_init_152 rfl rfl ?_
  refine Wp.top (8 : Int32) (by decide) ?_
  refine Wp.iastore d_init_153 rfl (k := 23) (by decide) (by decide) (by decide) ?_
  refine Wp.p (pc' := 157) (ls' := [.val (.ref 0), .val (.int x1), .val (.int x2), .val (.int v2), .val (.int v4), .val (.int (24 : Int32))]) d_init_154 rfl rfl ?_
  refine Wp.p (pc' := 135) d_init_157 rfl rfl ?_
  refine Wp.p (pc' := 137) d_init_135 rfl rfl ?_
  refine Wp.bipush (32 : Int32) d_init_137 (by decide) ?_
  refine Wp.icmpF d_init_139 rfl (by decide) ?_
  refine Wp.p (pc' := 143) d_init_142 rfl rfl ?_
  refine Wp.getR (b := 6) d_init_143 fa_c25 rfl rfl ?_
  refine Wp.p (pc' := 148) d_init_146 rfl rfl ?_
  refine Wp.bipush (31 : Int32) d_init_148 (by decide) ?_
  refine Wp.p (pc' := 152) d_init_150 rfl rfl ?_
  refine Wp.p (pc' := 153) d_init_152 rfl rfl ?_
  refine Wp.top (7 : Int32) (by decide) ?_
  refine Wp.iastore d_init_153 rfl (k := 24) (by decide) (by decide) (by decide) ?_
  refine Wp.p (pc' := 157) (ls' := [.val (.ref 0), .val (.int x1), .val (.int x2), .val (.int v2), .val (.int v4), .val (.int (25 : Int32))]) d_init_154 rfl rfl ?_
  refine Wp.p (pc' := 135) d_init_157 rfl rfl ?_
  refine Wp.p (pc' := 137) d_init_135 rfl rfl ?_
  refine Wp.bipush (32 : Int32) d_init_137 (by decide) ?_
  refine Wp.icmpF d_init_139 rfl (by decide) ?_
  refine Wp.p (pc' := 143) d_init_142 rfl rfl ?_
  refine Wp.getR (b := 6) d_init_143 fa_c25 rfl rfl ?_
  refine Wp.p (pc' := 148) d_init_146 rfl rfl ?_
  refine Wp.bipush (31 : Int32) d_init_148 (by decide) ?_
  refine Wp.p (pc' := 152) d_init_150 rfl rfl ?_
  refine Wp.p (pc' := 153) d_init_152 rfl rfl ?_
  refine Wp.top (6 : Int32) (by decide) ?_
  refine Wp.iastore d_init_153 rfl (k := 25) (by decide) (by decide) (by decide) ?_
  refine Wp.p (pc' := 157) (ls' := [.val (.ref 0), .val (.int x1), .val (.int x2), .val (.int v2), .val (.int v4), .val (.int (26 : Int32))]) d_init_154 rfl rfl ?_
  refine Wp.p (pc' := 135) d_init_157 rfl rfl ?_
  refine Wp.p (pc' := 137) d_init_135 rfl rfl ?_
  refine Wp.bipush (32 : Int32) d_init_137 (by decide) ?_
  refine Wp.icmpF d_init_139 rfl (by decide) ?_
  refine Wp.p (pc' := 143) d_init_142 rfl rfl ?_
  refine Wp.getR (b := 6) d_init_143 fa_c25 rfl rfl ?_
  refine Wp.p (pc' := 148) d_init_146 rfl rfl ?_
  refine Wp.bipush (31 : Int32) d_init_148 (by decide) ?_
  refine Wp.p (pc' := 152) d_init_150 rfl rfl ?_
  refine Wp.p (pc' := 153) d_init_152 rfl rfl ?_
  refine Wp.top (5 : Int32) (by decide) ?_
  refine Wp.iastore d_init_153 rfl (k := 26) (by decide) (by decide) (by decide) ?_
  refine Wp.p (pc' := 157) (ls' := [.val (.ref 0), .val (.int x1), .val (.int x2), .val (.int v2), .val (.int v4), .val (.int (27 : Int32))]) d_init_154 rfl rfl ?_
  refine Wp.p (pc' := 135) d_init_157 rfl rfl ?_
  refine Wp.p (pc' := 137) d_init_135 rfl rfl ?_
  refine Wp.bipush (32 : Int32) d_init_137 (by decide) ?_
  refine Wp.icmpF d_init_139 rfl (by decide) ?_
  refine Wp.p (pc' := 143) d_init_142 rfl rfl ?_
  refine Wp.getR (b := 6) d_init_143 fa_c25 rfl rfl ?_
  refine Wp.p (pc' := 148) d_init_146 rfl rfl ?_
  refine Wp.bipush (31 : Int32) d_init_148 (by decide) ?_
  refine Wp.p (pc' := 152) d_init_150 rfl rfl ?_
  refine Wp.p (pc' := 153) d_init_152 rfl rfl ?_
  refine Wp.top (4 : Int32) (by decide) ?_
  refine Wp.iastore d_init_153 rfl (k := 27) (by decide) (by decide) (by decide) ?_
  refine Wp.p (pc' := 157) (ls' := [.val (.ref 0), .val (.int x1), .val (.int x2), .val (.int v2), .val (.int v4), .val (.int (28 : Int32))]) d_init_154 rfl rfl ?_
  refine Wp.p (pc' := 135) d_init_157 rfl rfl ?_
  refine Wp.p (pc' := 137) d_init_135 rfl rfl ?_
  refine Wp.bipush (32 : Int32) d_init_137 (by decide) ?_
  refine Wp.icmpF d_init_139 rfl (by decide) ?_
  refine Wp.p (pc' := 143) d_init_142 rfl rfl ?_
  refine Wp.getR (b := 6) d_init_143 fa_c25 rfl rfl ?_
  refine Wp.p (pc' := 148) d_init_146 rfl rfl ?_
  refine Wp.bipush (31 : Int32) d_init_148 (by decide) ?_
  refine Wp.p (pc' := 152) d_init_150 rfl rfl ?_
  refine Wp.p (pc' := 153) d_init_152 rfl rfl ?_
  refine Wp.top (3 : Int32) (by decide) ?_
  refine Wp.iastore d_init_153 rfl (k := 28) (by decide) (by decide) (by decide) ?_
  refine Wp.p (pc' := 157) (ls' := [.val (.ref 0), .val (.int x1), .val (.int x2), .val (.int v2), .val (.int v4), .val (.int (29 : Int32))]) d_init_154 rfl rfl ?_
  refine Wp.p (pc' := 135) d_init_157 rfl rfl ?_
  refine Wp.p (pc' := 137) d_init_135 rfl rfl ?_
  refine Wp.bipush (32 : Int32) d_init_137 (by decide) ?_
  refine Wp.icmpF d_init_139 rfl (by decide) ?_
  refine Wp.p (pc' := 143) d_init_142 rfl rfl ?_
  refine Wp.getR (b := 6) d_init_143 fa_c25 rfl rfl ?_
  refine Wp.p (pc' := 148) d_init_146 rfl rfl ?_
  refine Wp.bipush (31 : Int32) d_init_148 (by decide) ?_
  refine Wp.p (pc' := 152) d_init_150 rfl rfl ?_
  refine Wp.p (pc' := 153) d_init_152 rfl rfl ?_
  refine Wp.top (2 : Int32) (by decide) ?_
  refine Wp.iastore d_init_153 rfl (k := 29) (by decide) (by decide) (by decide) ?_
  refine Wp.p (pc' := 157) (ls' := [.val (.ref 0), .val (.int x1), .val (.int x2), .val (.int v2), .val (.int v4), .val (.int (30 : Int32))]) d_init_154 rfl rfl ?_
  refine Wp.p (pc' := 135) d_init_157 rfl rfl ?_
  refine Wp.p (pc' := 137) d_init_135 rfl rfl ?_
  refine Wp.bipush (32 : Int32) d_init_137 (by decide) ?_
  refine Wp.icmpF d_init_139 rfl (by decide) ?_
  refine Wp.p (pc' := 143) d_init_142 rfl rfl ?_
  refine Wp.getR (b := 6) d_init_143 fa_c25 rfl rfl ?_
  refine Wp.p (pc' := 148) d_init_146 rfl rfl ?_
  refine Wp.bipush (31 : Int32) d_init_148 (by decide) ?_
  refine Wp.p (pc' := 152) d_init_150 rfl rfl ?_
  refine Wp.p (pc' := 153) d_init_152 rfl rfl ?_
  refine Wp.top (1 : Int32) (by decide) ?_
  refine Wp.iastore d_init_153 rfl (k := 30) (by decide) (by decide) (by decide) ?_
  refine Wp.p (pc' := 157) (ls' := [.val (.ref 0), .val (.int x1), .val (.int x2), .val (.int v2), .val (.int v4), .val (.int (31 : Int32))]) d_init_154 rfl rfl ?_
  refine Wp.p (pc' := 135) d_init_157 rfl rfl ?_
  refine Wp.p (pc' := 137) d_init_135 rfl rfl ?_
  refine Wp.bipush (32 : Int32) d_init_137 (by decide) ?_
  refine Wp.icmpF d_init_139 rfl (by decide) ?_
  refine Wp.p (pc' := 143) d_init_142 rfl rfl ?_
  refine Wp.getR (b := 6) d_init_143 fa_c25 rfl rfl ?_
  refine Wp.p (pc' := 148) d_init_146 rfl rfl ?_
  refine Wp.bipush (31 : Int32) d_init_148 (by decide) ?_
  refine Wp.p (pc' := 152) d_init_150 rfl rfl ?_
  refine Wp.p (pc' := 153) d_init_152 rfl rfl ?_
  refine Wp.top (0 : Int32) (by decide) ?_
  refine Wp.iastore d_init_153 rfl (k := 31) (by decide) (by decide) (by decide) ?_
  refine Wp.p (pc' := 157) (ls' := [.val (.ref 0), .val (.int x1), .val (.int x2), .val (.int v2), .val (.int v4), .val (.int (32 : Int32))]) d_init_154 rfl rfl ?_
  refine Wp.p (pc' := 135) d_init_157 rfl rfl ?_
  refine Wp.p (pc' := 137) d_init_135 rfl rfl ?_
  refine Wp.bipush (32 : Int32) d_init_137 (by decide) ?_
  refine Wp.icmpT d_init_139 rfl (by decide) ?_
  refine Wp.p (pc' := 161) d_init_160 rfl rfl ?_
  refine Wp.bipush (32 : Int32) d_init_161 (by decide) ?_
  refine Wp.putI d_init_163 fa_c49 rfl (by decide) in_HtreeDir (Or.inl rfl) ?_
  refine Wp.retV d_init_166 ?_
  exact (h1 v1 e1 v2 e2 v3 e3 v4 e4)
set_option maxRecDepth 65536 in
set_option maxHeartbeats 4000000 in
theorem L_locate_0 {x1 : Int32} {mi : Nat → Nat → Int32} {ml : Nat → Nat → Int64} {Q : Option Value → EMem → Prop}
    (u1 : (0 : Int32) < (mi 0 35) → False)
    (h1 : ¬ (0 : Int32) < (mi 0 35) → Q (some (.int (-1 : Int32))) (LL1, mi, ml, RR1)) :
    W_locate 0 [.val (.ref 0), .val (.int x1), .unset, .unset, .unset, .unset, .unset] [] (LL1, mi, ml, RR1) Q := by
  refine Wp.p (pc' := 1) d_locate_0 rfl rfl ?_
  refine Wp.getI (mi 0 35) d_locate_1 fa_c46 rfl rfl ?_
  refine Wp.if_gt d_locate_4 rfl (fun c1 => ?_) (fun c1 => ?_)
  ·
    refine Wp.p (pc' := 10) d_locate_9 rfl rfl ?_
    refine Wp.p (pc' := 11) d_locate_10 rfl rfl ?_
    exact (u1 c1).elim
  ·
    refine Wp.iconst (-1 : Int32) d_locate_7 (by decide) ?_
    refine Wp.retI d_locate_8 ?_
    exact (h1 c1)
set_option maxRecDepth 65536 in
set_option maxHeartbeats 4000000 in
theorem L_lookup_0 {x1 : Int32} {mi : Nat → Nat → Int32} {ml : Nat → Nat → Int64} {Q : Option Value → EMem → Prop}
    (h1 : ∀ v1 : Int32, v1 = (if x1 < (0 : Int32) then (0 : Int32) else (if (65535 : Int32) < x1 then (0 : Int32) else (1 : Int32))) → ¬ (v1 &&& 1) = (0 : Int32) → W_hash 0 [.val (.ref 0), .val (.int x1), .unset] [] (LL1, mi, ml, RR1) (fun v M' => W_lookup 15 [.val (.ref 0), .val (.int x1), .unset, .unset] (v.toList ++ []) M' Q))
    (h2 : ∀ v1 : Int32, v1 = (if x1 < (0 : Int32) then (0 : Int32) else (if (65535 : Int32) < x1 then (0 : Int32) else (1 : Int32))) → (v1 &&& 1) = (0 : Int32) → Q (some (.int (0 : Int32))) (LL1, mi, ml, RR1)) :
    W_lookup 0 [.val (.ref 0), .val (.int x1), .unset, .unset] [] (LL1, mi, ml, RR1) Q := by
  refine Wp.p (pc' := 1) d_lookup_0 rfl rfl ?_
  refine Wp.p (pc' := 2) d_lookup_1 rfl rfl ?_
  refine Wp.callP (a := 0) (as := [.int x1]) (rest := []) (w := 0) (F' := 0) (Lb' := 0) d_lookup_2 ca_c52_1 rfl rfl rfl rfl (by decide) (by decide) (Nat.le_of_ble_eq_true rfl) ?_
  refine L_isName_0 ?_
  intro v1 e1
  show W_lookup 5 [.val (.ref 0), .val (.int x1), .unset, .unset] [.int (v1 &&& 1)] (LL1, mi, ml, RR1) Q
  refine Wp.if_ne d_lookup_5 rfl (fun c2 => ?_) (fun c2 => ?_)
  ·
    refine Wp.p (pc' := 11) d_lookup_10 rfl rfl ?_
    refine Wp.p (pc' := 12) d_lookup_11 rfl rfl ?_
    refine Wp.callP (a := 0) (as := [.int x1]) (rest := []) (w := 0) (F' := 0) (Lb' := 0) d_lookup_12 ca_c56_1 rfl rfl rfl rfl (by decide) (by decide) (Nat.le_of_ble_eq_true rfl) ?_
    exact (h1 v1 e1 c2)
  ·
    refine Wp.iconst (0 : Int32) d_lookup_8 (by decide) ?_
    refine Wp.retI d_lookup_9 ?_
    exact (h2 v1 e1 c2)
set_option maxRecDepth 65536 in
set_option maxHeartbeats 4000000 in
theorem L_lookup_15 {x1 y0 : Int32} {mi : Nat → Nat → Int32} {ml : Nat → Nat → Int64} {Q : Option Value → EMem → Prop}
    (h1 : W_locate 0 [.val (.ref 0), .val (.int y0), .unset, .unset, .unset, .unset, .unset] [] (LL1, mi, ml, RR1) (fun v M' => W_lookup 21 [.val (.ref 0), .val (.int x1), .val (.int y0), .unset] (v.toList ++ []) M' Q)) :
    W_lookup 15 [.val (.ref 0), .val (.int x1), .unset, .unset] [.int y0] (LL1, mi, ml, RR1) Q := by
  refine Wp.p (pc' := 16) d_lookup_15 rfl rfl ?_
  refine Wp.p (pc' := 17) d_lookup_16 rfl rfl ?_
  refine Wp.p (pc' := 18) d_lookup_17 rfl rfl ?_
  refine Wp.callP (a := 0) (as := [.int y0]) (rest := []) (w := 0) (F' := 0) (Lb' := 0) d_lookup_18 ca_c60_1 rfl rfl rfl rfl (by decide) (by decide) (Nat.le_of_ble_eq_true rfl) ?_
  exact h1
set_option maxRecDepth 65536 in
set_option maxHeartbeats 4000000 in
theorem L_lookup_21 {x1 x2 y0 : Int32} {mi : Nat → Nat → Int32} {ml : Nat → Nat → Int64} {Q : Option Value → EMem → Prop}
    (u1 : ¬ y0 < (0 : Int32) → False)
    (h1 : y0 < (0 : Int32) → Q (some (.int (0 : Int32))) (LL1, mi, ml, RR1)) :
    W_lookup 21 [.val (.ref 0), .val (.int x1), .val (.int x2), .unset] [.int y0] (LL1, mi, ml, RR1) Q := by
  refine Wp.p (pc' := 22) d_lookup_21 rfl rfl ?_
  refine Wp.p (pc' := 23) d_lookup_22 rfl rfl ?_
  refine Wp.if_ge d_lookup_23 rfl (fun c1 => ?_) (fun c1 => ?_)
  ·
    refine Wp.p (pc' := 29) d_lookup_28 rfl rfl ?_
    refine Wp.getR (b := 3) d_lookup_29 fa_c16 rfl rfl ?_
    refine Wp.p (pc' := 33) d_lookup_32 rfl rfl ?_
    refine Wp.p (pc' := 34) d_lookup_33 rfl rfl ?_
    exact (u1 c1).elim
  ·
    refine Wp.iconst (0 : Int32) d_lookup_26 (by decide) ?_
    refine Wp.retI d_lookup_27 ?_
    exact (h1 c1)
set_option maxRecDepth 65536 in
set_option maxHeartbeats 4000000 in
theorem L_nameAtRank_0 {x1 : Int32} {mi : Nat → Nat → Int32} {ml : Nat → Nat → Int64} {Q : Option Value → EMem → Prop}
    (h1 : x1 < (0 : Int32) → Q (some (.int (-1 : Int32))) (LL1, mi, ml, RR1))
    (h2 : ¬ x1 < (0 : Int32) → x1 < (mi 0 33) → W_nameAtRank 18 [.val (.ref 0), .val (.int x1), .val (.int x1), .val (.int (0 : Int32)), .unset, .unset] [] (LL1, mi, ml, RR1) Q)
    (h3 : ¬ x1 < (0 : Int32) → ¬ x1 < (mi 0 33) → Q (some (.int (-1 : Int32))) (LL1, mi, ml, RR1)) :
    W_nameAtRank 0 [.val (.ref 0), .val (.int x1), .unset, .unset, .unset, .unset] [] (LL1, mi, ml, RR1) Q := by
  refine Wp.p (pc' := 1) d_nameAtRank_0 rfl rfl ?_
  refine Wp.if_lt d_nameAtRank_1 rfl (fun c1 => ?_) (fun c1 => ?_)
  ·
    refine Wp.iconst (-1 : Int32) d_nameAtRank_12 (by decide) ?_
    refine Wp.retI d_nameAtRank_13 ?_
    exact (h1 c1)
  ·
    refine Wp.p (pc' := 5) d_nameAtRank_4 rfl rfl ?_
    refine Wp.p (pc' := 6) d_nameAtRank_5 rfl rfl ?_
    refine Wp.getI (mi 0 33) d_nameAtRank_6 fa_c43 rfl rfl ?_
    refine Wp.icmp_lt d_nameAtRank_9 rfl (fun c2 => ?_) (fun c2 => ?_)
    ·
      refine Wp.p (pc' := 15) d_nameAtRank_14 rfl rfl ?_
      refine Wp.p (pc' := 16) d_nameAtRank_15 rfl rfl ?_
      refine Wp.iconst (0 : Int32) d_nameAtRank_16 (by decide) ?_
      refine Wp.p (pc' := 18) d_nameAtRank_17 rfl rfl ?_
      exact (h2 c1 c2)
    ·
      refine Wp.iconst (-1 : Int32) d_nameAtRank_12 (by decide) ?_
      refine Wp.retI d_nameAtRank_13 ?_
      exact (h3 c1 c2)
set_option maxRecDepth 65536 in
set_option maxHeartbeats 4000000 in
theorem L_nameAtRank_18 {x1 x2 x3 : Int32} {s4 s5 : Slot} {mi : Nat → Nat → Int32} {ml : Nat → Nat → Int64} {Q : Option Value → EMem → Prop} (o4 : One s4) (o5 : One s5)
    (h1 : ¬ x3 < (mi 0 35) → Q (some (.int (-1 : Int32))) (LL1, mi, ml, RR1))
    (h2 : x3 < (mi 0 35) → ¬ x3 < (32 : Int32) → Q (some (.int (-1 : Int32))) (LL1, mi, ml, RR1))
    (b1 : x3 < (mi 0 35) → x3 < (32 : Int32) → inb x3 32 = true)
    (b2 : x3 < (mi 0 35) → x3 < (32 : Int32) → inb (mi 5 (Int32.toNatClampNeg x3)) 32 = true)
    (h3 : x3 < (mi 0 35) → x3 < (32 : Int32) → ¬ x2 < (mi 4 (Int32.toNatClampNeg (mi 5 (Int32.toNatClampNeg x3)))) → W_nameAtRank 18 [.val (.ref 0), .val (.int x1), .val (.int (x2 - (mi 4 (Int32.toNatClampNeg (mi 5 (Int32.toNatClampNeg x3)))))), .val (.int (x3 + (1 : Int32))), .val (.int (mi 5 (Int32.toNatClampNeg x3))), .val (.int (mi 4 (Int32.toNatClampNeg (mi 5 (Int32.toNatClampNeg x3)))))] [] (LL1, mi, ml, RR1) Q)
    (b3 : x3 < (mi 0 35) → x3 < (32 : Int32) → x2 < (mi 4 (Int32.toNatClampNeg (mi 5 (Int32.toNatClampNeg x3)))) → inb (((mi 5 (Int32.toNatClampNeg x3)) * (4 : Int32)) + x2) 128 = true)
    (h4 : x3 < (mi 0 35) → x3 < (32 : Int32) → x2 < (mi 4 (Int32.toNatClampNeg (mi 5 (Int32.toNatClampNeg x3)))) → Q (some (.int (mi 2 (Int32.toNatClampNeg (((mi 5 (Int32.toNatClampNeg x3)) * (4 : Int32)) + x2))))) (LL1, mi, ml, RR1)) :
    W_nameAtRank 18 [.val (.ref 0), .val (.int x1), .val (.int x2), .val (.int x3), s4, s5] [] (LL1, mi, ml, RR1) Q := by
  refine Wp.p (pc' := 19) d_nameAtRank_18 rfl rfl ?_
  refine Wp.p (pc' := 20) d_nameAtRank_19 rfl rfl ?_
  refine Wp.getI (mi 0 35) d_nameAtRank_20 fa_c46 rfl rfl ?_
  refine Wp.icmp_ge d_nameAtRank_23 rfl (fun c1 => ?_) (fun c1 => ?_)
  ·
    refine Wp.iconst (-1 : Int32) d_nameAtRank_78 (by decide) ?_
    refine Wp.retI d_nameAtRank_79 ?_
    exact (h1 c1)
  ·
    refine Wp.p (pc' := 27) d_nameAtRank_26 rfl rfl ?_
    refine Wp.bipush (32 : Int32) d_nameAtRank_27 (by decide) ?_
    refine Wp.icmp_ge d_nameAtRank_29 rfl (fun c2 => ?_) (fun c2 => ?_)
    ·
      refine Wp.iconst (-1 : Int32) d_nameAtRank_78 (by decide) ?_
      refine Wp.retI d_nameAtRank_79 ?_
      exact (h2 c1 c2)
    ·
      refine Wp.p (pc' := 33) d_nameAtRank_32 rfl rfl ?_
      refine Wp.getR (b := 5) d_nameAtRank_33 fa_c22 rfl rfl ?_
      refine Wp.p (pc' := 37) d_nameAtRank_36 rfl rfl ?_
      refine Wp.iaload (mi 5 (Int32.toNatClampNeg x3)) d_nameAtRank_37 rfl (k := (Int32.toNatClampNeg x3)) rfl (b1 c1 c2) rfl ?_
      refine Wp.istoreO (i := 4) d_nameAtRank_38 (Or.inl ⟨rfl, rfl⟩) rfl o4 rfl ?_
      show Wp _ _ _ _ _ _ _ 40 _ _ _ _
      refine Wp.p (pc' := 41) d_nameAtRank_40 rfl rfl ?_
      refine Wp.getR (b := 4) d_nameAtRank_41 fa_c19 rfl rfl ?_
      refine Wp.p (pc' := 46) d_nameAtRank_44 rfl rfl ?_
      refine Wp.iaload (mi 4 (Int32.toNatClampNeg (mi 5 (Int32.toNatClampNeg x3)))) d_nameAtRank_46 rfl (k := (Int32.toNatClampNeg (mi 5 (Int32.toNatClampNeg x3)))) rfl (b2 c1 c2) rfl ?_
      refine Wp.istoreO (i := 5) d_nameAtRank_47 (Or.inl ⟨rfl, rfl⟩) rfl o5 rfl ?_
      show Wp _ _ _ _ _ _ _ 49 _ _ _ _
      refine Wp.p (pc' := 50) d_nameAtRank_49 rfl rfl ?_
      refine Wp.p (pc' := 52) d_nameAtRank_50 rfl rfl ?_
      refine Wp.icmp_ge d_nameAtRank_52 rfl (fun c3 => ?_) (fun c3 => ?_)
      ·
        refine Wp.p (pc' := 68) d_nameAtRank_67 rfl rfl ?_
        refine Wp.p (pc' := 70) d_nameAtRank_68 rfl rfl ?_
        refine Wp.p (pc' := 71) d_nameAtRank_70 rfl rfl ?_
        refine Wp.p (pc' := 72) d_nameAtRank_71 rfl rfl ?_
        refine Wp.iinc (1 : Int32) d_nameAtRank_72 (by decide) rfl rfl ?_
        refine Wp.p (pc' := 18) d_nameAtRank_75 rfl rfl ?_
        exact (h3 c1 c2 c3)
      ·
        refine Wp.p (pc' := 56) d_nameAtRank_55 rfl rfl ?_
        refine Wp.getR (b := 2) d_nameAtRank_56 fa_c13 rfl rfl ?_
        refine Wp.p (pc' := 61) d_nameAtRank_59 rfl rfl ?_
        refine Wp.iconst (4 : Int32) d_nameAtRank_61 (by decide) ?_
        refine Wp.p (pc' := 63) d_nameAtRank_62 rfl rfl ?_
        refine Wp.p (pc' := 64) d_nameAtRank_63 rfl rfl ?_
        refine Wp.p (pc' := 65) d_nameAtRank_64 rfl rfl ?_
        refine Wp.iaload (mi 2 (Int32.toNatClampNeg (((mi 5 (Int32.toNatClampNeg x3)) * (4 : Int32)) + x2))) d_nameAtRank_65 rfl (k := (Int32.toNatClampNeg (((mi 5 (Int32.toNatClampNeg x3)) * (4 : Int32)) + x2))) rfl (b3 c1 c2 c3) rfl ?_
        refine Wp.retI d_nameAtRank_66 ?_
        exact (h4 c1 c2 c3)
set_option maxRecDepth 65536 in
set_option maxHeartbeats 4000000 in
theorem L_validHandle_0 {x1 : Int32} {mi : Nat → Nat → Int32} {ml : Nat → Nat → Int64} {Q : Option Value → EMem → Prop}
    (b1 : ¬ x1 < (0 : Int32) → x1 < (4 : Int32) → inb x1 4 = true)
    (h1 : ∀ v1 : Int32, v1 = (if x1 < (0 : Int32) then (0 : Int32) else (if x1 < (4 : Int32) then (if (mi 7 (Int32.toNatClampNeg x1)) = (0 : Int32) then (0 : Int32) else (1 : Int32)) else (0 : Int32))) → Q (some (.int (v1 &&& 1))) (LL1, mi, ml, RR1)) :
    W_validHandle 0 [.val (.ref 0), .val (.int x1)] [] (LL1, mi, ml, RR1) Q := by
  refine Wp.p (pc' := 1) d_validHandle_0 rfl rfl ?_
  obtain ⟨v1, e1⟩ : ∃ z : Int32, z = (if x1 < (0 : Int32) then (0 : Int32) else (if x1 < (4 : Int32) then (if (mi 7 (Int32.toNatClampNeg x1)) = (0 : Int32) then (0 : Int32) else (1 : Int32)) else (0 : Int32))) := ⟨_, rfl⟩
  suffices K : W_validHandle 23 [.val (.ref 0), .val (.int x1)] [.int v1] (LL1, mi, ml, RR1) Q by
    refine Wp.if_lt d_validHandle_1 rfl (fun q0 => ?_) (fun q0 => ?_)
    ·
      refine Wp.iconst (0 : Int32) d_validHandle_22 (by decide) ?_
      rw [if_pos q0] at e1; subst e1
      exact K
    ·
      refine Wp.p (pc' := 5) d_validHandle_4 rfl rfl ?_
      refine Wp.iconst (4 : Int32) d_validHandle_5 (by decide) ?_
      refine Wp.icmp_ge d_validHandle_6 rfl (fun q1 => ?_) (fun q1 => ?_)
      ·
        refine Wp.iconst (0 : Int32) d_validHandle_22 (by decide) ?_
        rw [if_neg q0, if_neg q1] at e1; subst e1
        exact K
      ·
        refine Wp.p (pc' := 10) d_validHandle_9 rfl rfl ?_
        refine Wp.getR (b := 7) d_validHandle_10 fa_c28 rfl rfl ?_
        refine Wp.p (pc' := 14) d_validHandle_13 rfl rfl ?_
        refine Wp.baload (mi 7 (Int32.toNatClampNeg x1)) d_validHandle_14 rfl (k := (Int32.toNatClampNeg x1)) rfl (b1 q0 q1) rfl ?_
        refine Wp.if_eq d_validHandle_15 rfl (fun q2 => ?_) (fun q2 => ?_)
        ·
          refine Wp.iconst (0 : Int32) d_validHandle_22 (by decide) ?_
          rw [if_neg q0, if_pos q1, if_pos q2] at e1; subst e1
          exact K
        ·
          refine Wp.iconst (1 : Int32) d_validHandle_18 (by decide) ?_
          refine Wp.p (pc' := 23) d_validHandle_19 rfl rfl ?_
          rw [if_neg q0, if_pos q1, if_neg q2] at e1; subst e1
          exact K
  refine Wp.retZ (v1 &&& 1) d_validHandle_23 (by rfl) ?_
  exact (h1 v1 e1)
set_option maxRecDepth 65536 in
set_option maxHeartbeats 4000000 in
theorem L_tellDir_0 {x1 : Int32} {mi : Nat → Nat → Int32} {ml : Nat → Nat → Int64} {Q : Option Value → EMem → Prop}
    (h1 : W_validHandle 0 [.val (.ref 0), .val (.int x1)] [] (LL1, mi, ml, RR1) (fun v M' => W_tellDir 5 [.val (.ref 0), .val (.int x1)] (v.toList ++ []) M' Q)) :
    W_tellDir 0 [.val (.ref 0), .val (.int x1)] [] (LL1, mi, ml, RR1) Q := by
  refine Wp.p (pc' := 1) d_tellDir_0 rfl rfl ?_
  refine Wp.p (pc' := 2) d_tellDir_1 rfl rfl ?_
  refine Wp.callP (a := 0) (as := [.int x1]) (rest := []) (w := 0) (F' := 0) (Lb' := 0) d_tellDir_2 ca_c93_1 rfl rfl rfl rfl (by decide) (by decide) (Nat.le_of_ble_eq_true rfl) ?_
  exact h1
set_option maxRecDepth 65536 in
set_option maxHeartbeats 4000000 in
theorem L_tellDir_5 {x1 y0 : Int32} {mi : Nat → Nat → Int32} {ml : Nat → Nat → Int64} {Q : Option Value → EMem → Prop}
    (b1 : ¬ y0 = (0 : Int32) → inb x1 4 = true)
    (h1 : ¬ y0 = (0 : Int32) → Q (some (.int (mi 8 (Int32.toNatClampNeg x1)))) (LL1, mi, ml, RR1))
    (h2 : y0 = (0 : Int32) → Q (some (.int (-2 : Int32))) (LL1, mi, ml, RR1)) :
    W_tellDir 5 [.val (.ref 0), .val (.int x1)] [.int y0] (LL1, mi, ml, RR1) Q := by
  refine Wp.if_ne d_tellDir_5 rfl (fun c1 => ?_) (fun c1 => ?_)
  ·
    refine Wp.p (pc' := 12) d_tellDir_11 rfl rfl ?_
    refine Wp.getR (b := 8) d_tellDir_12 fa_c32 rfl rfl ?_
    refine Wp.p (pc' := 16) d_tellDir_15 rfl rfl ?_
    refine Wp.iaload (mi 8 (Int32.toNatClampNeg x1)) d_tellDir_16 rfl (k := (Int32.toNatClampNeg x1)) rfl (b1 c1) rfl ?_
    refine Wp.retI d_tellDir_17 ?_
    exact (h1 c1)
  ·
    refine Wp.bipush (-2 : Int32) d_tellDir_8 (by decide) ?_
    refine Wp.retI d_tellDir_10 ?_
    exact (h2 c1)
set_option maxRecDepth 65536 in
set_option maxHeartbeats 4000000 in
theorem L_law_0 {x0 x1 x2 : Int32} {mi : Nat → Nat → Int32} {ml : Nat → Nat → Int64} {Q : Option Value → EMem → Prop}
    (h1 : W_init 0 [.val (.ref 0), .val (.int x0), .val (.int x1), .unset, .unset, .unset] [] ([(0, "HtreeDir", 13)], mi, ml, (fun _ _ => Value.null)) (fun v M' => W_law 9 [.val (.int x0), .val (.int x1), .val (.int x2), .unset, .unset, .unset, .unset] (v.toList ++ [.ref 0]) M' Q)) :
    W_law 0 [.val (.int x0), .val (.int x1), .val (.int x2), .unset, .unset, .unset, .unset] [] ([], mi, ml, (fun _ _ => Value.null)) Q := by
  refine Wp.new (a := 0) (L' := [(0, "HtreeDir", 13)]) d_law_0 na_w7 rfl rfl ?_
  refine Wp.p (pc' := 4) d_law_3 rfl rfl ?_
  refine Wp.p (pc' := 5) d_law_4 rfl rfl ?_
  refine Wp.p (pc' := 6) d_law_5 rfl rfl ?_
  refine Wp.callI (a := 0) (as := [.int x0, .int x1]) (rest := [.ref 0]) (w := 1) (F' := 1) (Lb' := 12) d_law_6 on_w9 ca_w9_2 rfl rfl rfl (by decide) (by decide) (Nat.le_of_ble_eq_true rfl) ?_
  exact h1
set_option maxRecDepth 65536 in
set_option maxHeartbeats 4000000 in
theorem L_law_9 {x0 x1 x2 : Int32} {mi : Nat → Nat → Int32} {ml : Nat → Nat → Int64} {Q : Option Value → EMem → Prop}
    (h1 : ∀ v1 : Int32, v1 = (if x1 < (8 : Int32) then (8 : Int32) else (if (32 : Int32) < x1 then (32 : Int32) else x1)) → ∀ v2 : Int32, v2 = (if x0 < (0 : Int32) then (0 : Int32) else (if (65535 : Int32) < x0 then (65535 : Int32) else x0)) → x2 < (0 : Int32) → W_law 77 [.val (.int x0), .val (.int x1), .val (.int x2), .val (.ref 0), .val (.int v1), .val (.int v2), .unset] [.int (-1 : Int32)] (LL1, mi, ml, RR1) Q)
    (h2 : ∀ v1 : Int32, v1 = (if x1 < (8 : Int32) then (8 : Int32) else (if (32 : Int32) < x1 then (32 : Int32) else x1)) → ∀ v2 : Int32, v2 = (if x0 < (0 : Int32) then (0 : Int32) else (if (65535 : Int32) < x0 then (65535 : Int32) else x0)) → ¬ x2 < (0 : Int32) → ¬ (65535 : Int32) < x2 → W_law_hash 0 [.val (.int v2), .val (.int x2), .unset] [] (LL1, mi, ml, RR1) (fun v M' => W_law 77 [.val (.int x0), .val (.int x1), .val (.int x2), .val (.ref 0), .val (.int v1), .val (.int v2), .unset] (v.toList ++ []) M' Q))
    (h3 : ∀ v1 : Int32, v1 = (if x1 < (8 : Int32) then (8 : Int32) else (if (32 : Int32) < x1 then (32 : Int32) else x1)) → ∀ v2 : Int32, v2 = (if x0 < (0 : Int32) then (0 : Int32) else (if (65535 : Int32) < x0 then (65535 : Int32) else x0)) → ¬ x2 < (0 : Int32) → (65535 : Int32) < x2 → W_law 77 [.val (.int x0), .val (.int x1), .val (.int x2), .val (.ref 0), .val (.int v1), .val (.int v2), .unset] [.int (-1 : Int32)] (LL1, mi, ml, RR1) Q) :
    W_law 9 [.val (.int x0), .val (.int x1), .val (.int x2), .unset, .unset, .unset, .unset] [.ref 0] (LL1, mi, ml, RR1) Q := by
  refine Wp.p (pc' := 10) d_law_9 rfl rfl ?_
  refine Wp.p (pc' := 11) d_law_10 rfl rfl ?_
  refine Wp.bipush (8 : Int32) d_law_11 (by decide) ?_
  obtain ⟨v1, e1⟩ : ∃ z : Int32, z = (if x1 < (8 : Int32) then (8 : Int32) else (if (32 : Int32) < x1 then (32 : Int32) else x1)) := ⟨_, rfl⟩
  suffices K : W_law 33 [.val (.int x0), .val (.int x1), .val (.int x2), .val (.ref 0), .unset, .unset, .unset] [.int v1] (LL1, mi, ml, RR1) Q by
    refine Wp.icmp_ge d_law_13 rfl (fun q0 => ?_) (fun q0 => ?_)
    ·
      refine Wp.p (pc' := 22) d_law_21 rfl rfl ?_
      refine Wp.bipush (32 : Int32) d_law_22 (by decide) ?_
      refine Wp.icmp_le d_law_24 rfl (fun q1 => ?_) (fun q1 => ?_)
      ·
        refine Wp.p (pc' := 33) d_law_32 rfl rfl ?_
        rw [if_neg q0, if_neg q1] at e1; subst e1
        exact K
      ·
        refine Wp.bipush (32 : Int32) d_law_27 (by decide) ?_
        refine Wp.p (pc' := 33) d_law_29 rfl rfl ?_
        rw [if_neg q0, if_pos q1] at e1; subst e1
        exact K
    ·
      refine Wp.bipush (8 : Int32) d_law_16 (by decide) ?_
      refine Wp.p (pc' := 33) d_law_18 rfl rfl ?_
      rw [if_pos q0] at e1; subst e1
      exact K
  refine Wp.p (pc' := 35) d_law_33 rfl rfl ?_
  refine Wp.p (pc' := 36) d_law_35 rfl rfl ?_
  obtain ⟨v2, e2⟩ : ∃ z : Int32, z = (if x0 < (0 : Int32) then (0 : Int32) else (if (65535 : Int32) < x0 then (65535 : Int32) else x0)) := ⟨_, rfl⟩
  suffices K : W_law 55 [.val (.int x0), .val (.int x1), .val (.int x2), .val (.ref 0), .val (.int v1), .unset, .unset] [.int v2] (LL1, mi, ml, RR1) Q by
    refine Wp.if_ge d_law_36 rfl (fun q0 => ?_) (fun q0 => ?_)
    ·
      refine Wp.p (pc' := 44) d_law_43 rfl rfl ?_
      refine Wp.ldc d_law_44 ik_w12 ?_
      refine Wp.icmp_le d_law_46 rfl (fun q1 => ?_) (fun q1 => ?_)
      ·
        refine Wp.p (pc' := 55) d_law_54 rfl rfl ?_
        rw [if_neg q0, if_neg q1] at e2; subst e2
        exact K
      ·
        refine Wp.ldc d_law_49 ik_w12 ?_
        refine Wp.p (pc' := 55) d_law_51 rfl rfl ?_
        rw [if_neg q0, if_pos q1] at e2; subst e2
        exact K
    ·
      refine Wp.iconst (0 : Int32) d_law_39 (by decide) ?_
      refine Wp.p (pc' := 55) d_law_40 rfl rfl ?_
      rw [if_pos q0] at e2; subst e2
      exact K
  refine Wp.p (pc' := 57) d_law_55 rfl rfl ?_
  refine Wp.p (pc' := 58) d_law_57 rfl rfl ?_
  refine Wp.if_lt d_law_58 rfl (fun c3 => ?_) (fun c3 => ?_)
  ·
    refine Wp.iconst (-1 : Int32) d_law_67 (by decide) ?_
    refine Wp.p (pc' := 77) d_law_68 rfl rfl ?_
    exact (h1 v1 e1 v2 e2 c3)
  ·
    refine Wp.p (pc' := 62) d_law_61 rfl rfl ?_
    refine Wp.ldc d_law_62 ik_w12 ?_
    refine Wp.icmp_le d_law_64 rfl (fun c4 => ?_) (fun c4 => ?_)
    ·
      refine Wp.p (pc' := 73) d_law_71 rfl rfl ?_
      refine Wp.p (pc' := 74) d_law_73 rfl rfl ?_
      refine Wp.callS (as := [.int v2, .int x2]) (rest := []) (w := 0) (F' := 0) (Lb' := 0) d_law_74 ca_w13_3 rfl rfl rfl (by decide) (by decide) (Nat.le_of_ble_eq_true rfl) ?_
      exact (h2 v1 e1 v2 e2 c3 c4)
    ·
      refine Wp.iconst (-1 : Int32) d_law_67 (by decide) ?_
      refine Wp.p (pc' := 77) d_law_68 rfl rfl ?_
      exact (h3 v1 e1 v2 e2 c3 c4)
set_option maxRecDepth 65536 in
set_option maxHeartbeats 4000000 in
theorem L_law_77 {x0 x1 x2 x4 x5 y0 : Int32} {mi : Nat → Nat → Int32} {ml : Nat → Nat → Int64} {Q : Option Value → EMem → Prop}
    (h1 : (mi 0 31) = x4 → (mi 0 33) = (0 : Int32) → W_hashOf 0 [.val (.ref 0), .val (.int x2)] [] (LL1, mi, ml, RR1) (fun v M' => W_law 104 [.val (.int x0), .val (.int x1), .val (.int x2), .val (.ref 0), .val (.int x4), .val (.int x5), .val (.int y0)] (v.toList ++ []) M' Q))
    (h2 : (mi 0 31) = x4 → ¬ (mi 0 33) = (0 : Int32) → Q (some (.int (0 : Int32))) (LL1, mi, ml, RR1))
    (h3 : ¬ (mi 0 31) = x4 → Q (some (.int (0 : Int32))) (LL1, mi, ml, RR1)) :
    W_law 77 [.val (.int x0), .val (.int x1), .val (.int x2), .val (.ref 0), .val (.int x4), .val (.int x5), .unset] [.int y0] (LL1, mi, ml, RR1) Q := by
  refine Wp.p (pc' := 79) d_law_77 rfl rfl ?_
  refine Wp.p (pc' := 80) d_law_79 rfl rfl ?_
  refine Wp.callV (a := 0) (as := []) (rest := []) (w := 0) (F' := 0) (Lb' := 0) d_law_80 ca_w19_0n ca_w19_0 rfl rfl rfl rfl (by decide) (by decide) (Nat.le_of_ble_eq_true rfl) ?_
  refine L_capacity_0 ?_
  show W_law 83 [.val (.int x0), .val (.int x1), .val (.int x2), .val (.ref 0), .val (.int x4), .val (.int x5), .val (.int y0)] [.int (mi 0 31)] (LL1, mi, ml, RR1) Q
  refine Wp.p (pc' := 85) d_law_83 rfl rfl ?_
  refine Wp.icmp_eq d_law_85 rfl (fun c1 => ?_) (fun c1 => ?_)
  ·
    refine Wp.p (pc' := 91) d_law_90 rfl rfl ?_
    refine Wp.callV (a := 0) (as := []) (rest := []) (w := 0) (F' := 0) (Lb' := 0) d_law_91 ca_w23_0n ca_w23_0 rfl rfl rfl rfl (by decide) (by decide) (Nat.le_of_ble_eq_true rfl) ?_
    refine L_count_0 ?_
    show W_law 94 [.val (.int x0), .val (.int x1), .val (.int x2), .val (.ref 0), .val (.int x4), .val (.int x5), .val (.int y0)] [.int (mi 0 33)] (LL1, mi, ml, RR1) Q
    refine Wp.if_eq d_law_94 rfl (fun c2 => ?_) (fun c2 => ?_)
    ·
      refine Wp.p (pc' := 100) d_law_99 rfl rfl ?_
      refine Wp.p (pc' := 101) d_law_100 rfl rfl ?_
      refine Wp.callV (a := 0) (as := [.int x2]) (rest := []) (w := 0) (F' := 1) (Lb' := 14) d_law_101 ca_w26_0n ca_w26_0 rfl rfl rfl rfl (by decide) (by decide) (Nat.le_of_ble_eq_true rfl) ?_
      exact (h1 c1 c2)
    ·
      refine Wp.iconst (0 : Int32) d_law_97 (by decide) ?_
      refine Wp.retZ (0 : Int32) d_law_98 (by decide) ?_
      exact (h2 c1 c2)
  ·
    refine Wp.iconst (0 : Int32) d_law_88 (by decide) ?_
    refine Wp.retZ (0 : Int32) d_law_89 (by decide) ?_
    exact (h3 c1)
set_option maxRecDepth 65536 in
set_option maxHeartbeats 4000000 in
theorem L_law_104 {x0 x1 x2 x4 x5 x6 y0 : Int32} {mi : Nat → Nat → Int32} {ml : Nat → Nat → Int64} {Q : Option Value → EMem → Prop}
    (h1 : y0 = x6 → W_lookup 0 [.val (.ref 0), .val (.int x2), .unset, .unset] [] (LL1, mi, ml, RR1) (fun v M' => W_law 116 [.val (.int x0), .val (.int x1), .val (.int x2), .val (.ref 0), .val (.int x4), .val (.int x5), .val (.int x6)] (v.toList ++ []) M' Q))
    (h2 : ¬ y0 = x6 → Q (some (.int (0 : Int32))) (LL1, mi, ml, RR1)) :
    W_law 104 [.val (.int x0), .val (.int x1), .val (.int x2), .val (.ref 0), .val (.int x4), .val (.int x5), .val (.int x6)] [.int y0] (LL1, mi, ml, RR1) Q := by
  refine Wp.p (pc' := 106) d_law_104 rfl rfl ?_
  refine Wp.icmp_eq d_law_106 rfl (fun c1 => ?_) (fun c1 => ?_)
  ·
    refine Wp.p (pc' := 112) d_law_111 rfl rfl ?_
    refine Wp.p (pc' := 113) d_law_112 rfl rfl ?_
    refine Wp.callV (a := 0) (as := [.int x2]) (rest := []) (w := 0) (F' := 1) (Lb' := 18) d_law_113 ca_w30_0n ca_w30_0 rfl rfl rfl rfl (by decide) (by decide) (Nat.le_of_ble_eq_true rfl) ?_
    exact (h1 c1)
  ·
    refine Wp.iconst (0 : Int32) d_law_109 (by decide) ?_
    refine Wp.retZ (0 : Int32) d_law_110 (by decide) ?_
    exact (h2 c1)
set_option maxRecDepth 65536 in
set_option maxHeartbeats 4000000 in
theorem L_law_116 {x0 x1 x2 x4 x5 x6 y0 : Int32} {mi : Nat → Nat → Int32} {ml : Nat → Nat → Int64} {Q : Option Value → EMem → Prop}
    (h1 : y0 = (0 : Int32) → W_nameAtRank 0 [.val (.ref 0), .val (.int (0 : Int32)), .unset, .unset, .unset, .unset] [] (LL1, mi, ml, RR1) (fun v M' => W_law 126 [.val (.int x0), .val (.int x1), .val (.int x2), .val (.ref 0), .val (.int x4), .val (.int x5), .val (.int x6)] (v.toList ++ []) M' Q))
    (h2 : ¬ y0 = (0 : Int32) → Q (some (.int (0 : Int32))) (LL1, mi, ml, RR1)) :
    W_law 116 [.val (.int x0), .val (.int x1), .val (.int x2), .val (.ref 0), .val (.int x4), .val (.int x5), .val (.int x6)] [.int y0] (LL1, mi, ml, RR1) Q := by
  refine Wp.if_eq d_law_116 rfl (fun c1 => ?_) (fun c1 => ?_)
  ·
    refine Wp.p (pc' := 122) d_law_121 rfl rfl ?_
    refine Wp.iconst (0 : Int32) d_law_122 (by decide) ?_
    refine Wp.callV (a := 0) (as := [.int (0 : Int32)]) (rest := []) (w := 0) (F' := 0) (Lb' := 0) d_law_123 ca_w33_0n ca_w33_0 rfl rfl rfl rfl (by decide) (by decide) (Nat.le_of_ble_eq_true rfl) ?_
    exact (h1 c1)
  ·
    refine Wp.iconst (0 : Int32) d_law_119 (by decide) ?_
    refine Wp.retZ (0 : Int32) d_law_120 (by decide) ?_
    exact (h2 c1)
set_option maxRecDepth 65536 in
set_option maxHeartbeats 4000000 in
theorem L_law_126 {x0 x1 x2 x4 x5 x6 y0 : Int32} {mi : Nat → Nat → Int32} {ml : Nat → Nat → Int64} {Q : Option Value → EMem → Prop}
    (h1 : y0 = (-1 : Int32) → W_tellDir 0 [.val (.ref 0), .val (.int x2)] [] (LL1, mi, ml, RR1) (fun v M' => W_law 137 [.val (.int x0), .val (.int x1), .val (.int x2), .val (.ref 0), .val (.int x4), .val (.int x5), .val (.int x6)] (v.toList ++ []) M' Q))
    (h2 : ¬ y0 = (-1 : Int32) → Q (some (.int (0 : Int32))) (LL1, mi, ml, RR1)) :
    W_law 126 [.val (.int x0), .val (.int x1), .val (.int x2), .val (.ref 0), .val (.int x4), .val (.int x5), .val (.int x6)] [.int y0] (LL1, mi, ml, RR1) Q := by
  refine Wp.iconst (-1 : Int32) d_law_126 (by decide) ?_
  refine Wp.icmp_eq d_law_127 rfl (fun c1 => ?_) (fun c1 => ?_)
  ·
    refine Wp.p (pc' := 133) d_law_132 rfl rfl ?_
    refine Wp.p (pc' := 134) d_law_133 rfl rfl ?_
    refine Wp.callV (a := 0) (as := [.int x2]) (rest := []) (w := 0) (F' := 1) (Lb' := 13) d_law_134 ca_w36_0n ca_w36_0 rfl rfl rfl rfl (by decide) (by decide) (Nat.le_of_ble_eq_true rfl) ?_
    exact (h1 c1)
  ·
    refine Wp.iconst (0 : Int32) d_law_130 (by decide) ?_
    refine Wp.retZ (0 : Int32) d_law_131 (by decide) ?_
    exact (h2 c1)
set_option maxRecDepth 65536 in
set_option maxHeartbeats 4000000 in
theorem L_law_137 {x0 x1 x2 x4 x5 x6 y0 : Int32} {mi : Nat → Nat → Int32} {ml : Nat → Nat → Int64} {Q : Option Value → EMem → Prop}
    (h1 : ∀ v1 : Int32, v1 = (if y0 = (-2 : Int32) then (1 : Int32) else (0 : Int32)) → Q (some (.int v1)) (LL1, mi, ml, RR1)) :
    W_law 137 [.val (.int x0), .val (.int x1), .val (.int x2), .val (.ref 0), .val (.int x4), .val (.int x5), .val (.int x6)] [.int y0] (LL1, mi, ml, RR1) Q := by
  refine Wp.bipush (-2 : Int32) d_law_137 (by decide) ?_
  obtain ⟨v1, e1⟩ : ∃ z : Int32, z = (if y0 = (-2 : Int32) then (1 : Int32) else (0 : Int32)) := ⟨_, rfl⟩
  suffices K : Q (some (.int v1)) (LL1, mi, ml, RR1) by
    refine Wp.icmp_eq d_law_139 rfl (fun q0 => ?_) (fun q0 => ?_)
    ·
      refine Wp.iconst (1 : Int32) d_law_144 (by decide) ?_
      refine Wp.retZ (1 : Int32) d_law_145 (by decide) ?_
      rw [if_pos q0] at e1; subst e1
      exact K
    ·
      refine Wp.iconst (0 : Int32) d_law_142 (by decide) ?_
      refine Wp.retZ (0 : Int32) d_law_143 (by decide) ?_
      rw [if_neg q0] at e1; subst e1
      exact K
  exact (h1 v1 e1)

def own_hs (s x : Int32) : Int32 := ((((((((x ^^^ s) &&& (65535 : Int32)) * (40507 : Int32)) &&& (65535 : Int32)) ^^^ (XT.ushr ((((x ^^^ s) &&& (65535 : Int32)) * (40507 : Int32)) &&& (65535 : Int32)) (7 : Int32))) * (23505 : Int32)) &&& (65535 : Int32)) ^^^ (XT.ushr (((((((x ^^^ s) &&& (65535 : Int32)) * (40507 : Int32)) &&& (65535 : Int32)) ^^^ (XT.ushr ((((x ^^^ s) &&& (65535 : Int32)) * (40507 : Int32)) &&& (65535 : Int32)) (7 : Int32))) * (23505 : Int32)) &&& (65535 : Int32)) (9 : Int32)))
theorem S_hash {x1 : Int32} {mi : Nat → Nat → Int32} {ml : Nat → Nat → Int64} {Q : Option Value → EMem → Prop} (h : Q (some (.int (own_hs (mi 0 29) x1))) (LL1, mi, ml, RR1)) : W_hash 0 [.val (.ref 0), .val (.int x1), .unset] [] (LL1, mi, ml, RR1) Q := L_hash_0 h
theorem S_law_hash {x0 x1 : Int32} {mi : Nat → Nat → Int32} {ml : Nat → Nat → Int64} {Q : Option Value → EMem → Prop} (h : Q (some (.int (own_hs x0 x1))) (LL1, mi, ml, RR1)) : W_law_hash 0 [.val (.int x0), .val (.int x1), .unset] [] (LL1, mi, ml, RR1) Q := L_law_hash_0 h
theorem own_and1 {z : Int32} (h : z = 0 ∨ z = 1) : z &&& 1 = z := by rcases h with rfl | rfl <;> decide

theorem own_law3 (i0 i1 x w1 w2 e : Int32) (mi : Nat → Nat → Int32) (ml : Nat → Nat → Int64) (hw : w1 = mi 0 31) (hz : mi 0 33 = 0) (hs : mi 0 29 = w2) (hl : mi 0 35 = 0) (ho : ∀ k, k < 4 → mi 7 k = 0)
    (he : e = if x < 0 then -1 else if 65535 < x then -1 else own_hs w2 x) :
    W_law 77 [.val (.int i0), .val (.int i1), .val (.int x), .val (.ref 0), .val (.int w1), .val (.int w2), .unset] [.int e] (LL1, mi, ml, RR1) QL := by
  have tl : W_law 104 [.val (.int i0), .val (.int i1), .val (.int x), .val (.ref 0), .val (.int w1), .val (.int w2), .val (.int e)] [.int e] (LL1, mi, ml, RR1) QL := by
    have rest : W_law 116 [.val (.int i0), .val (.int i1), .val (.int x), .val (.ref 0), .val (.int w1), .val (.int w2), .val (.int e)] [.int 0] (LL1, mi, ml, RR1) QL := by
      refine L_law_116 (fun _ => ?_) (fun c => absurd rfl c)
      refine L_nameAtRank_0 (fun h => absurd h (by decide)) (fun _ h => absurd h (by rw [hz]; decide)) (fun _ _ => ?_)
      refine L_law_126 (fun _ => ?_) (fun c => absurd rfl c)
      refine L_tellDir_0 ?_
      refine L_validHandle_0 (fun h1 h2 => inb_lt 4 h1 h2 (by decide)) ?_
      intro v ev
      have hv : v = 0 := by
        rw [ev]
        split
        · rfl
        · rename_i h1
          split
          · rename_i h2
            rw [ho _ (clamp_lt 4 h1 h2 (by decide))]; rfl
          · rfl
      subst hv
      refine L_tellDir_5 (fun h => absurd (by decide) h) (fun h => absurd (by decide) h) (fun _ => ?_)
      refine L_law_137 ?_
      intro z ez
      exact ql1 (by rw [ez]; rfl)
    refine L_law_104 (fun _ => ?_) (fun c => absurd rfl c)
    refine L_lookup_0 ?_ (fun _ _ _ => rest)
    intro v ev c
    refine S_hash ?_
    refine L_lookup_15 ?_
    refine L_locate_0 (fun h => absurd h (by rw [hl]; decide)) (fun _ => ?_)
    exact L_lookup_21 (fun h => absurd (by decide) h) (fun _ => rest)
  refine L_law_77 (fun _ _ => ?_) (fun _ h => absurd hz h) (fun h => absurd hw.symm h)
  refine L_hashOf_0 ?_ ?_
  · intro v ev c
    refine S_hash ?_
    refine L_hashOf_15 ?_
    have q : own_hs (mi 0 29) x = e := by
      rw [hs]
      have : v ≠ 0 := fun h => c (by rw [h]; decide)
      grind
    show W_law 104 _ [.int (own_hs (mi 0 29) x)] _ _
    rw [q]; exact tl
  · intro v ev c
    have q : (-1 : Int32) = e := by
      have : v = 0 ∨ v = 1 := by grind
      rw [own_and1 this] at c
      grind
    show W_law 104 _ [.int (-1)] _ _
    rw [q]; exact tl
theorem own_law2 (i0 i1 x v1 v2 v3 v4 : Int32) (e1 : v1 = if i0 < 0 then 0 else i0) (e2 : v2 = if 65535 < v1 then 65535 else v1) (e3 : v3 = if i1 < 8 then 8 else i1) (e4 : v4 = if 32 < v3 then 32 else v3) (mi : Nat → Nat → Int32) (ml : Nat → Nat → Int64) (hw : mi 0 31 = v4) (hz : mi 0 33 = 0) (hs : mi 0 29 = v2) (hl : mi 0 35 = 0) (ho : ∀ k, k < 4 → mi 7 k = 0) :
    W_law 9 [.val (.int i0), .val (.int i1), .val (.int x), .unset, .unset, .unset, .unset] [.ref 0] (LL1, mi, ml, RR1) QL := by
  refine L_law_9 ?_ ?_ ?_
  · intro w1 f1 w2 f2 c
    exact own_law3 _ _ _ _ _ _ _ _ (by grind) hz (by grind) hl ho (by grind)
  · intro w1 f1 w2 f2 c c'
    refine S_law_hash ?_
    exact own_law3 _ _ _ _ _ _ _ _ (by grind) hz (by grind) hl ho (by grind)
  · intro w1 f1 w2 f2 c c'
    exact own_law3 _ _ _ _ _ _ _ _ (by grind) hz (by grind) hl ho (by grind)
theorem law_ok (i0 i1 i2 : Int32) : W_law 0 (entryL [.int i0, .int i1, .int i2] maxLocals) [] mem0 QL := by
  refine L_law_0 ?_
  refine L_init_0 ?_
  intro v1 e1 v2 e2 v3 e3 v4 e4
  exact own_law2 i0 i1 i2 v1 v2 v3 v4 e1 e2 e3 e4 _ _ rfl rfl rfl rfl (fun k _ => rfl)

set_option maxRecDepth 65536 in
set_option maxHeartbeats 40000000 in
theorem comes_1 {Post : Tables → Env → Array Value → State → Outcome → State → Prop} (hpost : ∀ tb e args s v u, (limb_1_1.after args s (.returned v) u = true ∧ limb_1_2.after args s (.returned v) u = true ∧ True) → FrameEnd s (.returned v) u (Jvm.fieldLocs frame_1_writes args s ++ Jvm.arrayLocs frame_1_arrays args s ++ Jvm.staticLocs frame_1_statics s) 32 1088 → Post tb e args s (.returned v) u) :
    ArmFor flags0 classFile x code maxLocals ret World_1 tables_1 room_1 Calls_1 rest_1 Pre_1 Post := by
  intro l hfl _ _ p e ha hc hk s m args below hf hA hF happ hP
  obtain ⟨hcalls, hrest, hpre⟩ := hP
  obtain ⟨-, -, -, hnamed, -, -, -, hat⟩ := (Spec.applies_iff hf).mp happ
  obtain ⟨hg, hn⟩ := and_e (Cond.before_iff.mp (show (Jvm.Cond.and given_1 narrow_1).before args s = true from hpre))
  obtain ⟨g0, t0⟩ := and_e hg
  obtain ⟨g1, t1⟩ := and_e t0
  obtain ⟨g2, t2⟩ := and_e t1
  obtain ⟨w0, w1, w2, rfl⟩ : ∃ w0 w1 w2 : Value, args = #[w0, w1, w2] := by
    have hs : args.size = 3 := by simpa [Cond.value, given_1] using g0
    obtain ⟨L⟩ := args
    match L, hs with
    | [w0, w1, w2], _ => exact ⟨w0, w1, w2, rfl⟩
  have hw := fun d (hd : d ∈ tables_1) => atoms_spec (ws := Jvm.Cond.code x code maxLocals ret :: tables_1) hat d (List.mem_cons_of_mem _ hd)
  obtain ⟨i0, e0⟩ := is_v g1
  obtain rfl : w0 = (.int i0) := Option.some.inj e0
  obtain ⟨i1, e1⟩ := is_v g2
  obtain rfl : w1 = (.int i1) := Option.some.inj e1
  obtain ⟨i2, e2⟩ := is_v t2
  obtain rfl : w2 = (.int i2) := Option.some.inj e2
  obtain ⟨n, o, h1, h2, h3, _, L, rfl, ⟨rfl, N⟩, hq⟩ := law_run (l := l) (R := room_1) (as := [.int i0, .int i1, .int i2]) hw (ρ := fun a => s.heap.size + a) (fun a b q => Nat.add_left_cancel q) (fun a _ => rfl) (rel0 s _) (by first | (simp [plainName, overriddenIn, x]; done) | decide +kernel) (Nat.le_of_ble_eq_true rfl) (law_ok i0 i1 i2) tables_1 p e ha hc hk s m _ below hf ((Spec.applies_iff_loose hf).mp happ).1 ⟨rfl, State.Warmed39.refl s, rfl⟩ trivial
  refine ⟨n, _, h1, h2, h3, hpost _ _ _ _ _ _ ⟨Cond.after_iff.mpr rfl, Cond.after_iff.mpr (eq_i res_at (Term.int_eval (1)) rfl), trivial⟩ ⟨hq.1, hq.2.1, (hq.2.2.sift fun y hy => Or.inr (N y hy)).mono (by decide) (by decide)⟩⟩
theorem main_1_1 : Claimed_1_1 := comes_1 fun _ _ _ _ _ _ h hF => ⟨h.1, hF⟩
theorem main_1_2 : Claimed_1_2 := comes_1 fun _ _ _ _ _ _ h hF => ⟨h.2.1, hF⟩
end Jvm.Pilot.@@N@@
namespace Jvm.Pilot.@@N@@
open Jvm Jvm.ClassFile Sem Op Lib Jvm.Free Jvm.Stand Jvm.Pilot.@@N@@.Jvm.D
/-! MADE BY PROGRAM (witnessworld.py) out of the Statement's table words and the real class files: 11 classes; the members and pool entries that the words name. The judged class is class 1, her method 1. -/
namespace start1
open Jvm.ClassFile
def u (s : String) : CpInfo := .utf8 (stringToUtf16 s)
/-- a pool by its gaps: so many unusable entries, then the entry; so many at the end -/
def gap : Nat → List CpInfo → List CpInfo
  | 0, r => r
  | n + 1, r => .unusable :: gap n r
def poolList (es : List (Nat × CpInfo)) (last : Nat) : List CpInfo := es.foldr (fun e r => gap e.1 (e.2 :: r)) (gap last [])
def pool (es : List (Nat × CpInfo)) (last : Nat) : Array CpInfo := ⟨poolList es last⟩
def fileOf (pool : Array CpInfo) (this : Nat) (attrs : Array Attribute := #[]) (ms : Array MethodInfo := #[]) (fl : Nat := 33) (sup : Nat := 0) (ifs : Array Nat := #[]) (fds : Array FieldInfo := #[]) : ClassFile where
  minorVersion := 0
  majorVersion := 65
  constantPool := pool
  accessFlags := fl
  thisClass := this
  superClass := sup
  interfaces := ifs
  fields := fds
  methods := ms
  attributes := attrs
def plain (name : String) (sup : Option ClassId) : Class where
  name := name
  kind := .ordinary
  loader := none
  accessFlags := 33
  super := sup
  interfaces := #[]
  cf := none
  fields := #[]
  methods := #[]
  instanceTypes := #[]
  staticTypes := #[]
  resolved := #[]
  callSites := []
  init := .initialized
  statics := none
  mirror := none

def pool0 : Array CpInfo := pool [(5, u "<init>"), (0, u "()V"), (1, .class_ 10), (1, u "java/lang/Object")] 113

def k0c0 : Code := { maxStack := 0, maxLocals := 1, code := object_method_1_code, exceptionTable := #[], attributes := #[] }
def k0m0 : Method := { name := "<init>", desc := "()V", sig := { parameters := [], returnType := none }, accessFlags := 1, code := some k0c0 }
/-- java/lang/Object -/
def k0 : Class := { plain "java/lang/Object" none with
  accessFlags := 33
  interfaces := #[]
  cf := some (fileOf pool0 8 #[] #[{ accessFlags := 1, nameIndex := 5, descriptorIndex := 6, attributes := #[] }] 33 0 #[] #[])
  fields := #[]
  methods := #[k0m0]
  instanceTypes := #[]
  staticTypes := #[]
  resolved := Array.replicate 124 none
  statics := none }

def pool1 : Array CpInfo := pool [(2, .class_ 4), (1, u "java/lang/Object"), (0, u "<init>"), (0, u "()V"), (0, .class_ 8), (0, u "HtreeDir"), (0, .methodref 7 10), (0, .nameAndType 5 11), (0, u "(II)V"), (0, .integer 65535), (0, .methodref 14 15), (0, .class_ 16), (0, .nameAndType 17 18), (0, u "HtreeDirL1"), (0, u "hash"), (0, u "(II)I"), (0, .methodref 7 20), (0, .nameAndType 21 22), (0, u "capacity"), (0, u "()I"), (0, .methodref 7 24), (0, .nameAndType 25 22), (0, u "count"), (0, .methodref 7 27), (0, .nameAndType 28 29), (0, u "hashOf"), (0, u "(I)I"), (0, .methodref 7 31), (0, .nameAndType 32 29), (0, u "lookup"), (0, .methodref 7 34), (0, .nameAndType 35 29), (0, u "nameAtRank"), (0, .methodref 7 37), (0, .nameAndType 38 29), (0, u "tellDir"), (0, .integer 40507), (2, u "law"), (0, u "(III)Z")] 3

def k1m0 : Method := { name := "<init>", desc := "()V", sig := { parameters := [], returnType := none }, accessFlags := 1, code := none }
def k1c1 : Code := { maxStack := 4, maxLocals := 7, code := code, exceptionTable := #[], attributes := #[] }
def k1m1 : Method := { name := "law", desc := "(III)Z", sig := { parameters := [.int, .int, .int], returnType := some .boolean }, accessFlags := 9, code := some k1c1 }
def k1c2 : Code := { maxStack := 3, maxLocals := 3, code := method_3_code, exceptionTable := #[], attributes := #[] }
def k1m2 : Method := { name := "hash", desc := "(II)I", sig := { parameters := [.int, .int], returnType := some .int }, accessFlags := 10, code := some k1c2 }
/-- HtreeDirL1 -/
def k1 : Class := { plain "HtreeDirL1" (some 0) with
  accessFlags := 49
  interfaces := #[]
  cf := some (fileOf pool1 14 #[] #[{ accessFlags := 1, nameIndex := 5, descriptorIndex := 6, attributes := #[] }, { accessFlags := 9, nameIndex := 42, descriptorIndex := 43, attributes := #[] }, { accessFlags := 10, nameIndex := 17, descriptorIndex := 18, attributes := #[] }] 49 2 #[] #[])
  fields := #[]
  methods := #[k1m0, k1m1, k1m2]
  instanceTypes := #[]
  staticTypes := #[]
  resolved := Array.replicate 47 none
  statics := none }

def pool2 : Array CpInfo := pool [(1, .methodref 2 3), (0, .class_ 4), (0, .nameAndType 5 6), (0, u "java/lang/Object"), (0, u "<init>"), (0, u "()V"), (0, .fieldref 8 9), (0, .class_ 10), (0, .nameAndType 11 12), (0, u "HtreeDir"), (0, u "eHash"), (0, u "[I"), (0, .fieldref 8 14), (0, .nameAndType 15 12), (0, u "eName"), (0, .fieldref 8 17), (0, .nameAndType 18 12), (0, u "eInode"), (0, .fieldref 8 20), (0, .nameAndType 21 12), (0, u "leafLen"), (0, .fieldref 8 23), (0, .nameAndType 24 12), (0, u "idxLeaf"), (0, .fieldref 8 26), (0, .nameAndType 27 12), (0, u "freeStack"), (0, .fieldref 8 29), (0, .nameAndType 30 31), (0, u "open"), (0, u "[Z"), (0, .fieldref 8 33), (0, .nameAndType 34 12), (0, u "cookie"), (0, .integer 65535), (0, .fieldref 8 37), (0, .nameAndType 38 39), (0, u "seed"), (0, u "I"), (0, .fieldref 8 41), (0, .nameAndType 42 39), (0, u "cap"), (0, .fieldref 8 44), (0, .nameAndType 45 39), (0, u "size"), (0, .fieldref 8 47), (0, .nameAndType 48 39), (0, u "numLeaves"), (0, .fieldref 8 50), (0, .nameAndType 51 39), (0, u "freeTop"), (0, .methodref 8 53), (0, .nameAndType 54 55), (0, u "isName"), (0, u "(I)Z"), (0, .methodref 8 57), (0, .nameAndType 58 59), (0, u "hash"), (0, u "(I)I"), (0, .methodref 8 61), (0, .nameAndType 62 59), (0, u "locate"), (18, u "(II)V"), (11, .methodref 8 94), (0, .nameAndType 95 55), (0, u "validHandle"), (3, .integer 40507), (6, u "()I"), (15, u "OK"), (2, u "DUP"), (1, u "FULL"), (1, u "ABSENT"), (1, u "BAD_NAME"), (1, u "BAD_INODE"), (1, u "END"), (1, u "BAD_HANDLE"), (1, u "COOKIE_START"), (0, u "COOKIE_EOF"), (0, u "MAX_HANDLES"), (0, u "NAME_MAX"), (3, u "capacity"), (0, u "count"), (0, u "hashOf"), (3, u "lookup"), (1, u "nameAtRank"), (3, u "tellDir")] 5

def k2c0 : Code := { maxStack := 4, maxLocals := 6, code := prog_1_method_1_code, exceptionTable := #[], attributes := #[] }
def k2m0 : Method := { name := "<init>", desc := "(II)V", sig := { parameters := [.int, .int], returnType := none }, accessFlags := 1, code := some k2c0 }
def k2c1 : Code := { maxStack := 1, maxLocals := 1, code := prog_1_method_2_code, exceptionTable := #[], attributes := #[] }
def k2m1 : Method := { name := "capacity", desc := "()I", sig := { parameters := [], returnType := some .int }, accessFlags := 1, code := some k2c1 }
def k2c2 : Code := { maxStack := 1, maxLocals := 1, code := prog_1_method_3_code, exceptionTable := #[], attributes := #[] }
def k2m2 : Method := { name := "count", desc := "()I", sig := { parameters := [], returnType := some .int }, accessFlags := 1, code := some k2c2 }
def k2c3 : Code := { maxStack := 2, maxLocals := 2, code := prog_1_method_4_code, exceptionTable := #[], attributes := #[] }
def k2m3 : Method := { name := "hashOf", desc := "(I)I", sig := { parameters := [.int], returnType := some .int }, accessFlags := 1, code := some k2c3 }
def k2c4 : Code := { maxStack := 3, maxLocals := 4, code := prog_1_method_8_code, exceptionTable := #[], attributes := #[] }
def k2m4 : Method := { name := "lookup", desc := "(I)I", sig := { parameters := [.int], returnType := some .int }, accessFlags := 1, code := some k2c4 }
def k2c5 : Code := { maxStack := 3, maxLocals := 6, code := prog_1_method_10_code, exceptionTable := #[], attributes := #[] }
def k2m5 : Method := { name := "nameAtRank", desc := "(I)I", sig := { parameters := [.int], returnType := some .int }, accessFlags := 1, code := some k2c5 }
def k2c6 : Code := { maxStack := 2, maxLocals := 2, code := prog_1_method_14_code, exceptionTable := #[], attributes := #[] }
def k2m6 : Method := { name := "tellDir", desc := "(I)I", sig := { parameters := [.int], returnType := some .int }, accessFlags := 1, code := some k2c6 }
def k2c7 : Code := { maxStack := 2, maxLocals := 2, code := prog_1_method_17_code, exceptionTable := #[], attributes := #[] }
def k2m7 : Method := { name := "isName", desc := "(I)Z", sig := { parameters := [.int], returnType := some .boolean }, accessFlags := 2, code := some k2c7 }
def k2c8 : Code := { maxStack := 2, maxLocals := 2, code := prog_1_method_18_code, exceptionTable := #[], attributes := #[] }
def k2m8 : Method := { name := "validHandle", desc := "(I)Z", sig := { parameters := [.int], returnType := some .boolean }, accessFlags := 2, code := some k2c8 }
def k2c9 : Code := { maxStack := 3, maxLocals := 3, code := prog_1_method_19_code, exceptionTable := #[], attributes := #[] }
def k2m9 : Method := { name := "hash", desc := "(I)I", sig := { parameters := [.int], returnType := some .int }, accessFlags := 2, code := some k2c9 }
def k2c10 : Code := { maxStack := 3, maxLocals := 7, code := prog_1_method_22_code, exceptionTable := #[], attributes := #[] }
def k2m10 : Method := { name := "locate", desc := "(I)I", sig := { parameters := [.int], returnType := some .int }, accessFlags := 2, code := some k2c10 }
/-- HtreeDir -/
def k2 : Class := { plain "HtreeDir" (some 0) with
  accessFlags := 49
  interfaces := #[]
  cf := some (fileOf pool2 8 #[] #[{ accessFlags := 1, nameIndex := 5, descriptorIndex := 81, attributes := #[] }, { accessFlags := 1, nameIndex := 146, descriptorIndex := 106, attributes := #[] }, { accessFlags := 1, nameIndex := 147, descriptorIndex := 106, attributes := #[] }, { accessFlags := 1, nameIndex := 148, descriptorIndex := 59, attributes := #[] }, { accessFlags := 1, nameIndex := 152, descriptorIndex := 59, attributes := #[] }, { accessFlags := 1, nameIndex := 154, descriptorIndex := 59, attributes := #[] }, { accessFlags := 1, nameIndex := 158, descriptorIndex := 59, attributes := #[] }, { accessFlags := 2, nameIndex := 54, descriptorIndex := 55, attributes := #[] }, { accessFlags := 2, nameIndex := 95, descriptorIndex := 55, attributes := #[] }, { accessFlags := 2, nameIndex := 58, descriptorIndex := 59, attributes := #[] }, { accessFlags := 2, nameIndex := 62, descriptorIndex := 59, attributes := #[] }] 49 2 #[] #[{ accessFlags := 25, nameIndex := 122, descriptorIndex := 39, attributes := #[] }, { accessFlags := 25, nameIndex := 125, descriptorIndex := 39, attributes := #[] }, { accessFlags := 25, nameIndex := 127, descriptorIndex := 39, attributes := #[] }, { accessFlags := 25, nameIndex := 129, descriptorIndex := 39, attributes := #[] }, { accessFlags := 25, nameIndex := 131, descriptorIndex := 39, attributes := #[] }, { accessFlags := 25, nameIndex := 133, descriptorIndex := 39, attributes := #[] }, { accessFlags := 25, nameIndex := 135, descriptorIndex := 39, attributes := #[] }, { accessFlags := 25, nameIndex := 137, descriptorIndex := 39, attributes := #[] }, { accessFlags := 25, nameIndex := 139, descriptorIndex := 39, attributes := #[] }, { accessFlags := 25, nameIndex := 140, descriptorIndex := 39, attributes := #[] }, { accessFlags := 25, nameIndex := 141, descriptorIndex := 39, attributes := #[] }, { accessFlags := 25, nameIndex := 142, descriptorIndex := 39, attributes := #[] }, { accessFlags := 2, nameIndex := 38, descriptorIndex := 39, attributes := #[] }, { accessFlags := 2, nameIndex := 42, descriptorIndex := 39, attributes := #[] }, { accessFlags := 2, nameIndex := 45, descriptorIndex := 39, attributes := #[] }, { accessFlags := 2, nameIndex := 11, descriptorIndex := 12, attributes := #[] }, { accessFlags := 2, nameIndex := 15, descriptorIndex := 12, attributes := #[] }, { accessFlags := 2, nameIndex := 18, descriptorIndex := 12, attributes := #[] }, { accessFlags := 2, nameIndex := 21, descriptorIndex := 12, attributes := #[] }, { accessFlags := 2, nameIndex := 24, descriptorIndex := 12, attributes := #[] }, { accessFlags := 2, nameIndex := 48, descriptorIndex := 39, attributes := #[] }, { accessFlags := 2, nameIndex := 27, descriptorIndex := 12, attributes := #[] }, { accessFlags := 2, nameIndex := 51, descriptorIndex := 39, attributes := #[] }, { accessFlags := 2, nameIndex := 30, descriptorIndex := 31, attributes := #[] }, { accessFlags := 2, nameIndex := 34, descriptorIndex := 12, attributes := #[] }])
  fields := #[{ name := "OK", type := .int, accessFlags := 25, slot := 0, constantValue := 0 }, { name := "DUP", type := .int, accessFlags := 25, slot := 1, constantValue := 0 }, { name := "FULL", type := .int, accessFlags := 25, slot := 2, constantValue := 0 }, { name := "ABSENT", type := .int, accessFlags := 25, slot := 3, constantValue := 0 }, { name := "BAD_NAME", type := .int, accessFlags := 25, slot := 4, constantValue := 0 }, { name := "BAD_INODE", type := .int, accessFlags := 25, slot := 5, constantValue := 0 }, { name := "END", type := .int, accessFlags := 25, slot := 6, constantValue := 0 }, { name := "BAD_HANDLE", type := .int, accessFlags := 25, slot := 7, constantValue := 0 }, { name := "COOKIE_START", type := .int, accessFlags := 25, slot := 8, constantValue := 0 }, { name := "COOKIE_EOF", type := .int, accessFlags := 25, slot := 9, constantValue := 0 }, { name := "MAX_HANDLES", type := .int, accessFlags := 25, slot := 10, constantValue := 0 }, { name := "NAME_MAX", type := .int, accessFlags := 25, slot := 11, constantValue := 0 }, { name := "seed", type := .int, accessFlags := 2, slot := 0, constantValue := 0 }, { name := "cap", type := .int, accessFlags := 2, slot := 1, constantValue := 0 }, { name := "size", type := .int, accessFlags := 2, slot := 2, constantValue := 0 }, { name := "eHash", type := (.array .int), accessFlags := 2, slot := 3, constantValue := 0 }, { name := "eName", type := (.array .int), accessFlags := 2, slot := 4, constantValue := 0 }, { name := "eInode", type := (.array .int), accessFlags := 2, slot := 5, constantValue := 0 }, { name := "leafLen", type := (.array .int), accessFlags := 2, slot := 6, constantValue := 0 }, { name := "idxLeaf", type := (.array .int), accessFlags := 2, slot := 7, constantValue := 0 }, { name := "numLeaves", type := .int, accessFlags := 2, slot := 8, constantValue := 0 }, { name := "freeStack", type := (.array .int), accessFlags := 2, slot := 9, constantValue := 0 }, { name := "freeTop", type := .int, accessFlags := 2, slot := 10, constantValue := 0 }, { name := "open", type := (.array .boolean), accessFlags := 2, slot := 11, constantValue := 0 }, { name := "cookie", type := (.array .int), accessFlags := 2, slot := 12, constantValue := 0 }]
  methods := #[k2m0, k2m1, k2m2, k2m3, k2m4, k2m5, k2m6, k2m7, k2m8, k2m9, k2m10]
  instanceTypes := #[.int, .int, .int, (.array .int), (.array .int), (.array .int), (.array .int), (.array .int), .int, (.array .int), .int, (.array .boolean), (.array .int)]
  staticTypes := #[.int, .int, .int, .int, .int, .int, .int, .int, .int, .int, .int, .int]
  resolved := Array.replicate 164 none
  statics := none }

def pool3 : Array CpInfo := pool [(1, u "java/lang/Cloneable"), (0, .class_ 1), (0, u "java/lang/Object"), (0, .class_ 3)] 3

/-- java/lang/Cloneable -/
def k3 : Class := { plain "java/lang/Cloneable" (some 0) with
  accessFlags := 1537
  interfaces := #[]
  cf := some (fileOf pool3 2 #[] #[] 1537 4 #[] #[])
  fields := #[]
  methods := #[]
  instanceTypes := #[]
  staticTypes := #[]
  resolved := Array.replicate 8 none
  statics := none }

def pool4 : Array CpInfo := pool [(1, u "java/io/Serializable"), (0, .class_ 1), (0, u "java/lang/Object"), (0, .class_ 3)] 3

/-- java/io/Serializable -/
def k4 : Class := { plain "java/io/Serializable" (some 0) with
  accessFlags := 1537
  interfaces := #[]
  cf := some (fileOf pool4 2 #[] #[] 1537 4 #[] #[])
  fields := #[]
  methods := #[]
  instanceTypes := #[]
  staticTypes := #[]
  resolved := Array.replicate 8 none
  statics := none }

/-- the primitive boolean -/
def k5 : Class := { plain "boolean" none with kind := .primitive 'Z', accessFlags := 0x411 }
/-- [Z -/
def k6 : Class := { plain "[Z" (some 0) with kind := .array 5 .boolean, interfaces := #[3, 4], accessFlags := 1041 }

/-- the primitive byte -/
def k7 : Class := { plain "byte" none with kind := .primitive 'B', accessFlags := 0x411 }
/-- [B -/
def k8 : Class := { plain "[B" (some 0) with kind := .array 7 .byte, interfaces := #[3, 4], accessFlags := 1041 }

/-- the primitive int -/
def k9 : Class := { plain "int" none with kind := .primitive 'I', accessFlags := 0x411 }
/-- [I -/
def k10 : Class := { plain "[I" (some 0) with kind := .array 9 .int, interfaces := #[3, 4], accessFlags := 1041 }

def heap : Heap := #[]
def classes : Array Class := #[k0, k1, k2, k3, k4, k5, k6, k7, k8, k9, k10]
def interned : List (Array UInt16 × Addr) := []
def slotsUsed : Nat := 0
def theMethod : MethodId := ⟨1, 1⟩
def args0 : Array Value := #[.int 5, .int 5, .int 5]
def aboutOver (below : List Frame) : State where
  vm := { classes := classes, interned := interned.toArray }
  heap := heap
  slotsUsed := slotsUsed
  threads := #[{ frames := .invoking theMethod args0 :: below }]
def below0 : List Frame := [.native { method := ⟨0, 0⟩, args := #[] }]
def about1 : State := aboutOver below0
def p0 : Program := .bare "" "" ""
def e0 : Env := launch0.env 0 0 0
theorem w_frames : about1.frames = Frame.invoking theMethod args0 :: below0 := rfl
set_option maxRecDepth 65536 in
theorem w_args : argsFit about1.vm theMethod args0 = true := by decide +kernel
set_option maxRecDepth 65536 in
theorem w_heap : heapFits about1 = true := by decide +kernel
set_option maxRecDepth 65536 in
theorem w_runnable : about1.curStatus? = some .runnable := by decide +kernel
set_option maxRecDepth 65536 in
theorem w_alone : about1.alone = true := by decide +kernel
set_option maxRecDepth 65536 in
theorem w_named : about1.methodNamed? x = some theMethod := by decide +kernel
set_option maxRecDepth 65536 in
theorem w_hears : about1.hears theMethod below0 = true := by decide +kernel
set_option maxRecDepth 65536 in
theorem w_ripe : about1.ripe theMethod args0 below0 = true := by decide +kernel
theorem w_running : about1.status = .running := rfl
set_option maxRecDepth 65536 in
theorem w_room : about1.hasRoom e0.platform room_1 = true :=
  launch0.hasRoom_least _ room_1 (by decide +kernel) (by decide +kernel) (by decide +kernel) (by decide +kernel) (by decide +kernel) (by decide +kernel)
theorem allAtoms_all (ts : List Jvm.Cond) (a : Array Jvm.Value) (st : Jvm.State) : (allAtoms ts).before a st = ts.all (fun c => c.before a st) := by
  induction ts with
  | nil => rfl
  | cons c t ih =>
    show (Jvm.Cond.and c (allAtoms t)).before a st = _
    rw [Jvm.Cond.before_and, ih, List.all_cons]
def words1 : List Jvm.Cond := Jvm.Cond.code x code maxLocals ret :: tables_1
/-- a 'code' word, met by the world's own term for the bytes: nothing is compared byte by byte -/
theorem code_word {y : MethodName} {bytes : ByteArray} {mx : Nat} {rt : Option FieldType} {a : Array Value} {s : State} {m : MethodId} {meth : Method} {c : Code} (h1 : s.methodNamed? y = some m) (h2 : s.vm.method? m = some meth) (h3 : meth.code = some c) (h4 : c.code = bytes)
    (h5 : (c.maxLocals == mx && c.exceptionTable.isEmpty && decide (c.maxStack ≤ mostOperands) && decide (meth.sig.returnType = rt) && !meth.locks && decide (parseMethodDescriptor y.desc = some meth.sig)) = true) : (Jvm.Cond.code y bytes mx rt).before a s = true := by
  simp only [Bool.and_eq_true, beq_iff_eq, Bool.not_eq_true', decide_eq_true_eq] at h5
  obtain ⟨⟨⟨⟨⟨g1, g2⟩, g3⟩, g4⟩, g5⟩, g6⟩ := h5
  simp [Cond.before, Cond.holds, Cond.value, h1, h2, h3, h4, g1, g2, g3, g4, g5, g6]
def isCode : Jvm.Cond → Bool
  | .code _ _ _ _ => true
  | _ => false
theorem all_split {L : List Jvm.Cond} {P : Jvm.Cond → Bool} (h1 : L.all (fun c => isCode c || P c) = true) (h2 : ∀ c ∈ L.filter isCode, P c = true) : L.all P = true := by
  refine List.all_eq_true.mpr fun c hc => ?_
  have h := List.all_eq_true.mp h1 c hc
  rcases Bool.eq_false_or_eq_true (isCode c) with hi | hi
  · exact h2 c (List.mem_filter.mpr ⟨hc, hi⟩)
  · simpa [hi] using h
set_option maxRecDepth 65536 in
theorem w_c0 : (Jvm.Cond.code x code maxLocals ret).before args0 about1 = true := code_word (m := ⟨1, 1⟩) (meth := k1m1) (c := k1c1) (by decide +kernel) rfl rfl rfl (by decide +kernel)
set_option maxRecDepth 65536 in
theorem w_c1 : (Jvm.Cond.code ({ cls := "HtreeDir", name := "<init>", desc := "(II)V" } : Jvm.MethodName) prog_1_method_1_code (6 : Nat) (Option.none : Option Jvm.ClassFile.FieldType)).before args0 about1 = true := code_word (m := ⟨2, 0⟩) (meth := k2m0) (c := k2c0) (by decide +kernel) rfl rfl rfl (by decide +kernel)
set_option maxRecDepth 65536 in
theorem w_c2 : (Jvm.Cond.code ({ cls := "java/lang/Object", name := "<init>", desc := "()V" } : Jvm.MethodName) object_method_1_code (1 : Nat) (Option.none : Option Jvm.ClassFile.FieldType)).before args0 about1 = true := code_word (m := ⟨0, 0⟩) (meth := k0m0) (c := k0c0) (by decide +kernel) rfl rfl rfl (by decide +kernel)
set_option maxRecDepth 65536 in
theorem w_c3 : (Jvm.Cond.code ({ cls := "HtreeDirL1", name := "hash", desc := "(II)I" } : Jvm.MethodName) method_3_code (3 : Nat) (Option.some Jvm.ClassFile.FieldType.int)).before args0 about1 = true := code_word (m := ⟨1, 2⟩) (meth := k1m2) (c := k1c2) (by decide +kernel) rfl rfl rfl (by decide +kernel)
set_option maxRecDepth 65536 in
theorem w_c4 : (Jvm.Cond.code ({ cls := "HtreeDir", name := "capacity", desc := "()I" } : Jvm.MethodName) prog_1_method_2_code (1 : Nat) (Option.some Jvm.ClassFile.FieldType.int)).before args0 about1 = true := code_word (m := ⟨2, 1⟩) (meth := k2m1) (c := k2c1) (by decide +kernel) rfl rfl rfl (by decide +kernel)
set_option maxRecDepth 65536 in
theorem w_c5 : (Jvm.Cond.code ({ cls := "HtreeDir", name := "count", desc := "()I" } : Jvm.MethodName) prog_1_method_3_code (1 : Nat) (Option.some Jvm.ClassFile.FieldType.int)).before args0 about1 = true := code_word (m := ⟨2, 2⟩) (meth := k2m2) (c := k2c2) (by decide +kernel) rfl rfl rfl (by decide +kernel)
set_option maxRecDepth 65536 in
theorem w_c6 : (Jvm.Cond.code ({ cls := "HtreeDir", name := "hashOf", desc := "(I)I" } : Jvm.MethodName) prog_1_method_4_code (2 : Nat) (Option.some Jvm.ClassFile.FieldType.int)).before args0 about1 = true := code_word (m := ⟨2, 3⟩) (meth := k2m3) (c := k2c3) (by decide +kernel) rfl rfl rfl (by decide +kernel)
set_option maxRecDepth 65536 in
theorem w_c7 : (Jvm.Cond.code ({ cls := "HtreeDir", name := "isName", desc := "(I)Z" } : Jvm.MethodName) prog_1_method_17_code (2 : Nat) (Option.some Jvm.ClassFile.FieldType.boolean)).before args0 about1 = true := code_word (m := ⟨2, 7⟩) (meth := k2m7) (c := k2c7) (by decide +kernel) rfl rfl rfl (by decide +kernel)
set_option maxRecDepth 65536 in
theorem w_c8 : (Jvm.Cond.code ({ cls := "HtreeDir", name := "hash", desc := "(I)I" } : Jvm.MethodName) prog_1_method_19_code (3 : Nat) (Option.some Jvm.ClassFile.FieldType.int)).before args0 about1 = true := code_word (m := ⟨2, 9⟩) (meth := k2m9) (c := k2c9) (by decide +kernel) rfl rfl rfl (by decide +kernel)
set_option maxRecDepth 65536 in
theorem w_c9 : (Jvm.Cond.code ({ cls := "HtreeDir", name := "lookup", desc := "(I)I" } : Jvm.MethodName) prog_1_method_8_code (4 : Nat) (Option.some Jvm.ClassFile.FieldType.int)).before args0 about1 = true := code_word (m := ⟨2, 4⟩) (meth := k2m4) (c := k2c4) (by decide +kernel) rfl rfl rfl (by decide +kernel)
set_option maxRecDepth 65536 in
theorem w_c10 : (Jvm.Cond.code ({ cls := "HtreeDir", name := "locate", desc := "(I)I" } : Jvm.MethodName) prog_1_method_22_code (7 : Nat) (Option.some Jvm.ClassFile.FieldType.int)).before args0 about1 = true := code_word (m := ⟨2, 10⟩) (meth := k2m10) (c := k2c10) (by decide +kernel) rfl rfl rfl (by decide +kernel)
set_option maxRecDepth 65536 in
theorem w_c11 : (Jvm.Cond.code ({ cls := "HtreeDir", name := "nameAtRank", desc := "(I)I" } : Jvm.MethodName) prog_1_method_10_code (6 : Nat) (Option.some Jvm.ClassFile.FieldType.int)).before args0 about1 = true := code_word (m := ⟨2, 5⟩) (meth := k2m5) (c := k2c5) (by decide +kernel) rfl rfl rfl (by decide +kernel)
set_option maxRecDepth 65536 in
theorem w_c12 : (Jvm.Cond.code ({ cls := "HtreeDir", name := "tellDir", desc := "(I)I" } : Jvm.MethodName) prog_1_method_14_code (2 : Nat) (Option.some Jvm.ClassFile.FieldType.int)).before args0 about1 = true := code_word (m := ⟨2, 6⟩) (meth := k2m6) (c := k2c6) (by decide +kernel) rfl rfl rfl (by decide +kernel)
set_option maxRecDepth 65536 in
theorem w_c13 : (Jvm.Cond.code ({ cls := "HtreeDir", name := "validHandle", desc := "(I)Z" } : Jvm.MethodName) prog_1_method_18_code (2 : Nat) (Option.some Jvm.ClassFile.FieldType.boolean)).before args0 about1 = true := code_word (m := ⟨2, 8⟩) (meth := k2m8) (c := k2c8) (by decide +kernel) rfl rfl rfl (by decide +kernel)
def codes1 : List Jvm.Cond := [Jvm.Cond.code x code maxLocals ret, Jvm.Cond.code ({ cls := "HtreeDir", name := "<init>", desc := "(II)V" } : Jvm.MethodName) prog_1_method_1_code (6 : Nat) (Option.none : Option Jvm.ClassFile.FieldType), Jvm.Cond.code ({ cls := "java/lang/Object", name := "<init>", desc := "()V" } : Jvm.MethodName) object_method_1_code (1 : Nat) (Option.none : Option Jvm.ClassFile.FieldType), Jvm.Cond.code ({ cls := "HtreeDirL1", name := "hash", desc := "(II)I" } : Jvm.MethodName) method_3_code (3 : Nat) (Option.some Jvm.ClassFile.FieldType.int), Jvm.Cond.code ({ cls := "HtreeDir", name := "capacity", desc := "()I" } : Jvm.MethodName) prog_1_method_2_code (1 : Nat) (Option.some Jvm.ClassFile.FieldType.int), Jvm.Cond.code ({ cls := "HtreeDir", name := "count", desc := "()I" } : Jvm.MethodName) prog_1_method_3_code (1 : Nat) (Option.some Jvm.ClassFile.FieldType.int), Jvm.Cond.code ({ cls := "HtreeDir", name := "hashOf", desc := "(I)I" } : Jvm.MethodName) prog_1_method_4_code (2 : Nat) (Option.some Jvm.ClassFile.FieldType.int), Jvm.Cond.code ({ cls := "HtreeDir", name := "isName", desc := "(I)Z" } : Jvm.MethodName) prog_1_method_17_code (2 : Nat) (Option.some Jvm.ClassFile.FieldType.boolean), Jvm.Cond.code ({ cls := "HtreeDir", name := "hash", desc := "(I)I" } : Jvm.MethodName) prog_1_method_19_code (3 : Nat) (Option.some Jvm.ClassFile.FieldType.int), Jvm.Cond.code ({ cls := "HtreeDir", name := "lookup", desc := "(I)I" } : Jvm.MethodName) prog_1_method_8_code (4 : Nat) (Option.some Jvm.ClassFile.FieldType.int), Jvm.Cond.code ({ cls := "HtreeDir", name := "locate", desc := "(I)I" } : Jvm.MethodName) prog_1_method_22_code (7 : Nat) (Option.some Jvm.ClassFile.FieldType.int), Jvm.Cond.code ({ cls := "HtreeDir", name := "nameAtRank", desc := "(I)I" } : Jvm.MethodName) prog_1_method_10_code (6 : Nat) (Option.some Jvm.ClassFile.FieldType.int), Jvm.Cond.code ({ cls := "HtreeDir", name := "tellDir", desc := "(I)I" } : Jvm.MethodName) prog_1_method_14_code (2 : Nat) (Option.some Jvm.ClassFile.FieldType.int), Jvm.Cond.code ({ cls := "HtreeDir", name := "validHandle", desc := "(I)Z" } : Jvm.MethodName) prog_1_method_18_code (2 : Nat) (Option.some Jvm.ClassFile.FieldType.boolean)]
set_option maxRecDepth 65536 in
theorem codes_eq : words1.filter isCode = codes1 := rfl
theorem w_codes : ∀ c ∈ words1.filter isCode, c.before args0 about1 = true := by
  rw [codes_eq]
  intro c hc
  simp only [codes1, List.mem_cons, List.not_mem_nil, or_false] at hc
  rcases hc with rfl | rfl | rfl | rfl | rfl | rfl | rfl | rfl | rfl | rfl | rfl | rfl | rfl | rfl
  · exact w_c0
  · exact w_c1
  · exact w_c2
  · exact w_c3
  · exact w_c4
  · exact w_c5
  · exact w_c6
  · exact w_c7
  · exact w_c8
  · exact w_c9
  · exact w_c10
  · exact w_c11
  · exact w_c12
  · exact w_c13
set_option maxRecDepth 65536 in
theorem w_t1 : (words1.take 24).all (fun c => isCode c || c.before args0 about1) = true := by decide +kernel
set_option maxRecDepth 65536 in
theorem w_t2 : ((words1.drop 24).take 24).all (fun c => isCode c || c.before args0 about1) = true := by decide +kernel
set_option maxRecDepth 65536 in
theorem w_t3 : (((words1.drop 24).drop 24).take 24).all (fun c => isCode c || c.before args0 about1) = true := by decide +kernel
set_option maxRecDepth 65536 in
theorem w_t4 : (((words1.drop 24).drop 24).drop 24).all (fun c => isCode c || c.before args0 about1) = true := by decide +kernel
theorem w_tables : (allAtoms (Jvm.Cond.code x code maxLocals ret :: tables_1)).before args0 about1 = true := by
  rw [allAtoms_all]
  show words1.all (fun c => c.before args0 about1) = true
  refine all_split ?_ w_codes
  rw [← List.take_append_drop 24 words1, List.all_append, w_t1, ← List.take_append_drop 24 (words1.drop 24), List.all_append, w_t2, ← List.take_append_drop 24 ((words1.drop 24).drop 24), List.all_append, w_t3, w_t4]
  rfl
set_option maxRecDepth 65536 in
theorem w_case : (Jvm.Cond.and given_1 narrow_1).before args0 about1 = true := by decide +kernel
theorem w_applies : (headSpec (Jvm.Cond.code x code maxLocals ret :: tables_1) room_1).applies x e0.platform about1 = true :=
  (Spec.applies_iff w_frames).mpr ⟨w_running, w_runnable, w_alone, w_named, w_hears, w_ripe, w_room, w_tables⟩
theorem atStart : AtStart classFile x code maxLocals ret World_1 tables_1 room_1 Calls_1 rest_1 Pre_1 launch0 p0 e0 about1 theMethod args0 below0 :=
  ⟨lists_1, trivial, launch0.admits_env _ _ _, launch0.least_env, fairChoices_fair.cas, fairChoices_fair.clock, w_frames, w_args, w_heap, w_applies, trivial, trivial, w_case⟩
end start1
theorem witness_1 : WitnessClaimed_1 := ⟨start1.p0, start1.e0, start1.about1, start1.theMethod, start1.args0, start1.below0, start1.atStart⟩
end Jvm.Pilot.@@N@@
