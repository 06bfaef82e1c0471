import JvmDerived
import JvmDerived.Pilot.@@N@@Statement
import JvmDerived.Pilot.@@N@@Code
set_option linter.unusedVariables false
set_option linter.unusedSimpArgs false
namespace Jvm.OwnEv
open Sem ClassFile Op Lib Jvm.Stand Jvm.Free Jvm.LawKit Jvm.RoadKit
/-! PART 1: a small evaluator of bytecode over a memory of its own (defs alone). A memory: the cells made (kind, class, size), and what they hold: ints, longs, references. -/
abbrev ELay : Type := List (Nat × String × Nat)
abbrev EMem : Type := ELay × (Nat → Nat → Int32) × (Nat → Nat → Int64) × (Nat → Nat → Value)
def up {α : Type} (f : Nat → Nat → α) (a k : Nat) (v : α) : Nat → Nat → α := fun x y => if x = a ∧ y = k then v else f x y
def szL (L : ELay) : Nat := (L.map fun c => c.2.2).sum
def wt (vs : List Value) : Nat := (vs.map fun v => v.category).sum
def setL : List Slot → Nat → Slot → Option (List Slot)
  | [], _, _ => none
  | _ :: t, 0, x => some (x :: t)
  | h :: t, n + 1, x => match setL t n x with
    | some t' => some (h :: t')
    | none => none
def storeSelfL (l : List Slot) (i : Nat) (v : Value) : Option (List Slot) :=
  match setL l i (.val v) with
  | none => none
  | some l1 => if v.category = 2 then
      match l1[i + 1]? with
      | none => none
      | some (.val old) => if old.category = 2 then
          match setL l1 (i + 2) .unset with
          | none => none
          | some l2 => setL l2 (i + 1) .second
        else setL l1 (i + 1) .second
      | some _ => setL l1 (i + 1) .second
    else some l1
def storeL (l : List Slot) (i : Nat) (v : Value) : Option (List Slot) :=
  match l[i]? with
  | none => none
  | some .second => match setL l (i - 1) .unset with
    | none => none
    | some l' => storeSelfL l' i v
  | some (.val old) => if old.category = 2 then
      match setL l (i + 1) .unset with
      | none => none
      | some l' => storeSelfL l' i v
    else storeSelfL l i v
  | some .unset => storeSelfL l i v
def fillL : List Value → List Slot
  | [] => []
  | v :: t => if v.category = 2 then .val v :: .second :: fillL t else .val v :: fillL t
def entryL (as : List Value) (maxL : Nat) : List Slot := fillL as ++ List.replicate (maxL - (fillL as).length) .unset
/-! what the sheet's words say -/
def kindD (d : String) : Nat := match parseFieldDescriptor d with
  | some .int => 1
  | some .boolean => 2
  | some .long => 3
  | some (.array _) => 4
  | some (.object _) => 4
  | _ => 0
def layGo (C n : String) : List Jvm.Cond → Nat → Option (Nat × String × Bool)
  | [], _ => none
  | .lays c o n' d :: t, k => if n' = n ∧ c = C ∧ o = C then some (k, d, false) else layGo C n t (k + 1)
  | .laysFinal c o n' d :: t, k => if n' = n ∧ c = C ∧ o = C then some (k, d, true) else layGo C n t (k + 1)
  | _ :: t, k => layGo C n t (k + 1)
def layAt (W : List Jvm.Cond) (C n : String) : Option (Nat × String × Bool) := layGo C n W 0
def fieldLk (own : String) (idx : Nat) : List Jvm.Cond → Option (String × String × String)
  | [] => none
  | .fieldLink o i r n d :: t => if i = idx ∧ o = own then some (r, n, d) else fieldLk own idx t
  | _ :: t => fieldLk own idx t
/-- the class, the field's place, its kind, final or not -/
def fieldAt (W : List Jvm.Cond) (own : String) (idx : Nat) : Option (String × Nat × Nat × Bool) :=
  match fieldLk own idx W with
  | none => none
  | some (r, n, d) => match layAt W r n with
    | none => none
    | some (k, d', fin) => if d' = d ∧ kindD d ≠ 0 then some (r, k, kindD d, fin) else none
def methodLk (own : String) (idx : Nat) : List Jvm.Cond → Option MethodName
  | [] => none
  | .methodLink o i y :: t => if i = idx ∧ o = own then some y else methodLk own idx t
  | _ :: t => methodLk own idx t
def classLk (own : String) (idx : Nat) : List Jvm.Cond → Option String
  | [] => none
  | .classLink o i C :: t => if i = idx ∧ o = own then some C else classLk own idx t
  | _ :: t => classLk own idx t
def instLk (C : String) : List Jvm.Cond → Option Nat
  | [] => none
  | .instantiable c n :: t => if c = C then some n else instLk C t
  | _ :: t => instLk C t
def meq (z y : MethodName) : Bool := decide (z.name = y.name) && (decide (z.desc = y.desc) && decide (z.cls = y.cls))
def codeLk (y : MethodName) : List Jvm.Cond → Option (ByteArray × Nat × Option FieldType)
  | [] => none
  | .code z b n r :: t => if meq z y = true then some (b, n, r) else codeLk y t
  | _ :: t => codeLk y t
def intLk (own : String) (idx : Nat) : List Jvm.Cond → Option Int32
  | [] => none
  | .constant o i v :: t => if i = idx ∧ o = own then some v else intLk own idx t
  | _ :: t => intLk own idx t
def longLk (own : String) (idx : Nat) : List Jvm.Cond → Option Int64
  | [] => none
  | .constantLong o i v :: t => if i = idx ∧ o = own then some v else longLk own idx t
  | _ :: t => longLk own idx t
def hasInit (C : String) : List Jvm.Cond → Bool
  | [] => false
  | .initialized c :: t => if c = C then true else hasInit C t
  | _ :: t => hasInit C t
def hasInst (y : MethodName) : List Jvm.Cond → Bool
  | [] => false
  | .instanceMethod z :: t => if meq z y = true then true else hasInst y t
  | _ :: t => hasInst y t
def hasPriv (y : MethodName) : List Jvm.Cond → Bool
  | [] => false
  | .privateMethod z :: t => if meq z y = true then true else hasPriv y t
  | _ :: t => hasPriv y t
def hasStat (y : MethodName) : List Jvm.Cond → Bool
  | [] => false
  | .static z :: t => if meq z y = true then true else hasStat y t
  | _ :: t => hasStat y t
def hasDecl (y : MethodName) : List Jvm.Cond → Bool
  | [] => false
  | .declares z :: t => if meq z y = true then true else hasDecl y t
  | _ :: t => hasDecl y t
def hasSel (y : MethodName) : List Jvm.Cond → Bool
  | [] => false
  | .selects C z z' :: t => if meq z y = true ∧ meq z' y = true ∧ C = y.cls then true else hasSel y t
  | _ :: t => hasSel y t
def hasArr (ty : FieldType) : List Jvm.Cond → Bool
  | [] => false
  | .arrayClass z :: t => if z = ty then true else hasArr ty t
  | _ :: t => hasArr ty t
def newAt (W : List Jvm.Cond) (own : String) (idx : Nat) : Option (String × Nat) :=
  match classLk own idx W with
  | none => none
  | some C => match instLk C W with
    | none => none
    | some n => if hasInit C W = true then some (C, n) else none
/-- kind: 0 invokevirtual of a public method, 1 of a private one, 2 a constructor, 3 static; the method, how many arguments, its body -/
def callAt (W : List Jvm.Cond) (own : String) (idx : Nat) (kd : Nat) : Option (MethodName × Nat × ByteArray × Nat × Option FieldType) :=
  match methodLk own idx W with
  | none => none
  | some z => match codeLk z W, parseMethodDescriptor z.desc with
    | some (b, n, r), some sig =>
      if hasInit z.cls W = true ∧ plainName z.cls = true ∧ z.cls ≠ "java/lang/invoke/MethodHandle" ∧ z.cls ≠ "java/lang/invoke/VarHandle" ∧
         ((kd = 0 ∧ hasDecl z W = true ∧ hasSel z W = true ∧ hasInst z W = true) ∨ (kd = 1 ∧ hasPriv z W = true ∧ hasInst z W = true ∧ (instLk z.cls W).isSome = true) ∨ (kd = 2 ∧ z.name = "<init>" ∧ hasInst z W = true ∧ r = none) ∨ (kd = 3 ∧ hasStat z W = true))
      then some (z, sig.parameters.length, b, n, r) else none
    | _, _ => none
def objInitAt (W : List Jvm.Cond) (own : String) (idx : Nat) : Bool :=
  match methodLk own idx W, codeLk Lib.objectInit W with
  | some z, some (b, n, r) => decide (z = Lib.objectInit) && hasInst Lib.objectInit W && decide (b = ⟨#[0xb1]⟩) && decide (n = 1) && decide (r = none)
  | _, _ => false
def jump (pc : Nat) (o : Int) : Option Nat := match (pc : Int) + o with
  | .ofNat n => some n
  | .negSucc _ => none
def getV (kd : Nat) (i : Int32) (j : Int64) (r : Value) : Value := match kd with
  | 1 => .int i
  | 2 => .int i
  | 3 => .long j
  | _ => r
def inb (j : Int32) (n : Nat) : Bool := decide (¬ j < 0) && decide (j.toNatClampNeg < n)
def lenOk (len : Nat) : Instr → Bool
  | .aload _ | .iload _ | .lload _ | .astore _ | .istore _ | .lstore _ | .bipush _ | .ldc _ | .newarray _ => len == 2
  | .sipush _ | .iinc _ _ | .ldc_w _ | .ldc2_w _ | .goto _ | .ifCond _ _ | .if_icmp _ _ | .ifnull _ | .ifnonnull _ | .getfield _ | .putfield _ | .new _ | .invokevirtual _ | .invokespecial _ | .invokestatic _ => len == 3
  | .tableswitch _ _ _ _ => true
  | _ => len == 1
/-- the steps that leave the memory as it is -/
def execP (W : List Jvm.Cond) (F Lb : Nat) (y : MethodName) (ins : Instr) (pc len : Nat) (ls : List Slot) (st : List Value) (M : EMem) : Option (Nat × List Slot × List Value) :=
  match ins with
  | .aload k => match ls[k]? with
    | some (.val (.ref a)) => some (pc + 2, ls, .ref a :: st)
    | some (.val .null) => some (pc + 2, ls, .null :: st)
    | _ => none
  | .aload_n k => match ls[k.val]? with
    | some (.val (.ref a)) => some (pc + 1, ls, .ref a :: st)
    | some (.val .null) => some (pc + 1, ls, .null :: st)
    | _ => none
  | .iload k => match ls[k]? with
    | some (.val (.int v)) => some (pc + 2, ls, .int v :: st)
    | _ => none
  | .iload_n k => match ls[k.val]? with
    | some (.val (.int v)) => some (pc + 1, ls, .int v :: st)
    | _ => none
  | .lload k => match ls[k]? with
    | some (.val (.long v)) => some (pc + 2, ls, .long v :: st)
    | _ => none
  | .lload_n k => match ls[k.val]? with
    | some (.val (.long v)) => some (pc + 1, ls, .long v :: st)
    | _ => none
  | .istore k => match st with
    | .int x :: r => match storeL ls k (.int x) with
      | some l' => some (pc + 2, l', r)
      | none => none
    | _ => none
  | .istore_n k => match st with
    | .int x :: r => match storeL ls k.val (.int x) with
      | some l' => some (pc + 1, l', r)
      | none => none
    | _ => none
  | .lstore k => match st with
    | .long x :: r => match storeL ls k (.long x) with
      | some l' => some (pc + 2, l', r)
      | none => none
    | _ => none
  | .lstore_n k => match st with
    | .long x :: r => match storeL ls k.val (.long x) with
      | some l' => some (pc + 1, l', r)
      | none => none
    | _ => none
  | .astore k => match st with
    | .ref x :: r => match storeL ls k (.ref x) with
      | some l' => some (pc + 2, l', r)
      | none => none
    | _ => none
  | .astore_n k => match st with
    | .ref x :: r => match storeL ls k.val (.ref x) with
      | some l' => some (pc + 1, l', r)
      | none => none
    | _ => none
  | .iinc k d => match ls[k]? with
    | some (.val (.int v)) => match storeL ls k (.int (v + Int32.ofInt d)) with
      | some l' => some (pc + 3, l', st)
      | none => none
    | _ => none
  | .iconst i => some (pc + 1, ls, .int (Int32.ofInt i) :: st)
  | .bipush i => some (pc + 2, ls, .int (Int8.ofInt i).toInt32 :: st)
  | .sipush i => some (pc + 3, ls, .int (Int16.ofInt i).toInt32 :: st)
  | .lconst k => some (pc + 1, ls, .long (Int64.ofNat k) :: st)
  | .ldc i => match intLk y.cls i W with
    | some v => some (pc + 2, ls, .int v :: st)
    | none => none
  | .ldc_w i => match intLk y.cls i W with
    | some v => some (pc + 3, ls, .int v :: st)
    | none => none
  | .ldc2_w i => match longLk y.cls i W with
    | some v => some (pc + 3, ls, .long v :: st)
    | none => none
  | .iadd => match st with
    | .int b :: .int a :: r => some (pc + 1, ls, .int (a + b) :: r)
    | _ => none
  | .isub => match st with
    | .int b :: .int a :: r => some (pc + 1, ls, .int (a - b) :: r)
    | _ => none
  | .imul => match st with
    | .int b :: .int a :: r => some (pc + 1, ls, .int (a * b) :: r)
    | _ => none
  | .iand => match st with
    | .int b :: .int a :: r => some (pc + 1, ls, .int (a &&& b) :: r)
    | _ => none
  | .ior => match st with
    | .int b :: .int a :: r => some (pc + 1, ls, .int (a ||| b) :: r)
    | _ => none
  | .ixor => match st with
    | .int b :: .int a :: r => some (pc + 1, ls, .int (a ^^^ b) :: r)
    | _ => none
  | .ishl => match st with
    | .int b :: .int a :: r => some (pc + 1, ls, .int (a <<< (b &&& 31)) :: r)
    | _ => none
  | .ishr => match st with
    | .int b :: .int a :: r => some (pc + 1, ls, .int (a >>> (b &&& 31)) :: r)
    | _ => none
  | .iushr => match st with
    | .int b :: .int a :: r => some (pc + 1, ls, .int (XT.ushr a b) :: r)
    | _ => none
  | .idiv => match st with
    | .int b :: .int a :: r => if b = 0 then none else some (pc + 1, ls, .int (a / b) :: r)
    | _ => none
  | .irem => match st with
    | .int b :: .int a :: r => if b = 0 then none else some (pc + 1, ls, .int (a - (a / b) * b) :: r)
    | _ => none
  | .ineg => match st with
    | .int a :: r => some (pc + 1, ls, .int (-a) :: r)
    | _ => none
  | .ladd => match st with
    | .long b :: .long a :: r => some (pc + 1, ls, .long (a + b) :: r)
    | _ => none
  | .lsub => match st with
    | .long b :: .long a :: r => some (pc + 1, ls, .long (a - b) :: r)
    | _ => none
  | .lmul => match st with
    | .long b :: .long a :: r => some (pc + 1, ls, .long (a * b) :: r)
    | _ => none
  | .land => match st with
    | .long b :: .long a :: r => some (pc + 1, ls, .long (a &&& b) :: r)
    | _ => none
  | .lor => match st with
    | .long b :: .long a :: r => some (pc + 1, ls, .long (a ||| b) :: r)
    | _ => none
  | .lxor => match st with
    | .long b :: .long a :: r => some (pc + 1, ls, .long (a ^^^ b) :: r)
    | _ => none
  | .lshl => match st with
    | .int b :: .long a :: r => some (pc + 1, ls, .long (a <<< (b.toInt64 &&& 63)) :: r)
    | _ => none
  | .lshr => match st with
    | .int b :: .long a :: r => some (pc + 1, ls, .long (a >>> (b.toInt64 &&& 63)) :: r)
    | _ => none
  | .lushr => match st with
    | .int b :: .long a :: r => some (pc + 1, ls, .long (XT.ushrL a b) :: r)
    | _ => none
  | .ldiv => match st with
    | .long b :: .long a :: r => if b = 0 then none else some (pc + 1, ls, .long (a / b) :: r)
    | _ => none
  | .lrem => match st with
    | .long b :: .long a :: r => if b = 0 then none else some (pc + 1, ls, .long (a - (a / b) * b) :: r)
    | _ => none
  | .lneg => match st with
    | .long a :: r => some (pc + 1, ls, .long (-a) :: r)
    | _ => none
  | .lcmp => match st with
    | .long b :: .long a :: r => some (pc + 1, ls, .int (XT.cmpL a b) :: r)
    | _ => none
  | .i2l => match st with
    | .int a :: r => some (pc + 1, ls, .long a.toInt64 :: r)
    | _ => none
  | .l2i => match st with
    | .long a :: r => some (pc + 1, ls, .int a.toInt32 :: r)
    | _ => none
  | .i2s => match st with
    | .int a :: r => some (pc + 1, ls, .int a.toInt16.toInt32 :: r)
    | _ => none
  | .dup => match st with
    | .int a :: r => some (pc + 1, ls, .int a :: .int a :: r)
    | .ref a :: r => some (pc + 1, ls, .ref a :: .ref a :: r)
    | _ => none
  | .dup2 => match st with
    | .int b :: .int a :: r => some (pc + 1, ls, .int b :: .int a :: .int b :: .int a :: r)
    | .int b :: .ref a :: r => some (pc + 1, ls, .int b :: .ref a :: .int b :: .ref a :: r)
    | .long b :: r => some (pc + 1, ls, .long b :: .long b :: r)
    | _ => none
  | .dup_x1 => match st with
    | .int b :: .ref a :: r => some (pc + 1, ls, .int b :: .ref a :: .int b :: r)
    | _ => none
  | .pop => match st with
    | .int _ :: r => some (pc + 1, ls, r)
    | .ref _ :: r => some (pc + 1, ls, r)
    | _ => none
  | .goto o => match jump pc o with
    | some t => some (t, ls, st)
    | none => none
  | .ifCond cd o => match st with
    | .int a :: r => match jump pc o with
      | some t => some (if ifCond.holds cd a = true then t else pc + 3, ls, r)
      | none => none
    | _ => none
  | .if_icmp cd o => match st with
    | .int b :: .int a :: r => match jump pc o with
      | some t => some (if if_icmp.holds cd a b = true then t else pc + 3, ls, r)
      | none => none
    | _ => none
  | .ifnull o => match st with
    | .null :: r => match jump pc o with
      | some t => some (t, ls, r)
      | none => none
    | .ref _ :: r => some (pc + 3, ls, r)
    | _ => none
  | .ifnonnull o => match st with
    | .ref _ :: r => match jump pc o with
      | some t => some (t, ls, r)
      | none => none
    | .null :: r => some (pc + 3, ls, r)
    | _ => none
  | .tableswitch dflt low high offs => match st with
    | .int i :: r => if i.toInt < low ∨ i.toInt > high then
        match jump pc dflt with
        | some t => some (t, ls, r)
        | none => none
      else match offs[(i.toInt - low).toNat]? with
        | none => none
        | some o => match jump pc o with
          | some t => some (t, ls, r)
          | none => none
    | _ => none
  | .getfield idx => match st with
    | .ref a :: r => match fieldAt W y.cls idx, M.1[a]? with
      | some (C, k, kd, _), some (0, C', _) => if C' = C then some (pc + 3, ls, getV kd (M.2.1 a k) (M.2.2.1 a k) (M.2.2.2 a k) :: r) else none
      | _, _ => none
    | _ => none
  | .arraylength => match st with
    | .ref a :: r => match M.1[a]? with
      | some (1, _, n) => some (pc + 1, ls, .int n.toInt32 :: r)
      | some (2, _, n) => some (pc + 1, ls, .int n.toInt32 :: r)
      | some (3, _, n) => some (pc + 1, ls, .int n.toInt32 :: r)
      | _ => none
    | _ => none
  | .iaload => match st with
    | .int j :: .ref a :: r => match M.1[a]? with
      | some (1, _, n) => if inb j n = true then some (pc + 1, ls, .int (M.2.1 a j.toNatClampNeg) :: r) else none
      | _ => none
    | _ => none
  | .baload => match st with
    | .int j :: .ref a :: r => match M.1[a]? with
      | some (3, _, n) => if inb j n = true then some (pc + 1, ls, .int (M.2.1 a j.toNatClampNeg) :: r) else none
      | _ => none
    | _ => none
  | .laload => match st with
    | .int j :: .ref a :: r => match M.1[a]? with
      | some (2, _, n) => if inb j n = true then some (pc + 1, ls, .long (M.2.2.1 a j.toNatClampNeg) :: r) else none
      | _ => none
    | _ => none
  | .invokespecial idx => match st with
    | .ref _ :: r => if objInitAt W y.cls idx = true ∧ 1 ≤ F ∧ wt r + 12 ≤ Lb then some (pc + 3, ls, r) else none
    | _ => none
  | _ => none
/-- the steps that write or make; ro: the cells below it are not written -/
def execM (W : List Jvm.Cond) (ro : Nat) (y : MethodName) (ins : Instr) (st : List Value) (M : EMem) : Option (List Value × EMem) :=
  match ins with
  | .putfield idx => match st with
    | v :: .ref a :: r => match fieldAt W y.cls idx, M.1[a]? with
      | some (C, k, kd, fin), some (0, C', _) =>
        if C' = C ∧ ro ≤ a ∧ (fin = false ∨ (y.cls = C ∧ y.name = "<init>")) ∧ (instLk C W).isSome = true then
          match kd, v with
          | 1, .int x => some (r, M.1, up M.2.1 a k x, M.2.2.1, M.2.2.2)
          | 2, .int x => some (r, M.1, up M.2.1 a k (x &&& 1), M.2.2.1, M.2.2.2)
          | 3, .long x => some (r, M.1, M.2.1, up M.2.2.1 a k x, M.2.2.2)
          | 4, .ref b => some (r, M.1, M.2.1, M.2.2.1, up M.2.2.2 a k (.ref b))
          | _, _ => none
        else none
      | _, _ => none
    | _ => none
  | .iastore => match st with
    | .int x :: .int j :: .ref a :: r => match M.1[a]? with
      | some (1, _, n) => if inb j n = true ∧ ro ≤ a then some (r, M.1, up M.2.1 a j.toNatClampNeg x, M.2.2.1, M.2.2.2) else none
      | _ => none
    | _ => none
  | .bastore => match st with
    | .int x :: .int j :: .ref a :: r => match M.1[a]? with
      | some (3, _, n) => if inb j n = true ∧ ro ≤ a then some (r, M.1, up M.2.1 a j.toNatClampNeg (x &&& 1), M.2.2.1, M.2.2.2) else none
      | _ => none
    | _ => none
  | .lastore => match st with
    | .long x :: .int j :: .ref a :: r => match M.1[a]? with
      | some (2, _, n) => if inb j n = true ∧ ro ≤ a then some (r, M.1, M.2.1, up M.2.2.1 a j.toNatClampNeg x, M.2.2.2) else none
      | _ => none
    | _ => none
  | .new idx => match newAt W y.cls idx with
    | some (C, n) => some (.ref M.1.length :: st, M.1 ++ [(0, C, n)], M.2.1, M.2.2.1, M.2.2.2)
    | none => none
  | .newarray .int => match st with
    | .int n :: r => if ¬ n < 0 ∧ n.toNatClampNeg * 8 ≤ 536870912 ∧ hasArr .int W = true then some (.ref M.1.length :: r, M.1 ++ [(1, "", n.toNatClampNeg)], M.2.1, M.2.2.1, M.2.2.2) else none
    | _ => none
  | .newarray .long => match st with
    | .int n :: r => if ¬ n < 0 ∧ n.toNatClampNeg * 8 ≤ 536870912 ∧ hasArr .long W = true then some (.ref M.1.length :: r, M.1 ++ [(2, "", n.toNatClampNeg)], M.2.1, M.2.2.1, M.2.2.2) else none
    | _ => none
  | .newarray .boolean => match st with
    | .int n :: r => if ¬ n < 0 ∧ n.toNatClampNeg * 8 ≤ 536870912 ∧ hasArr .boolean W = true then some (.ref M.1.length :: r, M.1 ++ [(3, "", n.toNatClampNeg)], M.2.1, M.2.2.1, M.2.2.2) else none
    | _ => none
  | _ => none
def retOf (ins : Instr) (len : Nat) (ret : Option FieldType) (st : List Value) : Option (Option Value) :=
  if len = 1 then
    match ins, ret, st with
    | .return_, none, [] => some none
    | .ireturn, some .int, [.int z] => some (some (.int z))
    | .ireturn, some .boolean, [.int z] => some (some (.int (z &&& 1)))
    | .lreturn, some .long, [.long z] => some (some (.long z))
    | _, _, _ => none
  else none
/-- the callee, her arguments (the receiver first), what lies under, her body -/
def callOf (W : List Jvm.Cond) (y : MethodName) (ins : Instr) (len : Nat) (st : List Value) (M : EMem) : Option (MethodName × List Value × List Value × ByteArray × Nat × Option FieldType) :=
  if len = 3 then
    match ins with
    | .invokevirtual idx => match callAt W y.cls idx 1 with
      | some (z, na, b, n, r) => match (st.drop na) with
        | .ref a :: rest => match M.1[a]? with
          | some (0, C, _) => if C = z.cls ∧ (st.take na).length = na then some (z, .ref a :: (st.take na).reverse, rest, b, n, r) else none
          | _ => none
        | _ => none
      | none => match callAt W y.cls idx 0 with
        | some (z, na, b, n, r) => match (st.drop na) with
          | .ref a :: rest => match M.1[a]? with
            | some (0, C, _) => if C = z.cls ∧ (st.take na).length = na then some (z, .ref a :: (st.take na).reverse, rest, b, n, r) else none
            | _ => none
          | _ => none
        | none => none
    | .invokespecial idx => match callAt W y.cls idx 2 with
      | some (z, na, b, n, r) => match (st.drop na) with
        | .ref a :: rest => if (st.take na).length = na then some (z, .ref a :: (st.take na).reverse, rest, b, n, r) else none
        | _ => none
      | none => none
    | .invokestatic idx => match callAt W y.cls idx 3 with
      | some (z, na, b, n, r) => if (st.take na).length = na then some (z, (st.take na).reverse, st.drop na, b, n, r) else none
      | none => none
    | _ => none
  else none
def run (W : List Jvm.Cond) (ro : Nat) : Nat → Nat → Nat → MethodName → ByteArray → Option FieldType → Nat → List Slot → List Value → EMem → Option (Option Value × EMem)
  | 0, _, _, _, _, _, _, _, _, _ => none
  | n + 1, F, Lb, y, code, ret, pc, ls, st, M =>
    match decode code pc with
    | .ok (ins, len) =>
      match (if lenOk len ins = true then execP W F Lb y ins pc len ls st M else none) with
      | some (pc', ls', st') => run W ro n F Lb y code ret pc' ls' st' M
      | none => match (if lenOk len ins = true then execM W ro y ins st M else none) with
        | some (st', M') => run W ro n F Lb y code ret (pc + len) ls st' M'
        | none => match retOf ins len ret st with
          | some v => some (v, M)
          | none => match callOf W y ins len st M with
            | some (z, as, rest, b, mx, r) =>
              if 1 ≤ F ∧ wt rest + (mx + 11) ≤ Lb ∧ (fillL as).length ≤ mx then
                match run W ro n (F - 1) (Lb - (wt rest + (mx + 11))) z b r 0 (entryL as mx) [] M with
                | some (v, M') => run W ro n F Lb y code ret (pc + 3) ls (v.toList ++ rest) M'
                | none => none
              else none
            | none => none
    | .error _ => none
end Jvm.OwnEv
namespace Jvm.OwnEv
open Sem ClassFile Op Lib Jvm.Stand Jvm.Free Jvm.LawKit Jvm.RoadKit
/-! PART 2: small facts: the variables, the words -/
def conc (ρ : Nat → Addr) : Value → Value
  | .ref a => .ref (ρ a)
  | v => v
def concS (ρ : Nat → Addr) : Slot → Slot
  | .val v => .val (conc ρ v)
  | s => s
theorem conc_cat (ρ : Nat → Addr) (v : Value) : (conc ρ v).category = v.category := by cases v <;> rfl
theorem wt_conc (ρ : Nat → Addr) (vs : List Value) : ((vs.map (conc ρ)).map fun v => v.category).sum = wt vs := by
  unfold wt
  rw [List.map_map]
  congr 1
  exact List.map_congr_left fun v _ => conc_cat ρ v
abbrev cl (ρ : Nat → Addr) (ls : List Slot) : Array Slot := (ls.map (concS ρ)).toArray
abbrev cs (ρ : Nat → Addr) (st : List Value) : List Value := st.map (conc ρ)
theorem get_cl {ρ : Nat → Addr} {ls : List Slot} {k : Nat} {x : Slot} (h : ls[k]? = some x) : (cl ρ ls)[k]? = some (concS ρ x) := by simp [cl, h]
theorem setL_some : ∀ {l : List Slot} {i : Nat} {x : Slot} {l' : List Slot}, setL l i x = some l' → i < l.length ∧ l' = l.set i x
  | [], _, _, _, h => by simp [setL] at h
  | _ :: t, 0, x, l', h => by simp only [setL, Option.some.injEq] at h; subst h; simp
  | y :: t, n + 1, x, l', h => by
    simp only [setL] at h
    split at h
    · rename_i t' ht
      cases h
      obtain ⟨h1, h2⟩ := setL_some ht
      subst h2
      exact ⟨by simp; omega, by simp⟩
    · cases h
theorem setAt_conc {ρ : Nat → Addr} {l : List Slot} {i : Nat} {x : Slot} {l' : List Slot} (h : setL l i x = some l') : setAt (cl ρ l) i (concS ρ x) = some (cl ρ l') := by
  obtain ⟨hi, rfl⟩ := setL_some h
  simp [setAt, hi, cl, List.map_set]
theorem setL_len {l : List Slot} {i : Nat} {x : Slot} {l' : List Slot} (h : setL l i x = some l') : l'.length = l.length := by
  obtain ⟨-, rfl⟩ := setL_some h; simp
theorem cl_get {ρ : Nat → Addr} {l : List Slot} {i : Nat} : (cl ρ l)[i]? = (l[i]?).map (concS ρ) := by simp [cl]
theorem storeSelf_conc {ρ : Nat → Addr} {l : List Slot} {i : Nat} {v : Value} {l' : List Slot} (h : storeSelfL l i v = some l') : storeSelf (cl ρ l) i (conc ρ v) = some (cl ρ l') := by
  unfold storeSelfL at h
  split at h
  · cases h
  rename_i l1 h1
  have e1 : setAt (cl ρ l) i (.val (conc ρ v)) = some (cl ρ l1) := setAt_conc (ρ := ρ) h1
  unfold storeSelf
  rw [e1]
  simp only [Option.bind_eq_bind, Option.bind_some, conc_cat]
  split at h
  · rename_i hc
    rw [if_pos hc, cl_get]
    split at h
    · cases h
    · rename_i old ho
      rw [ho]
      simp only [Option.map_some, Option.bind_some, concS, conc_cat]
      split at h
      · rename_i hc2
        rw [if_pos hc2]
        split at h
        · cases h
        · rename_i l2 h2
          have e2 : setAt (cl ρ l1) (i + 2) .unset = some (cl ρ l2) := setAt_conc (ρ := ρ) h2
          have e3 : setAt (cl ρ l2) (i + 1) .second = some (cl ρ l') := setAt_conc (ρ := ρ) h
          rw [e2]
          exact e3
      · rename_i hc2
        rw [if_neg hc2]
        exact setAt_conc (ρ := ρ) h
    · rename_i x hx ho
      have e3 : setAt (cl ρ l1) (i + 1) .second = some (cl ρ l') := setAt_conc (ρ := ρ) h
      rw [ho]
      cases x with
      | val w => exact absurd rfl (hx w)
      | unset => exact e3
      | second => exact e3
  · rename_i hc
    rw [if_neg hc]
    cases h
    rfl
theorem storeL_conc {ρ : Nat → Addr} {l : List Slot} {i : Nat} {v : Value} {l' : List Slot} (h : storeL l i v = some l') : storeLocals (cl ρ l) i (conc ρ v) = some (cl ρ l') := by
  unfold storeL at h
  unfold storeLocals
  rw [cl_get]
  split at h
  · cases h
  · rename_i ho
    rw [ho]
    split at h
    · cases h
    · rename_i l1 h1
      have e1 : setAt (cl ρ l) (i - 1) .unset = some (cl ρ l1) := setAt_conc (ρ := ρ) h1
      have e2 := storeSelf_conc (ρ := ρ) h
      simp only [Option.map_some, Option.bind_eq_bind, Option.bind_some, concS, e1]
      exact e2
  · rename_i old ho
    rw [ho]
    simp only [Option.map_some, Option.bind_eq_bind, Option.bind_some, concS, conc_cat]
    split at h
    · rename_i hc
      rw [if_pos hc]
      split at h
      · cases h
      · rename_i l1 h1
        have e1 : setAt (cl ρ l) (i + 1) .unset = some (cl ρ l1) := setAt_conc (ρ := ρ) h1
        rw [e1]
        exact storeSelf_conc (ρ := ρ) h
    · rename_i hc
      rw [if_neg hc]
      exact storeSelf_conc (ρ := ρ) h
  · rename_i ho
    rw [ho]
    exact storeSelf_conc (ρ := ρ) h
theorem storeSelfL_len {l : List Slot} {i : Nat} {v : Value} {l' : List Slot} (h : storeSelfL l i v = some l') : l'.length = l.length := by
  unfold storeSelfL at h
  split at h
  · cases h
  rename_i l1 h1
  have e1 := setL_len h1
  split at h
  · split at h
    · cases h
    · split at h
      · split at h
        · cases h
        · rename_i l2 h2
          rw [setL_len h, setL_len h2, e1]
      · rw [setL_len h, e1]
    · rw [setL_len h, e1]
  · cases h; exact e1
theorem storeL_len {l : List Slot} {i : Nat} {v : Value} {l' : List Slot} (h : storeL l i v = some l') : l'.length = l.length := by
  unfold storeL at h
  split at h
  · cases h
  · split at h
    · cases h
    · rename_i l1 h1
      rw [storeSelfL_len h, setL_len h1]
  · split at h
    · split at h
      · cases h
      · rename_i l1 h1
        rw [storeSelfL_len h, setL_len h1]
    · exact storeSelfL_len h
  · exact storeSelfL_len h
theorem fill_fold (ρ : Nat → Addr) : ∀ (as : List Value) (acc : Array Slot), (as.map (conc ρ)).foldl (fun acc v => if v.category = 2 then (acc.push (Slot.val v)).push .second else acc.push (.val v)) acc = acc ++ ((fillL as).map (concS ρ)).toArray
  | [], acc => by simp [fillL]
  | v :: t, acc => by
    simp only [List.map_cons, List.foldl_cons, conc_cat]
    rw [fill_fold ρ t]
    rw [show fillL (v :: t) = if v.category = 2 then .val v :: .second :: fillL t else .val v :: fillL t from rfl]
    apply Array.ext'
    split
    · simp [concS]
    · simp [concS]
theorem args_conc (ρ : Nat → Addr) (as : List Value) (mx : Nat) : argsToLocals (as.map (conc ρ)).toArray mx = cl ρ (entryL as mx) := by
  unfold argsToLocals
  simp only [List.foldl_toArray, fill_fold ρ as]
  simp [entryL, cl, concS]
theorem entryL_len {as : List Value} {mx : Nat} (h : (fillL as).length ≤ mx) : (entryL as mx).length = mx := by simp [entryL]; omega
theorem meq_eq {z y : MethodName} (h : meq z y = true) : z = y := by
  simp only [meq, Bool.and_eq_true, decide_eq_true_eq] at h
  obtain ⟨h1, h2, h3⟩ := h
  cases z; cases y
  simp only at h1 h2 h3
  subst h1 h2 h3
  rfl
/-! the words -/
theorem fieldLk_mem {own : String} {idx : Nat} {r n d : String} : ∀ {t : List Jvm.Cond}, fieldLk own idx t = some (r, n, d) → Jvm.Cond.fieldLink own idx r n d ∈ t
  | [], h => by simp [fieldLk] at h
  | w :: t, h => by
    unfold fieldLk at h
    split at h
    · rename_i heq; cases heq
    · rename_i heq
      cases heq
      split at h
      · rename_i hc; obtain ⟨rfl, rfl⟩ := hc; cases h; exact List.mem_cons_self
      · exact List.mem_cons_of_mem _ (fieldLk_mem h)
    · rename_i heq; cases heq; exact List.mem_cons_of_mem _ (fieldLk_mem h)
theorem methodLk_mem {own : String} {idx : Nat} {y : MethodName} : ∀ {t : List Jvm.Cond}, methodLk own idx t = some y → Jvm.Cond.methodLink own idx y ∈ t
  | [], h => by simp [methodLk] at h
  | w :: t, h => by
    unfold methodLk at h
    split at h
    · rename_i heq; cases heq
    · rename_i heq
      cases heq
      split at h
      · rename_i hc; obtain ⟨rfl, rfl⟩ := hc; cases h; exact List.mem_cons_self
      · exact List.mem_cons_of_mem _ (methodLk_mem h)
    · rename_i heq; cases heq; exact List.mem_cons_of_mem _ (methodLk_mem h)
theorem classLk_mem {own : String} {idx : Nat} {y : String} : ∀ {t : List Jvm.Cond}, classLk own idx t = some y → Jvm.Cond.classLink own idx y ∈ t
  | [], h => by simp [classLk] at h
  | w :: t, h => by
    unfold classLk at h
    split at h
    · rename_i heq; cases heq
    · rename_i heq
      cases heq
      split at h
      · rename_i hc; obtain ⟨rfl, rfl⟩ := hc; cases h; exact List.mem_cons_self
      · exact List.mem_cons_of_mem _ (classLk_mem h)
    · rename_i heq; cases heq; exact List.mem_cons_of_mem _ (classLk_mem h)
theorem intLk_mem {own : String} {idx : Nat} {y : Int32} : ∀ {t : List Jvm.Cond}, intLk own idx t = some y → Jvm.Cond.constant own idx y ∈ t
  | [], h => by simp [intLk] at h
  | w :: t, h => by
    unfold intLk at h
    split at h
    · rename_i heq; cases heq
    · rename_i heq
      cases heq
      split at h
      · rename_i hc; obtain ⟨rfl, rfl⟩ := hc; cases h; exact List.mem_cons_self
      · exact List.mem_cons_of_mem _ (intLk_mem h)
    · rename_i heq; cases heq; exact List.mem_cons_of_mem _ (intLk_mem h)
theorem longLk_mem {own : String} {idx : Nat} {y : Int64} : ∀ {t : List Jvm.Cond}, longLk own idx t = some y → Jvm.Cond.constantLong own idx y ∈ t
  | [], h => by simp [longLk] at h
  | w :: t, h => by
    unfold longLk at h
    split at h
    · rename_i heq; cases heq
    · rename_i heq
      cases heq
      split at h
      · rename_i hc; obtain ⟨rfl, rfl⟩ := hc; cases h; exact List.mem_cons_self
      · exact List.mem_cons_of_mem _ (longLk_mem h)
    · rename_i heq; cases heq; exact List.mem_cons_of_mem _ (longLk_mem h)
theorem instLk_mem {C : String} {n : Nat} : ∀ {t : List Jvm.Cond}, instLk C t = some n → Jvm.Cond.instantiable C n ∈ t
  | [], h => by simp [instLk] at h
  | w :: t, h => by
    unfold instLk at h
    split at h
    · rename_i heq; cases heq
    · rename_i heq
      cases heq
      split at h
      · rename_i hc; subst hc; cases h; exact List.mem_cons_self
      · exact List.mem_cons_of_mem _ (instLk_mem h)
    · rename_i heq; cases heq; exact List.mem_cons_of_mem _ (instLk_mem h)
theorem codeLk_mem {y : MethodName} {b : ByteArray} {n : Nat} {r : Option FieldType} : ∀ {t : List Jvm.Cond}, codeLk y t = some (b, n, r) → Jvm.Cond.code y b n r ∈ t
  | [], h => by simp [codeLk] at h
  | w :: t, h => by
    unfold codeLk at h
    split at h
    · rename_i heq; cases heq
    · rename_i heq
      cases heq
      split at h
      · rename_i hc; cases meq_eq hc; cases h; exact List.mem_cons_self
      · exact List.mem_cons_of_mem _ (codeLk_mem h)
    · rename_i heq; cases heq; exact List.mem_cons_of_mem _ (codeLk_mem h)
theorem hasInit_mem {y : String} : ∀ {t : List Jvm.Cond}, hasInit y t = true → Jvm.Cond.initialized y ∈ t
  | [], h => by simp [hasInit] at h
  | w :: t, h => by
    unfold hasInit at h
    split at h
    · rename_i heq; cases heq
    · rename_i heq
      cases heq
      split at h
      · rename_i hc; subst hc; exact List.mem_cons_self
      · exact List.mem_cons_of_mem _ (hasInit_mem h)
    · rename_i heq; cases heq; exact List.mem_cons_of_mem _ (hasInit_mem h)
theorem hasInst_mem {y : MethodName} : ∀ {t : List Jvm.Cond}, hasInst y t = true → Jvm.Cond.instanceMethod y ∈ t
  | [], h => by simp [hasInst] at h
  | w :: t, h => by
    unfold hasInst at h
    split at h
    · rename_i heq; cases heq
    · rename_i heq
      cases heq
      split at h
      · rename_i hc; cases meq_eq hc; exact List.mem_cons_self
      · exact List.mem_cons_of_mem _ (hasInst_mem h)
    · rename_i heq; cases heq; exact List.mem_cons_of_mem _ (hasInst_mem h)
theorem hasPriv_mem {y : MethodName} : ∀ {t : List Jvm.Cond}, hasPriv y t = true → Jvm.Cond.privateMethod y ∈ t
  | [], h => by simp [hasPriv] at h
  | w :: t, h => by
    unfold hasPriv at h
    split at h
    · rename_i heq; cases heq
    · rename_i heq
      cases heq
      split at h
      · rename_i hc; cases meq_eq hc; exact List.mem_cons_self
      · exact List.mem_cons_of_mem _ (hasPriv_mem h)
    · rename_i heq; cases heq; exact List.mem_cons_of_mem _ (hasPriv_mem h)
theorem hasStat_mem {y : MethodName} : ∀ {t : List Jvm.Cond}, hasStat y t = true → Jvm.Cond.static y ∈ t
  | [], h => by simp [hasStat] at h
  | w :: t, h => by
    unfold hasStat at h
    split at h
    · rename_i heq; cases heq
    · rename_i heq
      cases heq
      split at h
      · rename_i hc; cases meq_eq hc; exact List.mem_cons_self
      · exact List.mem_cons_of_mem _ (hasStat_mem h)
    · rename_i heq; cases heq; exact List.mem_cons_of_mem _ (hasStat_mem h)
theorem hasDecl_mem {y : MethodName} : ∀ {t : List Jvm.Cond}, hasDecl y t = true → Jvm.Cond.declares y ∈ t
  | [], h => by simp [hasDecl] at h
  | w :: t, h => by
    unfold hasDecl at h
    split at h
    · rename_i heq; cases heq
    · rename_i heq
      cases heq
      split at h
      · rename_i hc; cases meq_eq hc; exact List.mem_cons_self
      · exact List.mem_cons_of_mem _ (hasDecl_mem h)
    · rename_i heq; cases heq; exact List.mem_cons_of_mem _ (hasDecl_mem h)
theorem hasArr_mem {y : FieldType} : ∀ {t : List Jvm.Cond}, hasArr y t = true → Jvm.Cond.arrayClass y ∈ t
  | [], h => by simp [hasArr] at h
  | w :: t, h => by
    unfold hasArr at h
    split at h
    · rename_i heq; cases heq
    · rename_i heq
      cases heq
      split at h
      · rename_i hc; subst hc; exact List.mem_cons_self
      · exact List.mem_cons_of_mem _ (hasArr_mem h)
    · rename_i heq; cases heq; exact List.mem_cons_of_mem _ (hasArr_mem h)
theorem hasSel_mem {y : MethodName} : ∀ {t : List Jvm.Cond}, hasSel y t = true → Jvm.Cond.selects y.cls y y ∈ t
  | [], h => by simp [hasSel] at h
  | w :: t, h => by
    unfold hasSel at h
    split at h
    · rename_i heq; cases heq
    · rename_i heq
      cases heq
      split at h
      · rename_i hc; obtain ⟨c1, c2, rfl⟩ := hc; cases meq_eq c1; cases meq_eq c2; exact List.mem_cons_self
      · exact List.mem_cons_of_mem _ (hasSel_mem h)
    · rename_i heq; cases heq; exact List.mem_cons_of_mem _ (hasSel_mem h)
theorem layGo_spec {C n : String} {k : Nat} {d : String} {fin : Bool} : ∀ {t : List Jvm.Cond} {k0 : Nat}, layGo C n t k0 = some (k, d, fin) → k0 ≤ k ∧ t[k - k0]? = some (if fin = true then Jvm.Cond.laysFinal C C n d else Jvm.Cond.lays C C n d)
  | [], _, h => by simp [layGo] at h
  | w :: t, k0, h => by
    have next : layGo C n t (k0 + 1) = some (k, d, fin) → k0 ≤ k ∧ (w :: t)[k - k0]? = some (if fin = true then Jvm.Cond.laysFinal C C n d else Jvm.Cond.lays C C n d) := fun q => by
      obtain ⟨h1, h2⟩ := layGo_spec q
      refine ⟨by omega, ?_⟩
      have e : k - k0 = (k - (k0 + 1)) + 1 := by omega
      rw [e, List.getElem?_cons_succ]
      exact h2
    unfold layGo at h
    split at h
    · rename_i heq; cases heq
    · rename_i heq
      cases heq
      split at h
      · rename_i hc
        obtain ⟨rfl, rfl, rfl⟩ := hc
        cases h
        exact ⟨Nat.le_refl _, by simp⟩
      · exact next h
    · rename_i heq
      cases heq
      split at h
      · rename_i hc
        obtain ⟨rfl, rfl, rfl⟩ := hc
        cases h
        exact ⟨Nat.le_refl _, by simp⟩
      · exact next h
    · rename_i heq; cases heq; exact next h
theorem layAt_spec {W : List Jvm.Cond} {C n : String} {k : Nat} {d : String} {fin : Bool} (h : layAt W C n = some (k, d, fin)) : W[k]? = some (if fin = true then Jvm.Cond.laysFinal C C n d else Jvm.Cond.lays C C n d) := (layGo_spec h).2
theorem layAt_inj {W : List Jvm.Cond} {C n n' : String} {k : Nat} {d d' : String} {fin fin' : Bool} (h : layAt W C n = some (k, d, fin)) (h' : layAt W C n' = some (k, d', fin')) : n = n' := by
  have e := (layAt_spec h).symm.trans (layAt_spec h')
  cases fin <;> cases fin' <;> simp at e
  · exact e.1
  · exact e.1
theorem layAt_laid {W : List Jvm.Cond} {C n : String} {k : Nat} {d : String} {fin : Bool} {Z : State} {a0 : Array Value} (hw : ∀ d ∈ W, d.before a0 Z = true) (h : layAt W C n = some (k, d, fin)) : Laid Z a0 C C n d := by
  have e := hw _ (List.mem_of_getElem? (layAt_spec h))
  cases fin
  · exact Or.inl e
  · exact Or.inr e
theorem fieldAt_spec {W : List Jvm.Cond} {own : String} {idx : Nat} {C : String} {k kd : Nat} {fin : Bool} (h : fieldAt W own idx = some (C, k, kd, fin)) : ∃ n d, Jvm.Cond.fieldLink own idx C n d ∈ W ∧ layAt W C n = some (k, d, fin) ∧ kd = kindD d ∧ kindD d ≠ 0 := by
  unfold fieldAt at h
  split at h
  · cases h
  · rename_i r n d h1
    split at h
    · cases h
    · rename_i k' d' fin' h2
      split at h
      · rename_i hc
        cases h
        obtain ⟨rfl, hk⟩ := hc
        exact ⟨n, _, fieldLk_mem h1, h2, rfl, hk⟩
      · cases h
theorem kindD_1 {d : String} (h : kindD d = 1) : parseFieldDescriptor d = some .int := by
  unfold kindD at h
  split at h <;> first | assumption | (simp at h)
theorem kindD_2 {d : String} (h : kindD d = 2) : parseFieldDescriptor d = some .boolean := by
  unfold kindD at h
  split at h <;> first | assumption | (simp at h)
theorem kindD_3 {d : String} (h : kindD d = 3) : parseFieldDescriptor d = some .long := by
  unfold kindD at h
  split at h <;> first | assumption | (simp at h)
theorem kindD_4 {d : String} (h : kindD d = 4) : ∃ ty, parseFieldDescriptor d = some ty ∧ (∀ v : Value, narrow ty v = v) ∧ (∀ a, fits ty (.ref a) = true) ∧ defaultValue ty = .null := by
  unfold kindD at h
  split at h
  · simp at h
  · simp at h
  · simp at h
  · rename_i t ht; exact ⟨_, ht, fun _ => rfl, fun _ => rfl, rfl⟩
  · rename_i t ht; exact ⟨_, ht, fun _ => rfl, fun _ => rfl, rfl⟩
  · simp at h
theorem kindD_lt (d : String) : kindD d = 0 ∨ kindD d = 1 ∨ kindD d = 2 ∨ kindD d = 3 ∨ kindD d = 4 := by
  unfold kindD
  split <;> simp
theorem jump_spec {pc : Nat} {o : Int} {t : Nat} (h : jump pc o = some t) : 0 ≤ (pc : Int) + o ∧ ((pc : Int) + o).toNat = t := by
  unfold jump at h
  split at h
  · rename_i n hn
    cases h
    rw [hn]
    exact ⟨Int.natCast_nonneg _, rfl⟩
  · cases h
theorem inb_spec {j : Int32} {n : Nat} (h : inb j n = true) : ¬ (j < 0 ∨ n ≤ j.toNatClampNeg) := by
  simp only [inb, Bool.and_eq_true, decide_eq_true_eq] at h
  rintro (q | q)
  · exact h.1 q
  · omega
end Jvm.OwnEv
namespace Jvm.OwnEv
open Sem ClassFile Op Lib Jvm.Stand Jvm.Free Jvm.LawKit Jvm.RoadKit
/-! PART 3: the memory and the heap -/
def RelC (Z : State) (W : List Jvm.Cond) (ρ : Nat → Addr) (h : Heap) (mi : Nat → Nat → Int32) (ml : Nat → Nat → Int64) (mr : Nat → Nat → Value) (a : Nat) (c : Nat × String × Nat) : Prop :=
  (c.1 = 0 → Exa Z h (ρ a) c.2.1 ∧ ∀ n k d fin, layAt W c.2.1 n = some (k, d, fin) → kindD d ≠ 0 → Fld Z h (ρ a) c.2.1 n d (conc ρ (getV (kindD d) (mi a k) (ml a k) (mr a k)))) ∧
  (c.1 = 1 → ∃ cell : Cell, Arr Z h (ρ a) cell .int ∧ cell.slots.size = c.2.2 ∧ ∀ k, k < c.2.2 → cell.slots[k]? = some (.int (mi a k))) ∧
  (c.1 = 2 → ∃ cell : Cell, Arr Z h (ρ a) cell .long ∧ cell.slots.size = c.2.2 ∧ ∀ k, k < c.2.2 → cell.slots[k]? = some (.long (ml a k))) ∧
  (c.1 = 3 → ∃ cell : Cell, Arr Z h (ρ a) cell .boolean ∧ cell.slots.size = c.2.2 ∧ ∀ k, k < c.2.2 → cell.slots[k]? = some (.int (mi a k)))
def Rel (Z : State) (W : List Jvm.Cond) (ρ : Nat → Addr) (ro n0 : Nat) (h : Heap) (M : EMem) : Prop :=
  h.size = n0 + (M.1.length - ro) ∧ ro ≤ M.1.length ∧ (∀ a c, M.1[a]? = some c → RelC Z W ρ h M.2.1 M.2.2.1 M.2.2.2 a c) ∧
  (∀ a, M.1.length ≤ a → ∀ k, M.2.1 a k = 0 ∧ M.2.2.1 a k = 0 ∧ M.2.2.2 a k = .null)
section R
variable {Z : State} {W : List Jvm.Cond} {ρ : Nat → Addr} {h h' : Heap} {mi mi' : Nat → Nat → Int32} {ml ml' : Nat → Nat → Int64} {mr mr' : Nat → Nat → Value} {a b : Nat} {c : Nat × String × Nat} {a0 : Array Value}
theorem RelC.mono (hE : ∀ C, Exa Z h (ρ a) C → Exa Z h' (ρ a) C) (hF : ∀ C n d v, Fld Z h (ρ a) C n d v → Fld Z h' (ρ a) C n d v) (hA : ∀ cell ty, Arr Z h (ρ a) cell ty → Arr Z h' (ρ a) cell ty)
    (hi : ∀ k, mi' a k = mi a k) (hl : ∀ k, ml' a k = ml a k) (hr : ∀ k, mr' a k = mr a k) (X : RelC Z W ρ h mi ml mr a c) : RelC Z W ρ h' mi' ml' mr' a c := by
  obtain ⟨x0, x1, x2, x3⟩ := X
  refine ⟨fun q => ?_, fun q => ?_, fun q => ?_, fun q => ?_⟩
  · obtain ⟨e1, e2⟩ := x0 q
    exact ⟨hE _ e1, fun n k d fin e3 e4 => by rw [hi, hl, hr]; exact hF _ _ _ _ (e2 n k d fin e3 e4)⟩
  · obtain ⟨cell, e1, e2, e3⟩ := x1 q
    exact ⟨cell, hA _ _ e1, e2, fun k hk => by rw [hi]; exact e3 k hk⟩
  · obtain ⟨cell, e1, e2, e3⟩ := x2 q
    exact ⟨cell, hA _ _ e1, e2, fun k hk => by rw [hl]; exact e3 k hk⟩
  · obtain ⟨cell, e1, e2, e3⟩ := x3 q
    exact ⟨cell, hA _ _ e1, e2, fun k hk => by rw [hi]; exact e3 k hk⟩
theorem up_ne {α : Type} {f : Nat → Nat → α} {a k : Nat} {v : α} {x : Nat} (h : x ≠ a) (y : Nat) : up f a k v x y = f x y := by simp [up, h]
theorem up_eq {α : Type} {f : Nat → Nat → α} {a k : Nat} {v : α} : up f a k v a k = v := by simp [up]
theorem up_ne' {α : Type} {f : Nat → Nat → α} {a k : Nat} {v : α} {y : Nat} (h : y ≠ k) (x : Nat) : up f a k v x y = f x y := by simp [up, h]
theorem RelC.other {sl : Nat} {v : Value} (w : Wr h h' (ρ b) sl v) (ne : ρ a ≠ ρ b) (hi : ∀ k, mi' a k = mi a k) (hl : ∀ k, ml' a k = ml a k) (hr : ∀ k, mr' a k = mr a k) (X : RelC Z W ρ h mi ml mr a c) : RelC Z W ρ h' mi' ml' mr' a c :=
  X.mono (fun _ q => q.wr w) (fun _ _ _ _ q => q.other w (Or.inl ne)) (fun _ _ q => q.other w ne) hi hl hr
theorem RelC.ext (E : Ext h h') (X : RelC Z W ρ h mi ml mr a c) : RelC Z W ρ h' mi ml mr a c :=
  X.mono (fun _ q => q.ext E) (fun _ _ _ _ q => q.ext E) (fun _ _ q => q.ext E) (fun _ => rfl) (fun _ => rfl) (fun _ => rfl)
/-- a field is written -/
theorem RelC.put (hw : ∀ d ∈ W, d.before a0 Z = true) {C n d : String} {k : Nat} {fin : Bool} {u : Nat} {v : Value} (hla : layAt W C n = some (k, d, fin)) (hk0 : kindD d ≠ 0) (w : Wr h h' (ρ a) (Jvm.RoadKit.slotOf Z C n d) v)
    (hv : conc ρ (getV (kindD d) (mi' a k) (ml' a k) (mr' a k)) = v)
    (hi : ∀ j, j ≠ k → mi' a j = mi a j) (hl : ∀ j, j ≠ k → ml' a j = ml a j) (hr : ∀ j, j ≠ k → mr' a j = mr a j) (X : RelC Z W ρ h mi ml mr a (0, C, u)) : RelC Z W ρ h' mi' ml' mr' a (0, C, u) := by
  obtain ⟨x0, -⟩ := X
  refine ⟨fun q => ?_, fun q => (by cases q), fun q => (by cases q), fun q => (by cases q)⟩
  obtain ⟨e1, e2⟩ := x0 q
  refine ⟨e1.wr w, fun n' k' d' fin' e3 e4 => ?_⟩
  by_cases hn : n' = n
  · subst hn
    cases hla.symm.trans e3
    rw [hv]
    exact Fld.same w (e2 _ _ _ _ e3 e4)
  · have hk : k' ≠ k := fun q => by subst q; exact hn (layAt_inj e3 hla)
    rw [hi _ hk, hl _ hk, hr _ hk]
    have pd : ∀ {x : String}, kindD x ≠ 0 → ∃ t, parseFieldDescriptor x = some t := fun {x} q => by
      rcases kindD_lt x with z | z | z | z | z
      · exact absurd z q
      · exact ⟨_, kindD_1 z⟩
      · exact ⟨_, kindD_2 z⟩
      · exact ⟨_, kindD_3 z⟩
      · obtain ⟨t, ht, -⟩ := kindD_4 z; exact ⟨t, ht⟩
    obtain ⟨t1, ht1⟩ := pd e4
    obtain ⟨t2, ht2⟩ := pd hk0
    exact (e2 _ _ _ _ e3 e4).other w (Or.inr (slot_ne (layAt_laid hw e3) (layAt_laid hw hla) hn ht1 ht2))
theorem get_set {cell : Cell} {j k n : Nat} {v : Value} (hs : cell.slots.size = n) (hk : k < n) : (cell.setSlot j v).slots[k]? = if j = k then some v else cell.slots[k]? := by
  by_cases e : j = k
  · subst e
    simp [Cell.setSlot, hs, hk]
  · rw [if_neg e]
    exact Array.getElem?_setIfInBounds_ne e
theorem RelC.st1 {n : Nat} {u : String} {j : Nat} {x : Int32} (w : Wr h h' (ρ a) j (.int x)) (X : RelC Z W ρ h mi ml mr a (1, u, n)) : RelC Z W ρ h' (up mi a j x) ml mr a (1, u, n) := by
  obtain ⟨-, x1, -⟩ := X
  refine ⟨fun q => (by cases q), fun q => ?_, fun q => (by cases q), fun q => (by cases q)⟩
  obtain ⟨cell, e1, e2, e3⟩ := x1 q
  refine ⟨_, e1.same w, (sz_set _ _ _).trans e2, fun k hk => ?_⟩
  rw [get_set e2 hk]
  by_cases e : j = k
  · subst e; simp [up]
  · rw [if_neg e, e3 k hk]; simp [up, Ne.symm e]
theorem RelC.st3 {n : Nat} {u : String} {j : Nat} {x : Int32} (w : Wr h h' (ρ a) j (.int x)) (X : RelC Z W ρ h mi ml mr a (3, u, n)) : RelC Z W ρ h' (up mi a j x) ml mr a (3, u, n) := by
  obtain ⟨-, -, -, x1⟩ := X
  refine ⟨fun q => (by cases q), fun q => (by cases q), fun q => (by cases q), fun q => ?_⟩
  obtain ⟨cell, e1, e2, e3⟩ := x1 q
  refine ⟨_, e1.same w, (sz_set _ _ _).trans e2, fun k hk => ?_⟩
  rw [get_set e2 hk]
  by_cases e : j = k
  · subst e; simp [up]
  · rw [if_neg e, e3 k hk]; simp [up, Ne.symm e]
theorem RelC.st2 {n : Nat} {u : String} {j : Nat} {x : Int64} (w : Wr h h' (ρ a) j (.long x)) (X : RelC Z W ρ h mi ml mr a (2, u, n)) : RelC Z W ρ h' mi (up ml a j x) mr a (2, u, n) := by
  obtain ⟨-, -, x1, -⟩ := X
  refine ⟨fun q => (by cases q), fun q => (by cases q), fun q => ?_, fun q => (by cases q)⟩
  obtain ⟨cell, e1, e2, e3⟩ := x1 q
  refine ⟨_, e1.same w, (sz_set _ _ _).trans e2, fun k hk => ?_⟩
  rw [get_set e2 hk]
  by_cases e : j = k
  · subst e; simp [up]
  · rw [if_neg e, e3 k hk]; simp [up, Ne.symm e]
/-- one cell is written, the others stay -/
theorem Rel.write {ro n0 : Nat} {L : ELay} {sl : Nat} {v : Value} (hρ : ∀ a b, ρ a = ρ b → a = b) (w : Wr h h' (ρ a) sl v) (hc : L[a]? = some c)
    (hi : ∀ x, x ≠ a → ∀ k, mi' x k = mi x k) (hl : ∀ x, x ≠ a → ∀ k, ml' x k = ml x k) (hr : ∀ x, x ≠ a → ∀ k, mr' x k = mr x k)
    (self : RelC Z W ρ h mi ml mr a c → RelC Z W ρ h' mi' ml' mr' a c) (X : Rel Z W ρ ro n0 h (L, mi, ml, mr)) : Rel Z W ρ ro n0 h' (L, mi', ml', mr') := by
  obtain ⟨x1, x2, x3, x4⟩ := X
  have hlt : a < L.length := (List.getElem?_eq_some_iff.mp hc).1
  refine ⟨by rw [w.size]; exact x1, x2, fun b cb hb => ?_, fun b hb k => ?_⟩
  · by_cases e : b = a
    · subst e
      cases hc.symm.trans hb
      exact self (x3 _ _ hc)
    · exact (x3 b cb hb).other w (fun q => e (hρ _ _ q)) (hi b e) (hl b e) (hr b e)
  · have e : b ≠ a := fun q => by
      have hb' : L.length ≤ b := hb
      omega
    obtain ⟨y1, y2, y3⟩ := x4 b hb k
    exact ⟨(hi b e k).trans y1, (hl b e k).trans y2, (hr b e k).trans y3⟩
/-- one cell more -/
theorem Rel.push {ro n0 : Nat} {L : ELay} (E : Ext h h') (hsz : h'.size = h.size + 1) (new : RelC Z W ρ h' mi ml mr L.length c) (X : Rel Z W ρ ro n0 h (L, mi, ml, mr)) : Rel Z W ρ ro n0 h' (L ++ [c], mi, ml, mr) := by
  obtain ⟨x1, x2, x3, x4⟩ := X
  have x2' : ro ≤ L.length := x2
  have x1' : h.size = n0 + (L.length - ro) := x1
  refine ⟨?_, ?_, fun b cb hb => ?_, fun b hb k => ?_⟩
  · show h'.size = n0 + ((L ++ [c]).length - ro)
    rw [hsz, x1', List.length_append]
    simp; omega
  · show ro ≤ (L ++ [c]).length
    rw [List.length_append]; omega
  · have hb' : (L ++ [c])[b]? = some cb := hb
    by_cases e : b < L.length
    · rw [List.getElem?_append_left e] at hb'
      exact (x3 b cb hb').ext E
    · have hlt := (List.getElem?_eq_some_iff.mp hb').1
      rw [List.length_append] at hlt
      have : b = L.length := by simp at hlt; omega
      subst this
      simp at hb'
      subst hb'
      exact new
  · have hb' : (L ++ [c]).length ≤ b := hb
    rw [List.length_append] at hb'
    exact x4 b (by show L.length ≤ b; omega) k
end R
end Jvm.OwnEv
namespace Jvm.OwnEv
open Sem ClassFile Op Lib Jvm.Stand Jvm.Free Jvm.LawKit Jvm.RoadKit
/-! PART 4: the evaluator's plain steps are steps of the model -/
def Here (p : Program) (l : Launch) (e : Env) (R : Room) (s : State) (m : MethodId) (args : Array Value) (below : List Frame) (meth : Method) (c : Code) (Z : State) (W : List Jvm.Cond) (ρ : Nat → Addr) (ro n0 : Nat) (L0 : ELay) (T : State) (M : EMem) : Prop :=
  ∃ locs, Stand p l e R s m args below meth c T locs (M.1.length - L0.length) (szL M.1 - szL L0) ∧ Fr n0 locs ∧ Rel Z W ρ ro n0 T.heap M
theorem objInitAt_spec {W : List Jvm.Cond} {own : String} {idx : Nat} (h : objInitAt W own idx = true) : Jvm.Cond.methodLink own idx Lib.objectInit ∈ W ∧ Jvm.Cond.instanceMethod Lib.objectInit ∈ W ∧ Jvm.Cond.code Lib.objectInit ⟨#[0xb1]⟩ 1 none ∈ W := by
  unfold objInitAt at h
  split at h
  · rename_i z b n r h1 h2
    simp only [Bool.and_eq_true, decide_eq_true_eq] at h
    obtain ⟨⟨⟨⟨rfl, h3⟩, rfl⟩, rfl⟩, rfl⟩ := h
    exact ⟨methodLk_mem h1, hasInst_mem h3, codeLk_mem h2⟩
  · cases h
section S
variable {p : Program} {l : Launch} {e : Env} {R : Room} {s : State} {m : MethodId} {args : Array Value} {below : List Frame} {meth : Method} {c : Code} {Z : State} {a0 : Array Value} {W : List Jvm.Cond} {ρ : Nat → Addr} {ro n0 : Nat} {L0 : ELay} {y : MethodName} {T : State} {M : EMem}
set_option maxRecDepth 65536 in
set_option maxHeartbeats 40000000 in
theorem execP_sound (H : Here p l e R s m args below meth c Z W ρ ro n0 L0 T M) (hx : p.tables.exec = Jvm.exec) (hZ : Z.Warmed39 s.vm) (hw : ∀ d ∈ W, d.before a0 Z = true) (hown : s.vm.findClass y.cls = some m.cls) {F Lb : Nat} (hF : F ≤ R.frames) (hLb : Lb ≤ R.locals)
    {ls ls' : List Slot} {st st' : List Value} {ins : Instr} {pc pc' len : Nat} (hsz : ls.length = c.maxLocals) (hd : decode c.code pc = .ok (ins, len)) (hl : lenOk len ins = true) (h : execP W F Lb y ins pc len ls st M = some (pc', ls', st')) :
    ls'.length = ls.length ∧ ∃ T', Here p l e R s m args below meth c Z W ρ ro n0 L0 T' M ∧ ∀ target, Steps p.tables e below (T'.setTop (mkF m pc' (cl ρ ls') (cs ρ st'))) target → Steps p.tables e below (T.setTop (mkF m pc (cl ρ ls) (cs ρ st))) target := by
  obtain ⟨locs, X, N, Rl⟩ := H
  have A := X.here
  unfold execP at h
  split at h
  · rename_i k
    obtain rfl : len = 2 := by simpa [lenOk] using hl
    split at h
    · rename_i a ha; cases h; exact ⟨rfl, T, ⟨locs, X, N, Rl⟩, fun t k => XS.aload A hx rfl hd (get_cl ha) rfl k⟩
    · rename_i ha; cases h; exact ⟨rfl, T, ⟨locs, X, N, Rl⟩, fun t k => XS.aload A hx rfl hd (get_cl ha) rfl k⟩
    · cases h
  · rename_i k
    obtain rfl : len = 1 := by simpa [lenOk] using hl
    split at h
    · rename_i a ha; cases h; exact ⟨rfl, T, ⟨locs, X, N, Rl⟩, fun t k => XS.aloadN A hx rfl hd (get_cl ha) rfl k⟩
    · rename_i ha; cases h; exact ⟨rfl, T, ⟨locs, X, N, Rl⟩, fun t k => XS.aloadN A hx rfl hd (get_cl ha) rfl k⟩
    · cases h
  · rename_i k
    obtain rfl : len = 2 := by simpa [lenOk] using hl
    split at h
    · rename_i a ha; cases h; exact ⟨rfl, T, ⟨locs, X, N, Rl⟩, fun t k => XS.iload A hx rfl hd (get_cl ha) k⟩
    · cases h
  · rename_i k
    obtain rfl : len = 1 := by simpa [lenOk] using hl
    split at h
    · rename_i a ha; cases h; exact ⟨rfl, T, ⟨locs, X, N, Rl⟩, fun t k => XS.iloadN A hx rfl hd (get_cl ha) k⟩
    · cases h
  · rename_i k
    obtain rfl : len = 2 := by simpa [lenOk] using hl
    split at h
    · rename_i a ha; cases h; exact ⟨rfl, T, ⟨locs, X, N, Rl⟩, fun t k => XT.lload A hx rfl hd (get_cl ha) k⟩
    · cases h
  · rename_i k
    obtain rfl : len = 1 := by simpa [lenOk] using hl
    split at h
    · rename_i a ha; cases h; exact ⟨rfl, T, ⟨locs, X, N, Rl⟩, fun t k => XT.lloadN A hx rfl hd (get_cl ha) k⟩
    · cases h
  · rename_i k
    obtain rfl : len = 2 := by simpa [lenOk] using hl
    split at h
    · split at h
      · rename_i l' hs; cases h; exact ⟨storeL_len hs, T, ⟨locs, X, N, Rl⟩, fun t k => XS.istore A hx rfl hd rfl (storeL_conc (ρ := ρ) hs) k⟩
      · cases h
    · cases h
  · rename_i k
    obtain rfl : len = 1 := by simpa [lenOk] using hl
    split at h
    · split at h
      · rename_i l' hs; cases h; exact ⟨storeL_len hs, T, ⟨locs, X, N, Rl⟩, fun t k => XS.istoreN A hx rfl hd rfl (storeL_conc (ρ := ρ) hs) k⟩
      · cases h
    · cases h
  · rename_i k
    obtain rfl : len = 2 := by simpa [lenOk] using hl
    split at h
    · split at h
      · rename_i l' hs; cases h; exact ⟨storeL_len hs, T, ⟨locs, X, N, Rl⟩, fun t k => XT.lstore A hx rfl hd rfl (storeL_conc (ρ := ρ) hs) k⟩
      · cases h
    · cases h
  · rename_i k
    obtain rfl : len = 1 := by simpa [lenOk] using hl
    split at h
    · split at h
      · rename_i l' hs; cases h; exact ⟨storeL_len hs, T, ⟨locs, X, N, Rl⟩, fun t k => XT.lstoreN A hx rfl hd rfl (storeL_conc (ρ := ρ) hs) k⟩
      · cases h
    · cases h
  · rename_i k
    obtain rfl : len = 2 := by simpa [lenOk] using hl
    split at h
    · split at h
      · rename_i l' hs; cases h; exact ⟨storeL_len hs, T, ⟨locs, X, N, Rl⟩, fun t k => XS.astore A hx rfl hd rfl rfl (storeL_conc (ρ := ρ) hs) k⟩
      · cases h
    · cases h
  · rename_i k
    obtain rfl : len = 1 := by simpa [lenOk] using hl
    split at h
    · split at h
      · rename_i l' hs; cases h; exact ⟨storeL_len hs, T, ⟨locs, X, N, Rl⟩, fun t k => XS.astoreN A hx rfl hd rfl rfl (storeL_conc (ρ := ρ) hs) k⟩
      · cases h
    · cases h
  · rename_i k d
    obtain rfl : len = 3 := by simpa [lenOk] using hl
    split at h
    · rename_i v ha; split at h
      · rename_i l' hs; cases h; exact ⟨storeL_len hs, T, ⟨locs, X, N, Rl⟩, fun t k => XS.iinc A hx rfl hd (get_cl ha) (storeL_conc (ρ := ρ) hs) k⟩
      · cases h
    · cases h
  · rename_i i
    obtain rfl : len = 1 := by simpa [lenOk] using hl
    cases h; exact ⟨rfl, T, ⟨locs, X, N, Rl⟩, fun t k => XS.iconst A hx rfl hd k⟩
  · rename_i i
    obtain rfl : len = 2 := by simpa [lenOk] using hl
    cases h; exact ⟨rfl, T, ⟨locs, X, N, Rl⟩, fun t k => XS.bipush A hx rfl hd k⟩
  · rename_i i
    obtain rfl : len = 3 := by simpa [lenOk] using hl
    cases h; exact ⟨rfl, T, ⟨locs, X, N, Rl⟩, fun t k => XS.sipush A hx rfl hd k⟩
  · rename_i i
    obtain rfl : len = 1 := by simpa [lenOk] using hl
    cases h; exact ⟨rfl, T, ⟨locs, X, N, Rl⟩, fun t k => XT.lconst A hx rfl hd k⟩
  · rename_i i
    obtain rfl : len = 2 := by simpa [lenOk] using hl
    split at h
    · rename_i v hv; cases h; exact ⟨rfl, T, ⟨locs, X, N, Rl⟩, fun t k => X.ldcInt hx hown (mvT hZ (hw _ (intLk_mem hv))) (g := mkF m pc (cl ρ ls) (cs ρ st)) rfl hd t k⟩
    · cases h
  · rename_i i
    obtain rfl : len = 3 := by simpa [lenOk] using hl
    split at h
    · rename_i v hv; cases h; exact ⟨rfl, T, ⟨locs, X, N, Rl⟩, fun t k => X.ldcwInt hx hown (mvT hZ (hw _ (intLk_mem hv))) (g := mkF m pc (cl ρ ls) (cs ρ st)) rfl hd t k⟩
    · cases h
  · rename_i i
    obtain rfl : len = 3 := by simpa [lenOk] using hl
    split at h
    · rename_i v hv; cases h; exact ⟨rfl, T, ⟨locs, X, N, Rl⟩, fun t k => X.ldc2Long hx hown (mvT hZ (hw _ (longLk_mem hv))) (g := mkF m pc (cl ρ ls) (cs ρ st)) rfl hd t k⟩
    · cases h
  · obtain rfl : len = 1 := by simpa [lenOk] using hl
    split at h
    · cases h; exact ⟨rfl, T, ⟨locs, X, N, Rl⟩, fun t k => XS.iadd A hx rfl hd rfl k⟩
    · cases h
  · obtain rfl : len = 1 := by simpa [lenOk] using hl
    split at h
    · cases h; exact ⟨rfl, T, ⟨locs, X, N, Rl⟩, fun t k => XS.isub A hx rfl hd rfl k⟩
    · cases h
  · obtain rfl : len = 1 := by simpa [lenOk] using hl
    split at h
    · cases h; exact ⟨rfl, T, ⟨locs, X, N, Rl⟩, fun t k => XS.imul A hx rfl hd rfl k⟩
    · cases h
  · obtain rfl : len = 1 := by simpa [lenOk] using hl
    split at h
    · cases h; exact ⟨rfl, T, ⟨locs, X, N, Rl⟩, fun t k => XS.iand A hx rfl hd rfl k⟩
    · cases h
  · obtain rfl : len = 1 := by simpa [lenOk] using hl
    split at h
    · cases h; exact ⟨rfl, T, ⟨locs, X, N, Rl⟩, fun t k => XT.ior A hx rfl hd rfl k⟩
    · cases h
  · obtain rfl : len = 1 := by simpa [lenOk] using hl
    split at h
    · cases h; exact ⟨rfl, T, ⟨locs, X, N, Rl⟩, fun t k => XT.ixor A hx rfl hd rfl k⟩
    · cases h
  · obtain rfl : len = 1 := by simpa [lenOk] using hl
    split at h
    · cases h; exact ⟨rfl, T, ⟨locs, X, N, Rl⟩, fun t k => XT.ishl A hx rfl hd rfl k⟩
    · cases h
  · obtain rfl : len = 1 := by simpa [lenOk] using hl
    split at h
    · cases h; exact ⟨rfl, T, ⟨locs, X, N, Rl⟩, fun t k => XT.ishr A hx rfl hd rfl k⟩
    · cases h
  · obtain rfl : len = 1 := by simpa [lenOk] using hl
    split at h
    · cases h; exact ⟨rfl, T, ⟨locs, X, N, Rl⟩, fun t k => XT.iushr A hx rfl hd rfl k⟩
    · cases h
  · obtain rfl : len = 1 := by simpa [lenOk] using hl
    split at h
    · split at h
      · cases h
      · rename_i hb; cases h; exact ⟨rfl, T, ⟨locs, X, N, Rl⟩, fun t k => XS.idiv A hx rfl hd rfl hb k⟩
    · cases h
  · obtain rfl : len = 1 := by simpa [lenOk] using hl
    split at h
    · split at h
      · cases h
      · rename_i hb; cases h; exact ⟨rfl, T, ⟨locs, X, N, Rl⟩, fun t k => XS.irem A hx rfl hd rfl hb k⟩
    · cases h
  · obtain rfl : len = 1 := by simpa [lenOk] using hl
    split at h
    · cases h; exact ⟨rfl, T, ⟨locs, X, N, Rl⟩, fun t k => XS.ineg A hx rfl hd rfl k⟩
    · cases h
  · obtain rfl : len = 1 := by simpa [lenOk] using hl
    split at h
    · cases h; exact ⟨rfl, T, ⟨locs, X, N, Rl⟩, fun t k => XT.ladd A hx rfl hd rfl k⟩
    · cases h
  · obtain rfl : len = 1 := by simpa [lenOk] using hl
    split at h
    · cases h; exact ⟨rfl, T, ⟨locs, X, N, Rl⟩, fun t k => XT.lsub A hx rfl hd rfl k⟩
    · cases h
  · obtain rfl : len = 1 := by simpa [lenOk] using hl
    split at h
    · cases h; exact ⟨rfl, T, ⟨locs, X, N, Rl⟩, fun t k => XT.lmul A hx rfl hd rfl k⟩
    · cases h
  · obtain rfl : len = 1 := by simpa [lenOk] using hl
    split at h
    · cases h; exact ⟨rfl, T, ⟨locs, X, N, Rl⟩, fun t k => XT.land A hx rfl hd rfl k⟩
    · cases h
  · obtain rfl : len = 1 := by simpa [lenOk] using hl
    split at h
    · cases h; exact ⟨rfl, T, ⟨locs, X, N, Rl⟩, fun t k => XT.lor A hx rfl hd rfl k⟩
    · cases h
  · obtain rfl : len = 1 := by simpa [lenOk] using hl
    split at h
    · cases h; exact ⟨rfl, T, ⟨locs, X, N, Rl⟩, fun t k => XT.lxor A hx rfl hd rfl k⟩
    · cases h
  · obtain rfl : len = 1 := by simpa [lenOk] using hl
    split at h
    · cases h; exact ⟨rfl, T, ⟨locs, X, N, Rl⟩, fun t k => XT.lshl A hx rfl hd rfl k⟩
    · cases h
  · obtain rfl : len = 1 := by simpa [lenOk] using hl
    split at h
    · cases h; exact ⟨rfl, T, ⟨locs, X, N, Rl⟩, fun t k => XT.lshr A hx rfl hd rfl k⟩
    · cases h
  · obtain rfl : len = 1 := by simpa [lenOk] using hl
    split at h
    · cases h; exact ⟨rfl, T, ⟨locs, X, N, Rl⟩, fun t k => XT.lushr A hx rfl hd rfl k⟩
    · cases h
  · obtain rfl : len = 1 := by simpa [lenOk] using hl
    split at h
    · split at h
      · cases h
      · rename_i hb; cases h; exact ⟨rfl, T, ⟨locs, X, N, Rl⟩, fun t k => XT.ldiv A hx rfl hd rfl hb k⟩
    · cases h
  · obtain rfl : len = 1 := by simpa [lenOk] using hl
    split at h
    · split at h
      · cases h
      · rename_i hb; cases h; exact ⟨rfl, T, ⟨locs, X, N, Rl⟩, fun t k => XT.lrem A hx rfl hd rfl hb k⟩
    · cases h
  · obtain rfl : len = 1 := by simpa [lenOk] using hl
    split at h
    · cases h; exact ⟨rfl, T, ⟨locs, X, N, Rl⟩, fun t k => XT.lneg A hx rfl hd rfl k⟩
    · cases h
  · obtain rfl : len = 1 := by simpa [lenOk] using hl
    split at h
    · cases h; exact ⟨rfl, T, ⟨locs, X, N, Rl⟩, fun t k => XT.lcmp A hx rfl hd rfl k⟩
    · cases h
  · obtain rfl : len = 1 := by simpa [lenOk] using hl
    split at h
    · cases h; exact ⟨rfl, T, ⟨locs, X, N, Rl⟩, fun t k => XT.i2l A hx rfl hd rfl k⟩
    · cases h
  · obtain rfl : len = 1 := by simpa [lenOk] using hl
    split at h
    · cases h; exact ⟨rfl, T, ⟨locs, X, N, Rl⟩, fun t k => XT.l2i A hx rfl hd rfl k⟩
    · cases h
  · obtain rfl : len = 1 := by simpa [lenOk] using hl
    split at h
    · cases h; exact ⟨rfl, T, ⟨locs, X, N, Rl⟩, fun t k => XT.i2s A hx rfl hd rfl k⟩
    · cases h
  · obtain rfl : len = 1 := by simpa [lenOk] using hl
    split at h
    · cases h; exact ⟨rfl, T, ⟨locs, X, N, Rl⟩, fun t k => XS.dup A hx rfl hd rfl rfl k⟩
    · cases h; exact ⟨rfl, T, ⟨locs, X, N, Rl⟩, fun t k => XS.dup A hx rfl hd rfl rfl k⟩
    · cases h
  · obtain rfl : len = 1 := by simpa [lenOk] using hl
    split at h
    · cases h; exact ⟨rfl, T, ⟨locs, X, N, Rl⟩, fun t k => XT.dup2 A hx rfl hd rfl rfl rfl k⟩
    · cases h; exact ⟨rfl, T, ⟨locs, X, N, Rl⟩, fun t k => XT.dup2 A hx rfl hd rfl rfl rfl k⟩
    · cases h; exact ⟨rfl, T, ⟨locs, X, N, Rl⟩, fun t k => XT.dup2L A hx rfl hd rfl k⟩
    · cases h
  · obtain rfl : len = 1 := by simpa [lenOk] using hl
    split at h
    · cases h; exact ⟨rfl, T, ⟨locs, X, N, Rl⟩, fun t k => XT.dupX1 A hx rfl hd rfl rfl rfl k⟩
    · cases h
  · obtain rfl : len = 1 := by simpa [lenOk] using hl
    split at h
    · cases h; exact ⟨rfl, T, ⟨locs, X, N, Rl⟩, fun t k => XT.pop A hx rfl hd rfl rfl k⟩
    · cases h; exact ⟨rfl, T, ⟨locs, X, N, Rl⟩, fun t k => XT.pop A hx rfl hd rfl rfl k⟩
    · cases h
  · rename_i o
    obtain rfl : len = 3 := by simpa [lenOk] using hl
    split at h
    · rename_i t ht; cases h; obtain ⟨j1, j2⟩ := jump_spec ht
      exact ⟨rfl, T, ⟨locs, X, N, Rl⟩, fun t k => XS.goto A hx rfl rfl hd j1 j2 k⟩
    · cases h
  · rename_i cd o
    obtain rfl : len = 3 := by simpa [lenOk] using hl
    split at h
    · rename_i a r
      split at h
      · rename_i t ht; cases h; obtain ⟨j1, j2⟩ := jump_spec ht
        refine ⟨rfl, T, ⟨locs, X, N, Rl⟩, fun t k => ?_⟩
        cases hb : ifCond.holds cd a with
        | true => rw [hb, if_pos rfl] at k; exact XS.ifYes A hx rfl rfl hd rfl hb j1 j2 k
        | false => rw [hb, if_neg Bool.false_ne_true] at k; exact XS.ifNo A hx rfl hd rfl hb k
      · cases h
    · cases h
  · rename_i cd o
    obtain rfl : len = 3 := by simpa [lenOk] using hl
    split at h
    · rename_i b a r
      split at h
      · rename_i t ht; cases h; obtain ⟨j1, j2⟩ := jump_spec ht
        refine ⟨rfl, T, ⟨locs, X, N, Rl⟩, fun t k => ?_⟩
        cases hb : if_icmp.holds cd a b with
        | true => rw [hb, if_pos rfl] at k; exact XS.icmpYes A hx rfl rfl hd rfl hb j1 j2 k
        | false => rw [hb, if_neg Bool.false_ne_true] at k; exact XS.icmpNo A hx rfl hd rfl hb k
      · cases h
    · cases h
  · rename_i o
    obtain rfl : len = 3 := by simpa [lenOk] using hl
    split at h
    · split at h
      · rename_i t ht; cases h; obtain ⟨j1, j2⟩ := jump_spec ht
        exact ⟨rfl, T, ⟨locs, X, N, Rl⟩, fun t k => XS.ifnullYes A hx rfl rfl hd rfl j1 j2 k⟩
      · cases h
    · cases h; exact ⟨rfl, T, ⟨locs, X, N, Rl⟩, fun t k => XS.ifnullNo A hx rfl hd rfl k⟩
    · cases h
  · rename_i o
    obtain rfl : len = 3 := by simpa [lenOk] using hl
    split at h
    · split at h
      · rename_i t ht; cases h; obtain ⟨j1, j2⟩ := jump_spec ht
        exact ⟨rfl, T, ⟨locs, X, N, Rl⟩, fun t k => XT.ifnonnullYes A hx rfl rfl hd rfl j1 j2 k⟩
      · cases h
    · cases h; exact ⟨rfl, T, ⟨locs, X, N, Rl⟩, fun t k => XT.ifnonnullNo A hx rfl hd rfl k⟩
    · cases h
  · rename_i dflt low high offs
    split at h
    · split at h
      · rename_i hout; split at h
        · rename_i t ht; cases h; obtain ⟨j1, j2⟩ := jump_spec ht
          exact ⟨rfl, T, ⟨locs, X, N, Rl⟩, fun t k => XS.tswOut A hx rfl rfl hd rfl hout j1 j2 k⟩
        · cases h
      · rename_i hin; split at h
        · cases h
        · rename_i off hoff; split at h
          · rename_i t ht; cases h; obtain ⟨j1, j2⟩ := jump_spec ht
            exact ⟨rfl, T, ⟨locs, X, N, Rl⟩, fun t k => XS.tswIn A hx rfl rfl hd rfl hin hoff j1 j2 k⟩
          · cases h
    · cases h
  · rename_i idx
    obtain rfl : len = 3 := by simpa [lenOk] using hl
    split at h
    · rename_i a r; split at h
      · rename_i C k kd fin C' u hf hc
        split at h
        · rename_i hC
          cases h
          subst hC
          obtain ⟨n, d, q1, q2, rfl, q4⟩ := fieldAt_spec hf
          have Fd := ((Rl.2.2.1 _ _ hc).1 rfl).2 _ _ _ _ q2 q4
          obtain ⟨T', X', e', st'⟩ := getF X hx hZ hown (host := "") (Or.inl (hw _ q1)) Via.refl rfl Fd (g := mkF m pc (cl ρ ls) (cs ρ (.ref a :: r))) rfl rfl hd
          exact ⟨rfl, T', ⟨locs, X', N, by rw [e']; exact Rl⟩, fun t k => st' t k⟩
        · cases h
      · cases h
    · cases h
  · obtain rfl : len = 1 := by simpa [lenOk] using hl
    split at h
    · rename_i a r; split at h
      · rename_i u n hc
        cases h
        obtain ⟨cell, Ar, hs, -⟩ := (Rl.2.2.1 _ _ hc).2.1 rfl
        have hs' : cell.slots.size = n := hs
        refine ⟨rfl, T, ⟨locs, X, N, Rl⟩, fun t k => X.arraylength hx Ar.1 (State.isArrayOf_alike hZ.alike Ar.2.1) (g := mkF m pc (cl ρ ls) (cs ρ (.ref a :: r))) rfl rfl hd t ?_⟩
        rw [hs']; exact k
      · rename_i u n hc
        cases h
        obtain ⟨cell, Ar, hs, -⟩ := (Rl.2.2.1 _ _ hc).2.2.1 rfl
        have hs' : cell.slots.size = n := hs
        refine ⟨rfl, T, ⟨locs, X, N, Rl⟩, fun t k => X.arraylength hx Ar.1 (State.isArrayOf_alike hZ.alike Ar.2.1) (g := mkF m pc (cl ρ ls) (cs ρ (.ref a :: r))) rfl rfl hd t ?_⟩
        rw [hs']; exact k
      · rename_i u n hc
        cases h
        obtain ⟨cell, Ar, hs, -⟩ := (Rl.2.2.1 _ _ hc).2.2.2 rfl
        have hs' : cell.slots.size = n := hs
        refine ⟨rfl, T, ⟨locs, X, N, Rl⟩, fun t k => X.arraylength hx Ar.1 (State.isArrayOf_alike hZ.alike Ar.2.1) (g := mkF m pc (cl ρ ls) (cs ρ (.ref a :: r))) rfl rfl hd t ?_⟩
        rw [hs']; exact k
      · cases h
    · cases h
  · obtain rfl : len = 1 := by simpa [lenOk] using hl
    split at h
    · rename_i j a r; split at h
      · rename_i u n hc
        split at h
        · rename_i hj
          cases h
          obtain ⟨cell, Ar, hs, hv⟩ := (Rl.2.2.1 _ _ hc).2.1 rfl
          have hs' : cell.slots.size = n := hs
          have hj' := inb_spec hj
          have hlt : j.toNatClampNeg < n := by
            have := fun q => hj' (Or.inr q)
            omega
          exact ⟨rfl, T, ⟨locs, X, N, Rl⟩, fun t k => X.iaload hx Ar.1 (State.isArrayOf_alike hZ.alike Ar.2.1) Ar.2.2 (by rw [hs']; exact hj') (hv _ hlt) (g := mkF m pc (cl ρ ls) (cs ρ (.int j :: .ref a :: r))) rfl rfl hd t k⟩
        · cases h
      · cases h
    · cases h
  · obtain rfl : len = 1 := by simpa [lenOk] using hl
    split at h
    · rename_i j a r; split at h
      · rename_i u n hc
        split at h
        · rename_i hj
          cases h
          obtain ⟨cell, Ar, hs, hv⟩ := (Rl.2.2.1 _ _ hc).2.2.2 rfl
          have hs' : cell.slots.size = n := hs
          have hj' := inb_spec hj
          have hlt : j.toNatClampNeg < n := by
            have := fun q => hj' (Or.inr q)
            omega
          exact ⟨rfl, T, ⟨locs, X, N, Rl⟩, fun t k => X.baloadBooleans hx Ar.1 (State.isArrayOf_alike hZ.alike Ar.2.1) Ar.2.2 (by rw [hs']; exact hj') (hv _ hlt) (g := mkF m pc (cl ρ ls) (cs ρ (.int j :: .ref a :: r))) rfl rfl hd t k⟩
        · cases h
      · cases h
    · cases h
  · obtain rfl : len = 1 := by simpa [lenOk] using hl
    split at h
    · rename_i j a r; split at h
      · rename_i u n hc
        split at h
        · rename_i hj
          cases h
          obtain ⟨cell, Ar, hs, hv⟩ := (Rl.2.2.1 _ _ hc).2.2.1 rfl
          have hs' : cell.slots.size = n := hs
          have hj' := inb_spec hj
          have hlt : j.toNatClampNeg < n := by
            have := fun q => hj' (Or.inr q)
            omega
          exact ⟨rfl, T, ⟨locs, X, N, Rl⟩, fun t k => X.laload hx Ar.1 (State.isArrayOf_alike hZ.alike Ar.2.1) Ar.2.2 (by rw [hs']; exact hj') (hv _ hlt) (g := mkF m pc (cl ρ ls) (cs ρ (.int j :: .ref a :: r))) rfl rfl hd t k⟩
        · cases h
      · cases h
    · cases h
  · rename_i idx
    obtain rfl : len = 3 := by simpa [lenOk] using hl
    split at h
    · rename_i a r; split at h
      · rename_i hc
        cases h
        obtain ⟨c1, c2, c3⟩ := hc
        obtain ⟨w1, w2, w3⟩ := objInitAt_spec c1
        obtain ⟨T', X', e', stp⟩ := initO X hx hZ hown (hw _ w1) (hw _ w2) (hw _ w3) rfl (g := mkF m pc (cl ρ ls) (cs ρ (.ref a :: st'))) rfl (by simp [hsz]) rfl hd (by omega) (W := wt st') (by show 2 * 0 + ((st'.map (conc ρ)).map fun v => v.category).sum ≤ _; rw [wt_conc]; omega) (by omega)
        exact ⟨rfl, T', ⟨locs, X', N, by rw [e']; exact Rl⟩, fun t k => stp t k⟩
      · cases h
    · cases h
  · cases h
theorem execM_ext {ins : Instr} {st st' : List Value} {M M' : EMem} (h : execM W ro y ins st M = some (st', M')) : M.1.length ≤ M'.1.length ∧ szL M.1 ≤ szL M'.1 := by
  have push : ∀ (L : ELay) (x : Nat × String × Nat), L.length ≤ (L ++ [x]).length ∧ szL L ≤ szL (L ++ [x]) := fun L x => by simp [szL]
  unfold execM at h
  split at h
  · split at h
    · split at h
      · split at h
        · split at h <;> first | (cases h; exact ⟨Nat.le_refl _, Nat.le_refl _⟩) | cases h
        · cases h
      · cases h
    · cases h
  all_goals first
    | (split at h
       · split at h
         · split at h
           · cases h; exact ⟨Nat.le_refl _, Nat.le_refl _⟩
           · cases h
         · cases h
       · cases h)
    | (split at h
       · cases h; exact push _ _
       · cases h)
    | (split at h
       · split at h
         · cases h; exact push _ _
         · cases h
       · cases h)
    | cases h
theorem szL_push (L : ELay) (x : Nat × String × Nat) : szL (L ++ [x]) = szL L + x.2.2 := by simp [szL]
set_option maxRecDepth 65536 in
set_option maxHeartbeats 40000000 in
theorem execM_sound (H : Here p l e R s m args below meth c Z W ρ ro n0 L0 T M) (hx : p.tables.exec = Jvm.exec) (hZ : Z.Warmed39 s.vm) (hw : ∀ d ∈ W, d.before a0 Z = true) (hown : s.vm.findClass y.cls = some m.cls) (hnm : meth.name = y.name)
    (hρ : ∀ a b, ρ a = ρ b → a = b) (hρn : ∀ a, ro ≤ a → ρ a = n0 + (a - ro)) (hL : L0.length ≤ M.1.length) (hS : szL L0 ≤ szL M.1) (hs0 : s.heap.size = n0 + (L0.length - ro)) (hro : ro ≤ L0.length)
    {ls : List Slot} {st st' : List Value} {M' : EMem} {ins : Instr} {pc len : Nat} (hd : decode c.code pc = .ok (ins, len)) (hl : lenOk len ins = true) (hRc : M'.1.length - L0.length ≤ R.cells) (hRs : szL M'.1 - szL L0 ≤ R.slots) (h : execM W ro y ins st M = some (st', M')) :
    ∃ T', Here p l e R s m args below meth c Z W ρ ro n0 L0 T' M' ∧ ∀ target, Steps p.tables e below (T'.setTop (mkF m (pc + len) (cl ρ ls) (cs ρ st'))) target → Steps p.tables e below (T.setTop (mkF m pc (cl ρ ls) (cs ρ st))) target := by
  obtain ⟨locs, X, N, Rl⟩ := H
  obtain ⟨L, mi, ml, mr⟩ := M
  have hL' : L0.length ≤ L.length := hL
  have hS' : szL L0 ≤ szL L := hS
  have hsize : T.heap.size = n0 + (L.length - ro) := Rl.1
  have hnew : T.heap.size = ρ L.length := by rw [hρn _ (Nat.le_trans hro hL'), hsize]
  unfold execM at h
  split at h
  · rename_i idx
    obtain rfl : len = 3 := by simpa [lenOk] using hl
    split at h
    · rename_i v a r
      split at h
      · rename_i C k kd fin C' u hf hc
        split at h
        · rename_i hC
          obtain ⟨rfl, hra, hfin, hinst⟩ := hC
          obtain ⟨n, d, q1, q2, rfl, q4⟩ := fieldAt_spec hf
          obtain ⟨ni, hni⟩ := Option.isSome_iff_exists.mp hinst
          have hcell : L[a]? = some (0, C', u) := hc
          obtain ⟨Ex, Fs⟩ := (Rl.2.2.1 _ _ hc).1 rfl
          have Fd := Fs _ _ _ _ q2 q4
          have hge : n0 ≤ ρ a := by rw [hρn a hra]; omega
          have Lw : (Jvm.Cond.lays C' C' n d).before a0 Z = true ∨ ((Jvm.Cond.laysFinal C' C' n d).before a0 Z = true ∧ y.cls = C' ∧ meth.name = "<init>") := by
            have e := hw _ (List.mem_of_getElem? (layAt_spec q2))
            cases fin with
            | false => exact Or.inl e
            | true =>
              rcases hfin with z | ⟨z1, z2⟩
              · cases z
              · exact Or.inr ⟨e, z1, hnm.trans z2⟩
          split at h
          · rename_i x hk
            cases h
            obtain ⟨T', h', X', e', w, stp⟩ := putFN X hx hZ hown (hw _ q1) Via.refl rfl Fd Ex Lw (hw _ (instLk_mem hni)) (ty := .int) (v' := .int x) (kindD_1 hk) rfl rfl (g := mkF m pc (cl ρ ls) (cs ρ (.int x :: .ref a :: st'))) rfl rfl hd
            refine ⟨T', ⟨_, X', Fr.snoc X' N hge, ?_⟩, fun t k => stp t k⟩
            rw [e']
            exact Rel.write hρ w hcell (fun x hx k => up_ne hx k) (fun _ _ _ => rfl) (fun _ _ _ => rfl) (RelC.put hw q2 q4 w (by rw [hk, up_eq]; rfl) (fun j hj => up_ne' hj a) (fun _ _ => rfl) (fun _ _ => rfl)) Rl
          · rename_i x hk
            cases h
            obtain ⟨T', h', X', e', w, stp⟩ := putFN X hx hZ hown (hw _ q1) Via.refl rfl Fd Ex Lw (hw _ (instLk_mem hni)) (ty := .boolean) (v' := .int (x &&& 1)) (kindD_2 hk) rfl (fits_nar_bool x) (g := mkF m pc (cl ρ ls) (cs ρ (.int x :: .ref a :: st'))) rfl rfl hd
            refine ⟨T', ⟨_, X', Fr.snoc X' N hge, ?_⟩, fun t k => stp t k⟩
            rw [e']
            exact Rel.write hρ w hcell (fun x hx k => up_ne hx k) (fun _ _ _ => rfl) (fun _ _ _ => rfl) (RelC.put hw q2 q4 w (by rw [hk, up_eq]; rfl) (fun j hj => up_ne' hj a) (fun _ _ => rfl) (fun _ _ => rfl)) Rl
          · rename_i x hk
            cases h
            obtain ⟨T', h', X', e', w, stp⟩ := putFN X hx hZ hown (hw _ q1) Via.refl rfl Fd Ex Lw (hw _ (instLk_mem hni)) (ty := .long) (v' := .long x) (kindD_3 hk) rfl rfl (g := mkF m pc (cl ρ ls) (cs ρ (.long x :: .ref a :: st'))) rfl rfl hd
            refine ⟨T', ⟨_, X', Fr.snoc X' N hge, ?_⟩, fun t k => stp t k⟩
            rw [e']
            exact Rel.write hρ w hcell (fun _ _ _ => rfl) (fun x hx k => up_ne hx k) (fun _ _ _ => rfl) (RelC.put hw q2 q4 w (by rw [hk, up_eq]; rfl) (fun _ _ => rfl) (fun j hj => up_ne' hj a) (fun _ _ => rfl)) Rl
          · rename_i b hk
            cases h
            obtain ⟨ty, t1, t2, t3, -⟩ := kindD_4 hk
            obtain ⟨T', h', X', e', w, stp⟩ := putFN X hx hZ hown (hw _ q1) Via.refl rfl Fd Ex Lw (hw _ (instLk_mem hni)) (ty := ty) (v' := .ref (ρ b)) t1 (t2 _) (t3 _) (g := mkF m pc (cl ρ ls) (cs ρ (.ref b :: .ref a :: st'))) rfl rfl hd
            refine ⟨T', ⟨_, X', Fr.snoc X' N hge, ?_⟩, fun t k => stp t k⟩
            rw [e']
            exact Rel.write hρ w hcell (fun _ _ _ => rfl) (fun _ _ _ => rfl) (fun x hx k => up_ne hx k) (RelC.put hw q2 q4 w (by rw [hk, up_eq]; rfl) (fun _ _ => rfl) (fun _ _ => rfl) (fun j hj => up_ne' hj a)) Rl
          · cases h
        · cases h
      · cases h
    · cases h
  · obtain rfl : len = 1 := by simpa [lenOk] using hl
    split at h
    · rename_i x j a r
      split at h
      · rename_i u n hc
        split at h
        · rename_i hj
          obtain ⟨hj, hra⟩ := hj
          cases h
          have hcell : L[a]? = some (_, u, n) := hc
          obtain ⟨cell, Ar, hs, hv⟩ := (Rl.2.2.1 _ _ hc).2.1 rfl
          have hs' : cell.slots.size = n := hs
          have hge : n0 ≤ ρ a := by rw [hρn a hra]; omega
          obtain ⟨T', h', X', e', w, stp⟩ := stI X hx hZ rfl Ar (by rw [hs']; exact inb_spec hj) (g := mkF m pc (cl ρ ls) (cs ρ (.int x :: .int j :: .ref a :: st'))) rfl rfl hd
          refine ⟨T', ⟨_, X', Fr.snoc X' N hge, ?_⟩, fun t k => stp t k⟩
          rw [e']
          exact Rel.write hρ w hcell (fun x hx k => up_ne hx k) (fun _ _ _ => rfl) (fun _ _ _ => rfl) (RelC.st1 w) Rl
        · cases h
      · cases h
    · cases h
  · obtain rfl : len = 1 := by simpa [lenOk] using hl
    split at h
    · rename_i x j a r
      split at h
      · rename_i u n hc
        split at h
        · rename_i hj
          obtain ⟨hj, hra⟩ := hj
          cases h
          have hcell : L[a]? = some (_, u, n) := hc
          obtain ⟨cell, Ar, hs, hv⟩ := (Rl.2.2.1 _ _ hc).2.2.2 rfl
          have hs' : cell.slots.size = n := hs
          have hge : n0 ≤ ρ a := by rw [hρn a hra]; omega
          obtain ⟨T', h', X', e', w, stp⟩ := stZ X hx hZ rfl Ar (by rw [hs']; exact inb_spec hj) (g := mkF m pc (cl ρ ls) (cs ρ (.int x :: .int j :: .ref a :: st'))) rfl rfl hd
          refine ⟨T', ⟨_, X', Fr.snoc X' N hge, ?_⟩, fun t k => stp t k⟩
          rw [e']
          exact Rel.write hρ w hcell (fun x hx k => up_ne hx k) (fun _ _ _ => rfl) (fun _ _ _ => rfl) (RelC.st3 w) Rl
        · cases h
      · cases h
    · cases h
  · obtain rfl : len = 1 := by simpa [lenOk] using hl
    split at h
    · rename_i x j a r
      split at h
      · rename_i u n hc
        split at h
        · rename_i hj
          obtain ⟨hj, hra⟩ := hj
          cases h
          have hcell : L[a]? = some (_, u, n) := hc
          obtain ⟨cell, Ar, hs, hv⟩ := (Rl.2.2.1 _ _ hc).2.2.1 rfl
          have hs' : cell.slots.size = n := hs
          have hge : n0 ≤ ρ a := by rw [hρn a hra]; omega
          obtain ⟨T', h', X', e', w, stp⟩ := stJ X hx hZ rfl Ar (by rw [hs']; exact inb_spec hj) (g := mkF m pc (cl ρ ls) (cs ρ (.long x :: .int j :: .ref a :: st'))) rfl rfl hd
          refine ⟨T', ⟨_, X', Fr.snoc X' N hge, ?_⟩, fun t k => stp t k⟩
          rw [e']
          exact Rel.write hρ w hcell (fun _ _ _ => rfl) (fun x hx k => up_ne hx k) (fun _ _ _ => rfl) (RelC.st2 w) Rl
        · cases h
      · cases h
    · cases h
  · rename_i idx
    obtain rfl : len = 3 := by simpa [lenOk] using hl
    split at h
    · rename_i C n hn
      cases h
      obtain ⟨w1, w2, w3⟩ : Jvm.Cond.classLink y.cls idx C ∈ W ∧ Jvm.Cond.instantiable C n ∈ W ∧ Jvm.Cond.initialized C ∈ W := by
        unfold newAt at hn
        split at hn
        · cases hn
        · rename_i C' h1
          split at hn
          · cases hn
          · rename_i n' h2
            split at hn
            · rename_i h3
              cases hn
              exact ⟨classLk_mem h1, instLk_mem h2, hasInit_mem h3⟩
            · cases hn
      have c1 : (L ++ [((0 : Nat), C, n)]).length - L0.length = L.length - L0.length + 1 := by rw [List.length_append]; simp; omega
      have c2 : szL (L ++ [((0 : Nat), C, n)]) - szL L0 = szL L - szL L0 + n := by rw [szL_push]; simp only; omega
      have hRc' : (L ++ [((0 : Nat), C, n)]).length - L0.length ≤ R.cells := hRc
      have hRs' : szL (L ++ [((0 : Nat), C, n)]) - szL L0 ≤ R.slots := hRs
      obtain ⟨T', h', X', e', E, Ex, D, -, st'⟩ := newO X hx hZ hown (hw _ w1) (hw _ w2) (hw _ w3) rfl (g := mkF m pc (cl ρ ls) (cs ρ st)) rfl hd (by show L.length - L0.length + 1 ≤ _; omega) (by show szL L - szL L0 + n ≤ _; omega)
      have hup : T'.heap.size ≤ s.heap.size + (L.length - L0.length + 1) := X'.heapSize
      have hlo : T.heap.size < h'.size := Ex.lt
      refine ⟨T', ⟨locs, by rw [← c1, ← c2] at X'; exact X', N, ?_⟩, fun t k => st' t ?_⟩
      · rw [e']
        rw [e'] at hup
        refine Rel.push E (by omega) ⟨fun _ => ⟨by rw [← hnew]; exact Ex, fun nm k d fin q1 q2 => ?_⟩, fun q => (by cases q), fun q => (by cases q), fun q => (by cases q)⟩ Rl
        obtain ⟨z1, z2, z3⟩ := Rl.2.2.2 L.length (Nat.le_refl _) k
        have z1' : mi L.length k = 0 := z1
        have z2' : ml L.length k = 0 := z2
        have z3' : mr L.length k = .null := z3
        dsimp only
        rw [z1', z2', z3', ← hnew]
        have Lw := layAt_laid hw q1
        rcases kindD_lt d with z | z | z | z | z
        · exact absurd z q2
        · rw [z]; exact D Lw (kindD_1 z)
        · rw [z]; exact D Lw (kindD_2 z)
        · rw [z]; exact D Lw (kindD_3 z)
        · obtain ⟨ty, t1, -, -, t4⟩ := kindD_4 z
          have q := D Lw t1
          rw [t4] at q
          rw [z]; exact q
      · rw [hnew]; exact k
    · cases h
  · obtain rfl : len = 2 := by simpa [lenOk] using hl
    split at h
    · rename_i n r
      split at h
      · rename_i hc
        obtain ⟨hn, hb, ha⟩ := hc
        cases h
        have c1 : (L ++ [((1 : Nat), "", n.toNatClampNeg)]).length - L0.length = L.length - L0.length + 1 := by rw [List.length_append]; simp; omega
        have c2 : szL (L ++ [((1 : Nat), "", n.toNatClampNeg)]) - szL L0 = szL L - szL L0 + n.toNatClampNeg := by rw [szL_push]; simp only; omega
        have hRc' : (L ++ [((1 : Nat), "", n.toNatClampNeg)]).length - L0.length ≤ R.cells := hRc
        have hRs' : szL (L ++ [((1 : Nat), "", n.toNatClampNeg)]) - szL L0 ≤ R.slots := hRs
        obtain ⟨T', h', cA, X', e', E, Ar, st'⟩ := newP X hx hZ (aty := .int) (hw _ (hasArr_mem ha)) rfl (g := mkF m pc (cl ρ ls) (cs ρ (.int n :: r))) rfl hd rfl hn (cap := n.toNatClampNeg) (Nat.le_refl _) hb (by show L.length - L0.length + 1 ≤ _; omega) (by show szL L - szL L0 + n.toNatClampNeg ≤ _; omega)
        have hup : T'.heap.size ≤ s.heap.size + (L.length - L0.length + 1) := X'.heapSize
        have hlo : T.heap.size < h'.size := Ar.lt
        refine ⟨T', ⟨locs, by rw [← c1, ← c2] at X'; exact X', N, ?_⟩, fun t k => st' t ?_⟩
        · rw [e']
          rw [e'] at hup
          refine Rel.push E (by omega) ⟨fun q => (by cases q), fun _ => ?_, fun q => (by cases q), fun q => (by cases q)⟩ Rl
          refine ⟨_, by rw [← hnew]; exact Ar, sz_new _ _ _, fun k hk => ?_⟩
          have hk' : k < n.toNatClampNeg := hk
          have z1 : mi L.length k = 0 := (Rl.2.2.2 L.length (Nat.le_refl _) k).1
          dsimp only
          rw [z1]
          simp [newA, hk']
          rfl
        · rw [hnew]; exact k
      · cases h
    · cases h
  · obtain rfl : len = 2 := by simpa [lenOk] using hl
    split at h
    · rename_i n r
      split at h
      · rename_i hc
        obtain ⟨hn, hb, ha⟩ := hc
        cases h
        have c1 : (L ++ [((2 : Nat), "", n.toNatClampNeg)]).length - L0.length = L.length - L0.length + 1 := by rw [List.length_append]; simp; omega
        have c2 : szL (L ++ [((2 : Nat), "", n.toNatClampNeg)]) - szL L0 = szL L - szL L0 + n.toNatClampNeg := by rw [szL_push]; simp only; omega
        have hRc' : (L ++ [((2 : Nat), "", n.toNatClampNeg)]).length - L0.length ≤ R.cells := hRc
        have hRs' : szL (L ++ [((2 : Nat), "", n.toNatClampNeg)]) - szL L0 ≤ R.slots := hRs
        obtain ⟨T', h', cA, X', e', E, Ar, st'⟩ := newP X hx hZ (aty := .long) (hw _ (hasArr_mem ha)) rfl (g := mkF m pc (cl ρ ls) (cs ρ (.int n :: r))) rfl hd rfl hn (cap := n.toNatClampNeg) (Nat.le_refl _) hb (by show L.length - L0.length + 1 ≤ _; omega) (by show szL L - szL L0 + n.toNatClampNeg ≤ _; omega)
        have hup : T'.heap.size ≤ s.heap.size + (L.length - L0.length + 1) := X'.heapSize
        have hlo : T.heap.size < h'.size := Ar.lt
        refine ⟨T', ⟨locs, by rw [← c1, ← c2] at X'; exact X', N, ?_⟩, fun t k => st' t ?_⟩
        · rw [e']
          rw [e'] at hup
          refine Rel.push E (by omega) ⟨fun q => (by cases q), fun q => (by cases q), fun _ => ?_, fun q => (by cases q)⟩ Rl
          refine ⟨_, by rw [← hnew]; exact Ar, sz_new _ _ _, fun k hk => ?_⟩
          have hk' : k < n.toNatClampNeg := hk
          have z1 : ml L.length k = 0 := (Rl.2.2.2 L.length (Nat.le_refl _) k).2.1
          dsimp only
          rw [z1]
          simp [newA, hk']
          rfl
        · rw [hnew]; exact k
      · cases h
    · cases h
  · obtain rfl : len = 2 := by simpa [lenOk] using hl
    split at h
    · rename_i n r
      split at h
      · rename_i hc
        obtain ⟨hn, hb, ha⟩ := hc
        cases h
        have c1 : (L ++ [((3 : Nat), "", n.toNatClampNeg)]).length - L0.length = L.length - L0.length + 1 := by rw [List.length_append]; simp; omega
        have c2 : szL (L ++ [((3 : Nat), "", n.toNatClampNeg)]) - szL L0 = szL L - szL L0 + n.toNatClampNeg := by rw [szL_push]; simp only; omega
        have hRc' : (L ++ [((3 : Nat), "", n.toNatClampNeg)]).length - L0.length ≤ R.cells := hRc
        have hRs' : szL (L ++ [((3 : Nat), "", n.toNatClampNeg)]) - szL L0 ≤ R.slots := hRs
        obtain ⟨T', h', cA, X', e', E, Ar, st'⟩ := newP X hx hZ (aty := .boolean) (hw _ (hasArr_mem ha)) rfl (g := mkF m pc (cl ρ ls) (cs ρ (.int n :: r))) rfl hd rfl hn (cap := n.toNatClampNeg) (Nat.le_refl _) hb (by show L.length - L0.length + 1 ≤ _; omega) (by show szL L - szL L0 + n.toNatClampNeg ≤ _; omega)
        have hup : T'.heap.size ≤ s.heap.size + (L.length - L0.length + 1) := X'.heapSize
        have hlo : T.heap.size < h'.size := Ar.lt
        refine ⟨T', ⟨locs, by rw [← c1, ← c2] at X'; exact X', N, ?_⟩, fun t k => st' t ?_⟩
        · rw [e']
          rw [e'] at hup
          refine Rel.push E (by omega) ⟨fun q => (by cases q), fun q => (by cases q), fun q => (by cases q), fun _ => ?_⟩ Rl
          refine ⟨_, by rw [← hnew]; exact Ar, sz_new _ _ _, fun k hk => ?_⟩
          have hk' : k < n.toNatClampNeg := hk
          have z1 : mi L.length k = 0 := (Rl.2.2.2 L.length (Nat.le_refl _) k).1
          dsimp only
          rw [z1]
          simp [newA, hk']
          rfl
        · rw [hnew]; exact k
      · cases h
    · cases h
  · cases h
end S
end Jvm.OwnEv
namespace Jvm.OwnEv
open Sem ClassFile Op Lib Jvm.Stand Jvm.Free Jvm.LawKit Jvm.RoadKit
/-! PART 5: what the evaluator answers, the model does -/
theorem run_ext {W : List Jvm.Cond} {ro : Nat} : ∀ (n : Nat) {F Lb : Nat} {y : MethodName} {code : ByteArray} {ret : Option FieldType} {pc : Nat} {ls : List Slot} {st : List Value} {M M' : EMem} {v : Option Value},
    run W ro n F Lb y code ret pc ls st M = some (v, M') → M.1.length ≤ M'.1.length ∧ szL M.1 ≤ szL M'.1
  | 0, _, _, _, _, _, _, _, _, _, _, _, h => by simp [run] at h
  | n + 1, F, Lb, y, code, ret, pc, ls, st, M, M', v, h => by
    unfold run at h
    split at h
    · split at h
      · exact run_ext n h
      · split at h
        · rename_i he
          split at he
          · have q1 := execM_ext he
            have q2 := run_ext n h
            exact ⟨Nat.le_trans q1.1 q2.1, Nat.le_trans q1.2 q2.2⟩
          · cases he
        · split at h
          · cases h; exact ⟨Nat.le_refl _, Nat.le_refl _⟩
          · split at h
            · split at h
              · split at h
                · rename_i hr
                  have q1 := run_ext n hr
                  have q2 := run_ext n h
                  exact ⟨Nat.le_trans q1.1 q2.1, Nat.le_trans q1.2 q2.2⟩
                · cases h
              · cases h
            · cases h
    · cases h
theorem callAt_spec {W : List Jvm.Cond} {own : String} {idx kd : Nat} {z : MethodName} {na : Nat} {b : ByteArray} {mx : Nat} {r : Option FieldType} (h : callAt W own idx kd = some (z, na, b, mx, r)) :
    Jvm.Cond.methodLink own idx z ∈ W ∧ Jvm.Cond.code z b mx r ∈ W ∧ Jvm.Cond.initialized z.cls ∈ W ∧ plainName z.cls = true ∧ (z.cls ≠ "java/lang/invoke/MethodHandle" ∧ z.cls ≠ "java/lang/invoke/VarHandle") ∧ (∀ sig, parseMethodDescriptor z.desc = some sig → na = sig.parameters.length) ∧
    ((kd = 0 ∧ hasDecl z W = true ∧ hasSel z W = true ∧ hasInst z W = true) ∨ (kd = 1 ∧ hasPriv z W = true ∧ hasInst z W = true ∧ (instLk z.cls W).isSome = true) ∨ (kd = 2 ∧ z.name = "<init>" ∧ hasInst z W = true ∧ r = none) ∨ (kd = 3 ∧ hasStat z W = true)) := by
  unfold callAt at h
  split at h
  · cases h
  · rename_i z' h1
    split at h
    · rename_i b' n' r' sig h2 h3
      split at h
      · rename_i hc
        cases h
        obtain ⟨c2, c3, c4, c5, c6⟩ := hc
        exact ⟨methodLk_mem h1, codeLk_mem h2, hasInit_mem c2, c3, ⟨c4, c5⟩, fun sig' q => by rw [h3] at q; cases q; rfl, c6⟩
      · cases h
    · cases h
section S
variable {l : Launch} {Z : State} {a0 : Array Value} {W : List Jvm.Cond} {ρ : Nat → Addr} {ro n0 : Nat}
/-- what a run of n steps promises -/
def Good (l : Launch) (Z : State) (W : List Jvm.Cond) (ρ : Nat → Addr) (ro n0 : Nat) (n : Nat) : Prop :=
  ∀ ⦃F Lb : Nat⦄ ⦃y : MethodName⦄ ⦃code : ByteArray⦄ ⦃ret : Option FieldType⦄ ⦃pc : Nat⦄ ⦃ls : List Slot⦄ ⦃st : List Value⦄ ⦃M M' : EMem⦄ ⦃v : Option Value⦄, run W ro n F Lb y code ret pc ls st M = some (v, M') →
    ∀ ⦃p : Program⦄ ⦃e : Env⦄ ⦃R : Room⦄ ⦃s : State⦄ ⦃m : MethodId⦄ ⦃args : Array Value⦄ ⦃below : List Frame⦄ ⦃meth : Method⦄ ⦃c : Code⦄ ⦃L0 : ELay⦄ ⦃T : State⦄, p.tables.exec = Jvm.exec → Z.Warmed39 s.vm → s.vm.findClass y.cls = some m.cls → meth.name = y.name → c.code = code → meth.sig.returnType = ret → meth.locks = false → ls.length = c.maxLocals →
      F ≤ R.frames → Lb ≤ R.locals → M'.1.length - L0.length ≤ R.cells → szL M'.1 - szL L0 ≤ R.slots → L0.length ≤ M.1.length → szL L0 ≤ szL M.1 → s.heap.size = n0 + (L0.length - ro) → ro ≤ L0.length → Here p l e R s m args below meth c Z W ρ ro n0 L0 T M →
      ∃ (s₂ : State) (L : List Loc), Steps p.tables e below (T.setTop (mkF m pc (cl ρ ls) (cs ρ st))) s₂ ∧ s₂.status = .running ∧ Ended s₂ below (.returned (v.map (conc ρ))) ∧ Rel Z W ρ ro n0 s₂.heap M' ∧ Fr n0 L ∧ s.WarmedH s₂.vm ∧
        s.sameButNew ({ s₂ with vm := s.vm } : State) L (M'.1.length - L0.length) (szL M'.1 - szL L0)
theorem met_of {n : Nat} (G : Good l Z W ρ ro n0 n) {F Lb : Nat} {z : MethodName} {b : ByteArray} {r : Option FieldType} {as : List Value} {mx : Nat} {M M' : EMem} {v : Option Value} (h : run W ro n F Lb z b r 0 (entryL as mx) [] M = some (v, M'))
    (hfl : (fillL as).length ≤ mx) (hp : plainName z.cls = true) {h0 : Heap} (Rl : Rel Z W ρ ro n0 h0 M) {R : Room} (hF : F ≤ R.frames) (hLb : Lb ≤ R.locals) (hRc : M'.1.length - M.1.length ≤ R.cells) (hRs : szL M'.1 - szL M.1 ≤ R.slots) (ws : List Jvm.Cond) :
    MetFree l z (head1 (Jvm.Cond.code z b mx r :: ws) R) (fun a U => a = (as.map (conc ρ)).toArray ∧ Z.Warmed39 U.vm ∧ U.heap = h0) (fun _ _ _ _ _ => True)
      (fun _ U o U' => ∃ v' L, o = .returned v' ∧ (v' = v.map (conc ρ) ∧ Rel Z W ρ ro n0 U'.heap M' ∧ Fr n0 L) ∧ FrameEnd U o U' L (M'.1.length - M.1.length) (szL M'.1 - szL M.1)) := by
  refine MetFree.of_bodySF (plainFor_of_name hp) hisR ?_
  intro p e s m args below meth c s₁ Bd hml0 hP hK
  obtain ⟨rfl, hZ, hh⟩ := hP
  have hown : s.vm.findClass z.cls = some m.cls := findClass_of_methodNamed Bd.named
  have hnm := (name_of_methodNamed Bd.named Bd.method).1
  have X0 : Stand p l e R s m (as.map (conc ρ)).toArray below meth c s₁ [] 0 0 := Stand.of_body Bd
  have e0 : s₁.heap = h0 := by rw [← hh, Bd.state]; rfl
  have hH : Here p l e R s m (as.map (conc ρ)).toArray below meth c Z W ρ ro n0 M.1 s₁ M := ⟨[], by rw [Nat.sub_self, Nat.sub_self]; exact X0, Fr.nil n0, by rw [e0]; exact Rl⟩
  obtain ⟨s₂, L, q1, q2, q3, q4, q5, q6, q7⟩ := G h (p := p) (e := e) (R := R) (s := s) (m := m) (below := below) (L0 := M.1) (T := s₁) Bd.exec hZ hown hnm Bd.bytes Bd.returns Bd.notSynchronized (by rw [entryL_len hfl, hml0]) hF hLb hRc hRs (Nat.le_refl _) (Nat.le_refl _) (by rw [hh]; exact Rl.1) Rl.2.1 hH
  refine ⟨s₂, _, castTop ?_ q1, q2, q3, _, L, rfl, ⟨rfl, q4, q5⟩, ⟨_, rfl⟩, q6, q7⟩
  show ({ method := m, pc := 0, locals := argsToLocals (as.map (conc ρ)).toArray mx, stack := [], locked := none } : JFrame) = _
  rw [args_conc]
  rfl
theorem toL_conc (v : Option Value) (rest : List Value) : (v.map (conc ρ)).toList ++ cs ρ rest = cs ρ (v.toList ++ rest) := by cases v <;> simp
theorem split_st {st rest : List Value} {na : Nat} {x : Value} (h : st.drop na = x :: rest) : cs ρ st = ((st.take na).reverse.map (conc ρ)).reverse ++ conc ρ x :: cs ρ rest := by
  have e : st = st.take na ++ (x :: rest) := by rw [← h]; exact (List.take_append_drop na st).symm
  rw [← List.map_reverse, List.reverse_reverse]
  conv => lhs; rw [e]
  simp [cs]
theorem split_st0 {st : List Value} {na : Nat} : cs ρ st = ((st.take na).reverse.map (conc ρ)).reverse ++ cs ρ (st.drop na) := by
  rw [← List.map_reverse, List.reverse_reverse]
  conv => lhs; rw [← List.take_append_drop na st]
  simp [cs]
set_option maxRecDepth 65536 in
set_option maxHeartbeats 40000000 in
/-- a call by the callee's own run -/
theorem call_sound {n : Nat} (G : Good l Z W ρ ro n0 n) (hw : ∀ d ∈ W, d.before a0 Z = true) {p : Program} {e : Env} {R : Room} {s : State} {m : MethodId} {args : Array Value} {below : List Frame} {meth : Method} {c : Code} {L0 : ELay} {T : State} {M M' : EMem} {y : MethodName}
    (H : Here p l e R s m args below meth c Z W ρ ro n0 L0 T M) (hx : p.tables.exec = Jvm.exec) (hZ : Z.Warmed39 s.vm) (hown : s.vm.findClass y.cls = some m.cls) {F Lb : Nat} (hF : F ≤ R.frames) (hLb : Lb ≤ R.locals)
    {ls : List Slot} {st : List Value} {ins : Instr} {pc len : Nat} (hsz : ls.length = c.maxLocals) (hd : decode c.code pc = .ok (ins, len)) {z : MethodName} {as rest : List Value} {b : ByteArray} {mx : Nat} {r : Option FieldType} {v : Option Value}
    (hc : callOf W y ins len st M = some (z, as, rest, b, mx, r)) (h1 : 1 ≤ F) (h2 : wt rest + (mx + 11) ≤ Lb) (h3 : (fillL as).length ≤ mx) (hr : run W ro n (F - 1) (Lb - (wt rest + (mx + 11))) z b r 0 (entryL as mx) [] M = some (v, M'))
    (hL : L0.length ≤ M.1.length) (hS : szL L0 ≤ szL M.1) (hRc : M'.1.length - L0.length ≤ R.cells) (hRs : szL M'.1 - szL L0 ≤ R.slots) :
    ∃ T', Here p l e R s m args below meth c Z W ρ ro n0 L0 T' M' ∧ Steps p.tables e below (T.setTop (mkF m pc (cl ρ ls) (cs ρ st))) (T'.setTop (mkF m (pc + 3) (cl ρ ls) (cs ρ (v.toList ++ rest)))) := by
  obtain ⟨locs, X, N, Rl⟩ := H
  have hext := run_ext n hr
  have hsize : (mkF m pc (cl ρ ls) (cs ρ st)).locals.size = c.maxLocals := by simp [hsz]
  have hW : ∀ q : List Value, q = rest → 2 * (mkF m pc (cl ρ ls) (cs ρ st)).monitorRoom + ((cs ρ q).map fun v => v.category).sum ≤ wt rest := fun q e => by
    subst e
    show 2 * 0 + ((q.map (conc ρ)).map fun v => v.category).sum ≤ _
    rw [wt_conc]; omega
  unfold callOf at hc
  split at hc
  · rename_i hlen
    subst hlen
    split at hc
    · rename_i idx
      split at hc
      · rename_i z' na b' n' r' hca
        split at hc
        · rename_i a rest' hdrop
          split at hc
          · rename_i C u hcell
            split at hc
            · rename_i hcond
              cases hc
              obtain ⟨rfl, hna⟩ := hcond
              obtain ⟨k1, k2, k3, k4, k5, k6, k7⟩ := callAt_spec hca
              rcases k7 with ⟨q, -⟩ | ⟨-, g1, g2, g3⟩ | ⟨q, -⟩ | ⟨q, -⟩
              · cases q
              · obtain ⟨ni, hni⟩ := Option.isSome_iff_exists.mp g3
                have E := ((Rl.2.2.1 _ _ hcell).1 rfl).1
                obtain ⟨cq, q1, q2⟩ := E.cell
                have hpriv : s.PrivateAt z := Cond.privateMethod_at (mvP hZ (hw _ (hasPriv_mem g1)) (args := #[]))
                obtain ⟨ci, ki, i1, i2, i3, i4, -⟩ := Cond.instantiable_spec (mvT (args := args) hZ (hw _ (instLk_mem hni)))
                have hsel : (Jvm.Cond.selects z.cls z z).before args s = true := selects_self_of_private i1 i2 (by simp only [Bool.or_eq_false_iff] at i4; exact i4.1) hpriv (mvT hZ (hw _ (hasInst_mem g2))) k5
                have back := backOf (R := R) (p := p) (e := e) (below := below) (s := s) (args := args) (len := 3) (W := wt rest) (rm := { frames := F - 1, cells := M'.1.length - M.1.length, slots := szL M'.1 - szL M.1, locals := Lb - (wt rest + (mx + 11)) }) (Q := fun v' h' L => v' = v.map (conc ρ) ∧ Rel Z W ρ ro n0 h' M' ∧ Fr n0 L) (met_of G hr h3 k4 Rl (R := { frames := F - 1, cells := M'.1.length - M.1.length, slots := szL M'.1 - szL M.1, locals := Lb - (wt rest + (mx + 11)) }) (Nat.le_refl _) (Nat.le_refl _) (Nat.le_refl _) (Nat.le_refl _) []) hZ (hw _ k2) (hw _ k3) (by show F - 1 + 1 ≤ _; omega) (by show wt rest + (mx + 11) + (Lb - (wt rest + (mx + 11))) ≤ _; omega)
                obtain ⟨v', vm₁, ⟨T', Lq, cq', nq⟩, hW₁, X', ⟨L', ⟨rfl, hR', hN'⟩, l', y', z'⟩, st'⟩ := X.privateBack hx (y := z) hown (mvT hZ (hw _ k1)) (mvT hZ (hw _ (hasInst_mem g2))) hsel hpriv (mvT hZ (hw _ k2)) k5 back (g := mkF m pc (cl ρ ls) (cs ρ st)) rfl hsize (Steps.refl _) (a := ρ a) q1 q2 (argsL := (st.take na).reverse.map (conc ρ)) (rest := cs ρ rest)
                  (fun sig hs => by rw [← k6 sig hs]; simpa using hna) (split_st hdrop) (hW _ rfl) hd (fun _ _ => ⟨by simp [conc], rfl, by show M.1.length - L0.length + (M'.1.length - M.1.length) ≤ _; omega, by show szL M.1 - szL L0 + (szL M'.1 - szL M.1) ≤ _; omega⟩)
                dsimp only [Pt.U, Pt.locs, Pt.cells, Pt.slots] at X' l' y' z' st' hR'
                subst l' y' z'
                refine ⟨T', ⟨_, ?_, Fr.app N hN', hR'⟩, ?_⟩
                · have c1 : M'.1.length - L0.length = M.1.length - L0.length + (M'.1.length - M.1.length) := by omega
                  have c2 : szL M'.1 - szL L0 = szL M.1 - szL L0 + (szL M'.1 - szL M.1) := by omega
                  rw [c1, c2]; exact X'
                · rw [← toL_conc]; exact st'
              · cases q
              · cases q
            · cases hc
          · cases hc
        · cases hc
      · split at hc
        · rename_i z' na b' n' r' hca
          split at hc
          · rename_i a rest' hdrop
            split at hc
            · rename_i C u hcell
              split at hc
              · rename_i hcond
                cases hc
                obtain ⟨rfl, hna⟩ := hcond
                obtain ⟨k1, k2, k3, k4, k5, k6, k7⟩ := callAt_spec hca
                rcases k7 with ⟨-, g1, g2, g3⟩ | ⟨q, -⟩ | ⟨q, -⟩ | ⟨q, -⟩
                · have E := ((Rl.2.2.1 _ _ hcell).1 rfl).1
                  obtain ⟨cB, kB, q1, q2, q3⟩ := isOf (T := T) hZ rfl E
                  have back := backOf (R := R) (p := p) (e := e) (below := below) (s := s) (args := args) (len := 3) (W := wt rest) (rm := { frames := F - 1, cells := M'.1.length - M.1.length, slots := szL M'.1 - szL M.1, locals := Lb - (wt rest + (mx + 11)) }) (Q := fun v' h' L => v' = v.map (conc ρ) ∧ Rel Z W ρ ro n0 h' M' ∧ Fr n0 L) (met_of G hr h3 k4 Rl (R := { frames := F - 1, cells := M'.1.length - M.1.length, slots := szL M'.1 - szL M.1, locals := Lb - (wt rest + (mx + 11)) }) (Nat.le_refl _) (Nat.le_refl _) (Nat.le_refl _) (Nat.le_refl _) []) hZ (hw _ k2) (hw _ k3) (by show F - 1 + 1 ≤ _; omega) (by show wt rest + (mx + 11) + (Lb - (wt rest + (mx + 11))) ≤ _; omega)
                  have hsel : (Jvm.Cond.selects z.cls z z).before args s = true := mvT hZ (hw _ (hasSel_mem g2))
                  obtain ⟨v', vm₁, ⟨T', Lq, cq', nq⟩, hW₁, X', ⟨L', ⟨rfl, hR', hN'⟩, l', y', z'⟩, st'⟩ := X.virtualBack hx (y := z) (z := z) hown (mvT hZ (hw _ k1)) (mvT hZ (hw _ (hasDecl_mem g1))) (notFace_of_selects hsel) hsel (mvT hZ (hw _ (hasInst_mem g3))) k5 back q1 q3 (g := mkF m pc (cl ρ ls) (cs ρ st)) rfl hsize (Steps.refl _) (argsL := (st.take na).reverse.map (conc ρ)) (rest := cs ρ rest)
                    (fun sig hs => by rw [← k6 sig hs]; simpa using hna) (split_st hdrop) (hW _ rfl) hd (fun _ _ => ⟨by simp [conc], rfl, by show M.1.length - L0.length + (M'.1.length - M.1.length) ≤ _; omega, by show szL M.1 - szL L0 + (szL M'.1 - szL M.1) ≤ _; omega⟩)
                  dsimp only [Pt.U, Pt.locs, Pt.cells, Pt.slots] at X' l' y' z' st' hR'
                  subst l' y' z'
                  refine ⟨T', ⟨_, ?_, Fr.app N hN', hR'⟩, ?_⟩
                  · have c1 : M'.1.length - L0.length = M.1.length - L0.length + (M'.1.length - M.1.length) := by omega
                    have c2 : szL M'.1 - szL L0 = szL M.1 - szL L0 + (szL M'.1 - szL M.1) := by omega
                    rw [c1, c2]; exact X'
                  · rw [← toL_conc]; exact st'
                · cases q
                · cases q
                · cases q
              · cases hc
            · cases hc
          · cases hc
        · cases hc
    · rename_i idx
      split at hc
      · rename_i z' na b' n' r' hca
        split at hc
        · rename_i a rest' hdrop
          split at hc
          · rename_i hna
            cases hc
            obtain ⟨k1, k2, k3, k4, k5, k6, k7⟩ := callAt_spec hca
            rcases k7 with ⟨q, -⟩ | ⟨q, -⟩ | ⟨-, g1, g2, g3⟩ | ⟨q, -⟩
            · cases q
            · cases q
            · subst g3
              have back := backOf (R := R) (p := p) (e := e) (below := below) (s := s) (args := args) (len := 3) (W := wt rest) (rm := { frames := F - 1, cells := M'.1.length - M.1.length, slots := szL M'.1 - szL M.1, locals := Lb - (wt rest + (mx + 11)) }) (Q := fun v' h' L => v' = v.map (conc ρ) ∧ Rel Z W ρ ro n0 h' M' ∧ Fr n0 L) (met_of G hr h3 k4 Rl (R := { frames := F - 1, cells := M'.1.length - M.1.length, slots := szL M'.1 - szL M.1, locals := Lb - (wt rest + (mx + 11)) }) (Nat.le_refl _) (Nat.le_refl _) (Nat.le_refl _) (Nat.le_refl _) []) hZ (hw _ k2) (hw _ k3) (by show F - 1 + 1 ≤ _; omega) (by show wt rest + (mx + 11) + (Lb - (wt rest + (mx + 11))) ≤ _; omega)
              obtain ⟨v', vm₁, ⟨T', Lq, cq', nq⟩, hW₁, X', ⟨L', ⟨rfl, hR', hN'⟩, l', y', z'⟩, st'⟩ := X.specialBack hx (y := z) g1 hown (mvT hZ (hw _ k1)) (mvT hZ (hw _ (hasInst_mem g2))) (mvT hZ (hw _ k2)) k5 back (g := mkF m pc (cl ρ ls) (cs ρ st)) rfl hsize (Steps.refl _) (a := ρ a) (argsL := (st.take na).reverse.map (conc ρ)) (rest := cs ρ rest)
                (fun sig hs => by rw [← k6 sig hs]; simpa using hna) (split_st hdrop) (hW _ rfl) hd (fun _ _ => ⟨by simp [conc], rfl, by show M.1.length - L0.length + (M'.1.length - M.1.length) ≤ _; omega, by show szL M.1 - szL L0 + (szL M'.1 - szL M.1) ≤ _; omega⟩)
              dsimp only [Pt.U, Pt.locs, Pt.cells, Pt.slots] at X' l' y' z' st' hR'
              subst l' y' z'
              refine ⟨T', ⟨_, ?_, Fr.app N hN', hR'⟩, ?_⟩
              · have c1 : M'.1.length - L0.length = M.1.length - L0.length + (M'.1.length - M.1.length) := by omega
                have c2 : szL M'.1 - szL L0 = szL M.1 - szL L0 + (szL M'.1 - szL M.1) := by omega
                rw [c1, c2]; exact X'
              · rw [← toL_conc]; exact st'
            · cases q
          · cases hc
        · cases hc
      · cases hc
    · rename_i idx
      split at hc
      · rename_i z' na b' n' r' hca
        split at hc
        · rename_i hna
          cases hc
          obtain ⟨k1, k2, k3, k4, k5, k6, k7⟩ := callAt_spec hca
          rcases k7 with ⟨q, -⟩ | ⟨q, -⟩ | ⟨q, -⟩ | ⟨-, g1⟩
          · cases q
          · cases q
          · cases q
          · have back := backOf (R := R) (p := p) (e := e) (below := below) (s := s) (args := args) (len := 3) (W := wt (st.drop na)) (rm := { frames := F - 1, cells := M'.1.length - M.1.length, slots := szL M'.1 - szL M.1, locals := Lb - (wt (st.drop na) + (mx + 11)) }) (Q := fun v' h' L => v' = v.map (conc ρ) ∧ Rel Z W ρ ro n0 h' M' ∧ Fr n0 L) (met_of G hr h3 k4 Rl (R := { frames := F - 1, cells := M'.1.length - M.1.length, slots := szL M'.1 - szL M.1, locals := Lb - (wt (st.drop na) + (mx + 11)) }) (Nat.le_refl _) (Nat.le_refl _) (Nat.le_refl _) (Nat.le_refl _) []) hZ (hw _ k2) (hw _ k3) (by show F - 1 + 1 ≤ _; omega) (by show wt (st.drop na) + (mx + 11) + (Lb - (wt (st.drop na) + (mx + 11))) ≤ _; omega)
            obtain ⟨v', vm₁, ⟨T', Lq, cq', nq⟩, hW₁, X', ⟨L', ⟨rfl, hR', hN'⟩, l', y', z'⟩, st'⟩ := Jvm.LawKit.callS X hx (y := z) hown (mvT hZ (hw _ k1)) (mvT hZ (hw _ (hasStat_mem g1))) (mvT hZ (hw _ k3)) (mvT hZ (hw _ k2)) k5 back (g := mkF m pc (cl ρ ls) (cs ρ st)) rfl hsize (argsL := (st.take na).reverse.map (conc ρ)) (rest := cs ρ (st.drop na))
              (fun sig hs => by rw [← k6 sig hs]; simpa using hna) split_st0 (hW _ rfl) hd (fun _ _ => ⟨rfl, rfl, by show M.1.length - L0.length + (M'.1.length - M.1.length) ≤ _; omega, by show szL M.1 - szL L0 + (szL M'.1 - szL M.1) ≤ _; omega⟩)
            dsimp only [Pt.U, Pt.locs, Pt.cells, Pt.slots] at X' l' y' z' st' hR'
            subst l' y' z'
            refine ⟨T', ⟨_, ?_, Fr.app N hN', hR'⟩, ?_⟩
            · have c1 : M'.1.length - L0.length = M.1.length - L0.length + (M'.1.length - M.1.length) := by omega
              have c2 : szL M'.1 - szL L0 = szL M.1 - szL L0 + (szL M'.1 - szL M.1) := by omega
              rw [c1, c2]; exact X'
            · rw [← toL_conc]; exact st' _ (Steps.refl _)
        · cases hc
      · cases hc
    · cases hc
  · cases hc
set_option maxRecDepth 65536 in
set_option maxHeartbeats 40000000 in
theorem run_good (hw : ∀ d ∈ W, d.before a0 Z = true) (hρ : ∀ a b, ρ a = ρ b → a = b) (hρn : ∀ a, ro ≤ a → ρ a = n0 + (a - ro)) : ∀ n, Good l Z W ρ ro n0 n
  | 0 => fun F Lb y code ret pc ls st M M' v h => by simp [run] at h
  | n + 1 => by
    have G := run_good hw hρ hρn n
    intro F Lb y code ret pc ls st M M' v h p e R s m args below meth c L0 T hx hZ hown hnm hby hret hlocks hsz hF hLb hRc hRs hL hS hs0 hro H
    unfold run at h
    split at h
    · rename_i ins len hdec
      have hd : decode c.code pc = .ok (ins, len) := by rw [hby]; exact hdec
      split at h
      · rename_i pc' ls' st' hP
        split at hP
        · rename_i hlo
          obtain ⟨g1, T', H', g2⟩ := execP_sound H hx hZ hw hown hF hLb hsz hd hlo hP
          obtain ⟨s₂, L, q1, q⟩ := G h hx hZ hown hnm hby hret hlocks (g1.trans hsz) hF hLb hRc hRs hL hS hs0 hro H'
          exact ⟨s₂, L, g2 _ q1, q⟩
        · cases hP
      · split at h
        · rename_i st' M'' hM
          split at hM
          · rename_i hlo
            have q1 := execM_ext hM
            have q2 := run_ext n h
            obtain ⟨T', H', g2⟩ := execM_sound H hx hZ hw hown hnm hρ hρn hL hS hs0 hro (ls := ls) hd hlo (by omega) (by omega) hM
            obtain ⟨s₂, L, q1, q⟩ := G h hx hZ hown hnm hby hret hlocks hsz hF hLb hRc hRs (by omega) (by omega) hs0 hro H'
            exact ⟨s₂, L, g2 _ q1, q⟩
          · cases hM
        · split at h
          · rename_i v' hv
            cases h
            obtain ⟨locs, X, N, Rl⟩ := H
            unfold retOf at hv
            split at hv
            · rename_i hlen
              subst hlen
              split at hv
              · cases hv
                obtain ⟨fs, hr, hrun, hended, hWm, hsame⟩ := X.leave (v := none) (fun _ => rfl) hlocks
                exact ⟨_, locs, X.returnOut hx hret hd hr, hrun, hended, Rl, N, hWm, hsame⟩
              · rename_i zz _ _
                cases hv
                obtain ⟨fs, hr, hrun, hended, hWm, hsame⟩ := X.leave (v := some (.int zz)) (fun q => by rw [hret] at q; cases q) hlocks
                exact ⟨_, locs, X.ireturnOut hx hret rfl (Or.inl rfl) hd hr, hrun, hended, Rl, N, hWm, hsame⟩
              · rename_i zz _ _
                cases hv
                obtain ⟨fs, hr, hrun, hended, hWm, hsame⟩ := X.leave (v := some (.int (zz &&& 1))) (fun q => by rw [hret] at q; cases q) hlocks
                exact ⟨_, locs, retN X hx (t := .boolean) hret (Or.inl rfl) hd hr, hrun, hended, Rl, N, hWm, hsame⟩
              · rename_i zz _ _
                cases hv
                obtain ⟨fs, hr, hrun, hended, hWm, hsame⟩ := X.leave (v := some (.long zz)) (fun q => by rw [hret] at q; cases q) hlocks
                exact ⟨_, locs, X.lreturnOut hx hret hd hr, hrun, hended, Rl, N, hWm, hsame⟩
              · cases hv
            · cases hv
          · split at h
            · rename_i z as rest b mx r hc
              split at h
              · rename_i hcond
                obtain ⟨h1, h2, h3⟩ := hcond
                split at h
                · rename_i v'' M'' hr
                  have q1 := run_ext n hr
                  have q2 := run_ext n h
                  obtain ⟨T', H', g2⟩ := call_sound G hw H hx hZ hown hF hLb hsz hd hc h1 h2 h3 hr hL hS (by omega) (by omega)
                  obtain ⟨s₂, L, q1, q⟩ := G h hx hZ hown hnm hby hret hlocks hsz hF hLb hRc hRs (by omega) (by omega) hs0 hro H'
                  exact ⟨s₂, L, g2.trans q1, q⟩
                · cases h
              · cases h
            · cases h
    · cases h
end S
end Jvm.OwnEv
namespace Jvm.OwnEv
open Sem ClassFile Op Lib Jvm.Stand Jvm.Free Jvm.LawKit Jvm.RoadKit
/-! PART 6: the run comes to an end that Q says: the rules -/
theorem execP_special {W : List Jvm.Cond} {F Lb : Nat} {y : MethodName} {pc len idx : Nat} {ls : List Slot} {st : List Value} {M : EMem} : execP W F Lb y (.invokespecial idx) pc len ls st M = match st with
    | .ref _ :: r => if objInitAt W y.cls idx = true ∧ 1 ≤ F ∧ wt r + 12 ≤ Lb then some (pc + 3, ls, r) else none
    | _ => none := rfl
theorem objInit_no {W : List Jvm.Cond} {own : String} {idx kd : Nat} {z : MethodName} {na : Nat} {b : ByteArray} {mx : Nat} {r : Option FieldType} (h : callAt W own idx kd = some (z, na, b, mx, r)) : objInitAt W own idx = false := by
  cases q : objInitAt W own idx with
  | false => rfl
  | true =>
    have hm : methodLk own idx W = some Lib.objectInit := by
      unfold objInitAt at q
      split at q
      · rename_i z' b' n' r' h1 h2
        simp only [Bool.and_eq_true, decide_eq_true_eq] at q
        rw [h1, q.1.1.1.1]
      · cases q
    have hpn : plainName Lib.objectInit.cls = false := by decide
    unfold callAt at h
    rw [hm] at h
    simp only at h
    split at h
    · split at h
      · rename_i hc
        rw [hpn] at hc
        simp at hc
      · cases h
    · cases h
theorem run_succ {W : List Jvm.Cond} {ro : Nat} : ∀ (n : Nat) {F Lb : Nat} {y : MethodName} {code : ByteArray} {ret : Option FieldType} {pc : Nat} {ls : List Slot} {st : List Value} {M : EMem} {x : Option Value × EMem} {F' Lb' : Nat}, F ≤ F' → Lb ≤ Lb' →
    run W ro n F Lb y code ret pc ls st M = some x → run W ro (n + 1) F' Lb' y code ret pc ls st M = some x
  | 0, _, _, _, _, _, _, _, _, _, _, _, _, _, _, h => by simp [run] at h
  | n + 1, F, Lb, y, code, ret, pc, ls, st, M, x, F', Lb', hF, hL, h => by
    unfold run at h
    unfold run
    split at h
    · rename_i ins len hd
      split at h
      · rename_i pc' ls' st' hP
        have hP' : (if lenOk len ins = true then execP W F' Lb' y ins pc len ls st M else none) = some (pc', ls', st') := by
          split at hP
          · rename_i hl
            rw [if_pos hl]
            by_cases hi : ∃ idx, ins = .invokespecial idx
            · obtain ⟨idx, rfl⟩ := hi
              rw [execP_special] at hP ⊢
              split at hP
              · split at hP
                · rename_i hc
                  rw [if_pos ⟨hc.1, Nat.le_trans hc.2.1 hF, Nat.le_trans hc.2.2 hL⟩]
                  exact hP
                · cases hP
              · cases hP
            · have e : execP W F' Lb' y ins pc len ls st M = execP W F Lb y ins pc len ls st M := by
                cases ins <;> first | rfl | (exact absurd ⟨_, rfl⟩ hi)
              rw [e]; exact hP
          · cases hP
        rw [hP']
        exact run_succ n hF hL h
      · rename_i hP
        split at h
        · rename_i st' M' hM
          have hP' : (if lenOk len ins = true then execP W F' Lb' y ins pc len ls st M else none) = none := by
            split at hP
            · rename_i hl
              rw [if_pos hl]
              rw [if_pos hl] at hM
              cases ins <;> first | exact hP | (simp [execM] at hM)
            · rename_i hl
              rw [if_neg hl]
          rw [hP']
          exact run_succ n hF hL h
        · rename_i hM
          split at h
          · rename_i v hv
            have hP' : (if lenOk len ins = true then execP W F' Lb' y ins pc len ls st M else none) = none := by
              split at hP
              · rename_i hl
                rw [if_pos hl]
                cases ins <;> first | exact hP | (simp [retOf] at hv)
              · rename_i hl
                rw [if_neg hl]
            rw [hP']
            exact h
          · rename_i hv
            split at h
            · rename_i z as rest b mx r hc
              split at h
              · rename_i hcond
                obtain ⟨h1, h2, h3⟩ := hcond
                split at h
                · rename_i v M' hr
                  have hP' : (if lenOk len ins = true then execP W F' Lb' y ins pc len ls st M else none) = none := by
                    split at hP
                    · rename_i hl
                      rw [if_pos hl]
                      by_cases hi : ∃ idx, ins = .invokespecial idx
                      · obtain ⟨idx, rfl⟩ := hi
                        rw [execP_special]
                        split
                        · rw [if_neg]
                          intro q
                          have hcc : ∃ u, callAt W y.cls idx 2 = some u := by
                            cases hcq : callAt W y.cls idx 2 with
                            | some u => exact ⟨u, rfl⟩
                            | none =>
                              have e : ∀ s' : List Value, callOf W y (.invokespecial idx) len s' M = none := fun s' => by
                                unfold callOf
                                split
                                · simp only [hcq]
                                · rfl
                              rw [e] at hc; cases hc
                          obtain ⟨⟨u1, u2, u3, u4, u5⟩, hu⟩ := hcc
                          have q1 := q.1
                          rw [objInit_no hu] at q1
                          cases q1
                        · rfl
                      · have e : execP W F' Lb' y ins pc len ls st M = execP W F Lb y ins pc len ls st M := by
                          cases ins <;> first | rfl | (exact absurd ⟨_, rfl⟩ hi)
                        rw [e]; exact hP
                    · rename_i hl
                      rw [if_neg hl]
                  rw [hP']
                  simp only
                  rw [if_pos ⟨Nat.le_trans h1 hF, Nat.le_trans h2 hL, h3⟩, run_succ n (by omega) (by omega) hr]
                  exact run_succ n hF hL h
                · cases h
              · cases h
            · cases h
    · cases h
theorem run_mono {W : List Jvm.Cond} {ro n n' F Lb : Nat} {y : MethodName} {code : ByteArray} {ret : Option FieldType} {pc : Nat} {ls : List Slot} {st : List Value} {M : EMem} {x : Option Value × EMem} {F' Lb' : Nat} (hn : n < n') (hF : F ≤ F') (hL : Lb ≤ Lb')
    (h : run W ro n F Lb y code ret pc ls st M = some x) : run W ro n' F' Lb' y code ret pc ls st M = some x := by
  have : ∀ k, run W ro (n + 1 + k) F' Lb' y code ret pc ls st M = some x := fun k => by
    induction k with
    | zero => exact run_succ n hF hL h
    | succ k ih => exact run_succ _ (Nat.le_refl _) (Nat.le_refl _) ih
  have e : n' = n + 1 + (n' - (n + 1)) := by omega
  rw [e]; exact this _
def Wp (W : List Jvm.Cond) (ro F Lb : Nat) (y : MethodName) (code : ByteArray) (ret : Option FieldType) (pc : Nat) (ls : List Slot) (st : List Value) (M : EMem) (Q : Option Value → EMem → Prop) : Prop :=
  ∃ n v M', run W ro n F Lb y code ret pc ls st M = some (v, M') ∧ Q v M'
section Rules
variable {W : List Jvm.Cond} {ro F Lb : Nat} {y : MethodName} {code : ByteArray} {ret : Option FieldType} {pc : Nat} {ls : List Slot} {st : List Value} {M : EMem} {Q : Option Value → EMem → Prop}
theorem Wp.mono {Q' : Option Value → EMem → Prop} (h : Wp W ro F Lb y code ret pc ls st M Q) (q : ∀ v M', Q v M' → Q' v M') : Wp W ro F Lb y code ret pc ls st M Q' := by
  obtain ⟨n, v, M', h1, h2⟩ := h; exact ⟨n, v, M', h1, q _ _ h2⟩
theorem Wp.room {F' Lb' : Nat} (hF : F ≤ F') (hL : Lb ≤ Lb') (h : Wp W ro F Lb y code ret pc ls st M Q) : Wp W ro F' Lb' y code ret pc ls st M Q := by
  obtain ⟨n, v, M', h1, h2⟩ := h; exact ⟨n + 1, v, M', run_succ n hF hL h1, h2⟩
theorem Wp.p {ins : Instr} {len pc' : Nat} {ls' : List Slot} {st' : List Value} (hd : decode code pc = .ok (ins, len)) (hl : lenOk len ins = true) (he : execP W F Lb y ins pc len ls st M = some (pc', ls', st')) (k : Wp W ro F Lb y code ret pc' ls' st' M Q) : Wp W ro F Lb y code ret pc ls st M Q := by
  obtain ⟨n, v, M', h1, h2⟩ := k
  refine ⟨n + 1, v, M', ?_, h2⟩
  unfold run
  rw [hd]
  simp only
  rw [if_pos hl, he]
  exact h1
theorem Wp.m {ins : Instr} {len : Nat} {st' : List Value} {M1 : EMem} (hd : decode code pc = .ok (ins, len)) (hl : lenOk len ins = true) (hp : execP W F Lb y ins pc len ls st M = none) (he : execM W ro y ins st M = some (st', M1)) (k : Wp W ro F Lb y code ret (pc + len) ls st' M1 Q) : Wp W ro F Lb y code ret pc ls st M Q := by
  obtain ⟨n, v, M', h1, h2⟩ := k
  refine ⟨n + 1, v, M', ?_, h2⟩
  unfold run
  rw [hd]
  simp only
  rw [if_pos hl, hp]
  simp only
  rw [if_pos hl, he]
  exact h1
theorem Wp.r {ins : Instr} {len : Nat} {v : Option Value} (hd : decode code pc = .ok (ins, len)) (hp : execP W F Lb y ins pc len ls st M = none) (hm : execM W ro y ins st M = none) (hr : retOf ins len ret st = some v) (q : Q v M) : Wp W ro F Lb y code ret pc ls st M Q := by
  refine ⟨1, v, M, ?_, q⟩
  unfold run
  rw [hd]
  simp only
  rw [hp, ite_self, hm, ite_self]
  simp only
  rw [hr]
theorem Wp.c {ins : Instr} {len : Nat} {z : MethodName} {as rest : List Value} {b : ByteArray} {mx : Nat} {r : Option FieldType} {F' Lb' w : Nat} (hd : decode code pc = .ok (ins, len)) (hp : execP W F Lb y ins pc len ls st M = none) (hm : execM W ro y ins st M = none) (hr : retOf ins len ret st = none)
    (hc : callOf W y ins len st M = some (z, as, rest, b, mx, r)) (hw : wt rest = w) (h1 : F' + 1 ≤ F) (h2 : w + (mx + 11) + Lb' ≤ Lb) (h3 : (fillL as).length ≤ mx) (k : Wp W ro F' Lb' z b r 0 (entryL as mx) [] M fun v M' => Wp W ro F Lb y code ret (pc + 3) ls (v.toList ++ rest) M' Q) : Wp W ro F Lb y code ret pc ls st M Q := by
  obtain ⟨n1, v1, M1, k1, n2, v2, M2, k2, hq⟩ := k
  subst hw
  refine ⟨n1 + n2 + 3, v2, M2, ?_, hq⟩
  unfold run
  rw [hd]
  simp only
  rw [hp, ite_self, hm, ite_self]
  simp only
  rw [hr, hc]
  simp only
  rw [if_pos ⟨by omega, by omega, h3⟩, run_mono (n' := n1 + n2 + 2) (by omega) (by omega) (by omega) k1]
  exact run_mono (by omega) (Nat.le_refl _) (Nat.le_refl _) k2
theorem Wp.icmp {cd : ClassFile.Cond} {o : Int} {t : Nat} {a b : Int32} {r : List Value} (hd : decode code pc = .ok (.if_icmp cd o, 3)) (hj : jump pc o = some t) (k1 : if_icmp.holds cd a b = true → Wp W ro F Lb y code ret t ls r M Q) (k2 : if_icmp.holds cd a b = false → Wp W ro F Lb y code ret (pc + 3) ls r M Q) : Wp W ro F Lb y code ret pc ls (.int b :: .int a :: r) M Q := by
  have he : execP W F Lb y (.if_icmp cd o) pc 3 ls (.int b :: .int a :: r) M = some (if if_icmp.holds cd a b = true then t else pc + 3, ls, r) := by simp only [execP, hj]
  refine Wp.p hd rfl he ?_
  cases h : if_icmp.holds cd a b with
  | true => rw [if_pos rfl]; exact k1 h
  | false => rw [if_neg Bool.false_ne_true]; exact k2 h
theorem Wp.if0 {cd : ClassFile.Cond} {o : Int} {t : Nat} {a : Int32} {r : List Value} (hd : decode code pc = .ok (.ifCond cd o, 3)) (hj : jump pc o = some t) (k1 : if_icmp.holds cd a 0 = true → Wp W ro F Lb y code ret t ls r M Q) (k2 : if_icmp.holds cd a 0 = false → Wp W ro F Lb y code ret (pc + 3) ls r M Q) : Wp W ro F Lb y code ret pc ls (.int a :: r) M Q := by
  have he : execP W F Lb y (.ifCond cd o) pc 3 ls (.int a :: r) M = some (if ifCond.holds cd a = true then t else pc + 3, ls, r) := by simp only [execP, hj]
  refine Wp.p hd rfl he ?_
  rw [RoadKit.if0]
  cases h : if_icmp.holds cd a 0 with
  | true => rw [if_pos rfl]; exact k1 h
  | false => rw [if_neg Bool.false_ne_true]; exact k2 h
theorem Wp.icmp_lt {o : Int} {t : Nat} {a b : Int32} {r : List Value} (hd : decode code pc = .ok (.if_icmp .lt o, 3)) (hj : jump pc o = some t) (k1 : a < b → Wp W ro F Lb y code ret t ls r M Q) (k2 : ¬ a < b → Wp W ro F Lb y code ret (pc + 3) ls r M Q) : Wp W ro F Lb y code ret pc ls (.int b :: .int a :: r) M Q :=
  Wp.icmp hd hj (fun h => k1 (Classical.byContradiction fun q => by rw [(flt (x := a) (y := b) (by exact q)).1] at h; cases h)) (fun h => k2 (Classical.byContradiction fun q => by rw [(tlt (x := a) (y := b) (by simpa using q)).1] at h; cases h))
theorem Wp.if_lt {o : Int} {t : Nat} {a : Int32} {r : List Value} (hd : decode code pc = .ok (.ifCond .lt o, 3)) (hj : jump pc o = some t) (k1 : a < 0 → Wp W ro F Lb y code ret t ls r M Q) (k2 : ¬ a < 0 → Wp W ro F Lb y code ret (pc + 3) ls r M Q) : Wp W ro F Lb y code ret pc ls (.int a :: r) M Q :=
  Wp.if0 hd hj (fun h => k1 (Classical.byContradiction fun q => by rw [(flt (x := a) (y := 0) (by exact q)).1] at h; cases h)) (fun h => k2 (Classical.byContradiction fun q => by rw [(tlt (x := a) (y := 0) (by simpa using q)).1] at h; cases h))
theorem Wp.icmp_ge {o : Int} {t : Nat} {a b : Int32} {r : List Value} (hd : decode code pc = .ok (.if_icmp .ge o, 3)) (hj : jump pc o = some t) (k1 : ¬ a < b → Wp W ro F Lb y code ret t ls r M Q) (k2 : a < b → Wp W ro F Lb y code ret (pc + 3) ls r M Q) : Wp W ro F Lb y code ret pc ls (.int b :: .int a :: r) M Q :=
  Wp.icmp hd hj (fun h => k1 (Classical.byContradiction fun q => by rw [(tlt (x := a) (y := b) (by simpa using q)).2.1] at h; cases h)) (fun h => k2 (Classical.byContradiction fun q => by rw [(flt (x := a) (y := b) (by exact q)).2.1] at h; cases h))
theorem Wp.if_ge {o : Int} {t : Nat} {a : Int32} {r : List Value} (hd : decode code pc = .ok (.ifCond .ge o, 3)) (hj : jump pc o = some t) (k1 : ¬ a < 0 → Wp W ro F Lb y code ret t ls r M Q) (k2 : a < 0 → Wp W ro F Lb y code ret (pc + 3) ls r M Q) : Wp W ro F Lb y code ret pc ls (.int a :: r) M Q :=
  Wp.if0 hd hj (fun h => k1 (Classical.byContradiction fun q => by rw [(tlt (x := a) (y := 0) (by simpa using q)).2.1] at h; cases h)) (fun h => k2 (Classical.byContradiction fun q => by rw [(flt (x := a) (y := 0) (by exact q)).2.1] at h; cases h))
theorem Wp.icmp_gt {o : Int} {t : Nat} {a b : Int32} {r : List Value} (hd : decode code pc = .ok (.if_icmp .gt o, 3)) (hj : jump pc o = some t) (k1 : b < a → Wp W ro F Lb y code ret t ls r M Q) (k2 : ¬ b < a → Wp W ro F Lb y code ret (pc + 3) ls r M Q) : Wp W ro F Lb y code ret pc ls (.int b :: .int a :: r) M Q :=
  Wp.icmp hd hj (fun h => k1 (Classical.byContradiction fun q => by rw [(flt (x := b) (y := a) (by exact q)).2.2.1] at h; cases h)) (fun h => k2 (Classical.byContradiction fun q => by rw [(tlt (x := b) (y := a) (by simpa using q)).2.2.1] at h; cases h))
theorem Wp.if_gt {o : Int} {t : Nat} {a : Int32} {r : List Value} (hd : decode code pc = .ok (.ifCond .gt o, 3)) (hj : jump pc o = some t) (k1 : 0 < a → Wp W ro F Lb y code ret t ls r M Q) (k2 : ¬ 0 < a → Wp W ro F Lb y code ret (pc + 3) ls r M Q) : Wp W ro F Lb y code ret pc ls (.int a :: r) M Q :=
  Wp.if0 hd hj (fun h => k1 (Classical.byContradiction fun q => by rw [(flt (x := 0) (y := a) (by exact q)).2.2.1] at h; cases h)) (fun h => k2 (Classical.byContradiction fun q => by rw [(tlt (x := 0) (y := a) (by simpa using q)).2.2.1] at h; cases h))
theorem Wp.icmp_le {o : Int} {t : Nat} {a b : Int32} {r : List Value} (hd : decode code pc = .ok (.if_icmp .le o, 3)) (hj : jump pc o = some t) (k1 : ¬ b < a → Wp W ro F Lb y code ret t ls r M Q) (k2 : b < a → Wp W ro F Lb y code ret (pc + 3) ls r M Q) : Wp W ro F Lb y code ret pc ls (.int b :: .int a :: r) M Q :=
  Wp.icmp hd hj (fun h => k1 (Classical.byContradiction fun q => by rw [(tlt (x := b) (y := a) (by simpa using q)).2.2.2] at h; cases h)) (fun h => k2 (Classical.byContradiction fun q => by rw [(flt (x := b) (y := a) (by exact q)).2.2.2] at h; cases h))
theorem Wp.if_le {o : Int} {t : Nat} {a : Int32} {r : List Value} (hd : decode code pc = .ok (.ifCond .le o, 3)) (hj : jump pc o = some t) (k1 : ¬ 0 < a → Wp W ro F Lb y code ret t ls r M Q) (k2 : 0 < a → Wp W ro F Lb y code ret (pc + 3) ls r M Q) : Wp W ro F Lb y code ret pc ls (.int a :: r) M Q :=
  Wp.if0 hd hj (fun h => k1 (Classical.byContradiction fun q => by rw [(tlt (x := 0) (y := a) (by simpa using q)).2.2.2] at h; cases h)) (fun h => k2 (Classical.byContradiction fun q => by rw [(flt (x := 0) (y := a) (by exact q)).2.2.2] at h; cases h))
theorem Wp.icmp_eq {o : Int} {t : Nat} {a b : Int32} {r : List Value} (hd : decode code pc = .ok (.if_icmp .eq o, 3)) (hj : jump pc o = some t) (k1 : a = b → Wp W ro F Lb y code ret t ls r M Q) (k2 : ¬ a = b → Wp W ro F Lb y code ret (pc + 3) ls r M Q) : Wp W ro F Lb y code ret pc ls (.int b :: .int a :: r) M Q :=
  Wp.icmp hd hj (fun h => k1 (Classical.byContradiction fun q => by rw [(feq (x := a) (y := b) (by exact q)).1] at h; cases h)) (fun h => k2 (Classical.byContradiction fun q => by rw [(teq (x := a) (y := b) (by simpa using q)).1] at h; cases h))
theorem Wp.if_eq {o : Int} {t : Nat} {a : Int32} {r : List Value} (hd : decode code pc = .ok (.ifCond .eq o, 3)) (hj : jump pc o = some t) (k1 : a = 0 → Wp W ro F Lb y code ret t ls r M Q) (k2 : ¬ a = 0 → Wp W ro F Lb y code ret (pc + 3) ls r M Q) : Wp W ro F Lb y code ret pc ls (.int a :: r) M Q :=
  Wp.if0 hd hj (fun h => k1 (Classical.byContradiction fun q => by rw [(feq (x := a) (y := 0) (by exact q)).1] at h; cases h)) (fun h => k2 (Classical.byContradiction fun q => by rw [(teq (x := a) (y := 0) (by simpa using q)).1] at h; cases h))
theorem Wp.icmp_ne {o : Int} {t : Nat} {a b : Int32} {r : List Value} (hd : decode code pc = .ok (.if_icmp .ne o, 3)) (hj : jump pc o = some t) (k1 : ¬ a = b → Wp W ro F Lb y code ret t ls r M Q) (k2 : a = b → Wp W ro F Lb y code ret (pc + 3) ls r M Q) : Wp W ro F Lb y code ret pc ls (.int b :: .int a :: r) M Q :=
  Wp.icmp hd hj (fun h => k1 (Classical.byContradiction fun q => by rw [(teq (x := a) (y := b) (by simpa using q)).2] at h; cases h)) (fun h => k2 (Classical.byContradiction fun q => by rw [(feq (x := a) (y := b) (by exact q)).2] at h; cases h))
theorem Wp.if_ne {o : Int} {t : Nat} {a : Int32} {r : List Value} (hd : decode code pc = .ok (.ifCond .ne o, 3)) (hj : jump pc o = some t) (k1 : ¬ a = 0 → Wp W ro F Lb y code ret t ls r M Q) (k2 : a = 0 → Wp W ro F Lb y code ret (pc + 3) ls r M Q) : Wp W ro F Lb y code ret pc ls (.int a :: r) M Q :=
  Wp.if0 hd hj (fun h => k1 (Classical.byContradiction fun q => by rw [(teq (x := a) (y := 0) (by simpa using q)).2] at h; cases h)) (fun h => k2 (Classical.byContradiction fun q => by rw [(feq (x := a) (y := 0) (by exact q)).2] at h; cases h))
variable {L : ELay} {mi : Nat → Nat → Int32} {ml : Nat → Nat → Int64} {mr : Nat → Nat → Value}
theorem Wp.iconst {i : Int} {r : List Value} (v : Int32) (hd : decode code pc = .ok (.iconst i, 1)) (hv : Int32.ofInt i = v) (k : Wp W ro F Lb y code ret (pc + 1) ls (.int v :: r) M Q) : Wp W ro F Lb y code ret pc ls r M Q := by
  subst hv; exact Wp.p hd rfl rfl k
theorem Wp.bipush {i : Int} {r : List Value} (v : Int32) (hd : decode code pc = .ok (.bipush i, 2)) (hv : (Int8.ofInt i).toInt32 = v) (k : Wp W ro F Lb y code ret (pc + 2) ls (.int v :: r) M Q) : Wp W ro F Lb y code ret pc ls r M Q := by
  subst hv; exact Wp.p hd rfl rfl k
theorem Wp.sipush {i : Int} {r : List Value} (v : Int32) (hd : decode code pc = .ok (.sipush i, 3)) (hv : (Int16.ofInt i).toInt32 = v) (k : Wp W ro F Lb y code ret (pc + 3) ls (.int v :: r) M Q) : Wp W ro F Lb y code ret pc ls r M Q := by
  subst hv; exact Wp.p hd rfl rfl k
theorem Wp.lconst {i : Fin 2} {r : List Value} (v : Int64) (hd : decode code pc = .ok (.lconst i, 1)) (hv : Int64.ofNat i = v) (k : Wp W ro F Lb y code ret (pc + 1) ls (.long v :: r) M Q) : Wp W ro F Lb y code ret pc ls r M Q := by
  subst hv; exact Wp.p hd rfl rfl k
theorem Wp.iinc {i : Nat} {d : Int} {x : Int32} {l' : List Slot} (v : Int32) (hd : decode code pc = .ok (.iinc i d, 3)) (hv : Int32.ofInt d = v) (hl : ls[i]? = some (.val (.int x))) (hs : storeL ls i (.int (x + v)) = some l') (k : Wp W ro F Lb y code ret (pc + 3) l' st M Q) : Wp W ro F Lb y code ret pc ls st M Q := by
  subst hv
  exact Wp.p hd rfl (by simp only [execP, hl, hs]) k
theorem Wp.ldc {i : Nat} {r : List Value} {v : Int32} (hd : decode code pc = .ok (.ldc i, 2)) (hv : intLk y.cls i W = some v) (k : Wp W ro F Lb y code ret (pc + 2) ls (.int v :: r) M Q) : Wp W ro F Lb y code ret pc ls r M Q :=
  Wp.p hd rfl (by simp only [execP, hv]) k
theorem Wp.ldcw {i : Nat} {r : List Value} {v : Int32} (hd : decode code pc = .ok (.ldc_w i, 3)) (hv : intLk y.cls i W = some v) (k : Wp W ro F Lb y code ret (pc + 3) ls (.int v :: r) M Q) : Wp W ro F Lb y code ret pc ls r M Q :=
  Wp.p hd rfl (by simp only [execP, hv]) k
theorem Wp.ldc2 {i : Nat} {r : List Value} {v : Int64} (hd : decode code pc = .ok (.ldc2_w i, 3)) (hv : longLk y.cls i W = some v) (k : Wp W ro F Lb y code ret (pc + 3) ls (.long v :: r) M Q) : Wp W ro F Lb y code ret pc ls r M Q :=
  Wp.p hd rfl (by simp only [execP, hv]) k
theorem Wp.getI {i a k n : Nat} {C : String} {fin : Bool} {r : List Value} (v : Int32) (hd : decode code pc = .ok (.getfield i, 3)) (hf : fieldAt W y.cls i = some (C, k, 1, fin)) (hc : L[a]? = some (0, C, n)) (hv : mi a k = v) (q : Wp W ro F Lb y code ret (pc + 3) ls (.int v :: r) (L, mi, ml, mr) Q) : Wp W ro F Lb y code ret pc ls (.ref a :: r) (L, mi, ml, mr) Q := by
  subst hv
  exact Wp.p hd rfl (by simp only [execP, hf, hc, getV, if_true]) q
theorem Wp.getZ {i a k n : Nat} {C : String} {fin : Bool} {r : List Value} (v : Int32) (hd : decode code pc = .ok (.getfield i, 3)) (hf : fieldAt W y.cls i = some (C, k, 2, fin)) (hc : L[a]? = some (0, C, n)) (hv : mi a k = v) (q : Wp W ro F Lb y code ret (pc + 3) ls (.int v :: r) (L, mi, ml, mr) Q) : Wp W ro F Lb y code ret pc ls (.ref a :: r) (L, mi, ml, mr) Q := by
  subst hv
  exact Wp.p hd rfl (by simp only [execP, hf, hc, getV, if_true]) q
theorem Wp.getJ {i a k n : Nat} {C : String} {fin : Bool} {r : List Value} (v : Int64) (hd : decode code pc = .ok (.getfield i, 3)) (hf : fieldAt W y.cls i = some (C, k, 3, fin)) (hc : L[a]? = some (0, C, n)) (hv : ml a k = v) (q : Wp W ro F Lb y code ret (pc + 3) ls (.long v :: r) (L, mi, ml, mr) Q) : Wp W ro F Lb y code ret pc ls (.ref a :: r) (L, mi, ml, mr) Q := by
  subst hv
  exact Wp.p hd rfl (by simp only [execP, hf, hc, getV, if_true]) q
theorem Wp.getR {i a k n b : Nat} {C : String} {fin : Bool} {r : List Value} (hd : decode code pc = .ok (.getfield i, 3)) (hf : fieldAt W y.cls i = some (C, k, 4, fin)) (hc : L[a]? = some (0, C, n)) (hr : mr a k = .ref b) (q : Wp W ro F Lb y code ret (pc + 3) ls (.ref b :: r) (L, mi, ml, mr) Q) : Wp W ro F Lb y code ret pc ls (.ref a :: r) (L, mi, ml, mr) Q :=
  Wp.p hd rfl (by simp only [execP, hf, hc, getV, if_true, hr]) q
theorem Wp.len {a n kd : Nat} {u : String} {r : List Value} (hd : decode code pc = .ok (.arraylength, 1)) (hc : L[a]? = some (kd, u, n)) (hk : kd = 1 ∨ kd = 2 ∨ kd = 3) (q : Wp W ro F Lb y code ret (pc + 1) ls (.int n.toInt32 :: r) (L, mi, ml, mr) Q) : Wp W ro F Lb y code ret pc ls (.ref a :: r) (L, mi, ml, mr) Q := by
  rcases hk with rfl | rfl | rfl <;> exact Wp.p hd rfl (by simp only [execP, hc]) q
theorem Wp.iaload {a n k : Nat} {u : String} {j : Int32} {r : List Value} (v : Int32) (hd : decode code pc = .ok (.iaload, 1)) (hc : L[a]? = some (1, u, n)) (hk : j.toNatClampNeg = k) (hj : inb j n = true) (hv : mi a k = v) (q : Wp W ro F Lb y code ret (pc + 1) ls (.int v :: r) (L, mi, ml, mr) Q) : Wp W ro F Lb y code ret pc ls (.int j :: .ref a :: r) (L, mi, ml, mr) Q := by
  subst hk hv
  exact Wp.p hd rfl (by simp only [execP, hc, hj, if_true]) q
theorem Wp.baload {a n k : Nat} {u : String} {j : Int32} {r : List Value} (v : Int32) (hd : decode code pc = .ok (.baload, 1)) (hc : L[a]? = some (3, u, n)) (hk : j.toNatClampNeg = k) (hj : inb j n = true) (hv : mi a k = v) (q : Wp W ro F Lb y code ret (pc + 1) ls (.int v :: r) (L, mi, ml, mr) Q) : Wp W ro F Lb y code ret pc ls (.int j :: .ref a :: r) (L, mi, ml, mr) Q := by
  subst hk hv
  exact Wp.p hd rfl (by simp only [execP, hc, hj, if_true]) q
theorem Wp.laload {a n k : Nat} {u : String} {j : Int32} {r : List Value} (v : Int64) (hd : decode code pc = .ok (.laload, 1)) (hc : L[a]? = some (2, u, n)) (hk : j.toNatClampNeg = k) (hj : inb j n = true) (hv : ml a k = v) (q : Wp W ro F Lb y code ret (pc + 1) ls (.long v :: r) (L, mi, ml, mr) Q) : Wp W ro F Lb y code ret pc ls (.int j :: .ref a :: r) (L, mi, ml, mr) Q := by
  subst hk hv
  exact Wp.p hd rfl (by simp only [execP, hc, hj, if_true]) q
theorem Wp.iastore {a n k : Nat} {u : String} {j x : Int32} {r : List Value} (hd : decode code pc = .ok (.iastore, 1)) (hc : L[a]? = some (1, u, n)) (hk : j.toNatClampNeg = k) (hj : inb j n = true) (ha : ro ≤ a) (q : Wp W ro F Lb y code ret (pc + 1) ls r (L, up mi a k x, ml, mr) Q) : Wp W ro F Lb y code ret pc ls (.int x :: .int j :: .ref a :: r) (L, mi, ml, mr) Q := by
  subst hk
  exact Wp.m hd rfl rfl (by simp only [execM, hc]; rw [if_pos ⟨hj, ha⟩]) q
theorem Wp.bastore {a n k : Nat} {u : String} {j x : Int32} {r : List Value} (v : Int32) (hd : decode code pc = .ok (.bastore, 1)) (hc : L[a]? = some (3, u, n)) (hk : j.toNatClampNeg = k) (hj : inb j n = true) (ha : ro ≤ a) (hv : x &&& 1 = v) (q : Wp W ro F Lb y code ret (pc + 1) ls r (L, up mi a k v, ml, mr) Q) : Wp W ro F Lb y code ret pc ls (.int x :: .int j :: .ref a :: r) (L, mi, ml, mr) Q := by
  subst hk hv
  exact Wp.m hd rfl rfl (by simp only [execM, hc]; rw [if_pos ⟨hj, ha⟩]) q
theorem Wp.lastore {a n k : Nat} {u : String} {j : Int32} {x : Int64} {r : List Value} (hd : decode code pc = .ok (.lastore, 1)) (hc : L[a]? = some (2, u, n)) (hk : j.toNatClampNeg = k) (hj : inb j n = true) (ha : ro ≤ a) (q : Wp W ro F Lb y code ret (pc + 1) ls r (L, mi, up ml a k x, mr) Q) : Wp W ro F Lb y code ret pc ls (.long x :: .int j :: .ref a :: r) (L, mi, ml, mr) Q := by
  subst hk
  exact Wp.m hd rfl rfl (by simp only [execM, hc]; rw [if_pos ⟨hj, ha⟩]) q
theorem Wp.putI {i a k n u : Nat} {C : String} {fin : Bool} {x : Int32} {r : List Value} (hd : decode code pc = .ok (.putfield i, 3)) (hf : fieldAt W y.cls i = some (C, k, 1, fin)) (hc : L[a]? = some (0, C, n)) (ha : ro ≤ a) (hi : instLk C W = some u) (hfin : fin = false ∨ (y.cls = C ∧ y.name = "<init>")) (q : Wp W ro F Lb y code ret (pc + 3) ls r (L, up mi a k x, ml, mr) Q) : Wp W ro F Lb y code ret pc ls (.int x :: .ref a :: r) (L, mi, ml, mr) Q :=
  Wp.m hd rfl rfl (by simp only [execM, hf, hc]; rw [if_pos ⟨trivial, ha, hfin, by rw [hi]; rfl⟩]) q
theorem Wp.putZ {i a k n u : Nat} {C : String} {fin : Bool} {x : Int32} {r : List Value} (v : Int32) (hd : decode code pc = .ok (.putfield i, 3)) (hf : fieldAt W y.cls i = some (C, k, 2, fin)) (hc : L[a]? = some (0, C, n)) (ha : ro ≤ a) (hi : instLk C W = some u) (hfin : fin = false ∨ (y.cls = C ∧ y.name = "<init>")) (hv : x &&& 1 = v) (q : Wp W ro F Lb y code ret (pc + 3) ls r (L, up mi a k v, ml, mr) Q) : Wp W ro F Lb y code ret pc ls (.int x :: .ref a :: r) (L, mi, ml, mr) Q := by
  subst hv
  exact Wp.m hd rfl rfl (by simp only [execM, hf, hc]; rw [if_pos ⟨trivial, ha, hfin, by rw [hi]; rfl⟩]) q
theorem Wp.putJ {i a k n u : Nat} {C : String} {fin : Bool} {x : Int64} {r : List Value} (hd : decode code pc = .ok (.putfield i, 3)) (hf : fieldAt W y.cls i = some (C, k, 3, fin)) (hc : L[a]? = some (0, C, n)) (ha : ro ≤ a) (hi : instLk C W = some u) (hfin : fin = false ∨ (y.cls = C ∧ y.name = "<init>")) (q : Wp W ro F Lb y code ret (pc + 3) ls r (L, mi, up ml a k x, mr) Q) : Wp W ro F Lb y code ret pc ls (.long x :: .ref a :: r) (L, mi, ml, mr) Q :=
  Wp.m hd rfl rfl (by simp only [execM, hf, hc]; rw [if_pos ⟨trivial, ha, hfin, by rw [hi]; rfl⟩]) q
theorem Wp.putR {i a k n u b : Nat} {C : String} {fin : Bool} {r : List Value} (hd : decode code pc = .ok (.putfield i, 3)) (hf : fieldAt W y.cls i = some (C, k, 4, fin)) (hc : L[a]? = some (0, C, n)) (ha : ro ≤ a) (hi : instLk C W = some u) (hfin : fin = false ∨ (y.cls = C ∧ y.name = "<init>")) (q : Wp W ro F Lb y code ret (pc + 3) ls r (L, mi, ml, up mr a k (.ref b)) Q) : Wp W ro F Lb y code ret pc ls (.ref b :: .ref a :: r) (L, mi, ml, mr) Q :=
  Wp.m hd rfl rfl (by simp only [execM, hf, hc]; rw [if_pos ⟨trivial, ha, hfin, by rw [hi]; rfl⟩]) q
theorem Wp.new {i n a : Nat} {L' : ELay} {C : String} {r : List Value} (hd : decode code pc = .ok (.new i, 3)) (hn : newAt W y.cls i = some (C, n)) (ha : L.length = a) (hL : L ++ [(0, C, n)] = L') (q : Wp W ro F Lb y code ret (pc + 3) ls (.ref a :: r) (L', mi, ml, mr) Q) : Wp W ro F Lb y code ret pc ls r (L, mi, ml, mr) Q := by
  subst ha hL
  exact Wp.m hd rfl rfl (by simp only [execM, hn]) q
theorem Wp.new_int {n : Int32} {a z : Nat} {L' : ELay} {r : List Value} (hd : decode code pc = .ok (.newarray .int, 2)) (ha : hasArr .int W = true) (hn : ¬ n < 0 ∧ n.toNatClampNeg * 8 ≤ 536870912) (hz : n.toNatClampNeg = z) (he : L.length = a) (hL : L ++ [(1, "", z)] = L') (q : Wp W ro F Lb y code ret (pc + 2) ls (.ref a :: r) (L', mi, ml, mr) Q) : Wp W ro F Lb y code ret pc ls (.int n :: r) (L, mi, ml, mr) Q := by
  subst hz he hL
  exact Wp.m hd rfl rfl (by simp only [execM]; rw [if_pos ⟨hn.1, hn.2, ha⟩]) q
theorem Wp.new_long {n : Int32} {a z : Nat} {L' : ELay} {r : List Value} (hd : decode code pc = .ok (.newarray .long, 2)) (ha : hasArr .long W = true) (hn : ¬ n < 0 ∧ n.toNatClampNeg * 8 ≤ 536870912) (hz : n.toNatClampNeg = z) (he : L.length = a) (hL : L ++ [(2, "", z)] = L') (q : Wp W ro F Lb y code ret (pc + 2) ls (.ref a :: r) (L', mi, ml, mr) Q) : Wp W ro F Lb y code ret pc ls (.int n :: r) (L, mi, ml, mr) Q := by
  subst hz he hL
  exact Wp.m hd rfl rfl (by simp only [execM]; rw [if_pos ⟨hn.1, hn.2, ha⟩]) q
theorem Wp.new_boolean {n : Int32} {a z : Nat} {L' : ELay} {r : List Value} (hd : decode code pc = .ok (.newarray .boolean, 2)) (ha : hasArr .boolean W = true) (hn : ¬ n < 0 ∧ n.toNatClampNeg * 8 ≤ 536870912) (hz : n.toNatClampNeg = z) (he : L.length = a) (hL : L ++ [(3, "", z)] = L') (q : Wp W ro F Lb y code ret (pc + 2) ls (.ref a :: r) (L', mi, ml, mr) Q) : Wp W ro F Lb y code ret pc ls (.int n :: r) (L, mi, ml, mr) Q := by
  subst hz he hL
  exact Wp.m hd rfl rfl (by simp only [execM]; rw [if_pos ⟨hn.1, hn.2, ha⟩]) q
theorem Wp.objInit {i a w : Nat} {r : List Value} (hd : decode code pc = .ok (.invokespecial i, 3)) (ho : objInitAt W y.cls i = true) (hw : wt r = w) (h1 : 1 ≤ F) (h2 : w + 12 ≤ Lb) (q : Wp W ro F Lb y code ret (pc + 3) ls r M Q) : Wp W ro F Lb y code ret pc ls (.ref a :: r) M Q :=
  Wp.p hd rfl (by simp only [execP]; rw [if_pos ⟨ho, h1, by rw [hw]; exact h2⟩]) q
/-- a private method -/
theorem Wp.callP {i na mx a n F' Lb' w : Nat} {z : MethodName} {b : ByteArray} {rt : Option FieldType} {as rest : List Value} (hd : decode code pc = .ok (.invokevirtual i, 3)) (hc : callAt W y.cls i 1 = some (z, na, b, mx, rt)) (hl : L[a]? = some (0, z.cls, n)) (hs : st = as.reverse ++ .ref a :: rest) (hna : as.length = na) (hw : wt rest = w) (h1 : F' + 1 ≤ F) (h2 : w + (mx + 11) + Lb' ≤ Lb) (h3 : (fillL (.ref a :: as)).length ≤ mx)
    (k : Wp W ro F' Lb' z b rt 0 (entryL (.ref a :: as) mx) [] (L, mi, ml, mr) fun v M' => Wp W ro F Lb y code ret (pc + 3) ls (v.toList ++ rest) M' Q) : Wp W ro F Lb y code ret pc ls st (L, mi, ml, mr) Q := by
  subst hs hna
  refine Wp.c hd rfl rfl rfl ?_ hw h1 h2 h3 k
  have e1 : (as.reverse ++ Value.ref a :: rest).drop as.length = .ref a :: rest := by rw [← List.length_reverse (as := as), List.drop_left]
  have e2 : (as.reverse ++ Value.ref a :: rest).take as.length = as.reverse := by rw [← List.length_reverse (as := as), List.take_left]
  simp only [callOf, if_true, hc, e1, e2, hl, List.length_reverse, and_self, List.reverse_reverse]
theorem Wp.callV {i na mx a n F' Lb' w : Nat} {z : MethodName} {b : ByteArray} {rt : Option FieldType} {as rest : List Value} (hd : decode code pc = .ok (.invokevirtual i, 3)) (hc0 : callAt W y.cls i 1 = none) (hc : callAt W y.cls i 0 = some (z, na, b, mx, rt)) (hl : L[a]? = some (0, z.cls, n)) (hs : st = as.reverse ++ .ref a :: rest) (hna : as.length = na) (hw : wt rest = w) (h1 : F' + 1 ≤ F) (h2 : w + (mx + 11) + Lb' ≤ Lb) (h3 : (fillL (.ref a :: as)).length ≤ mx)
    (k : Wp W ro F' Lb' z b rt 0 (entryL (.ref a :: as) mx) [] (L, mi, ml, mr) fun v M' => Wp W ro F Lb y code ret (pc + 3) ls (v.toList ++ rest) M' Q) : Wp W ro F Lb y code ret pc ls st (L, mi, ml, mr) Q := by
  subst hs hna
  refine Wp.c hd rfl rfl rfl ?_ hw h1 h2 h3 k
  have e1 : (as.reverse ++ Value.ref a :: rest).drop as.length = .ref a :: rest := by rw [← List.length_reverse (as := as), List.drop_left]
  have e2 : (as.reverse ++ Value.ref a :: rest).take as.length = as.reverse := by rw [← List.length_reverse (as := as), List.take_left]
  simp only [callOf, if_true, hc0, hc, e1, e2, hl, List.length_reverse, and_self, List.reverse_reverse]
theorem Wp.callI {i na mx a F' Lb' w : Nat} {z : MethodName} {b : ByteArray} {rt : Option FieldType} {as rest : List Value} (hd : decode code pc = .ok (.invokespecial i, 3)) (ho : objInitAt W y.cls i = false) (hc : callAt W y.cls i 2 = some (z, na, b, mx, rt)) (hs : st = as.reverse ++ .ref a :: rest) (hna : as.length = na) (hw : wt rest = w) (h1 : F' + 1 ≤ F) (h2 : w + (mx + 11) + Lb' ≤ Lb) (h3 : (fillL (.ref a :: as)).length ≤ mx)
    (k : Wp W ro F' Lb' z b rt 0 (entryL (.ref a :: as) mx) [] M fun v M' => Wp W ro F Lb y code ret (pc + 3) ls (v.toList ++ rest) M' Q) : Wp W ro F Lb y code ret pc ls st M Q := by
  subst hs hna
  refine Wp.c hd ?_ rfl rfl ?_ hw h1 h2 h3 k
  · have e : ∀ s' : List Value, execP W F Lb y (.invokespecial i) pc 3 ls s' M = none := fun s' => by
      simp only [execP, ho]
      split
      · rw [if_neg]; intro q; cases q.1
      · rfl
    exact e _
  have e1 : (as.reverse ++ Value.ref a :: rest).drop as.length = .ref a :: rest := by rw [← List.length_reverse (as := as), List.drop_left]
  have e2 : (as.reverse ++ Value.ref a :: rest).take as.length = as.reverse := by rw [← List.length_reverse (as := as), List.take_left]
  simp only [callOf, if_true, hc, e1, e2, List.length_reverse, List.reverse_reverse]
theorem Wp.callS {i na mx F' Lb' w : Nat} {z : MethodName} {b : ByteArray} {rt : Option FieldType} {as rest : List Value} (hd : decode code pc = .ok (.invokestatic i, 3)) (hc : callAt W y.cls i 3 = some (z, na, b, mx, rt)) (hs : st = as.reverse ++ rest) (hna : as.length = na) (hw : wt rest = w) (h1 : F' + 1 ≤ F) (h2 : w + (mx + 11) + Lb' ≤ Lb) (h3 : (fillL as).length ≤ mx)
    (k : Wp W ro F' Lb' z b rt 0 (entryL as mx) [] M fun v M' => Wp W ro F Lb y code ret (pc + 3) ls (v.toList ++ rest) M' Q) : Wp W ro F Lb y code ret pc ls st M Q := by
  subst hs hna
  refine Wp.c hd rfl rfl rfl ?_ hw h1 h2 h3 k
  have e1 : (as.reverse ++ rest).drop as.length = rest := by rw [← List.length_reverse (as := as), List.drop_left]
  have e2 : (as.reverse ++ rest).take as.length = as.reverse := by rw [← List.length_reverse (as := as), List.take_left]
  simp only [callOf, if_true, hc, e1, e2, List.length_reverse, List.reverse_reverse]
theorem Wp.top {a : Int32} {r : List Value} (v : Int32) (h : a = v) (k : Wp W ro F Lb y code ret pc ls (.int v :: r) M Q) : Wp W ro F Lb y code ret pc ls (.int a :: r) M Q := by subst h; exact k
theorem Wp.topJ {a : Int64} {r : List Value} (v : Int64) (h : a = v) (k : Wp W ro F Lb y code ret pc ls (.long v :: r) M Q) : Wp W ro F Lb y code ret pc ls (.long a :: r) M Q := by subst h; exact k
theorem Wp.icmpT {cd : ClassFile.Cond} {o : Int} {t : Nat} {a b : Int32} {r : List Value} (hd : decode code pc = .ok (.if_icmp cd o, 3)) (hj : jump pc o = some t) (h : if_icmp.holds cd a b = true) (k : Wp W ro F Lb y code ret t ls r M Q) : Wp W ro F Lb y code ret pc ls (.int b :: .int a :: r) M Q :=
  Wp.icmp hd hj (fun _ => k) (fun q => by rw [h] at q; cases q)
theorem Wp.icmpF {cd : ClassFile.Cond} {o : Int} {t : Nat} {a b : Int32} {r : List Value} (hd : decode code pc = .ok (.if_icmp cd o, 3)) (hj : jump pc o = some t) (h : if_icmp.holds cd a b = false) (k : Wp W ro F Lb y code ret (pc + 3) ls r M Q) : Wp W ro F Lb y code ret pc ls (.int b :: .int a :: r) M Q :=
  Wp.icmp hd hj (fun q => by rw [h] at q; cases q) (fun _ => k)
theorem Wp.ifT {cd : ClassFile.Cond} {o : Int} {t : Nat} {a : Int32} {r : List Value} (hd : decode code pc = .ok (.ifCond cd o, 3)) (hj : jump pc o = some t) (h : if_icmp.holds cd a 0 = true) (k : Wp W ro F Lb y code ret t ls r M Q) : Wp W ro F Lb y code ret pc ls (.int a :: r) M Q :=
  Wp.if0 hd hj (fun _ => k) (fun q => by rw [h] at q; cases q)
theorem Wp.ifF {cd : ClassFile.Cond} {o : Int} {t : Nat} {a : Int32} {r : List Value} (hd : decode code pc = .ok (.ifCond cd o, 3)) (hj : jump pc o = some t) (h : if_icmp.holds cd a 0 = false) (k : Wp W ro F Lb y code ret (pc + 3) ls r M Q) : Wp W ro F Lb y code ret pc ls (.int a :: r) M Q :=
  Wp.if0 hd hj (fun q => by rw [h] at q; cases q) (fun _ => k)
theorem Wp.idiv {a b : Int32} {r : List Value} (hd : decode code pc = .ok (.idiv, 1)) (hb : ¬ b = 0) (k : Wp W ro F Lb y code ret (pc + 1) ls (.int (a / b) :: r) M Q) : Wp W ro F Lb y code ret pc ls (.int b :: .int a :: r) M Q :=
  Wp.p hd rfl (by simp only [execP]; rw [if_neg hb]) k
theorem Wp.irem {a b : Int32} {r : List Value} (hd : decode code pc = .ok (.irem, 1)) (hb : ¬ b = 0) (k : Wp W ro F Lb y code ret (pc + 1) ls (.int (a - (a / b) * b) :: r) M Q) : Wp W ro F Lb y code ret pc ls (.int b :: .int a :: r) M Q :=
  Wp.p hd rfl (by simp only [execP]; rw [if_neg hb]) k
theorem Wp.ldiv {a b : Int64} {r : List Value} (hd : decode code pc = .ok (.ldiv, 1)) (hb : ¬ b = 0) (k : Wp W ro F Lb y code ret (pc + 1) ls (.long (a / b) :: r) M Q) : Wp W ro F Lb y code ret pc ls (.long b :: .long a :: r) M Q :=
  Wp.p hd rfl (by simp only [execP]; rw [if_neg hb]) k
theorem Wp.lrem {a b : Int64} {r : List Value} (hd : decode code pc = .ok (.lrem, 1)) (hb : ¬ b = 0) (k : Wp W ro F Lb y code ret (pc + 1) ls (.long (a - (a / b) * b) :: r) M Q) : Wp W ro F Lb y code ret pc ls (.long b :: .long a :: r) M Q :=
  Wp.p hd rfl (by simp only [execP]; rw [if_neg hb]) k
theorem storeL_one {l l' : List Slot} {i : Nat} {o : Slot} {v : Value} (h : l[i]? = some o) (ho : One o) (hv : v.category = 1) (hs : setL l i (.val v) = some l') : storeL l i v = some l' := by
  unfold storeL
  rw [h]
  have e : storeSelfL l i v = some l' := by
    unfold storeSelfL
    rw [hs]
    simp [hv]
  rcases ho with rfl | ⟨w, rfl, hw⟩
  · exact e
  · simp [hw, e]
theorem Wp.istoreO {ins : Instr} {i len : Nat} {o : Slot} {x : Int32} {l' : List Slot} {r : List Value} (hd : decode code pc = .ok (ins, len)) (hi : (ins = .istore i ∧ len = 2) ∨ (∃ n : Fin 4, ins = .istore_n n ∧ n.val = i ∧ len = 1)) (h : ls[i]? = some o) (ho : One o) (hs : setL ls i (.val (.int x)) = some l') (k : Wp W ro F Lb y code ret (pc + len) l' r M Q) : Wp W ro F Lb y code ret pc ls (.int x :: r) M Q := by
  rcases hi with ⟨rfl, rfl⟩ | ⟨n, rfl, rfl, rfl⟩
  · exact Wp.p hd rfl (by simp only [execP, storeL_one h ho (v := .int x) rfl hs]) k
  · exact Wp.p hd rfl (by simp only [execP, storeL_one h ho (v := .int x) rfl hs]) k
def OneJ (a b : Slot) : Prop := (a = .unset ∧ b = .unset) ∨ (∃ w, a = .val (.long w) ∧ b = .second)
theorem storeL_oneJ {l l1 l2 : List Slot} {i : Nat} {a b : Slot} {x : Int64} (h : l[i]? = some a) (h' : l[i + 1]? = some b) (ho : OneJ a b) (h1 : setL l i (.val (.long x)) = some l1) (h2 : setL l1 (i + 1) .second = some l2) : storeL l i (.long x) = some l2 := by
  obtain ⟨hi, rfl⟩ := setL_some h1
  obtain ⟨hi2, rfl⟩ := setL_some h2
  have hlen : i + 1 < l.length := by simpa using hi2
  have set_ok : ∀ (l : List Slot) (j : Nat) (y : Slot), j < l.length → setL l j y = some (l.set j y) := fun l => by
    induction l with
    | nil => intro j y hj; simp at hj
    | cons q t ih =>
      intro j y hj
      cases j with
      | zero => rfl
      | succ j => simp only [setL, ih j y (by simpa using hj), List.set_cons_succ]
  rcases ho with ⟨rfl, rfl⟩ | ⟨w, rfl, rfl⟩
  · have e : (l.set i (.val (.long x)))[i + 1]? = some .unset := by rw [List.getElem?_set_ne (by omega)]; exact h'
    simp only [storeL, h, storeSelfL, h1, Value.category, if_true, e]
    exact h2
  · have e0 : setL l (i + 1) .unset = some (l.set (i + 1) .unset) := set_ok _ _ _ hlen
    have e1 : setL (l.set (i + 1) .unset) i (.val (.long x)) = some ((l.set (i + 1) .unset).set i (.val (.long x))) := set_ok _ _ _ (by simpa using hi)
    have e2 : ((l.set (i + 1) .unset).set i (.val (.long x)))[i + 1]? = some .unset := by rw [List.getElem?_set_ne (by omega)]; simp [hlen]
    have e3 : setL ((l.set (i + 1) .unset).set i (.val (.long x))) (i + 1) .second = some (((l.set (i + 1) .unset).set i (.val (.long x))).set (i + 1) .second) := set_ok _ _ _ (by simpa using hlen)
    simp only [storeL, h, storeSelfL, Value.category, if_true, e0, e1, e2, e3]
    congr 1
    apply List.ext_getElem?
    intro j
    by_cases q1 : j = i + 1
    · subst q1; simp [hlen]
    · by_cases q2 : j = i
      · subst q2
        have z1 : (((l.set (j + 1) Slot.unset).set j (.val (.long x))).set (j + 1) .second)[j]? = some (.val (.long x)) := by
          rw [List.getElem?_set_ne (by omega)]; exact List.getElem?_set_self (by simpa using hi)
        have z2 : ((l.set j (Slot.val (.long x))).set (j + 1) .second)[j]? = some (.val (.long x)) := by
          rw [List.getElem?_set_ne (by omega)]; exact List.getElem?_set_self hi
        rw [z1, z2]
      · rw [List.getElem?_set_ne (by omega), List.getElem?_set_ne (by omega), List.getElem?_set_ne (by omega), List.getElem?_set_ne (by omega), List.getElem?_set_ne (by omega)]
theorem Wp.lstoreO {ins : Instr} {i len : Nat} {a b : Slot} {x : Int64} {l1 l2 : List Slot} {r : List Value} (hd : decode code pc = .ok (ins, len)) (hi : (ins = .lstore i ∧ len = 2) ∨ (∃ n : Fin 4, ins = .lstore_n n ∧ n.val = i ∧ len = 1)) (h : ls[i]? = some a) (h' : ls[i + 1]? = some b) (ho : OneJ a b) (h1 : setL ls i (.val (.long x)) = some l1) (h2 : setL l1 (i + 1) .second = some l2) (k : Wp W ro F Lb y code ret (pc + len) l2 r M Q) : Wp W ro F Lb y code ret pc ls (.long x :: r) M Q := by
  rcases hi with ⟨rfl, rfl⟩ | ⟨n, rfl, rfl, rfl⟩
  · exact Wp.p hd rfl (by simp only [execP, storeL_oneJ h h' ho h1 h2]) k
  · exact Wp.p hd rfl (by simp only [execP, storeL_oneJ h h' ho h1 h2]) k
theorem Wp.tswD {dflt low high : Int} {offs : Array Int} {len t : Nat} {i : Int32} {r : List Value} (hd : decode code pc = .ok (.tableswitch dflt low high offs, len)) (hout : i.toInt < low ∨ i.toInt > high) (hj : jump pc dflt = some t) (k : Wp W ro F Lb y code ret t ls r M Q) : Wp W ro F Lb y code ret pc ls (.int i :: r) M Q :=
  Wp.p hd rfl (by simp only [execP]; rw [if_pos hout, hj]) k
theorem Wp.retV (hd : decode code pc = .ok (.return_, 1)) (q : Q none M) : Wp W ro F Lb y code none pc ls [] M Q := Wp.r hd rfl rfl rfl q
theorem Wp.retI {x : Int32} (hd : decode code pc = .ok (.ireturn, 1)) (q : Q (some (.int x)) M) : Wp W ro F Lb y code (some .int) pc ls [.int x] M Q := Wp.r hd rfl rfl rfl q
theorem Wp.retJ {x : Int64} (hd : decode code pc = .ok (.lreturn, 1)) (q : Q (some (.long x)) M) : Wp W ro F Lb y code (some .long) pc ls [.long x] M Q := Wp.r hd rfl rfl rfl q
theorem Wp.retZ {x : Int32} (v : Int32) (hd : decode code pc = .ok (.ireturn, 1)) (hv : x &&& 1 = v) (q : Q (some (.int v)) M) : Wp W ro F Lb y code (some .boolean) pc ls [.int x] M Q := by
  subst hv; exact Wp.r hd rfl rfl rfl q
end Rules
end Jvm.OwnEv
namespace Jvm.OwnEv
open Sem ClassFile Op Lib Jvm.Stand Jvm.Free Jvm.LawKit Jvm.RoadKit
/-! PART 7: from a law's run to its claim -/
theorem law_run {l : Launch} {W : List Jvm.Cond} {x : MethodName} {code : ByteArray} {maxL : Nat} {ret : Option FieldType} {R : Room} {as : List Value} {s : State} {a0 : Array Value} (hw : ∀ d ∈ W, d.before a0 s = true) {ro : Nat} {M0 : EMem} {ρ : Nat → Addr} (hρ : ∀ a b, ρ a = ρ b → a = b) (hρn : ∀ a, ro ≤ a → ρ a = s.heap.size + (a - ro))
    (Rl : Rel s W ρ ro s.heap.size s.heap M0) (hp : plainName x.cls = true) (hfl : (fillL as).length ≤ maxL)
    (h : Wp W ro R.frames R.locals x code ret 0 (entryL as maxL) [] M0 fun v M' => v = some (.int 1) ∧ M'.1.length - M0.1.length ≤ R.cells ∧ szL M'.1 - szL M0.1 ≤ R.slots) (ws : List Jvm.Cond) :
    MetFree l x (head1 (Jvm.Cond.code x code maxL ret :: ws) R) (fun a U => a = (as.map (conc ρ)).toArray ∧ s.Warmed39 U.vm ∧ U.heap = s.heap) (fun _ _ _ _ _ => True)
      (fun _ U o U' => ∃ v' L, o = .returned v' ∧ (v' = some (.int 1) ∧ Fr s.heap.size L) ∧ FrameEnd U o U' L R.cells R.slots) := by
  obtain ⟨n, v, M', h1, rfl, h3, h4⟩ := h
  have M1 := met_of (run_good (l := l) hw hρ hρn n) h1 hfl hp Rl (R := R) (Nat.le_refl _) (Nat.le_refl _) h3 h4 ws
  intro p e ha hc hk s' m args below hf happ hP hK
  obtain ⟨n', o, q1, q2, q3, v', L, q4, ⟨q5, q6, q7⟩, q8⟩ := M1 p e ha hc hk s' m args below hf happ hP hK
  exact ⟨n', o, q1, q2, q3, v', L, q4, ⟨q5, q7⟩, q8.1, q8.2.1, q8.2.2.mono h3 h4⟩
/-- the memory ahead of a law of ints -/
abbrev mem0 : EMem := ([], fun _ _ => 0, fun _ _ => 0, fun _ _ => .null)
theorem rel0 (s : State) (W : List Jvm.Cond) : Rel s W (fun a => s.heap.size + a) 0 s.heap.size s.heap mem0 :=
  ⟨rfl, Nat.le_refl _, fun a c h => by simp at h, fun _ _ _ => ⟨rfl, rfl, rfl⟩⟩
/-- the memory ahead of a law that is handed an array of ints -/
abbrev mem1 (n : Nat) (f : Nat → Int32) : EMem := ([(1, "", n)], fun a k => if a = 0 then f k else 0, fun _ _ => 0, fun _ _ => .null)
def rho1 (sa n0 : Nat) : Nat → Nat := fun a => if a = 0 then sa else n0 + (a - 1)
theorem rho1_inj {sa n0 : Nat} (h : sa < n0) (a b : Nat) (e : rho1 sa n0 a = rho1 sa n0 b) : a = b := by
  unfold rho1 at e
  split at e <;> split at e <;> omega
theorem rho1_n {sa n0 : Nat} (a : Nat) (h : 1 ≤ a) : rho1 sa n0 a = n0 + (a - 1) := by
  unfold rho1
  rw [if_neg (by omega)]
theorem rel1 {s : State} (W : List Jvm.Cond) {sa : Addr} {c : Cell} {f : Nat → Int32} (A : Arr s s.heap sa c .int) (hf : ∀ k, k < c.slots.size → c.slots[k]? = some (.int (f k))) : Rel s W (rho1 sa s.heap.size) 1 s.heap.size s.heap (mem1 c.slots.size f) := by
  refine ⟨rfl, Nat.le_refl _, fun a cc h => ?_, fun a h k => ⟨?_, rfl, rfl⟩⟩
  · cases a with
    | zero =>
      simp at h
      subst h
      exact ⟨fun q => (by cases q), fun _ => ⟨c, A, rfl, fun k hk => by simpa using hf k hk⟩, fun q => (by cases q), fun q => (by cases q)⟩
    | succ a => simp at h
  · have h' : 1 ≤ a := h
    exact if_neg (by omega)
theorem script_start {s : State} {a : Addr} {c : Cell} (hf : Fit s) (A : Arr s s.heap a c .int) (hn : c.slots.size < 2 ^ 31) : ∃ f : Nat → Int32, ∀ k, k < c.slots.size → c.slots[k]? = some (.int (f k)) := by
  refine ⟨fun k => atv c k.toInt32, fun k hk => ?_⟩
  obtain ⟨n, -, S⟩ := Scr.start hf A hn
  have h1 := idx_in hk hn
  have e : k.toInt32.toNatClampNeg = k := by
    have q : k.toInt32.toInt = k := len_toInt (by omega)
    simp only [Int32.toNatClampNeg, q]; rfl
  have h2 := S.2.2.2 k.toInt32 h1
  rw [e] at h2
  exact h2
theorem script_len {s : State} {a : Addr} {c : Cell} (A : Arr s s.heap a c .int) (h : (Jvm.Cond.le (Term.length (Term.arg 0)) (Term.int 260)).value #[Value.ref a] s none s [] = some true) : c.slots.size ≤ 260 := by
  have e := A.fin (Vm.Alike.refl _)
  by_cases hn : c.slots.size < 2 ^ 31
  · have el : (Term.length (Term.arg 0)).eval #[Value.ref a] s none [] s = some (.int c.slots.size.toInt32) := by
      simp [Term.eval, e, hn]
    have q := gotT (Cond.le_ints el (Term.int_eval 260)) h
    rw [Int32.le_iff_toInt_le, len_toInt hn] at q
    simp at q
    omega
  · have el : (Term.length (Term.arg 0)).eval #[Value.ref a] s none [] s = none := by
      simp [Term.eval, e, hn]
    simp [Cond.value, el] at h
end Jvm.OwnEv
namespace Jvm.OwnEv
open Sem ClassFile Op Lib Jvm.Stand Jvm.Free Jvm.LawKit Jvm.RoadKit
/-! PART 8: small facts on words and ints -/
theorem codeLk_at {y : MethodName} {b : ByteArray} {n : Nat} {r : Option FieldType} : ∀ {W : List Jvm.Cond} {i : Nat}, W[i]? = some (.code y b n r) → codeLk y (W.take i) = none → codeLk y W = some (b, n, r)
  | [], i, h, _ => by simp at h
  | w :: t, 0, h, _ => by
    simp at h
    subst h
    have : meq y y = true := by simp [meq]
    simp [codeLk, this]
  | w :: t, i + 1, h, h2 => by
    rw [List.getElem?_cons_succ] at h
    rw [List.take_succ_cons] at h2
    have key : codeLk y (t.take i) = none ∧ codeLk y (w :: t) = codeLk y t := by
      unfold codeLk at h2
      split at h2
      · rename_i heq; cases heq
      · rename_i heq
        cases heq
        split at h2
        · cases h2
        · rename_i hm
          exact ⟨h2, by rw [codeLk, if_neg hm]⟩
      · rename_i hno heq
        cases heq
        refine ⟨h2, ?_⟩
        rw [codeLk]
        exact hno
    rw [key.2]
    exact codeLk_at h key.1
theorem callAt_of {W : List Jvm.Cond} {own : String} {idx kd : Nat} {z : MethodName} {b : ByteArray} {n na : Nat} {r : Option FieldType} {sig : MethodDescriptor} (hm : methodLk own idx W = some z) (hc : codeLk z W = some (b, n, r)) (hp : parseMethodDescriptor z.desc = some sig)
    (h : hasInit z.cls W = true ∧ plainName z.cls = true ∧ z.cls ≠ "java/lang/invoke/MethodHandle" ∧ z.cls ≠ "java/lang/invoke/VarHandle" ∧ ((kd = 0 ∧ hasDecl z W = true ∧ hasSel z W = true ∧ hasInst z W = true) ∨ (kd = 1 ∧ hasPriv z W = true ∧ hasInst z W = true ∧ (instLk z.cls W).isSome = true) ∨ (kd = 2 ∧ z.name = "<init>" ∧ hasInst z W = true ∧ r = none) ∨ (kd = 3 ∧ hasStat z W = true)))
    (hn : sig.parameters.length = na) : callAt W own idx kd = some (z, na, b, n, r) := by
  subst hn
  unfold callAt
  rw [hm]
  simp only
  rw [hc, hp]
  simp only
  rw [if_pos h]
theorem callAt_pub {W : List Jvm.Cond} {own : String} {idx : Nat} {z : MethodName} (hm : methodLk own idx W = some z) (hp : hasPriv z W = false) : callAt W own idx 1 = none := by
  unfold callAt
  rw [hm]
  simp only
  split
  · rw [if_neg]
    rintro ⟨-, -, -, -, h⟩
    rcases h with h | h | h | h
    · cases h.1
    · rw [hp] at h; cases h.2.1
    · cases h.1
    · cases h.1
  · rfl
theorem inb_iff {j : Int32} {n : Nat} : inb j n = true ↔ 0 ≤ j.toInt ∧ j.toInt < n := by
  simp only [inb, Bool.and_eq_true, decide_eq_true_eq, Int32.lt_iff_toInt_lt, Int32.toNatClampNeg, Int32.reduceToInt]
  omega
theorem inb_of {j : Int32} {n : Nat} (h : 0 ≤ j.toInt ∧ j.toInt < n) : inb j n = true := inb_iff.mpr h
theorem inb_lt {j : Int32} {n : Nat} (m : Int32) (h1 : ¬ j < 0) (h2 : j < m) (hm : m.toInt = n) : inb j n = true := by
  rw [inb_iff]
  rw [Int32.lt_iff_toInt_lt] at h1 h2
  simp at h1
  omega
theorem clamp_inj {a b : Int32} (ha : ¬ a < 0) (hb : ¬ b < 0) (h : a.toNatClampNeg = b.toNatClampNeg) : a = b := by
  rw [Int32.lt_iff_toInt_lt] at ha hb
  simp at ha hb
  simp only [Int32.toNatClampNeg] at h
  apply Int32.toInt_inj.mp
  omega
theorem clamp_lt {j : Int32} {n : Nat} (m : Int32) (h1 : ¬ j < 0) (h2 : j < m) (hm : m.toInt = n) : j.toNatClampNeg < n := by
  rw [Int32.lt_iff_toInt_lt] at h1 h2
  simp at h1
  simp only [Int32.toNatClampNeg]
  omega
theorem up_at {α : Type} (f : Nat → Nat → α) (a k : Nat) (v : α) (x y : Nat) : up f a k v x y = if x = a ∧ y = k then v else f x y := rfl
theorem succ_int {x n : Int32} (h : x < n) : (x + 1).toInt = x.toInt + 1 := by
  rw [Int32.lt_iff_toInt_lt] at h
  have h1 := c_iadd x 1
  have h2 := rng32 (x + 1)
  have h3 := rng32 x
  have h4 := rng32 n
  have h5 : (1 : Int32).toInt = 1 := by decide
  omega
theorem succ_nn {x n : Int32} (hx : ¬ x < 0) (h : x < n) : ¬ x + 1 < 0 := by
  have hs := succ_int h
  rw [Int32.lt_iff_toInt_lt] at hx ⊢
  have z : (0 : Int32).toInt = 0 := by decide
  rw [z] at hx ⊢
  omega
theorem succ_dec {x n : Int32} (h : x < n) : (n.toInt - (x + 1).toInt).toNat < (n.toInt - x.toInt).toNat := by
  have hs := succ_int h
  rw [Int32.lt_iff_toInt_lt] at h
  omega
theorem lt_of_succ {a x n : Int32} (h : x < n) (h2 : a < x + 1) (q : ¬ a = x) : a < x := by
  have hs := succ_int h
  rw [Int32.lt_iff_toInt_lt] at h2 ⊢
  have : a.toInt ≠ x.toInt := fun z => q (Int32.toInt_inj.mp z)
  omega
theorem pred_int {x : Int32} (hx : ¬ x < 0) : (x + -1).toInt = x.toInt - 1 := by
  have h1 := c_iadd x (-1)
  have h2 := rng32 (x + -1)
  have h3 := rng32 x
  have h5 : (-1 : Int32).toInt = -1 := by decide
  have z : (0 : Int32).toInt = 0 := by decide
  rw [Int32.lt_iff_toInt_lt, z] at hx
  omega
theorem mul_int {a b : Int32} (h1 : -2147483648 ≤ a.toInt * b.toInt) (h2 : a.toInt * b.toInt < 2147483648) : (a * b).toInt = a.toInt * b.toInt := by
  have h3 := c_imul a b
  have h4 := rng32 (a * b)
  generalize a.toInt * b.toInt = p at *
  omega
theorem add_int {a b : Int32} (h1 : -2147483648 ≤ a.toInt + b.toInt) (h2 : a.toInt + b.toInt < 2147483648) : (a + b).toInt = a.toInt + b.toInt := by
  have h3 := c_iadd a b
  have h4 := rng32 (a + b)
  omega
theorem sub_int {a b : Int32} (h1 : -2147483648 ≤ a.toInt - b.toInt) (h2 : a.toInt - b.toInt < 2147483648) : (a - b).toInt = a.toInt - b.toInt := by
  have h3 := c_isub a b
  have h4 := rng32 (a - b)
  omega
theorem nn_int {a : Int32} (h : ¬ a < 0) : 0 ≤ a.toInt := by
  rw [Int32.lt_iff_toInt_lt] at h
  have z : (0 : Int32).toInt = 0 := by decide
  rw [z] at h; omega
theorem lt_int {a b : Int32} (h : a < b) : a.toInt < b.toInt := Int32.lt_iff_toInt_lt.mp h
theorem ge_int {a b : Int32} (h : ¬ a < b) : b.toInt ≤ a.toInt := by rw [Int32.lt_iff_toInt_lt] at h; omega
/-- a place of a table of rows -/
theorem idx2 {x y w h : Int32} (hx : ¬ x < 0) (hxw : x < w) (hy : ¬ y < 0) (hyh : y < h) (hw : ¬ 16 < w) (hh : ¬ 16 < h) : (y * w + x).toInt = y.toInt * w.toInt + x.toInt ∧ 0 ≤ y.toInt * w.toInt + x.toInt ∧ y.toInt * w.toInt + x.toInt < 256 ∧ y.toInt * w.toInt + x.toInt < h.toInt * w.toInt := by
  have a1 := nn_int hx
  have a2 := nn_int hy
  have a3 := lt_int hxw
  have a4 := lt_int hyh
  have a5 := ge_int hw
  have a6 := ge_int hh
  have c16 : (16 : Int32).toInt = 16 := by decide
  rw [c16] at a5 a6
  have m1 : 0 ≤ y.toInt * w.toInt := Int.mul_nonneg a2 (by omega)
  have m2 : (y.toInt + 1) * w.toInt ≤ h.toInt * w.toInt := Int.mul_le_mul_of_nonneg_right (by omega) (by omega)
  have m3 : h.toInt * w.toInt ≤ 16 * w.toInt := Int.mul_le_mul_of_nonneg_right (by omega) (by omega)
  rw [Int.add_mul] at m2
  have e1 : (y * w).toInt = y.toInt * w.toInt := mul_int (by omega) (by omega)
  have e2 : (y * w + x).toInt = (y * w).toInt + x.toInt := add_int (by rw [e1]; omega) (by rw [e1]; omega)
  rw [e2, e1]
  exact ⟨rfl, by omega, by omega, by omega⟩
theorem and1 {z : Int32} (h : z = 0 ∨ z = 1) : z &&& 1 = z := by rcases h with rfl | rfl <;> decide
theorem set_same {l : List Slot} {i : Nat} {x : Slot} (h : l[i]? = some x) : l.set i x = l := by
  apply List.ext_getElem?
  intro j
  rw [List.getElem?_set]
  by_cases q : i = j
  · subst q
    have : i < l.length := by
      rcases Nat.lt_or_ge i l.length with w | w
      · exact w
      · rw [List.getElem?_eq_none w] at h; cases h
    rw [if_pos rfl, if_pos this, h]
  · rw [if_neg q]
theorem storeL_J1 {l l1 l2 : List Slot} {i : Nat} {a b : Slot} {v : Value} (h : l[i]? = some a) (h' : l[i + 1]? = some b) (ho : OneJ a b) (hv : v.category = 1) (h1 : setL l (i + 1) .unset = some l1) (h2 : setL l1 i (.val v) = some l2) : storeL l i v = some l2 := by
  have e : ∀ m, setL m i (.val v) = some l2 → storeSelfL m i v = some l2 := fun m hm => by
    unfold storeSelfL
    rw [hm]
    simp [hv]
  unfold storeL
  rw [h]
  rcases ho with ⟨rfl, rfl⟩ | ⟨w, rfl, rfl⟩
  · have q := (setL_some h1).2
    rw [set_same h'] at q
    subst q
    exact e _ h2
  · have c : (Value.long w).category = 2 := rfl
    simp only [c, if_true, h1]
    exact e _ h2
theorem storeL_J2 {l l1 l2 : List Slot} {i : Nat} {a b : Slot} {v : Value} (h : l[i]? = some a) (h' : l[i + 1]? = some b) (ho : OneJ a b) (hv : v.category = 1) (h1 : setL l i .unset = some l1) (h2 : setL l1 (i + 1) (.val v) = some l2) : storeL l (i + 1) v = some l2 := by
  have e : ∀ m, setL m (i + 1) (.val v) = some l2 → storeSelfL m (i + 1) v = some l2 := fun m hm => by
    unfold storeSelfL
    rw [hm]
    simp [hv]
  unfold storeL
  rw [h']
  rcases ho with ⟨rfl, rfl⟩ | ⟨w, rfl, rfl⟩
  · have q := (setL_some h1).2
    rw [set_same h] at q
    subst q
    exact e _ h2
  · simp only [Nat.add_sub_cancel, h1]
    exact e _ h2
theorem Wp.istoreJ1 {W : List Jvm.Cond} {ro F Lb : Nat} {y : MethodName} {code : ByteArray} {ret : Option FieldType} {pc : Nat} {ls : List Slot} {M : EMem} {Q : Option Value → EMem → Prop} {ins : Instr} {i len : Nat} {a b : Slot} {x : Int32} {l1 l2 : List Slot} {r : List Value} (hd : decode code pc = .ok (ins, len)) (hi : (ins = .istore i ∧ len = 2) ∨ (∃ n : Fin 4, ins = .istore_n n ∧ n.val = i ∧ len = 1)) (h : ls[i]? = some a) (h' : ls[i + 1]? = some b) (ho : OneJ a b) (h1 : setL ls (i + 1) .unset = some l1) (h2 : setL l1 i (.val (.int x)) = some l2)
    (k : Wp W ro F Lb y code ret (pc + len) l2 r M Q) : Wp W ro F Lb y code ret pc ls (.int x :: r) M Q := by
  rcases hi with ⟨rfl, rfl⟩ | ⟨n, rfl, rfl, rfl⟩
  · exact Wp.p hd rfl (by simp only [execP, storeL_J1 h h' ho (v := .int x) rfl h1 h2]) k
  · exact Wp.p hd rfl (by simp only [execP, storeL_J1 h h' ho (v := .int x) rfl h1 h2]) k
theorem Wp.istoreJ2 {W : List Jvm.Cond} {ro F Lb : Nat} {y : MethodName} {code : ByteArray} {ret : Option FieldType} {pc : Nat} {ls : List Slot} {M : EMem} {Q : Option Value → EMem → Prop} {ins : Instr} {i len : Nat} {a b : Slot} {x : Int32} {l1 l2 : List Slot} {r : List Value} (hd : decode code pc = .ok (ins, len)) (hi : (ins = .istore (i + 1) ∧ len = 2) ∨ (∃ n : Fin 4, ins = .istore_n n ∧ n.val = i + 1 ∧ len = 1)) (h : ls[i]? = some a) (h' : ls[i + 1]? = some b) (ho : OneJ a b) (h1 : setL ls i .unset = some l1) (h2 : setL l1 (i + 1) (.val (.int x)) = some l2)
    (k : Wp W ro F Lb y code ret (pc + len) l2 r M Q) : Wp W ro F Lb y code ret pc ls (.int x :: r) M Q := by
  rcases hi with ⟨rfl, rfl⟩ | ⟨n, rfl, e, rfl⟩
  · exact Wp.p hd rfl (by simp only [execP, storeL_J2 h h' ho (v := .int x) rfl h1 h2]) k
  · exact Wp.p hd rfl (by simp only [execP, e, storeL_J2 h h' ho (v := .int x) rfl h1 h2]) k
theorem storeL_one2 {l l1 l2 : List Slot} {i : Nat} {a b : Slot} {x : Int64} (h : l[i]? = some a) (h' : l[i + 1]? = some b) (ha : One a) (hb : One b) (h1 : setL l i (.val (.long x)) = some l1) (h2 : setL l1 (i + 1) .second = some l2) : storeL l i (.long x) = some l2 := by
  have e : storeSelfL l i (.long x) = some l2 := by
    unfold storeSelfL
    rw [h1]
    have q := (setL_some h1).2
    have e1 : l1[i + 1]? = some b := by rw [q, List.getElem?_set_ne (by omega)]; exact h'
    have c : (Value.long x).category = 2 := rfl
    simp only [c, if_true, e1]
    rcases hb with rfl | ⟨w, rfl, hw⟩
    · exact h2
    · simp only [hw]
      exact h2
  unfold storeL
  rw [h]
  rcases ha with rfl | ⟨w, rfl, hw⟩
  · exact e
  · simp only [hw]
    exact e
theorem Wp.lstoreO2 {W : List Jvm.Cond} {ro F Lb : Nat} {y : MethodName} {code : ByteArray} {ret : Option FieldType} {pc : Nat} {ls : List Slot} {M : EMem} {Q : Option Value → EMem → Prop} {ins : Instr} {i len : Nat} {a b : Slot} {x : Int64} {l1 l2 : List Slot} {r : List Value} (hd : decode code pc = .ok (ins, len)) (hi : (ins = .lstore i ∧ len = 2) ∨ (∃ n : Fin 4, ins = .lstore_n n ∧ n.val = i ∧ len = 1)) (h : ls[i]? = some a) (h' : ls[i + 1]? = some b) (ha : One a) (hb : One b) (h1 : setL ls i (.val (.long x)) = some l1) (h2 : setL l1 (i + 1) .second = some l2)
    (k : Wp W ro F Lb y code ret (pc + len) l2 r M Q) : Wp W ro F Lb y code ret pc ls (.long x :: r) M Q := by
  rcases hi with ⟨rfl, rfl⟩ | ⟨n, rfl, rfl, rfl⟩
  · exact Wp.p hd rfl (by simp only [execP, storeL_one2 h h' ha hb h1 h2]) k
  · exact Wp.p hd rfl (by simp only [execP, storeL_one2 h h' ha hb h1 h2]) k
/-- two slots that hold plain values or a long -/
def Two (a b : Slot) : Prop := (One a ∧ One b) ∨ OneJ a b
theorem Wp.lstoreT {W : List Jvm.Cond} {ro F Lb : Nat} {y : MethodName} {code : ByteArray} {ret : Option FieldType} {pc : Nat} {ls : List Slot} {M : EMem} {Q : Option Value → EMem → Prop} {ins : Instr} {i len : Nat} {a b : Slot} {x : Int64} {l1 l2 : List Slot} {r : List Value} (hd : decode code pc = .ok (ins, len)) (hi : (ins = .lstore i ∧ len = 2) ∨ (∃ n : Fin 4, ins = .lstore_n n ∧ n.val = i ∧ len = 1)) (h : ls[i]? = some a) (h' : ls[i + 1]? = some b) (ho : Two a b) (h1 : setL ls i (.val (.long x)) = some l1) (h2 : setL l1 (i + 1) .second = some l2)
    (k : Wp W ro F Lb y code ret (pc + len) l2 r M Q) : Wp W ro F Lb y code ret pc ls (.long x :: r) M Q := by
  rcases ho with ⟨ha, hb⟩ | ho
  · exact Wp.lstoreO2 hd hi h h' ha hb h1 h2 k
  · exact Wp.lstoreO hd hi h h' ho h1 h2 k
end Jvm.OwnEv
namespace Jvm.Pilot.@@N@@
open Jvm Jvm.ClassFile Sem Op Lib Jvm.Free Jvm.Stand Jvm.LawKit Jvm.RoadKit Jvm.OwnEv Bundle Jvm.Pilot.@@N@@.Jvm.D
abbrev RR1 : Nat → Nat → Value := (up (up (up (up (up (up (up (up (fun _ _ => Value.null) 0 11 (.ref 1)) 0 13 (.ref 2)) 0 15 (.ref 3)) 0 17 (.ref 4)) 0 19 (.ref 5)) 0 21 (.ref 6)) 0 24 (.ref 7)) 0 26 (.ref 8))
abbrev LL1 : ELay := [(0, "HtreeDir", 13), (1, "", 128), (1, "", 128), (1, "", 128), (1, "", 32), (1, "", 32), (1, "", 32), (3, "", 4), (1, "", 4)]
abbrev QL : Option Value → EMem → Prop := fun v M' => v = some (.int 1) ∧ M'.1.length - 0 ≤ room_1.cells ∧ szL M'.1 - 0 ≤ room_1.slots
theorem ql1 {mi : Nat → Nat → Int32} {ml : Nat → Nat → Int64} {v : Int32} (h : v = 1) : QL (some (.int v)) (LL1, mi, ml, RR1) := ⟨by rw [h], by show LL1.length - 0 ≤ room_1.cells; decide, by show szL LL1 - 0 ≤ room_1.slots; decide⟩
theorem d_count_0 : decode prog_1_method_3_code 0 = .ok (.aload_n 0, 1) := by decide +kernel
theorem d_count_1 : decode prog_1_method_3_code 1 = .ok (.getfield 43, 3) := by decide +kernel
theorem fa_c43 : fieldAt tables_1 "HtreeDir" 43 = some ("HtreeDir", 33, 1, false) := by decide +kernel
theorem d_count_4 : decode prog_1_method_3_code 4 = .ok (.ireturn, 1) := by decide +kernel
abbrev W_count (pc : Nat) (ls : List Slot) (st : List Value) (M : EMem) (Q : Option Value → EMem → Prop) : Prop := Wp tables_1 0 0 0 (⟨"HtreeDir", "count", "()I"⟩ : MethodName) prog_1_method_3_code (some .int) pc ls st M Q
theorem d_isName_0 : decode prog_1_method_17_code 0 = .ok (.iload_n 1, 1) := by decide +kernel
theorem d_isName_1 : decode prog_1_method_17_code 1 = .ok (.ifCond .lt 13, 3) := by decide +kernel
theorem d_isName_14 : decode prog_1_method_17_code 14 = .ok (.iconst 0, 1) := by decide +kernel
theorem d_isName_4 : decode prog_1_method_17_code 4 = .ok (.iload_n 1, 1) := by decide +kernel
theorem d_isName_5 : decode prog_1_method_17_code 5 = .ok (.ldc 35, 2) := by decide +kernel
theorem ik_c35 : intLk "HtreeDir" 35 tables_1 = some (65535 : Int32) := by decide +kernel
theorem d_isName_10 : decode prog_1_method_17_code 10 = .ok (.iconst 1, 1) := by decide +kernel
theorem d_isName_11 : decode prog_1_method_17_code 11 = .ok (.goto 4, 3) := by decide +kernel
theorem d_isName_7 : decode prog_1_method_17_code 7 = .ok (.if_icmp .gt 7, 3) := by decide +kernel
abbrev W_isName (pc : Nat) (ls : List Slot) (st : List Value) (M : EMem) (Q : Option Value → EMem → Prop) : Prop := Wp tables_1 0 0 0 (⟨"HtreeDir", "isName", "(I)Z"⟩ : MethodName) prog_1_method_17_code (some .boolean) pc ls st M Q
theorem d_isName_15 : decode prog_1_method_17_code 15 = .ok (.ireturn, 1) := by decide +kernel
theorem d_hash_0 : decode prog_1_method_19_code 0 = .ok (.iload_n 1, 1) := by decide +kernel
theorem d_hash_1 : decode prog_1_method_19_code 1 = .ok (.aload_n 0, 1) := by decide +kernel
theorem d_hash_2 : decode prog_1_method_19_code 2 = .ok (.getfield 36, 3) := by decide +kernel
theorem fa_c36 : fieldAt tables_1 "HtreeDir" 36 = some ("HtreeDir", 29, 1, false) := by decide +kernel
theorem d_hash_5 : decode prog_1_method_19_code 5 = .ok (.ixor, 1) := by decide +kernel
theorem d_hash_6 : decode prog_1_method_19_code 6 = .ok (.ldc 35, 2) := by decide +kernel
theorem d_hash_8 : decode prog_1_method_19_code 8 = .ok (.iand, 1) := by decide +kernel
theorem d_hash_9 : decode prog_1_method_19_code 9 = .ok (.istore_n 2, 1) := by decide +kernel
theorem d_hash_10 : decode prog_1_method_19_code 10 = .ok (.iload_n 2, 1) := by decide +kernel
theorem d_hash_11 : decode prog_1_method_19_code 11 = .ok (.ldc 99, 2) := by decide +kernel
theorem ik_c99 : intLk "HtreeDir" 99 tables_1 = some (40507 : Int32) := by decide +kernel
theorem d_hash_13 : decode prog_1_method_19_code 13 = .ok (.imul, 1) := by decide +kernel
theorem d_hash_14 : decode prog_1_method_19_code 14 = .ok (.ldc 35, 2) := by decide +kernel
theorem d_hash_16 : decode prog_1_method_19_code 16 = .ok (.iand, 1) := by decide +kernel
theorem d_hash_17 : decode prog_1_method_19_code 17 = .ok (.istore_n 2, 1) := by decide +kernel
theorem d_hash_18 : decode prog_1_method_19_code 18 = .ok (.iload_n 2, 1) := by decide +kernel
theorem d_hash_19 : decode prog_1_method_19_code 19 = .ok (.iload_n 2, 1) := by decide +kernel
theorem d_hash_20 : decode prog_1_method_19_code 20 = .ok (.bipush 7, 2) := by decide +kernel
theorem d_hash_22 : decode prog_1_method_19_code 22 = .ok (.iushr, 1) := by decide +kernel
theorem d_hash_23 : decode prog_1_method_19_code 23 = .ok (.ixor, 1) := by decide +kernel
theorem d_hash_24 : decode prog_1_method_19_code 24 = .ok (.istore_n 2, 1) := by decide +kernel
theorem d_hash_25 : decode prog_1_method_19_code 25 = .ok (.iload_n 2, 1) := by decide +kernel
theorem d_hash_26 : decode prog_1_method_19_code 26 = .ok (.sipush 23505, 3) := by decide +kernel
theorem d_hash_29 : decode prog_1_method_19_code 29 = .ok (.imul, 1) := by decide +kernel
theorem d_hash_30 : decode prog_1_method_19_code 30 = .ok (.ldc 35, 2) := by decide +kernel
theorem d_hash_32 : decode prog_1_method_19_code 32 = .ok (.iand, 1) := by decide +kernel
theorem d_hash_33 : decode prog_1_method_19_code 33 = .ok (.istore_n 2, 1) := by decide +kernel
theorem d_hash_34 : decode prog_1_method_19_code 34 = .ok (.iload_n 2, 1) := by decide +kernel
theorem d_hash_35 : decode prog_1_method_19_code 35 = .ok (.iload_n 2, 1) := by decide +kernel
theorem d_hash_36 : decode prog_1_method_19_code 36 = .ok (.bipush 9, 2) := by decide +kernel
theorem d_hash_38 : decode prog_1_method_19_code 38 = .ok (.iushr, 1) := by decide +kernel
theorem d_hash_39 : decode prog_1_method_19_code 39 = .ok (.ixor, 1) := by decide +kernel
theorem d_hash_40 : decode prog_1_method_19_code 40 = .ok (.istore_n 2, 1) := by decide +kernel
theorem d_hash_41 : decode prog_1_method_19_code 41 = .ok (.iload_n 2, 1) := by decide +kernel
theorem d_hash_42 : decode prog_1_method_19_code 42 = .ok (.ireturn, 1) := by decide +kernel
abbrev W_hash (pc : Nat) (ls : List Slot) (st : List Value) (M : EMem) (Q : Option Value → EMem → Prop) : Prop := Wp tables_1 0 0 0 (⟨"HtreeDir", "hash", "(I)I"⟩ : MethodName) prog_1_method_19_code (some .int) pc ls st M Q
theorem d_keyAt_0 : decode prog_1_method_20_code 0 = .ok (.aload_n 0, 1) := by decide +kernel
theorem d_keyAt_1 : decode prog_1_method_20_code 1 = .ok (.getfield 22, 3) := by decide +kernel
theorem fa_c22 : fieldAt tables_1 "HtreeDir" 22 = some ("HtreeDir", 19, 4, false) := by decide +kernel
theorem d_keyAt_4 : decode prog_1_method_20_code 4 = .ok (.iload_n 1, 1) := by decide +kernel
theorem d_keyAt_5 : decode prog_1_method_20_code 5 = .ok (.bipush 31, 2) := by decide +kernel
theorem d_keyAt_7 : decode prog_1_method_20_code 7 = .ok (.iand, 1) := by decide +kernel
theorem d_keyAt_8 : decode prog_1_method_20_code 8 = .ok (.iaload, 1) := by decide +kernel
theorem d_keyAt_9 : decode prog_1_method_20_code 9 = .ok (.istore_n 2, 1) := by decide +kernel
theorem d_keyAt_10 : decode prog_1_method_20_code 10 = .ok (.aload_n 0, 1) := by decide +kernel
theorem d_keyAt_11 : decode prog_1_method_20_code 11 = .ok (.getfield 7, 3) := by decide +kernel
theorem fa_c7 : fieldAt tables_1 "HtreeDir" 7 = some ("HtreeDir", 11, 4, false) := by decide +kernel
theorem d_keyAt_14 : decode prog_1_method_20_code 14 = .ok (.iload_n 2, 1) := by decide +kernel
theorem d_keyAt_15 : decode prog_1_method_20_code 15 = .ok (.iconst 4, 1) := by decide +kernel
theorem d_keyAt_16 : decode prog_1_method_20_code 16 = .ok (.imul, 1) := by decide +kernel
theorem d_keyAt_17 : decode prog_1_method_20_code 17 = .ok (.iaload, 1) := by decide +kernel
theorem d_keyAt_18 : decode prog_1_method_20_code 18 = .ok (.ireturn, 1) := by decide +kernel
abbrev W_keyAt (pc : Nat) (ls : List Slot) (st : List Value) (M : EMem) (Q : Option Value → EMem → Prop) : Prop := Wp tables_1 0 0 0 (⟨"HtreeDir", "keyAt", "(I)I"⟩ : MethodName) prog_1_method_20_code (some .int) pc ls st M Q
theorem d_findLeafPos_0 : decode prog_1_method_21_code 0 = .ok (.iconst 0, 1) := by decide +kernel
theorem d_findLeafPos_1 : decode prog_1_method_21_code 1 = .ok (.istore_n 2, 1) := by decide +kernel
theorem d_findLeafPos_2 : decode prog_1_method_21_code 2 = .ok (.aload_n 0, 1) := by decide +kernel
theorem d_findLeafPos_3 : decode prog_1_method_21_code 3 = .ok (.getfield 46, 3) := by decide +kernel
theorem fa_c46 : fieldAt tables_1 "HtreeDir" 46 = some ("HtreeDir", 35, 1, false) := by decide +kernel
theorem d_findLeafPos_6 : decode prog_1_method_21_code 6 = .ok (.iconst 1, 1) := by decide +kernel
theorem d_findLeafPos_7 : decode prog_1_method_21_code 7 = .ok (.isub, 1) := by decide +kernel
theorem d_findLeafPos_8 : decode prog_1_method_21_code 8 = .ok (.istore_n 3, 1) := by decide +kernel
theorem d_findLeafPos_9 : decode prog_1_method_21_code 9 = .ok (.iconst 0, 1) := by decide +kernel
theorem d_findLeafPos_10 : decode prog_1_method_21_code 10 = .ok (.istore 4, 2) := by decide +kernel
theorem d_findLeafPos_12 : decode prog_1_method_21_code 12 = .ok (.iconst 0, 1) := by decide +kernel
theorem d_findLeafPos_13 : decode prog_1_method_21_code 13 = .ok (.istore 5, 2) := by decide +kernel
abbrev W_findLeafPos (pc : Nat) (ls : List Slot) (st : List Value) (M : EMem) (Q : Option Value → EMem → Prop) : Prop := Wp tables_1 0 1 14 (⟨"HtreeDir", "findLeafPos", "(I)I"⟩ : MethodName) prog_1_method_21_code (some .int) pc ls st M Q
theorem d_findLeafPos_15 : decode prog_1_method_21_code 15 = .ok (.iload 5, 2) := by decide +kernel
theorem d_findLeafPos_17 : decode prog_1_method_21_code 17 = .ok (.bipush 8, 2) := by decide +kernel
theorem d_findLeafPos_19 : decode prog_1_method_21_code 19 = .ok (.if_icmp .ge 48, 3) := by decide +kernel
theorem d_findLeafPos_22 : decode prog_1_method_21_code 22 = .ok (.iload_n 2, 1) := by decide +kernel
theorem d_findLeafPos_23 : decode prog_1_method_21_code 23 = .ok (.iload_n 3, 1) := by decide +kernel
theorem d_findLeafPos_27 : decode prog_1_method_21_code 27 = .ok (.iload_n 2, 1) := by decide +kernel
theorem d_findLeafPos_28 : decode prog_1_method_21_code 28 = .ok (.iload_n 3, 1) := by decide +kernel
theorem d_findLeafPos_29 : decode prog_1_method_21_code 29 = .ok (.iadd, 1) := by decide +kernel
theorem d_findLeafPos_30 : decode prog_1_method_21_code 30 = .ok (.iconst 1, 1) := by decide +kernel
theorem d_findLeafPos_31 : decode prog_1_method_21_code 31 = .ok (.iushr, 1) := by decide +kernel
theorem d_findLeafPos_32 : decode prog_1_method_21_code 32 = .ok (.istore 6, 2) := by decide +kernel
theorem d_findLeafPos_34 : decode prog_1_method_21_code 34 = .ok (.aload_n 0, 1) := by decide +kernel
theorem d_findLeafPos_35 : decode prog_1_method_21_code 35 = .ok (.iload 6, 2) := by decide +kernel
theorem d_findLeafPos_67 : decode prog_1_method_21_code 67 = .ok (.iload 4, 2) := by decide +kernel
theorem d_findLeafPos_69 : decode prog_1_method_21_code 69 = .ok (.ireturn, 1) := by decide +kernel
theorem d_findLeafPos_24 : decode prog_1_method_21_code 24 = .ok (.if_icmp .gt 43, 3) := by decide +kernel
theorem d_findLeafPos_37 : decode prog_1_method_21_code 37 = .ok (.invokevirtual 100, 3) := by decide +kernel
theorem ml_c100 : methodLk "HtreeDir" 100 tables_1 = some (⟨"HtreeDir", "keyAt", "(I)I"⟩ : MethodName) := by decide +kernel
theorem cl_keyAt : codeLk (⟨"HtreeDir", "keyAt", "(I)I"⟩ : MethodName) tables_1 = some (prog_1_method_20_code, 3, (some .int)) := codeLk_at (i := 77) rfl (by decide +kernel)
theorem pd_keyAt : parseMethodDescriptor "(I)I" = some ⟨[.int], some .int⟩ := by decide +kernel
theorem cc_keyAt_1 : hasInit (⟨"HtreeDir", "keyAt", "(I)I"⟩ : MethodName).cls tables_1 = true ∧ plainName (⟨"HtreeDir", "keyAt", "(I)I"⟩ : MethodName).cls = true ∧ (⟨"HtreeDir", "keyAt", "(I)I"⟩ : MethodName).cls ≠ "java/lang/invoke/MethodHandle" ∧ (⟨"HtreeDir", "keyAt", "(I)I"⟩ : MethodName).cls ≠ "java/lang/invoke/VarHandle" ∧ (((1 : Nat) = 0 ∧ hasDecl (⟨"HtreeDir", "keyAt", "(I)I"⟩ : MethodName) tables_1 = true ∧ hasSel (⟨"HtreeDir", "keyAt", "(I)I"⟩ : MethodName) tables_1 = true ∧ hasInst (⟨"HtreeDir", "keyAt", "(I)I"⟩ : MethodName) tables_1 = true) ∨ ((1 : Nat) = 1 ∧ hasPriv (⟨"HtreeDir", "keyAt", "(I)I"⟩ : MethodName) tables_1 = true ∧ hasInst (⟨"HtreeDir", "keyAt", "(I)I"⟩ : MethodName) tables_1 = true ∧ (instLk (⟨"HtreeDir", "keyAt", "(I)I"⟩ : MethodName).cls tables_1).isSome = true) ∨ ((1 : Nat) = 2 ∧ (⟨"HtreeDir", "keyAt", "(I)I"⟩ : MethodName).name = "<init>" ∧ hasInst (⟨"HtreeDir", "keyAt", "(I)I"⟩ : MethodName) tables_1 = true ∧ ((some .int) : Option FieldType) = none) ∨ ((1 : Nat) = 3 ∧ hasStat (⟨"HtreeDir", "keyAt", "(I)I"⟩ : MethodName) tables_1 = true)) := by decide +kernel
theorem ca_c100_1 : callAt tables_1 "HtreeDir" 100 1 = some ((⟨"HtreeDir", "keyAt", "(I)I"⟩ : MethodName), 1, prog_1_method_20_code, 3, (some .int)) := callAt_of ml_c100 cl_keyAt pd_keyAt cc_keyAt_1 rfl
theorem d_findLeafPos_40 : decode prog_1_method_21_code 40 = .ok (.iload_n 1, 1) := by decide +kernel
theorem d_findLeafPos_41 : decode prog_1_method_21_code 41 = .ok (.if_icmp .gt 15, 3) := by decide +kernel
theorem d_findLeafPos_56 : decode prog_1_method_21_code 56 = .ok (.iload 6, 2) := by decide +kernel
theorem d_findLeafPos_58 : decode prog_1_method_21_code 58 = .ok (.iconst 1, 1) := by decide +kernel
theorem d_findLeafPos_59 : decode prog_1_method_21_code 59 = .ok (.isub, 1) := by decide +kernel
theorem d_findLeafPos_60 : decode prog_1_method_21_code 60 = .ok (.istore_n 3, 1) := by decide +kernel
theorem d_findLeafPos_44 : decode prog_1_method_21_code 44 = .ok (.iload 6, 2) := by decide +kernel
theorem d_findLeafPos_46 : decode prog_1_method_21_code 46 = .ok (.istore 4, 2) := by decide +kernel
theorem d_findLeafPos_48 : decode prog_1_method_21_code 48 = .ok (.iload 6, 2) := by decide +kernel
theorem d_findLeafPos_50 : decode prog_1_method_21_code 50 = .ok (.iconst 1, 1) := by decide +kernel
theorem d_findLeafPos_51 : decode prog_1_method_21_code 51 = .ok (.iadd, 1) := by decide +kernel
theorem d_findLeafPos_52 : decode prog_1_method_21_code 52 = .ok (.istore_n 2, 1) := by decide +kernel
theorem d_findLeafPos_53 : decode prog_1_method_21_code 53 = .ok (.goto 8, 3) := by decide +kernel
theorem d_findLeafPos_61 : decode prog_1_method_21_code 61 = .ok (.iinc 5 1, 3) := by decide +kernel
theorem d_findLeafPos_64 : decode prog_1_method_21_code 64 = .ok (.goto (-49), 3) := by decide +kernel
theorem d_locate_0 : decode prog_1_method_22_code 0 = .ok (.aload_n 0, 1) := by decide +kernel
theorem d_locate_1 : decode prog_1_method_22_code 1 = .ok (.getfield 46, 3) := by decide +kernel
theorem d_locate_4 : decode prog_1_method_22_code 4 = .ok (.ifCond .gt 5, 3) := by decide +kernel
theorem d_locate_9 : decode prog_1_method_22_code 9 = .ok (.aload_n 0, 1) := by decide +kernel
theorem d_locate_10 : decode prog_1_method_22_code 10 = .ok (.iload_n 1, 1) := by decide +kernel
theorem d_locate_11 : decode prog_1_method_22_code 11 = .ok (.invokevirtual 67, 3) := by decide +kernel
theorem ml_c67 : methodLk "HtreeDir" 67 tables_1 = some (⟨"HtreeDir", "findLeafPos", "(I)I"⟩ : MethodName) := by decide +kernel
theorem cl_findLeafPos : codeLk (⟨"HtreeDir", "findLeafPos", "(I)I"⟩ : MethodName) tables_1 = some (prog_1_method_21_code, 7, (some .int)) := codeLk_at (i := 73) rfl (by decide +kernel)
theorem pd_findLeafPos : parseMethodDescriptor "(I)I" = some ⟨[.int], some .int⟩ := by decide +kernel
theorem cc_findLeafPos_1 : hasInit (⟨"HtreeDir", "findLeafPos", "(I)I"⟩ : MethodName).cls tables_1 = true ∧ plainName (⟨"HtreeDir", "findLeafPos", "(I)I"⟩ : MethodName).cls = true ∧ (⟨"HtreeDir", "findLeafPos", "(I)I"⟩ : MethodName).cls ≠ "java/lang/invoke/MethodHandle" ∧ (⟨"HtreeDir", "findLeafPos", "(I)I"⟩ : MethodName).cls ≠ "java/lang/invoke/VarHandle" ∧ (((1 : Nat) = 0 ∧ hasDecl (⟨"HtreeDir", "findLeafPos", "(I)I"⟩ : MethodName) tables_1 = true ∧ hasSel (⟨"HtreeDir", "findLeafPos", "(I)I"⟩ : MethodName) tables_1 = true ∧ hasInst (⟨"HtreeDir", "findLeafPos", "(I)I"⟩ : MethodName) tables_1 = true) ∨ ((1 : Nat) = 1 ∧ hasPriv (⟨"HtreeDir", "findLeafPos", "(I)I"⟩ : MethodName) tables_1 = true ∧ hasInst (⟨"HtreeDir", "findLeafPos", "(I)I"⟩ : MethodName) tables_1 = true ∧ (instLk (⟨"HtreeDir", "findLeafPos", "(I)I"⟩ : MethodName).cls tables_1).isSome = true) ∨ ((1 : Nat) = 2 ∧ (⟨"HtreeDir", "findLeafPos", "(I)I"⟩ : MethodName).name = "<init>" ∧ hasInst (⟨"HtreeDir", "findLeafPos", "(I)I"⟩ : MethodName) tables_1 = true ∧ ((some .int) : Option FieldType) = none) ∨ ((1 : Nat) = 3 ∧ hasStat (⟨"HtreeDir", "findLeafPos", "(I)I"⟩ : MethodName) tables_1 = true)) := by decide +kernel
theorem ca_c67_1 : callAt tables_1 "HtreeDir" 67 1 = some ((⟨"HtreeDir", "findLeafPos", "(I)I"⟩ : MethodName), 1, prog_1_method_21_code, 7, (some .int)) := callAt_of ml_c67 cl_findLeafPos pd_findLeafPos cc_findLeafPos_1 rfl
theorem d_locate_7 : decode prog_1_method_22_code 7 = .ok (.iconst (-1), 1) := by decide +kernel
theorem d_locate_8 : decode prog_1_method_22_code 8 = .ok (.ireturn, 1) := by decide +kernel
abbrev W_locate (pc : Nat) (ls : List Slot) (st : List Value) (M : EMem) (Q : Option Value → EMem → Prop) : Prop := Wp tables_1 0 2 32 (⟨"HtreeDir", "locate", "(I)I"⟩ : MethodName) prog_1_method_22_code (some .int) pc ls st M Q
theorem d_locate_14 : decode prog_1_method_22_code 14 = .ok (.istore_n 2, 1) := by decide +kernel
theorem d_locate_15 : decode prog_1_method_22_code 15 = .ok (.aload_n 0, 1) := by decide +kernel
theorem d_locate_16 : decode prog_1_method_22_code 16 = .ok (.getfield 22, 3) := by decide +kernel
theorem d_locate_19 : decode prog_1_method_22_code 19 = .ok (.iload_n 2, 1) := by decide +kernel
theorem d_locate_20 : decode prog_1_method_22_code 20 = .ok (.iaload, 1) := by decide +kernel
theorem d_locate_21 : decode prog_1_method_22_code 21 = .ok (.istore_n 3, 1) := by decide +kernel
theorem d_locate_22 : decode prog_1_method_22_code 22 = .ok (.iload_n 3, 1) := by decide +kernel
theorem d_locate_23 : decode prog_1_method_22_code 23 = .ok (.iconst 4, 1) := by decide +kernel
theorem d_locate_24 : decode prog_1_method_22_code 24 = .ok (.imul, 1) := by decide +kernel
theorem d_locate_25 : decode prog_1_method_22_code 25 = .ok (.istore 4, 2) := by decide +kernel
theorem d_locate_27 : decode prog_1_method_22_code 27 = .ok (.aload_n 0, 1) := by decide +kernel
theorem d_locate_28 : decode prog_1_method_22_code 28 = .ok (.getfield 19, 3) := by decide +kernel
theorem fa_c19 : fieldAt tables_1 "HtreeDir" 19 = some ("HtreeDir", 17, 4, false) := by decide +kernel
theorem d_locate_31 : decode prog_1_method_22_code 31 = .ok (.iload_n 3, 1) := by decide +kernel
theorem d_locate_32 : decode prog_1_method_22_code 32 = .ok (.iaload, 1) := by decide +kernel
theorem d_locate_33 : decode prog_1_method_22_code 33 = .ok (.istore 5, 2) := by decide +kernel
theorem d_locate_35 : decode prog_1_method_22_code 35 = .ok (.iconst 0, 1) := by decide +kernel
theorem d_locate_36 : decode prog_1_method_22_code 36 = .ok (.istore 6, 2) := by decide +kernel
theorem d_locate_38 : decode prog_1_method_22_code 38 = .ok (.iload 6, 2) := by decide +kernel
theorem d_locate_40 : decode prog_1_method_22_code 40 = .ok (.iload 5, 2) := by decide +kernel
theorem d_locate_42 : decode prog_1_method_22_code 42 = .ok (.if_icmp .ge 36, 3) := by decide +kernel
theorem d_locate_78 : decode prog_1_method_22_code 78 = .ok (.iconst (-1), 1) := by decide +kernel
theorem d_locate_79 : decode prog_1_method_22_code 79 = .ok (.ireturn, 1) := by decide +kernel
theorem d_locate_45 : decode prog_1_method_22_code 45 = .ok (.iload 6, 2) := by decide +kernel
theorem d_locate_47 : decode prog_1_method_22_code 47 = .ok (.iconst 4, 1) := by decide +kernel
theorem d_locate_51 : decode prog_1_method_22_code 51 = .ok (.aload_n 0, 1) := by decide +kernel
theorem d_locate_52 : decode prog_1_method_22_code 52 = .ok (.getfield 7, 3) := by decide +kernel
theorem d_locate_55 : decode prog_1_method_22_code 55 = .ok (.iload 4, 2) := by decide +kernel
theorem d_locate_57 : decode prog_1_method_22_code 57 = .ok (.iload 6, 2) := by decide +kernel
theorem d_locate_59 : decode prog_1_method_22_code 59 = .ok (.iadd, 1) := by decide +kernel
theorem d_locate_60 : decode prog_1_method_22_code 60 = .ok (.iaload, 1) := by decide +kernel
theorem d_locate_61 : decode prog_1_method_22_code 61 = .ok (.iload_n 1, 1) := by decide +kernel
theorem d_locate_72 : decode prog_1_method_22_code 72 = .ok (.iinc 6 1, 3) := by decide +kernel
theorem d_locate_75 : decode prog_1_method_22_code 75 = .ok (.goto (-37), 3) := by decide +kernel
theorem d_locate_48 : decode prog_1_method_22_code 48 = .ok (.if_icmp .ge 30, 3) := by decide +kernel
theorem d_locate_62 : decode prog_1_method_22_code 62 = .ok (.if_icmp .ne 10, 3) := by decide +kernel
theorem d_locate_65 : decode prog_1_method_22_code 65 = .ok (.iload_n 2, 1) := by decide +kernel
theorem d_locate_66 : decode prog_1_method_22_code 66 = .ok (.iconst 4, 1) := by decide +kernel
theorem d_locate_67 : decode prog_1_method_22_code 67 = .ok (.imul, 1) := by decide +kernel
theorem d_locate_68 : decode prog_1_method_22_code 68 = .ok (.iload 6, 2) := by decide +kernel
theorem d_locate_70 : decode prog_1_method_22_code 70 = .ok (.iadd, 1) := by decide +kernel
theorem d_locate_71 : decode prog_1_method_22_code 71 = .ok (.ireturn, 1) := by decide +kernel
theorem d_entryIndex_0 : decode prog_1_method_24_code 0 = .ok (.aload_n 0, 1) := by decide +kernel
theorem d_entryIndex_1 : decode prog_1_method_24_code 1 = .ok (.getfield 22, 3) := by decide +kernel
theorem d_entryIndex_4 : decode prog_1_method_24_code 4 = .ok (.iload_n 1, 1) := by decide +kernel
theorem d_entryIndex_5 : decode prog_1_method_24_code 5 = .ok (.iconst 2, 1) := by decide +kernel
theorem d_entryIndex_6 : decode prog_1_method_24_code 6 = .ok (.iushr, 1) := by decide +kernel
theorem d_entryIndex_7 : decode prog_1_method_24_code 7 = .ok (.bipush 31, 2) := by decide +kernel
theorem d_entryIndex_9 : decode prog_1_method_24_code 9 = .ok (.iand, 1) := by decide +kernel
theorem d_entryIndex_10 : decode prog_1_method_24_code 10 = .ok (.iaload, 1) := by decide +kernel
theorem d_entryIndex_11 : decode prog_1_method_24_code 11 = .ok (.istore_n 2, 1) := by decide +kernel
theorem d_entryIndex_12 : decode prog_1_method_24_code 12 = .ok (.iload_n 2, 1) := by decide +kernel
theorem d_entryIndex_13 : decode prog_1_method_24_code 13 = .ok (.iconst 4, 1) := by decide +kernel
theorem d_entryIndex_14 : decode prog_1_method_24_code 14 = .ok (.imul, 1) := by decide +kernel
theorem d_entryIndex_15 : decode prog_1_method_24_code 15 = .ok (.iload_n 1, 1) := by decide +kernel
theorem d_entryIndex_16 : decode prog_1_method_24_code 16 = .ok (.iconst 3, 1) := by decide +kernel
theorem d_entryIndex_17 : decode prog_1_method_24_code 17 = .ok (.iand, 1) := by decide +kernel
theorem d_entryIndex_18 : decode prog_1_method_24_code 18 = .ok (.iadd, 1) := by decide +kernel
theorem d_entryIndex_19 : decode prog_1_method_24_code 19 = .ok (.ireturn, 1) := by decide +kernel
abbrev W_entryIndex (pc : Nat) (ls : List Slot) (st : List Value) (M : EMem) (Q : Option Value → EMem → Prop) : Prop := Wp tables_1 0 0 0 (⟨"HtreeDir", "entryIndex", "(I)I"⟩ : MethodName) prog_1_method_24_code (some .int) pc ls st M Q
theorem d_allocLeaf_0 : decode prog_1_method_26_code 0 = .ok (.aload_n 0, 1) := by decide +kernel
theorem d_allocLeaf_1 : decode prog_1_method_26_code 1 = .ok (.getfield 49, 3) := by decide +kernel
theorem fa_c49 : fieldAt tables_1 "HtreeDir" 49 = some ("HtreeDir", 37, 1, false) := by decide +kernel
theorem d_allocLeaf_4 : decode prog_1_method_26_code 4 = .ok (.ifCond .gt 5, 3) := by decide +kernel
theorem d_allocLeaf_9 : decode prog_1_method_26_code 9 = .ok (.aload_n 0, 1) := by decide +kernel
theorem d_allocLeaf_10 : decode prog_1_method_26_code 10 = .ok (.dup, 1) := by decide +kernel
theorem d_allocLeaf_11 : decode prog_1_method_26_code 11 = .ok (.getfield 49, 3) := by decide +kernel
theorem d_allocLeaf_14 : decode prog_1_method_26_code 14 = .ok (.iconst 1, 1) := by decide +kernel
theorem d_allocLeaf_15 : decode prog_1_method_26_code 15 = .ok (.isub, 1) := by decide +kernel
theorem d_allocLeaf_16 : decode prog_1_method_26_code 16 = .ok (.putfield 49, 3) := by decide +kernel
theorem in_HtreeDir : instLk "HtreeDir" tables_1 = some 13 := by decide +kernel
theorem d_allocLeaf_19 : decode prog_1_method_26_code 19 = .ok (.aload_n 0, 1) := by decide +kernel
theorem d_allocLeaf_20 : decode prog_1_method_26_code 20 = .ok (.getfield 25, 3) := by decide +kernel
theorem fa_c25 : fieldAt tables_1 "HtreeDir" 25 = some ("HtreeDir", 21, 4, false) := by decide +kernel
theorem d_allocLeaf_23 : decode prog_1_method_26_code 23 = .ok (.aload_n 0, 1) := by decide +kernel
theorem d_allocLeaf_24 : decode prog_1_method_26_code 24 = .ok (.getfield 49, 3) := by decide +kernel
theorem d_allocLeaf_27 : decode prog_1_method_26_code 27 = .ok (.iaload, 1) := by decide +kernel
theorem d_allocLeaf_28 : decode prog_1_method_26_code 28 = .ok (.bipush 31, 2) := by decide +kernel
theorem d_allocLeaf_30 : decode prog_1_method_26_code 30 = .ok (.iand, 1) := by decide +kernel
theorem d_allocLeaf_31 : decode prog_1_method_26_code 31 = .ok (.istore_n 1, 1) := by decide +kernel
theorem d_allocLeaf_32 : decode prog_1_method_26_code 32 = .ok (.aload_n 0, 1) := by decide +kernel
theorem d_allocLeaf_33 : decode prog_1_method_26_code 33 = .ok (.getfield 19, 3) := by decide +kernel
theorem d_allocLeaf_36 : decode prog_1_method_26_code 36 = .ok (.iload_n 1, 1) := by decide +kernel
theorem d_allocLeaf_37 : decode prog_1_method_26_code 37 = .ok (.iconst 0, 1) := by decide +kernel
theorem d_allocLeaf_38 : decode prog_1_method_26_code 38 = .ok (.iastore, 1) := by decide +kernel
theorem d_allocLeaf_39 : decode prog_1_method_26_code 39 = .ok (.iload_n 1, 1) := by decide +kernel
theorem d_allocLeaf_40 : decode prog_1_method_26_code 40 = .ok (.ireturn, 1) := by decide +kernel
theorem d_allocLeaf_7 : decode prog_1_method_26_code 7 = .ok (.iconst (-1), 1) := by decide +kernel
theorem d_allocLeaf_8 : decode prog_1_method_26_code 8 = .ok (.ireturn, 1) := by decide +kernel
abbrev W_allocLeaf (pc : Nat) (ls : List Slot) (st : List Value) (M : EMem) (Q : Option Value → EMem → Prop) : Prop := Wp tables_1 0 0 0 (⟨"HtreeDir", "allocLeaf", "()I"⟩ : MethodName) prog_1_method_26_code (some .int) pc ls st M Q
theorem d_createFirstLeaf_0 : decode prog_1_method_28_code 0 = .ok (.aload_n 0, 1) := by decide +kernel
theorem d_createFirstLeaf_1 : decode prog_1_method_28_code 1 = .ok (.invokevirtual 103, 3) := by decide +kernel
theorem ml_c103 : methodLk "HtreeDir" 103 tables_1 = some (⟨"HtreeDir", "allocLeaf", "()I"⟩ : MethodName) := by decide +kernel
theorem cl_allocLeaf : codeLk (⟨"HtreeDir", "allocLeaf", "()I"⟩ : MethodName) tables_1 = some (prog_1_method_26_code, 2, (some .int)) := codeLk_at (i := 69) rfl (by decide +kernel)
theorem pd_allocLeaf : parseMethodDescriptor "()I" = some ⟨[], some .int⟩ := by decide +kernel
theorem cc_allocLeaf_1 : hasInit (⟨"HtreeDir", "allocLeaf", "()I"⟩ : MethodName).cls tables_1 = true ∧ plainName (⟨"HtreeDir", "allocLeaf", "()I"⟩ : MethodName).cls = true ∧ (⟨"HtreeDir", "allocLeaf", "()I"⟩ : MethodName).cls ≠ "java/lang/invoke/MethodHandle" ∧ (⟨"HtreeDir", "allocLeaf", "()I"⟩ : MethodName).cls ≠ "java/lang/invoke/VarHandle" ∧ (((1 : Nat) = 0 ∧ hasDecl (⟨"HtreeDir", "allocLeaf", "()I"⟩ : MethodName) tables_1 = true ∧ hasSel (⟨"HtreeDir", "allocLeaf", "()I"⟩ : MethodName) tables_1 = true ∧ hasInst (⟨"HtreeDir", "allocLeaf", "()I"⟩ : MethodName) tables_1 = true) ∨ ((1 : Nat) = 1 ∧ hasPriv (⟨"HtreeDir", "allocLeaf", "()I"⟩ : MethodName) tables_1 = true ∧ hasInst (⟨"HtreeDir", "allocLeaf", "()I"⟩ : MethodName) tables_1 = true ∧ (instLk (⟨"HtreeDir", "allocLeaf", "()I"⟩ : MethodName).cls tables_1).isSome = true) ∨ ((1 : Nat) = 2 ∧ (⟨"HtreeDir", "allocLeaf", "()I"⟩ : MethodName).name = "<init>" ∧ hasInst (⟨"HtreeDir", "allocLeaf", "()I"⟩ : MethodName) tables_1 = true ∧ ((some .int) : Option FieldType) = none) ∨ ((1 : Nat) = 3 ∧ hasStat (⟨"HtreeDir", "allocLeaf", "()I"⟩ : MethodName) tables_1 = true)) := by decide +kernel
theorem ca_c103_1 : callAt tables_1 "HtreeDir" 103 1 = some ((⟨"HtreeDir", "allocLeaf", "()I"⟩ : MethodName), 0, prog_1_method_26_code, 2, (some .int)) := callAt_of ml_c103 cl_allocLeaf pd_allocLeaf cc_allocLeaf_1 rfl
abbrev W_createFirstLeaf (pc : Nat) (ls : List Slot) (st : List Value) (M : EMem) (Q : Option Value → EMem → Prop) : Prop := Wp tables_1 0 1 13 (⟨"HtreeDir", "createFirstLeaf", "()Z"⟩ : MethodName) prog_1_method_28_code (some .boolean) pc ls st M Q
theorem d_createFirstLeaf_4 : decode prog_1_method_28_code 4 = .ok (.istore_n 1, 1) := by decide +kernel
theorem d_createFirstLeaf_5 : decode prog_1_method_28_code 5 = .ok (.iload_n 1, 1) := by decide +kernel
theorem d_createFirstLeaf_6 : decode prog_1_method_28_code 6 = .ok (.ifCond .ge 5, 3) := by decide +kernel
theorem d_createFirstLeaf_11 : decode prog_1_method_28_code 11 = .ok (.aload_n 0, 1) := by decide +kernel
theorem d_createFirstLeaf_12 : decode prog_1_method_28_code 12 = .ok (.getfield 22, 3) := by decide +kernel
theorem d_createFirstLeaf_15 : decode prog_1_method_28_code 15 = .ok (.iconst 0, 1) := by decide +kernel
theorem d_createFirstLeaf_16 : decode prog_1_method_28_code 16 = .ok (.iload_n 1, 1) := by decide +kernel
theorem d_createFirstLeaf_17 : decode prog_1_method_28_code 17 = .ok (.iastore, 1) := by decide +kernel
theorem d_createFirstLeaf_18 : decode prog_1_method_28_code 18 = .ok (.aload_n 0, 1) := by decide +kernel
theorem d_createFirstLeaf_19 : decode prog_1_method_28_code 19 = .ok (.iconst 1, 1) := by decide +kernel
theorem d_createFirstLeaf_20 : decode prog_1_method_28_code 20 = .ok (.putfield 46, 3) := by decide +kernel
theorem d_createFirstLeaf_23 : decode prog_1_method_28_code 23 = .ok (.iconst 1, 1) := by decide +kernel
theorem d_createFirstLeaf_24 : decode prog_1_method_28_code 24 = .ok (.ireturn, 1) := by decide +kernel
theorem d_createFirstLeaf_9 : decode prog_1_method_28_code 9 = .ok (.iconst 0, 1) := by decide +kernel
theorem d_createFirstLeaf_10 : decode prog_1_method_28_code 10 = .ok (.ireturn, 1) := by decide +kernel
theorem d_insertIntoLeaf_0 : decode prog_1_method_33_code 0 = .ok (.aload_n 0, 1) := by decide +kernel
theorem d_insertIntoLeaf_1 : decode prog_1_method_33_code 1 = .ok (.getfield 19, 3) := by decide +kernel
theorem d_insertIntoLeaf_4 : decode prog_1_method_33_code 4 = .ok (.iload_n 1, 1) := by decide +kernel
theorem d_insertIntoLeaf_5 : decode prog_1_method_33_code 5 = .ok (.iaload, 1) := by decide +kernel
theorem d_insertIntoLeaf_6 : decode prog_1_method_33_code 6 = .ok (.istore 5, 2) := by decide +kernel
theorem d_insertIntoLeaf_8 : decode prog_1_method_33_code 8 = .ok (.iload 5, 2) := by decide +kernel
theorem d_insertIntoLeaf_10 : decode prog_1_method_33_code 10 = .ok (.iconst 4, 1) := by decide +kernel
theorem d_insertIntoLeaf_11 : decode prog_1_method_33_code 11 = .ok (.if_icmp .ge 8, 3) := by decide +kernel
theorem d_insertIntoLeaf_19 : decode prog_1_method_33_code 19 = .ok (.return_, 1) := by decide +kernel
theorem d_insertIntoLeaf_14 : decode prog_1_method_33_code 14 = .ok (.iload 5, 2) := by decide +kernel
theorem d_insertIntoLeaf_16 : decode prog_1_method_33_code 16 = .ok (.ifCond .ge 4, 3) := by decide +kernel
theorem d_insertIntoLeaf_20 : decode prog_1_method_33_code 20 = .ok (.iload_n 1, 1) := by decide +kernel
theorem d_insertIntoLeaf_21 : decode prog_1_method_33_code 21 = .ok (.iconst 4, 1) := by decide +kernel
theorem d_insertIntoLeaf_22 : decode prog_1_method_33_code 22 = .ok (.imul, 1) := by decide +kernel
theorem d_insertIntoLeaf_23 : decode prog_1_method_33_code 23 = .ok (.istore 6, 2) := by decide +kernel
theorem d_insertIntoLeaf_25 : decode prog_1_method_33_code 25 = .ok (.iload 5, 2) := by decide +kernel
theorem d_insertIntoLeaf_27 : decode prog_1_method_33_code 27 = .ok (.istore 7, 2) := by decide +kernel
abbrev W_insertIntoLeaf (pc : Nat) (ls : List Slot) (st : List Value) (M : EMem) (Q : Option Value → EMem → Prop) : Prop := Wp tables_1 0 0 0 (⟨"HtreeDir", "insertIntoLeaf", "(IIII)V"⟩ : MethodName) prog_1_method_33_code none pc ls st M Q
theorem d_insertIntoLeaf_29 : decode prog_1_method_33_code 29 = .ok (.iload 7, 2) := by decide +kernel
theorem d_insertIntoLeaf_31 : decode prog_1_method_33_code 31 = .ok (.ifCond .le 44, 3) := by decide +kernel
theorem d_insertIntoLeaf_34 : decode prog_1_method_33_code 34 = .ok (.aload_n 0, 1) := by decide +kernel
theorem d_insertIntoLeaf_35 : decode prog_1_method_33_code 35 = .ok (.getfield 7, 3) := by decide +kernel
theorem d_insertIntoLeaf_38 : decode prog_1_method_33_code 38 = .ok (.iload 6, 2) := by decide +kernel
theorem d_insertIntoLeaf_40 : decode prog_1_method_33_code 40 = .ok (.iload 7, 2) := by decide +kernel
theorem d_insertIntoLeaf_42 : decode prog_1_method_33_code 42 = .ok (.iadd, 1) := by decide +kernel
theorem d_insertIntoLeaf_43 : decode prog_1_method_33_code 43 = .ok (.iconst 1, 1) := by decide +kernel
theorem d_insertIntoLeaf_44 : decode prog_1_method_33_code 44 = .ok (.isub, 1) := by decide +kernel
theorem d_insertIntoLeaf_45 : decode prog_1_method_33_code 45 = .ok (.iaload, 1) := by decide +kernel
theorem d_insertIntoLeaf_46 : decode prog_1_method_33_code 46 = .ok (.iload_n 2, 1) := by decide +kernel
theorem d_insertIntoLeaf_53 : decode prog_1_method_33_code 53 = .ok (.aload_n 0, 1) := by decide +kernel
theorem d_insertIntoLeaf_54 : decode prog_1_method_33_code 54 = .ok (.iload 6, 2) := by decide +kernel
theorem d_insertIntoLeaf_56 : decode prog_1_method_33_code 56 = .ok (.iload 7, 2) := by decide +kernel
theorem d_insertIntoLeaf_58 : decode prog_1_method_33_code 58 = .ok (.iadd, 1) := by decide +kernel
theorem d_insertIntoLeaf_59 : decode prog_1_method_33_code 59 = .ok (.iconst 1, 1) := by decide +kernel
theorem d_insertIntoLeaf_60 : decode prog_1_method_33_code 60 = .ok (.isub, 1) := by decide +kernel
theorem d_insertIntoLeaf_61 : decode prog_1_method_33_code 61 = .ok (.iload 6, 2) := by decide +kernel
theorem d_insertIntoLeaf_63 : decode prog_1_method_33_code 63 = .ok (.iload 7, 2) := by decide +kernel
theorem d_insertIntoLeaf_65 : decode prog_1_method_33_code 65 = .ok (.iadd, 1) := by decide +kernel
theorem d_insertIntoLeaf_47 : decode prog_1_method_33_code 47 = .ok (.if_icmp .ge 6, 3) := by decide +kernel
theorem d_insertIntoLeaf_50 : decode prog_1_method_33_code 50 = .ok (.goto 25, 3) := by decide +kernel
theorem d_insertIntoLeaf_75 : decode prog_1_method_33_code 75 = .ok (.aload_n 0, 1) := by decide +kernel
theorem d_insertIntoLeaf_76 : decode prog_1_method_33_code 76 = .ok (.getfield 7, 3) := by decide +kernel
theorem d_insertIntoLeaf_79 : decode prog_1_method_33_code 79 = .ok (.iload 6, 2) := by decide +kernel
theorem d_insertIntoLeaf_81 : decode prog_1_method_33_code 81 = .ok (.iload 7, 2) := by decide +kernel
theorem d_insertIntoLeaf_83 : decode prog_1_method_33_code 83 = .ok (.iadd, 1) := by decide +kernel
theorem d_insertIntoLeaf_84 : decode prog_1_method_33_code 84 = .ok (.iload_n 2, 1) := by decide +kernel
theorem d_insertIntoLeaf_85 : decode prog_1_method_33_code 85 = .ok (.iastore, 1) := by decide +kernel
theorem d_insertIntoLeaf_86 : decode prog_1_method_33_code 86 = .ok (.aload_n 0, 1) := by decide +kernel
theorem d_insertIntoLeaf_87 : decode prog_1_method_33_code 87 = .ok (.getfield 13, 3) := by decide +kernel
theorem fa_c13 : fieldAt tables_1 "HtreeDir" 13 = some ("HtreeDir", 13, 4, false) := by decide +kernel
theorem d_insertIntoLeaf_90 : decode prog_1_method_33_code 90 = .ok (.iload 6, 2) := by decide +kernel
theorem d_insertIntoLeaf_92 : decode prog_1_method_33_code 92 = .ok (.iload 7, 2) := by decide +kernel
theorem d_insertIntoLeaf_94 : decode prog_1_method_33_code 94 = .ok (.iadd, 1) := by decide +kernel
theorem d_insertIntoLeaf_95 : decode prog_1_method_33_code 95 = .ok (.iload_n 3, 1) := by decide +kernel
theorem d_insertIntoLeaf_96 : decode prog_1_method_33_code 96 = .ok (.iastore, 1) := by decide +kernel
theorem d_insertIntoLeaf_97 : decode prog_1_method_33_code 97 = .ok (.aload_n 0, 1) := by decide +kernel
theorem d_insertIntoLeaf_98 : decode prog_1_method_33_code 98 = .ok (.getfield 16, 3) := by decide +kernel
theorem fa_c16 : fieldAt tables_1 "HtreeDir" 16 = some ("HtreeDir", 15, 4, false) := by decide +kernel
theorem d_insertIntoLeaf_101 : decode prog_1_method_33_code 101 = .ok (.iload 6, 2) := by decide +kernel
theorem d_insertIntoLeaf_103 : decode prog_1_method_33_code 103 = .ok (.iload 7, 2) := by decide +kernel
theorem d_insertIntoLeaf_105 : decode prog_1_method_33_code 105 = .ok (.iadd, 1) := by decide +kernel
theorem d_insertIntoLeaf_106 : decode prog_1_method_33_code 106 = .ok (.iload 4, 2) := by decide +kernel
theorem d_insertIntoLeaf_108 : decode prog_1_method_33_code 108 = .ok (.iastore, 1) := by decide +kernel
theorem d_insertIntoLeaf_109 : decode prog_1_method_33_code 109 = .ok (.aload_n 0, 1) := by decide +kernel
theorem d_insertIntoLeaf_110 : decode prog_1_method_33_code 110 = .ok (.getfield 19, 3) := by decide +kernel
theorem d_insertIntoLeaf_113 : decode prog_1_method_33_code 113 = .ok (.iload_n 1, 1) := by decide +kernel
theorem d_insertIntoLeaf_114 : decode prog_1_method_33_code 114 = .ok (.iload 5, 2) := by decide +kernel
theorem d_insertIntoLeaf_116 : decode prog_1_method_33_code 116 = .ok (.iconst 1, 1) := by decide +kernel
theorem d_insertIntoLeaf_117 : decode prog_1_method_33_code 117 = .ok (.iadd, 1) := by decide +kernel
theorem d_insertIntoLeaf_118 : decode prog_1_method_33_code 118 = .ok (.iastore, 1) := by decide +kernel
theorem d_insertIntoLeaf_119 : decode prog_1_method_33_code 119 = .ok (.return_, 1) := by decide +kernel
theorem d_insert_0 : decode prog_1_method_5_code 0 = .ok (.aload_n 0, 1) := by decide +kernel
theorem d_insert_1 : decode prog_1_method_5_code 1 = .ok (.iload_n 1, 1) := by decide +kernel
theorem d_insert_2 : decode prog_1_method_5_code 2 = .ok (.invokevirtual 52, 3) := by decide +kernel
theorem ml_c52 : methodLk "HtreeDir" 52 tables_1 = some (⟨"HtreeDir", "isName", "(I)Z"⟩ : MethodName) := by decide +kernel
theorem cl_isName : codeLk (⟨"HtreeDir", "isName", "(I)Z"⟩ : MethodName) tables_1 = some (prog_1_method_17_code, 2, (some .boolean)) := codeLk_at (i := 52) rfl (by decide +kernel)
theorem pd_isName : parseMethodDescriptor "(I)Z" = some ⟨[.int], some .boolean⟩ := by decide +kernel
theorem cc_isName_1 : hasInit (⟨"HtreeDir", "isName", "(I)Z"⟩ : MethodName).cls tables_1 = true ∧ plainName (⟨"HtreeDir", "isName", "(I)Z"⟩ : MethodName).cls = true ∧ (⟨"HtreeDir", "isName", "(I)Z"⟩ : MethodName).cls ≠ "java/lang/invoke/MethodHandle" ∧ (⟨"HtreeDir", "isName", "(I)Z"⟩ : MethodName).cls ≠ "java/lang/invoke/VarHandle" ∧ (((1 : Nat) = 0 ∧ hasDecl (⟨"HtreeDir", "isName", "(I)Z"⟩ : MethodName) tables_1 = true ∧ hasSel (⟨"HtreeDir", "isName", "(I)Z"⟩ : MethodName) tables_1 = true ∧ hasInst (⟨"HtreeDir", "isName", "(I)Z"⟩ : MethodName) tables_1 = true) ∨ ((1 : Nat) = 1 ∧ hasPriv (⟨"HtreeDir", "isName", "(I)Z"⟩ : MethodName) tables_1 = true ∧ hasInst (⟨"HtreeDir", "isName", "(I)Z"⟩ : MethodName) tables_1 = true ∧ (instLk (⟨"HtreeDir", "isName", "(I)Z"⟩ : MethodName).cls tables_1).isSome = true) ∨ ((1 : Nat) = 2 ∧ (⟨"HtreeDir", "isName", "(I)Z"⟩ : MethodName).name = "<init>" ∧ hasInst (⟨"HtreeDir", "isName", "(I)Z"⟩ : MethodName) tables_1 = true ∧ ((some .boolean) : Option FieldType) = none) ∨ ((1 : Nat) = 3 ∧ hasStat (⟨"HtreeDir", "isName", "(I)Z"⟩ : MethodName) tables_1 = true)) := by decide +kernel
theorem ca_c52_1 : callAt tables_1 "HtreeDir" 52 1 = some ((⟨"HtreeDir", "isName", "(I)Z"⟩ : MethodName), 1, prog_1_method_17_code, 2, (some .boolean)) := callAt_of ml_c52 cl_isName pd_isName cc_isName_1 rfl
abbrev W_insert (pc : Nat) (ls : List Slot) (st : List Value) (M : EMem) (Q : Option Value → EMem → Prop) : Prop := Wp tables_1 0 3 50 (⟨"HtreeDir", "insert", "(II)I"⟩ : MethodName) prog_1_method_5_code (some .int) pc ls st M Q
theorem d_insert_5 : decode prog_1_method_5_code 5 = .ok (.ifCond .ne 5, 3) := by decide +kernel
theorem d_insert_10 : decode prog_1_method_5_code 10 = .ok (.iload_n 2, 1) := by decide +kernel
theorem d_insert_11 : decode prog_1_method_5_code 11 = .ok (.iconst 1, 1) := by decide +kernel
theorem d_insert_17 : decode prog_1_method_5_code 17 = .ok (.aload_n 0, 1) := by decide +kernel
theorem d_insert_18 : decode prog_1_method_5_code 18 = .ok (.iload_n 1, 1) := by decide +kernel
theorem d_insert_12 : decode prog_1_method_5_code 12 = .ok (.if_icmp .ge 5, 3) := by decide +kernel
theorem d_insert_19 : decode prog_1_method_5_code 19 = .ok (.invokevirtual 56, 3) := by decide +kernel
theorem ml_c56 : methodLk "HtreeDir" 56 tables_1 = some (⟨"HtreeDir", "hash", "(I)I"⟩ : MethodName) := by decide +kernel
theorem cl_hash : codeLk (⟨"HtreeDir", "hash", "(I)I"⟩ : MethodName) tables_1 = some (prog_1_method_19_code, 3, (some .int)) := codeLk_at (i := 56) rfl (by decide +kernel)
theorem pd_hash : parseMethodDescriptor "(I)I" = some ⟨[.int], some .int⟩ := by decide +kernel
theorem cc_hash_1 : hasInit (⟨"HtreeDir", "hash", "(I)I"⟩ : MethodName).cls tables_1 = true ∧ plainName (⟨"HtreeDir", "hash", "(I)I"⟩ : MethodName).cls = true ∧ (⟨"HtreeDir", "hash", "(I)I"⟩ : MethodName).cls ≠ "java/lang/invoke/MethodHandle" ∧ (⟨"HtreeDir", "hash", "(I)I"⟩ : MethodName).cls ≠ "java/lang/invoke/VarHandle" ∧ (((1 : Nat) = 0 ∧ hasDecl (⟨"HtreeDir", "hash", "(I)I"⟩ : MethodName) tables_1 = true ∧ hasSel (⟨"HtreeDir", "hash", "(I)I"⟩ : MethodName) tables_1 = true ∧ hasInst (⟨"HtreeDir", "hash", "(I)I"⟩ : MethodName) tables_1 = true) ∨ ((1 : Nat) = 1 ∧ hasPriv (⟨"HtreeDir", "hash", "(I)I"⟩ : MethodName) tables_1 = true ∧ hasInst (⟨"HtreeDir", "hash", "(I)I"⟩ : MethodName) tables_1 = true ∧ (instLk (⟨"HtreeDir", "hash", "(I)I"⟩ : MethodName).cls tables_1).isSome = true) ∨ ((1 : Nat) = 2 ∧ (⟨"HtreeDir", "hash", "(I)I"⟩ : MethodName).name = "<init>" ∧ hasInst (⟨"HtreeDir", "hash", "(I)I"⟩ : MethodName) tables_1 = true ∧ ((some .int) : Option FieldType) = none) ∨ ((1 : Nat) = 3 ∧ hasStat (⟨"HtreeDir", "hash", "(I)I"⟩ : MethodName) tables_1 = true)) := by decide +kernel
theorem ca_c56_1 : callAt tables_1 "HtreeDir" 56 1 = some ((⟨"HtreeDir", "hash", "(I)I"⟩ : MethodName), 1, prog_1_method_19_code, 3, (some .int)) := callAt_of ml_c56 cl_hash pd_hash cc_hash_1 rfl
theorem d_insert_15 : decode prog_1_method_5_code 15 = .ok (.iconst 5, 1) := by decide +kernel
theorem d_insert_16 : decode prog_1_method_5_code 16 = .ok (.ireturn, 1) := by decide +kernel
theorem d_insert_8 : decode prog_1_method_5_code 8 = .ok (.iconst 4, 1) := by decide +kernel
theorem d_insert_9 : decode prog_1_method_5_code 9 = .ok (.ireturn, 1) := by decide +kernel
theorem d_insert_22 : decode prog_1_method_5_code 22 = .ok (.istore_n 3, 1) := by decide +kernel
theorem d_insert_23 : decode prog_1_method_5_code 23 = .ok (.aload_n 0, 1) := by decide +kernel
theorem d_insert_24 : decode prog_1_method_5_code 24 = .ok (.iload_n 3, 1) := by decide +kernel
theorem d_insert_25 : decode prog_1_method_5_code 25 = .ok (.invokevirtual 60, 3) := by decide +kernel
theorem ml_c60 : methodLk "HtreeDir" 60 tables_1 = some (⟨"HtreeDir", "locate", "(I)I"⟩ : MethodName) := by decide +kernel
theorem cl_locate : codeLk (⟨"HtreeDir", "locate", "(I)I"⟩ : MethodName) tables_1 = some (prog_1_method_22_code, 7, (some .int)) := codeLk_at (i := 61) rfl (by decide +kernel)
theorem pd_locate : parseMethodDescriptor "(I)I" = some ⟨[.int], some .int⟩ := by decide +kernel
theorem cc_locate_1 : hasInit (⟨"HtreeDir", "locate", "(I)I"⟩ : MethodName).cls tables_1 = true ∧ plainName (⟨"HtreeDir", "locate", "(I)I"⟩ : MethodName).cls = true ∧ (⟨"HtreeDir", "locate", "(I)I"⟩ : MethodName).cls ≠ "java/lang/invoke/MethodHandle" ∧ (⟨"HtreeDir", "locate", "(I)I"⟩ : MethodName).cls ≠ "java/lang/invoke/VarHandle" ∧ (((1 : Nat) = 0 ∧ hasDecl (⟨"HtreeDir", "locate", "(I)I"⟩ : MethodName) tables_1 = true ∧ hasSel (⟨"HtreeDir", "locate", "(I)I"⟩ : MethodName) tables_1 = true ∧ hasInst (⟨"HtreeDir", "locate", "(I)I"⟩ : MethodName) tables_1 = true) ∨ ((1 : Nat) = 1 ∧ hasPriv (⟨"HtreeDir", "locate", "(I)I"⟩ : MethodName) tables_1 = true ∧ hasInst (⟨"HtreeDir", "locate", "(I)I"⟩ : MethodName) tables_1 = true ∧ (instLk (⟨"HtreeDir", "locate", "(I)I"⟩ : MethodName).cls tables_1).isSome = true) ∨ ((1 : Nat) = 2 ∧ (⟨"HtreeDir", "locate", "(I)I"⟩ : MethodName).name = "<init>" ∧ hasInst (⟨"HtreeDir", "locate", "(I)I"⟩ : MethodName) tables_1 = true ∧ ((some .int) : Option FieldType) = none) ∨ ((1 : Nat) = 3 ∧ hasStat (⟨"HtreeDir", "locate", "(I)I"⟩ : MethodName) tables_1 = true)) := by decide +kernel
theorem ca_c60_1 : callAt tables_1 "HtreeDir" 60 1 = some ((⟨"HtreeDir", "locate", "(I)I"⟩ : MethodName), 1, prog_1_method_22_code, 7, (some .int)) := callAt_of ml_c60 cl_locate pd_locate cc_locate_1 rfl
theorem d_insert_28 : decode prog_1_method_5_code 28 = .ok (.ifCond .lt 5, 3) := by decide +kernel
theorem d_insert_33 : decode prog_1_method_5_code 33 = .ok (.aload_n 0, 1) := by decide +kernel
theorem d_insert_34 : decode prog_1_method_5_code 34 = .ok (.getfield 43, 3) := by decide +kernel
theorem d_insert_37 : decode prog_1_method_5_code 37 = .ok (.aload_n 0, 1) := by decide +kernel
theorem d_insert_38 : decode prog_1_method_5_code 38 = .ok (.getfield 40, 3) := by decide +kernel
theorem fa_c40 : fieldAt tables_1 "HtreeDir" 40 = some ("HtreeDir", 31, 1, false) := by decide +kernel
theorem d_insert_41 : decode prog_1_method_5_code 41 = .ok (.if_icmp .lt 5, 3) := by decide +kernel
theorem d_insert_46 : decode prog_1_method_5_code 46 = .ok (.aload_n 0, 1) := by decide +kernel
theorem d_insert_47 : decode prog_1_method_5_code 47 = .ok (.getfield 46, 3) := by decide +kernel
theorem d_insert_62 : decode prog_1_method_5_code 62 = .ok (.aload_n 0, 1) := by decide +kernel
theorem d_insert_63 : decode prog_1_method_5_code 63 = .ok (.iload_n 3, 1) := by decide +kernel
theorem d_insert_50 : decode prog_1_method_5_code 50 = .ok (.ifCond .ne 12, 3) := by decide +kernel
theorem d_insert_53 : decode prog_1_method_5_code 53 = .ok (.aload_n 0, 1) := by decide +kernel
theorem d_insert_54 : decode prog_1_method_5_code 54 = .ok (.invokevirtual 63, 3) := by decide +kernel
theorem ml_c63 : methodLk "HtreeDir" 63 tables_1 = some (⟨"HtreeDir", "createFirstLeaf", "()Z"⟩ : MethodName) := by decide +kernel
theorem cl_createFirstLeaf : codeLk (⟨"HtreeDir", "createFirstLeaf", "()Z"⟩ : MethodName) tables_1 = some (prog_1_method_28_code, 2, (some .boolean)) := codeLk_at (i := 65) rfl (by decide +kernel)
theorem pd_createFirstLeaf : parseMethodDescriptor "()Z" = some ⟨[], some .boolean⟩ := by decide +kernel
theorem cc_createFirstLeaf_1 : hasInit (⟨"HtreeDir", "createFirstLeaf", "()Z"⟩ : MethodName).cls tables_1 = true ∧ plainName (⟨"HtreeDir", "createFirstLeaf", "()Z"⟩ : MethodName).cls = true ∧ (⟨"HtreeDir", "createFirstLeaf", "()Z"⟩ : MethodName).cls ≠ "java/lang/invoke/MethodHandle" ∧ (⟨"HtreeDir", "createFirstLeaf", "()Z"⟩ : MethodName).cls ≠ "java/lang/invoke/VarHandle" ∧ (((1 : Nat) = 0 ∧ hasDecl (⟨"HtreeDir", "createFirstLeaf", "()Z"⟩ : MethodName) tables_1 = true ∧ hasSel (⟨"HtreeDir", "createFirstLeaf", "()Z"⟩ : MethodName) tables_1 = true ∧ hasInst (⟨"HtreeDir", "createFirstLeaf", "()Z"⟩ : MethodName) tables_1 = true) ∨ ((1 : Nat) = 1 ∧ hasPriv (⟨"HtreeDir", "createFirstLeaf", "()Z"⟩ : MethodName) tables_1 = true ∧ hasInst (⟨"HtreeDir", "createFirstLeaf", "()Z"⟩ : MethodName) tables_1 = true ∧ (instLk (⟨"HtreeDir", "createFirstLeaf", "()Z"⟩ : MethodName).cls tables_1).isSome = true) ∨ ((1 : Nat) = 2 ∧ (⟨"HtreeDir", "createFirstLeaf", "()Z"⟩ : MethodName).name = "<init>" ∧ hasInst (⟨"HtreeDir", "createFirstLeaf", "()Z"⟩ : MethodName) tables_1 = true ∧ ((some .boolean) : Option FieldType) = none) ∨ ((1 : Nat) = 3 ∧ hasStat (⟨"HtreeDir", "createFirstLeaf", "()Z"⟩ : MethodName) tables_1 = true)) := by decide +kernel
theorem ca_c63_1 : callAt tables_1 "HtreeDir" 63 1 = some ((⟨"HtreeDir", "createFirstLeaf", "()Z"⟩ : MethodName), 0, prog_1_method_28_code, 2, (some .boolean)) := callAt_of ml_c63 cl_createFirstLeaf pd_createFirstLeaf cc_createFirstLeaf_1 rfl
theorem d_insert_44 : decode prog_1_method_5_code 44 = .ok (.iconst 2, 1) := by decide +kernel
theorem d_insert_45 : decode prog_1_method_5_code 45 = .ok (.ireturn, 1) := by decide +kernel
theorem d_insert_31 : decode prog_1_method_5_code 31 = .ok (.iconst 1, 1) := by decide +kernel
theorem d_insert_32 : decode prog_1_method_5_code 32 = .ok (.ireturn, 1) := by decide +kernel
theorem d_insert_57 : decode prog_1_method_5_code 57 = .ok (.ifCond .ne 5, 3) := by decide +kernel
theorem d_insert_60 : decode prog_1_method_5_code 60 = .ok (.iconst 2, 1) := by decide +kernel
theorem d_insert_61 : decode prog_1_method_5_code 61 = .ok (.ireturn, 1) := by decide +kernel
theorem d_insert_64 : decode prog_1_method_5_code 64 = .ok (.invokevirtual 67, 3) := by decide +kernel
theorem d_insert_67 : decode prog_1_method_5_code 67 = .ok (.istore 4, 2) := by decide +kernel
theorem d_insert_69 : decode prog_1_method_5_code 69 = .ok (.aload_n 0, 1) := by decide +kernel
theorem d_insert_70 : decode prog_1_method_5_code 70 = .ok (.getfield 22, 3) := by decide +kernel
theorem d_insert_73 : decode prog_1_method_5_code 73 = .ok (.iload 4, 2) := by decide +kernel
theorem d_insert_75 : decode prog_1_method_5_code 75 = .ok (.iaload, 1) := by decide +kernel
theorem d_insert_76 : decode prog_1_method_5_code 76 = .ok (.istore 5, 2) := by decide +kernel
theorem d_insert_78 : decode prog_1_method_5_code 78 = .ok (.aload_n 0, 1) := by decide +kernel
theorem d_insert_79 : decode prog_1_method_5_code 79 = .ok (.getfield 19, 3) := by decide +kernel
theorem d_insert_82 : decode prog_1_method_5_code 82 = .ok (.iload 5, 2) := by decide +kernel
theorem d_insert_84 : decode prog_1_method_5_code 84 = .ok (.iaload, 1) := by decide +kernel
theorem d_insert_85 : decode prog_1_method_5_code 85 = .ok (.iconst 4, 1) := by decide +kernel
theorem d_insert_86 : decode prog_1_method_5_code 86 = .ok (.if_icmp .lt 30, 3) := by decide +kernel
theorem d_insert_116 : decode prog_1_method_5_code 116 = .ok (.aload_n 0, 1) := by decide +kernel
theorem d_insert_117 : decode prog_1_method_5_code 117 = .ok (.aload_n 0, 1) := by decide +kernel
theorem d_insert_118 : decode prog_1_method_5_code 118 = .ok (.getfield 22, 3) := by decide +kernel
theorem d_insert_121 : decode prog_1_method_5_code 121 = .ok (.iload 4, 2) := by decide +kernel
theorem d_insert_123 : decode prog_1_method_5_code 123 = .ok (.iaload, 1) := by decide +kernel
theorem d_insert_124 : decode prog_1_method_5_code 124 = .ok (.iload_n 3, 1) := by decide +kernel
theorem d_insert_125 : decode prog_1_method_5_code 125 = .ok (.iload_n 1, 1) := by decide +kernel
theorem d_insert_126 : decode prog_1_method_5_code 126 = .ok (.iload_n 2, 1) := by decide +kernel
theorem d_insert_89 : decode prog_1_method_5_code 89 = .ok (.aload_n 0, 1) := by decide +kernel
theorem d_insert_90 : decode prog_1_method_5_code 90 = .ok (.getfield 49, 3) := by decide +kernel
theorem d_insert_93 : decode prog_1_method_5_code 93 = .ok (.ifCond .le 12, 3) := by decide +kernel
theorem d_insert_105 : decode prog_1_method_5_code 105 = .ok (.iconst 2, 1) := by decide +kernel
theorem d_insert_106 : decode prog_1_method_5_code 106 = .ok (.ireturn, 1) := by decide +kernel
theorem d_insert_96 : decode prog_1_method_5_code 96 = .ok (.aload_n 0, 1) := by decide +kernel
theorem d_insert_97 : decode prog_1_method_5_code 97 = .ok (.getfield 46, 3) := by decide +kernel
theorem d_insert_100 : decode prog_1_method_5_code 100 = .ok (.bipush 32, 2) := by decide +kernel
theorem d_insert_107 : decode prog_1_method_5_code 107 = .ok (.aload_n 0, 1) := by decide +kernel
theorem d_insert_108 : decode prog_1_method_5_code 108 = .ok (.iload 4, 2) := by decide +kernel
theorem d_insert_110 : decode prog_1_method_5_code 110 = .ok (.iload_n 3, 1) := by decide +kernel
theorem d_insert_102 : decode prog_1_method_5_code 102 = .ok (.if_icmp .lt 5, 3) := by decide +kernel
theorem d_insert_127 : decode prog_1_method_5_code 127 = .ok (.invokevirtual 74, 3) := by decide +kernel
theorem ml_c74 : methodLk "HtreeDir" 74 tables_1 = some (⟨"HtreeDir", "insertIntoLeaf", "(IIII)V"⟩ : MethodName) := by decide +kernel
theorem cl_insertIntoLeaf : codeLk (⟨"HtreeDir", "insertIntoLeaf", "(IIII)V"⟩ : MethodName) tables_1 = some (prog_1_method_33_code, 8, none) := codeLk_at (i := 81) rfl (by decide +kernel)
theorem pd_insertIntoLeaf : parseMethodDescriptor "(IIII)V" = some ⟨[.int, .int, .int, .int], none⟩ := by decide +kernel
theorem cc_insertIntoLeaf_1 : hasInit (⟨"HtreeDir", "insertIntoLeaf", "(IIII)V"⟩ : MethodName).cls tables_1 = true ∧ plainName (⟨"HtreeDir", "insertIntoLeaf", "(IIII)V"⟩ : MethodName).cls = true ∧ (⟨"HtreeDir", "insertIntoLeaf", "(IIII)V"⟩ : MethodName).cls ≠ "java/lang/invoke/MethodHandle" ∧ (⟨"HtreeDir", "insertIntoLeaf", "(IIII)V"⟩ : MethodName).cls ≠ "java/lang/invoke/VarHandle" ∧ (((1 : Nat) = 0 ∧ hasDecl (⟨"HtreeDir", "insertIntoLeaf", "(IIII)V"⟩ : MethodName) tables_1 = true ∧ hasSel (⟨"HtreeDir", "insertIntoLeaf", "(IIII)V"⟩ : MethodName) tables_1 = true ∧ hasInst (⟨"HtreeDir", "insertIntoLeaf", "(IIII)V"⟩ : MethodName) tables_1 = true) ∨ ((1 : Nat) = 1 ∧ hasPriv (⟨"HtreeDir", "insertIntoLeaf", "(IIII)V"⟩ : MethodName) tables_1 = true ∧ hasInst (⟨"HtreeDir", "insertIntoLeaf", "(IIII)V"⟩ : MethodName) tables_1 = true ∧ (instLk (⟨"HtreeDir", "insertIntoLeaf", "(IIII)V"⟩ : MethodName).cls tables_1).isSome = true) ∨ ((1 : Nat) = 2 ∧ (⟨"HtreeDir", "insertIntoLeaf", "(IIII)V"⟩ : MethodName).name = "<init>" ∧ hasInst (⟨"HtreeDir", "insertIntoLeaf", "(IIII)V"⟩ : MethodName) tables_1 = true ∧ (none : Option FieldType) = none) ∨ ((1 : Nat) = 3 ∧ hasStat (⟨"HtreeDir", "insertIntoLeaf", "(IIII)V"⟩ : MethodName) tables_1 = true)) := by decide +kernel
theorem ca_c74_1 : callAt tables_1 "HtreeDir" 74 1 = some ((⟨"HtreeDir", "insertIntoLeaf", "(IIII)V"⟩ : MethodName), 4, prog_1_method_33_code, 8, none) := callAt_of ml_c74 cl_insertIntoLeaf pd_insertIntoLeaf cc_insertIntoLeaf_1 rfl
theorem d_insert_130 : decode prog_1_method_5_code 130 = .ok (.aload_n 0, 1) := by decide +kernel
theorem d_insert_131 : decode prog_1_method_5_code 131 = .ok (.dup, 1) := by decide +kernel
theorem d_insert_132 : decode prog_1_method_5_code 132 = .ok (.getfield 43, 3) := by decide +kernel
theorem d_insert_135 : decode prog_1_method_5_code 135 = .ok (.iconst 1, 1) := by decide +kernel
theorem d_insert_136 : decode prog_1_method_5_code 136 = .ok (.iadd, 1) := by decide +kernel
theorem d_insert_137 : decode prog_1_method_5_code 137 = .ok (.putfield 43, 3) := by decide +kernel
theorem d_insert_140 : decode prog_1_method_5_code 140 = .ok (.iconst 0, 1) := by decide +kernel
theorem d_insert_141 : decode prog_1_method_5_code 141 = .ok (.ireturn, 1) := by decide +kernel
theorem d_lookup_0 : decode prog_1_method_8_code 0 = .ok (.aload_n 0, 1) := by decide +kernel
theorem d_lookup_1 : decode prog_1_method_8_code 1 = .ok (.iload_n 1, 1) := by decide +kernel
theorem d_lookup_2 : decode prog_1_method_8_code 2 = .ok (.invokevirtual 52, 3) := by decide +kernel
abbrev W_lookup (pc : Nat) (ls : List Slot) (st : List Value) (M : EMem) (Q : Option Value → EMem → Prop) : Prop := Wp tables_1 0 3 50 (⟨"HtreeDir", "lookup", "(I)I"⟩ : MethodName) prog_1_method_8_code (some .int) pc ls st M Q
theorem d_lookup_5 : decode prog_1_method_8_code 5 = .ok (.ifCond .ne 5, 3) := by decide +kernel
theorem d_lookup_10 : decode prog_1_method_8_code 10 = .ok (.aload_n 0, 1) := by decide +kernel
theorem d_lookup_11 : decode prog_1_method_8_code 11 = .ok (.iload_n 1, 1) := by decide +kernel
theorem d_lookup_12 : decode prog_1_method_8_code 12 = .ok (.invokevirtual 56, 3) := by decide +kernel
theorem d_lookup_8 : decode prog_1_method_8_code 8 = .ok (.iconst 0, 1) := by decide +kernel
theorem d_lookup_9 : decode prog_1_method_8_code 9 = .ok (.ireturn, 1) := by decide +kernel
theorem d_lookup_15 : decode prog_1_method_8_code 15 = .ok (.istore_n 2, 1) := by decide +kernel
theorem d_lookup_16 : decode prog_1_method_8_code 16 = .ok (.aload_n 0, 1) := by decide +kernel
theorem d_lookup_17 : decode prog_1_method_8_code 17 = .ok (.iload_n 2, 1) := by decide +kernel
theorem d_lookup_18 : decode prog_1_method_8_code 18 = .ok (.invokevirtual 60, 3) := by decide +kernel
theorem d_lookup_21 : decode prog_1_method_8_code 21 = .ok (.istore_n 3, 1) := by decide +kernel
theorem d_lookup_22 : decode prog_1_method_8_code 22 = .ok (.iload_n 3, 1) := by decide +kernel
theorem d_lookup_23 : decode prog_1_method_8_code 23 = .ok (.ifCond .ge 5, 3) := by decide +kernel
theorem d_lookup_28 : decode prog_1_method_8_code 28 = .ok (.aload_n 0, 1) := by decide +kernel
theorem d_lookup_29 : decode prog_1_method_8_code 29 = .ok (.getfield 16, 3) := by decide +kernel
theorem d_lookup_32 : decode prog_1_method_8_code 32 = .ok (.aload_n 0, 1) := by decide +kernel
theorem d_lookup_33 : decode prog_1_method_8_code 33 = .ok (.iload_n 3, 1) := by decide +kernel
theorem d_lookup_34 : decode prog_1_method_8_code 34 = .ok (.invokevirtual 86, 3) := by decide +kernel
theorem ml_c86 : methodLk "HtreeDir" 86 tables_1 = some (⟨"HtreeDir", "entryIndex", "(I)I"⟩ : MethodName) := by decide +kernel
theorem cl_entryIndex : codeLk (⟨"HtreeDir", "entryIndex", "(I)I"⟩ : MethodName) tables_1 = some (prog_1_method_24_code, 3, (some .int)) := codeLk_at (i := 95) rfl (by decide +kernel)
theorem pd_entryIndex : parseMethodDescriptor "(I)I" = some ⟨[.int], some .int⟩ := by decide +kernel
theorem cc_entryIndex_1 : hasInit (⟨"HtreeDir", "entryIndex", "(I)I"⟩ : MethodName).cls tables_1 = true ∧ plainName (⟨"HtreeDir", "entryIndex", "(I)I"⟩ : MethodName).cls = true ∧ (⟨"HtreeDir", "entryIndex", "(I)I"⟩ : MethodName).cls ≠ "java/lang/invoke/MethodHandle" ∧ (⟨"HtreeDir", "entryIndex", "(I)I"⟩ : MethodName).cls ≠ "java/lang/invoke/VarHandle" ∧ (((1 : Nat) = 0 ∧ hasDecl (⟨"HtreeDir", "entryIndex", "(I)I"⟩ : MethodName) tables_1 = true ∧ hasSel (⟨"HtreeDir", "entryIndex", "(I)I"⟩ : MethodName) tables_1 = true ∧ hasInst (⟨"HtreeDir", "entryIndex", "(I)I"⟩ : MethodName) tables_1 = true) ∨ ((1 : Nat) = 1 ∧ hasPriv (⟨"HtreeDir", "entryIndex", "(I)I"⟩ : MethodName) tables_1 = true ∧ hasInst (⟨"HtreeDir", "entryIndex", "(I)I"⟩ : MethodName) tables_1 = true ∧ (instLk (⟨"HtreeDir", "entryIndex", "(I)I"⟩ : MethodName).cls tables_1).isSome = true) ∨ ((1 : Nat) = 2 ∧ (⟨"HtreeDir", "entryIndex", "(I)I"⟩ : MethodName).name = "<init>" ∧ hasInst (⟨"HtreeDir", "entryIndex", "(I)I"⟩ : MethodName) tables_1 = true ∧ ((some .int) : Option FieldType) = none) ∨ ((1 : Nat) = 3 ∧ hasStat (⟨"HtreeDir", "entryIndex", "(I)I"⟩ : MethodName) tables_1 = true)) := by decide +kernel
theorem ca_c86_1 : callAt tables_1 "HtreeDir" 86 1 = some ((⟨"HtreeDir", "entryIndex", "(I)I"⟩ : MethodName), 1, prog_1_method_24_code, 3, (some .int)) := callAt_of ml_c86 cl_entryIndex pd_entryIndex cc_entryIndex_1 rfl
theorem d_lookup_37 : decode prog_1_method_8_code 37 = .ok (.iaload, 1) := by decide +kernel
theorem d_lookup_38 : decode prog_1_method_8_code 38 = .ok (.ireturn, 1) := by decide +kernel
theorem d_lookup_26 : decode prog_1_method_8_code 26 = .ok (.iconst 0, 1) := by decide +kernel
theorem d_lookup_27 : decode prog_1_method_8_code 27 = .ok (.ireturn, 1) := by decide +kernel
theorem d_nameWithHash_0 : decode prog_1_method_9_code 0 = .ok (.iload_n 1, 1) := by decide +kernel
theorem d_nameWithHash_1 : decode prog_1_method_9_code 1 = .ok (.ifCond .lt 9, 3) := by decide +kernel
theorem d_nameWithHash_10 : decode prog_1_method_9_code 10 = .ok (.iconst (-1), 1) := by decide +kernel
theorem d_nameWithHash_11 : decode prog_1_method_9_code 11 = .ok (.ireturn, 1) := by decide +kernel
theorem d_nameWithHash_4 : decode prog_1_method_9_code 4 = .ok (.iload_n 1, 1) := by decide +kernel
theorem d_nameWithHash_5 : decode prog_1_method_9_code 5 = .ok (.ldc 35, 2) := by decide +kernel
theorem d_nameWithHash_12 : decode prog_1_method_9_code 12 = .ok (.aload_n 0, 1) := by decide +kernel
theorem d_nameWithHash_13 : decode prog_1_method_9_code 13 = .ok (.iload_n 1, 1) := by decide +kernel
theorem d_nameWithHash_7 : decode prog_1_method_9_code 7 = .ok (.if_icmp .le 5, 3) := by decide +kernel
theorem d_nameWithHash_14 : decode prog_1_method_9_code 14 = .ok (.invokevirtual 60, 3) := by decide +kernel
abbrev W_nameWithHash (pc : Nat) (ls : List Slot) (st : List Value) (M : EMem) (Q : Option Value → EMem → Prop) : Prop := Wp tables_1 0 3 50 (⟨"HtreeDir", "nameWithHash", "(I)I"⟩ : MethodName) prog_1_method_9_code (some .int) pc ls st M Q
theorem d_nameWithHash_17 : decode prog_1_method_9_code 17 = .ok (.istore_n 2, 1) := by decide +kernel
theorem d_nameWithHash_18 : decode prog_1_method_9_code 18 = .ok (.iload_n 2, 1) := by decide +kernel
theorem d_nameWithHash_19 : decode prog_1_method_9_code 19 = .ok (.ifCond .ge 5, 3) := by decide +kernel
theorem d_nameWithHash_24 : decode prog_1_method_9_code 24 = .ok (.aload_n 0, 1) := by decide +kernel
theorem d_nameWithHash_25 : decode prog_1_method_9_code 25 = .ok (.getfield 13, 3) := by decide +kernel
theorem d_nameWithHash_28 : decode prog_1_method_9_code 28 = .ok (.aload_n 0, 1) := by decide +kernel
theorem d_nameWithHash_29 : decode prog_1_method_9_code 29 = .ok (.iload_n 2, 1) := by decide +kernel
theorem d_nameWithHash_30 : decode prog_1_method_9_code 30 = .ok (.invokevirtual 86, 3) := by decide +kernel
theorem d_nameWithHash_33 : decode prog_1_method_9_code 33 = .ok (.iaload, 1) := by decide +kernel
theorem d_nameWithHash_34 : decode prog_1_method_9_code 34 = .ok (.ireturn, 1) := by decide +kernel
theorem d_nameWithHash_22 : decode prog_1_method_9_code 22 = .ok (.iconst (-1), 1) := by decide +kernel
theorem d_nameWithHash_23 : decode prog_1_method_9_code 23 = .ok (.ireturn, 1) := by decide +kernel
theorem d_nameAtRank_0 : decode prog_1_method_10_code 0 = .ok (.iload_n 1, 1) := by decide +kernel
theorem d_nameAtRank_1 : decode prog_1_method_10_code 1 = .ok (.ifCond .lt 11, 3) := by decide +kernel
theorem d_nameAtRank_12 : decode prog_1_method_10_code 12 = .ok (.iconst (-1), 1) := by decide +kernel
theorem d_nameAtRank_13 : decode prog_1_method_10_code 13 = .ok (.ireturn, 1) := by decide +kernel
theorem d_nameAtRank_4 : decode prog_1_method_10_code 4 = .ok (.iload_n 1, 1) := by decide +kernel
theorem d_nameAtRank_5 : decode prog_1_method_10_code 5 = .ok (.aload_n 0, 1) := by decide +kernel
theorem d_nameAtRank_6 : decode prog_1_method_10_code 6 = .ok (.getfield 43, 3) := by decide +kernel
theorem d_nameAtRank_14 : decode prog_1_method_10_code 14 = .ok (.iload_n 1, 1) := by decide +kernel
theorem d_nameAtRank_15 : decode prog_1_method_10_code 15 = .ok (.istore_n 2, 1) := by decide +kernel
theorem d_nameAtRank_16 : decode prog_1_method_10_code 16 = .ok (.iconst 0, 1) := by decide +kernel
theorem d_nameAtRank_17 : decode prog_1_method_10_code 17 = .ok (.istore_n 3, 1) := by decide +kernel
theorem d_nameAtRank_9 : decode prog_1_method_10_code 9 = .ok (.if_icmp .lt 5, 3) := by decide +kernel
abbrev W_nameAtRank (pc : Nat) (ls : List Slot) (st : List Value) (M : EMem) (Q : Option Value → EMem → Prop) : Prop := Wp tables_1 0 0 0 (⟨"HtreeDir", "nameAtRank", "(I)I"⟩ : MethodName) prog_1_method_10_code (some .int) pc ls st M Q
theorem d_nameAtRank_18 : decode prog_1_method_10_code 18 = .ok (.iload_n 3, 1) := by decide +kernel
theorem d_nameAtRank_19 : decode prog_1_method_10_code 19 = .ok (.aload_n 0, 1) := by decide +kernel
theorem d_nameAtRank_20 : decode prog_1_method_10_code 20 = .ok (.getfield 46, 3) := by decide +kernel
theorem d_nameAtRank_23 : decode prog_1_method_10_code 23 = .ok (.if_icmp .ge 55, 3) := by decide +kernel
theorem d_nameAtRank_78 : decode prog_1_method_10_code 78 = .ok (.iconst (-1), 1) := by decide +kernel
theorem d_nameAtRank_79 : decode prog_1_method_10_code 79 = .ok (.ireturn, 1) := by decide +kernel
theorem d_nameAtRank_26 : decode prog_1_method_10_code 26 = .ok (.iload_n 3, 1) := by decide +kernel
theorem d_nameAtRank_27 : decode prog_1_method_10_code 27 = .ok (.bipush 32, 2) := by decide +kernel
theorem d_nameAtRank_32 : decode prog_1_method_10_code 32 = .ok (.aload_n 0, 1) := by decide +kernel
theorem d_nameAtRank_33 : decode prog_1_method_10_code 33 = .ok (.getfield 22, 3) := by decide +kernel
theorem d_nameAtRank_36 : decode prog_1_method_10_code 36 = .ok (.iload_n 3, 1) := by decide +kernel
theorem d_nameAtRank_37 : decode prog_1_method_10_code 37 = .ok (.iaload, 1) := by decide +kernel
theorem d_nameAtRank_38 : decode prog_1_method_10_code 38 = .ok (.istore 4, 2) := by decide +kernel
theorem d_nameAtRank_40 : decode prog_1_method_10_code 40 = .ok (.aload_n 0, 1) := by decide +kernel
theorem d_nameAtRank_41 : decode prog_1_method_10_code 41 = .ok (.getfield 19, 3) := by decide +kernel
theorem d_nameAtRank_44 : decode prog_1_method_10_code 44 = .ok (.iload 4, 2) := by decide +kernel
theorem d_nameAtRank_46 : decode prog_1_method_10_code 46 = .ok (.iaload, 1) := by decide +kernel
theorem d_nameAtRank_47 : decode prog_1_method_10_code 47 = .ok (.istore 5, 2) := by decide +kernel
theorem d_nameAtRank_49 : decode prog_1_method_10_code 49 = .ok (.iload_n 2, 1) := by decide +kernel
theorem d_nameAtRank_50 : decode prog_1_method_10_code 50 = .ok (.iload 5, 2) := by decide +kernel
theorem d_nameAtRank_67 : decode prog_1_method_10_code 67 = .ok (.iload_n 2, 1) := by decide +kernel
theorem d_nameAtRank_68 : decode prog_1_method_10_code 68 = .ok (.iload 5, 2) := by decide +kernel
theorem d_nameAtRank_70 : decode prog_1_method_10_code 70 = .ok (.isub, 1) := by decide +kernel
theorem d_nameAtRank_71 : decode prog_1_method_10_code 71 = .ok (.istore_n 2, 1) := by decide +kernel
theorem d_nameAtRank_72 : decode prog_1_method_10_code 72 = .ok (.iinc 3 1, 3) := by decide +kernel
theorem d_nameAtRank_75 : decode prog_1_method_10_code 75 = .ok (.goto (-57), 3) := by decide +kernel
theorem d_nameAtRank_29 : decode prog_1_method_10_code 29 = .ok (.if_icmp .ge 49, 3) := by decide +kernel
theorem d_nameAtRank_52 : decode prog_1_method_10_code 52 = .ok (.if_icmp .ge 15, 3) := by decide +kernel
theorem d_nameAtRank_55 : decode prog_1_method_10_code 55 = .ok (.aload_n 0, 1) := by decide +kernel
theorem d_nameAtRank_56 : decode prog_1_method_10_code 56 = .ok (.getfield 13, 3) := by decide +kernel
theorem d_nameAtRank_59 : decode prog_1_method_10_code 59 = .ok (.iload 4, 2) := by decide +kernel
theorem d_nameAtRank_61 : decode prog_1_method_10_code 61 = .ok (.iconst 4, 1) := by decide +kernel
theorem d_nameAtRank_62 : decode prog_1_method_10_code 62 = .ok (.imul, 1) := by decide +kernel
theorem d_nameAtRank_63 : decode prog_1_method_10_code 63 = .ok (.iload_n 2, 1) := by decide +kernel
theorem d_nameAtRank_64 : decode prog_1_method_10_code 64 = .ok (.iadd, 1) := by decide +kernel
theorem d_nameAtRank_65 : decode prog_1_method_10_code 65 = .ok (.iaload, 1) := by decide +kernel
theorem d_nameAtRank_66 : decode prog_1_method_10_code 66 = .ok (.ireturn, 1) := by decide +kernel
theorem d_law_hash_0 : decode method_3_code 0 = .ok (.iload_n 1, 1) := by decide +kernel
theorem d_law_hash_1 : decode method_3_code 1 = .ok (.iload_n 0, 1) := by decide +kernel
theorem d_law_hash_2 : decode method_3_code 2 = .ok (.ixor, 1) := by decide +kernel
theorem d_law_hash_3 : decode method_3_code 3 = .ok (.ldc 12, 2) := by decide +kernel
theorem ik_w12 : intLk "HtreeDirL2" 12 tables_1 = some (65535 : Int32) := by decide +kernel
theorem d_law_hash_5 : decode method_3_code 5 = .ok (.iand, 1) := by decide +kernel
theorem d_law_hash_6 : decode method_3_code 6 = .ok (.istore_n 2, 1) := by decide +kernel
theorem d_law_hash_7 : decode method_3_code 7 = .ok (.iload_n 2, 1) := by decide +kernel
theorem d_law_hash_8 : decode method_3_code 8 = .ok (.ldc 36, 2) := by decide +kernel
theorem ik_w36 : intLk "HtreeDirL2" 36 tables_1 = some (40507 : Int32) := by decide +kernel
theorem d_law_hash_10 : decode method_3_code 10 = .ok (.imul, 1) := by decide +kernel
theorem d_law_hash_11 : decode method_3_code 11 = .ok (.ldc 12, 2) := by decide +kernel
theorem d_law_hash_13 : decode method_3_code 13 = .ok (.iand, 1) := by decide +kernel
theorem d_law_hash_14 : decode method_3_code 14 = .ok (.istore_n 2, 1) := by decide +kernel
theorem d_law_hash_15 : decode method_3_code 15 = .ok (.iload_n 2, 1) := by decide +kernel
theorem d_law_hash_16 : decode method_3_code 16 = .ok (.iload_n 2, 1) := by decide +kernel
theorem d_law_hash_17 : decode method_3_code 17 = .ok (.bipush 7, 2) := by decide +kernel
theorem d_law_hash_19 : decode method_3_code 19 = .ok (.iushr, 1) := by decide +kernel
theorem d_law_hash_20 : decode method_3_code 20 = .ok (.ixor, 1) := by decide +kernel
theorem d_law_hash_21 : decode method_3_code 21 = .ok (.istore_n 2, 1) := by decide +kernel
theorem d_law_hash_22 : decode method_3_code 22 = .ok (.iload_n 2, 1) := by decide +kernel
theorem d_law_hash_23 : decode method_3_code 23 = .ok (.sipush 23505, 3) := by decide +kernel
theorem d_law_hash_26 : decode method_3_code 26 = .ok (.imul, 1) := by decide +kernel
theorem d_law_hash_27 : decode method_3_code 27 = .ok (.ldc 12, 2) := by decide +kernel
theorem d_law_hash_29 : decode method_3_code 29 = .ok (.iand, 1) := by decide +kernel
theorem d_law_hash_30 : decode method_3_code 30 = .ok (.istore_n 2, 1) := by decide +kernel
theorem d_law_hash_31 : decode method_3_code 31 = .ok (.iload_n 2, 1) := by decide +kernel
theorem d_law_hash_32 : decode method_3_code 32 = .ok (.iload_n 2, 1) := by decide +kernel
theorem d_law_hash_33 : decode method_3_code 33 = .ok (.bipush 9, 2) := by decide +kernel
theorem d_law_hash_35 : decode method_3_code 35 = .ok (.iushr, 1) := by decide +kernel
theorem d_law_hash_36 : decode method_3_code 36 = .ok (.ixor, 1) := by decide +kernel
theorem d_law_hash_37 : decode method_3_code 37 = .ok (.istore_n 2, 1) := by decide +kernel
theorem d_law_hash_38 : decode method_3_code 38 = .ok (.iload_n 2, 1) := by decide +kernel
theorem d_law_hash_39 : decode method_3_code 39 = .ok (.ireturn, 1) := by decide +kernel
abbrev W_law_hash (pc : Nat) (ls : List Slot) (st : List Value) (M : EMem) (Q : Option Value → EMem → Prop) : Prop := Wp tables_1 0 0 0 (⟨"HtreeDirL2", "hash", "(II)I"⟩ : MethodName) method_3_code (some .int) pc ls st M Q
theorem d_init_0 : decode prog_1_method_1_code 0 = .ok (.aload_n 0, 1) := by decide +kernel
theorem d_init_1 : decode prog_1_method_1_code 1 = .ok (.invokespecial 1, 3) := by decide +kernel
theorem oi_c1 : objInitAt tables_1 "HtreeDir" 1 = true := by decide +kernel
theorem d_init_4 : decode prog_1_method_1_code 4 = .ok (.aload_n 0, 1) := by decide +kernel
theorem d_init_5 : decode prog_1_method_1_code 5 = .ok (.sipush 128, 3) := by decide +kernel
theorem d_init_8 : decode prog_1_method_1_code 8 = .ok (.newarray .int, 2) := by decide +kernel
theorem ar_int : hasArr .int tables_1 = true := by decide +kernel
theorem d_init_10 : decode prog_1_method_1_code 10 = .ok (.putfield 7, 3) := by decide +kernel
theorem d_init_13 : decode prog_1_method_1_code 13 = .ok (.aload_n 0, 1) := by decide +kernel
theorem d_init_14 : decode prog_1_method_1_code 14 = .ok (.sipush 128, 3) := by decide +kernel
theorem d_init_17 : decode prog_1_method_1_code 17 = .ok (.newarray .int, 2) := by decide +kernel
theorem d_init_19 : decode prog_1_method_1_code 19 = .ok (.putfield 13, 3) := by decide +kernel
theorem d_init_22 : decode prog_1_method_1_code 22 = .ok (.aload_n 0, 1) := by decide +kernel
theorem d_init_23 : decode prog_1_method_1_code 23 = .ok (.sipush 128, 3) := by decide +kernel
theorem d_init_26 : decode prog_1_method_1_code 26 = .ok (.newarray .int, 2) := by decide +kernel
theorem d_init_28 : decode prog_1_method_1_code 28 = .ok (.putfield 16, 3) := by decide +kernel
theorem d_init_31 : decode prog_1_method_1_code 31 = .ok (.aload_n 0, 1) := by decide +kernel
theorem d_init_32 : decode prog_1_method_1_code 32 = .ok (.bipush 32, 2) := by decide +kernel
theorem d_init_34 : decode prog_1_method_1_code 34 = .ok (.newarray .int, 2) := by decide +kernel
theorem d_init_36 : decode prog_1_method_1_code 36 = .ok (.putfield 19, 3) := by decide +kernel
theorem d_init_39 : decode prog_1_method_1_code 39 = .ok (.aload_n 0, 1) := by decide +kernel
theorem d_init_40 : decode prog_1_method_1_code 40 = .ok (.bipush 32, 2) := by decide +kernel
theorem d_init_42 : decode prog_1_method_1_code 42 = .ok (.newarray .int, 2) := by decide +kernel
theorem d_init_44 : decode prog_1_method_1_code 44 = .ok (.putfield 22, 3) := by decide +kernel
theorem d_init_47 : decode prog_1_method_1_code 47 = .ok (.aload_n 0, 1) := by decide +kernel
theorem d_init_48 : decode prog_1_method_1_code 48 = .ok (.bipush 32, 2) := by decide +kernel
theorem d_init_50 : decode prog_1_method_1_code 50 = .ok (.newarray .int, 2) := by decide +kernel
theorem d_init_52 : decode prog_1_method_1_code 52 = .ok (.putfield 25, 3) := by decide +kernel
theorem d_init_55 : decode prog_1_method_1_code 55 = .ok (.aload_n 0, 1) := by decide +kernel
theorem d_init_56 : decode prog_1_method_1_code 56 = .ok (.iconst 4, 1) := by decide +kernel
theorem d_init_57 : decode prog_1_method_1_code 57 = .ok (.newarray .boolean, 2) := by decide +kernel
theorem ar_boolean : hasArr .boolean tables_1 = true := by decide +kernel
theorem d_init_59 : decode prog_1_method_1_code 59 = .ok (.putfield 28, 3) := by decide +kernel
theorem fa_c28 : fieldAt tables_1 "HtreeDir" 28 = some ("HtreeDir", 24, 4, false) := by decide +kernel
theorem d_init_62 : decode prog_1_method_1_code 62 = .ok (.aload_n 0, 1) := by decide +kernel
theorem d_init_63 : decode prog_1_method_1_code 63 = .ok (.iconst 4, 1) := by decide +kernel
theorem d_init_64 : decode prog_1_method_1_code 64 = .ok (.newarray .int, 2) := by decide +kernel
theorem d_init_66 : decode prog_1_method_1_code 66 = .ok (.putfield 32, 3) := by decide +kernel
theorem fa_c32 : fieldAt tables_1 "HtreeDir" 32 = some ("HtreeDir", 26, 4, false) := by decide +kernel
theorem d_init_69 : decode prog_1_method_1_code 69 = .ok (.iload_n 1, 1) := by decide +kernel
theorem d_init_70 : decode prog_1_method_1_code 70 = .ok (.istore_n 3, 1) := by decide +kernel
theorem d_init_71 : decode prog_1_method_1_code 71 = .ok (.iload_n 3, 1) := by decide +kernel
theorem d_init_72 : decode prog_1_method_1_code 72 = .ok (.ifCond .ge 5, 3) := by decide +kernel
theorem d_init_75 : decode prog_1_method_1_code 75 = .ok (.iconst 0, 1) := by decide +kernel
theorem d_init_76 : decode prog_1_method_1_code 76 = .ok (.istore_n 3, 1) := by decide +kernel
abbrev W_init (pc : Nat) (ls : List Slot) (st : List Value) (M : EMem) (Q : Option Value → EMem → Prop) : Prop := Wp tables_1 0 1 12 (⟨"HtreeDir", "<init>", "(II)V"⟩ : MethodName) prog_1_method_1_code none pc ls st M Q
theorem d_init_77 : decode prog_1_method_1_code 77 = .ok (.iload_n 3, 1) := by decide +kernel
theorem d_init_78 : decode prog_1_method_1_code 78 = .ok (.ldc 35, 2) := by decide +kernel
theorem d_init_80 : decode prog_1_method_1_code 80 = .ok (.if_icmp .le 6, 3) := by decide +kernel
theorem d_init_83 : decode prog_1_method_1_code 83 = .ok (.ldc 35, 2) := by decide +kernel
theorem d_init_85 : decode prog_1_method_1_code 85 = .ok (.istore_n 3, 1) := by decide +kernel
theorem d_init_86 : decode prog_1_method_1_code 86 = .ok (.iload_n 2, 1) := by decide +kernel
theorem d_init_87 : decode prog_1_method_1_code 87 = .ok (.istore 4, 2) := by decide +kernel
theorem d_init_89 : decode prog_1_method_1_code 89 = .ok (.iload 4, 2) := by decide +kernel
theorem d_init_91 : decode prog_1_method_1_code 91 = .ok (.bipush 8, 2) := by decide +kernel
theorem d_init_93 : decode prog_1_method_1_code 93 = .ok (.if_icmp .ge 7, 3) := by decide +kernel
theorem d_init_96 : decode prog_1_method_1_code 96 = .ok (.bipush 8, 2) := by decide +kernel
theorem d_init_98 : decode prog_1_method_1_code 98 = .ok (.istore 4, 2) := by decide +kernel
theorem d_init_100 : decode prog_1_method_1_code 100 = .ok (.iload 4, 2) := by decide +kernel
theorem d_init_102 : decode prog_1_method_1_code 102 = .ok (.bipush 32, 2) := by decide +kernel
theorem d_init_104 : decode prog_1_method_1_code 104 = .ok (.if_icmp .le 7, 3) := by decide +kernel
theorem d_init_107 : decode prog_1_method_1_code 107 = .ok (.bipush 32, 2) := by decide +kernel
theorem d_init_109 : decode prog_1_method_1_code 109 = .ok (.istore 4, 2) := by decide +kernel
theorem d_init_111 : decode prog_1_method_1_code 111 = .ok (.aload_n 0, 1) := by decide +kernel
theorem d_init_112 : decode prog_1_method_1_code 112 = .ok (.iload_n 3, 1) := by decide +kernel
theorem d_init_113 : decode prog_1_method_1_code 113 = .ok (.putfield 36, 3) := by decide +kernel
theorem d_init_116 : decode prog_1_method_1_code 116 = .ok (.aload_n 0, 1) := by decide +kernel
theorem d_init_117 : decode prog_1_method_1_code 117 = .ok (.iload 4, 2) := by decide +kernel
theorem d_init_119 : decode prog_1_method_1_code 119 = .ok (.putfield 40, 3) := by decide +kernel
theorem d_init_122 : decode prog_1_method_1_code 122 = .ok (.aload_n 0, 1) := by decide +kernel
theorem d_init_123 : decode prog_1_method_1_code 123 = .ok (.iconst 0, 1) := by decide +kernel
theorem d_init_124 : decode prog_1_method_1_code 124 = .ok (.putfield 43, 3) := by decide +kernel
theorem d_init_127 : decode prog_1_method_1_code 127 = .ok (.aload_n 0, 1) := by decide +kernel
theorem d_init_128 : decode prog_1_method_1_code 128 = .ok (.iconst 0, 1) := by decide +kernel
theorem d_init_129 : decode prog_1_method_1_code 129 = .ok (.putfield 46, 3) := by decide +kernel
theorem d_init_132 : decode prog_1_method_1_code 132 = .ok (.iconst 0, 1) := by decide +kernel
theorem d_init_133 : decode prog_1_method_1_code 133 = .ok (.istore 5, 2) := by decide +kernel
theorem d_init_135 : decode prog_1_method_1_code 135 = .ok (.iload 5, 2) := by decide +kernel
theorem d_init_137 : decode prog_1_method_1_code 137 = .ok (.bipush 32, 2) := by decide +kernel
theorem d_init_139 : decode prog_1_method_1_code 139 = .ok (.if_icmp .ge 21, 3) := by decide +kernel
theorem d_init_142 : decode prog_1_method_1_code 142 = .ok (.aload_n 0, 1) := by decide +kernel
theorem d_init_143 : decode prog_1_method_1_code 143 = .ok (.getfield 25, 3) := by decide +kernel
theorem d_init_146 : decode prog_1_method_1_code 146 = .ok (.iload 5, 2) := by decide +kernel
theorem d_init_148 : decode prog_1_method_1_code 148 = .ok (.bipush 31, 2) := by decide +kernel
theorem d_init_150 : decode prog_1_method_1_code 150 = .ok (.iload 5, 2) := by decide +kernel
theorem d_init_152 : decode prog_1_method_1_code 152 = .ok (.isub, 1) := by decide +kernel
theorem d_init_160 : decode prog_1_method_1_code 160 = .ok (.aload_n 0, 1) := by decide +kernel
theorem d_init_161 : decode prog_1_method_1_code 161 = .ok (.bipush 32, 2) := by decide +kernel
theorem d_init_163 : decode prog_1_method_1_code 163 = .ok (.putfield 49, 3) := by decide +kernel
theorem d_init_166 : decode prog_1_method_1_code 166 = .ok (.return_, 1) := by decide +kernel
theorem d_init_153 : decode prog_1_method_1_code 153 = .ok (.iastore, 1) := by decide +kernel
theorem d_init_154 : decode prog_1_method_1_code 154 = .ok (.iinc 5 1, 3) := by decide +kernel
theorem d_init_157 : decode prog_1_method_1_code 157 = .ok (.goto (-22), 3) := by decide +kernel
theorem d_law_0 : decode code 0 = .ok (.new 7, 3) := by decide +kernel
theorem na_w7 : newAt tables_1 "HtreeDirL2" 7 = some ("HtreeDir", 13) := by decide +kernel
theorem d_law_3 : decode code 3 = .ok (.dup, 1) := by decide +kernel
theorem d_law_4 : decode code 4 = .ok (.iload_n 0, 1) := by decide +kernel
theorem d_law_5 : decode code 5 = .ok (.bipush 8, 2) := by decide +kernel
theorem d_law_7 : decode code 7 = .ok (.invokespecial 9, 3) := by decide +kernel
theorem ml_w9 : methodLk "HtreeDirL2" 9 tables_1 = some (⟨"HtreeDir", "<init>", "(II)V"⟩ : MethodName) := by decide +kernel
theorem cl_init : codeLk (⟨"HtreeDir", "<init>", "(II)V"⟩ : MethodName) tables_1 = some (prog_1_method_1_code, 6, none) := codeLk_at (i := 5) rfl (by decide +kernel)
theorem pd_init : parseMethodDescriptor "(II)V" = some ⟨[.int, .int], none⟩ := by decide +kernel
theorem cc_init_2 : hasInit (⟨"HtreeDir", "<init>", "(II)V"⟩ : MethodName).cls tables_1 = true ∧ plainName (⟨"HtreeDir", "<init>", "(II)V"⟩ : MethodName).cls = true ∧ (⟨"HtreeDir", "<init>", "(II)V"⟩ : MethodName).cls ≠ "java/lang/invoke/MethodHandle" ∧ (⟨"HtreeDir", "<init>", "(II)V"⟩ : MethodName).cls ≠ "java/lang/invoke/VarHandle" ∧ (((2 : Nat) = 0 ∧ hasDecl (⟨"HtreeDir", "<init>", "(II)V"⟩ : MethodName) tables_1 = true ∧ hasSel (⟨"HtreeDir", "<init>", "(II)V"⟩ : MethodName) tables_1 = true ∧ hasInst (⟨"HtreeDir", "<init>", "(II)V"⟩ : MethodName) tables_1 = true) ∨ ((2 : Nat) = 1 ∧ hasPriv (⟨"HtreeDir", "<init>", "(II)V"⟩ : MethodName) tables_1 = true ∧ hasInst (⟨"HtreeDir", "<init>", "(II)V"⟩ : MethodName) tables_1 = true ∧ (instLk (⟨"HtreeDir", "<init>", "(II)V"⟩ : MethodName).cls tables_1).isSome = true) ∨ ((2 : Nat) = 2 ∧ (⟨"HtreeDir", "<init>", "(II)V"⟩ : MethodName).name = "<init>" ∧ hasInst (⟨"HtreeDir", "<init>", "(II)V"⟩ : MethodName) tables_1 = true ∧ (none : Option FieldType) = none) ∨ ((2 : Nat) = 3 ∧ hasStat (⟨"HtreeDir", "<init>", "(II)V"⟩ : MethodName) tables_1 = true)) := by decide +kernel
theorem ca_w9_2 : callAt tables_1 "HtreeDirL2" 9 2 = some ((⟨"HtreeDir", "<init>", "(II)V"⟩ : MethodName), 2, prog_1_method_1_code, 6, none) := callAt_of ml_w9 cl_init pd_init cc_init_2 rfl
theorem on_w9 : objInitAt tables_1 "HtreeDirL2" 9 = false := by decide +kernel
abbrev W_law (pc : Nat) (ls : List Slot) (st : List Value) (M : EMem) (Q : Option Value → EMem → Prop) : Prop := Wp tables_1 0 7 176 x code (some .boolean) pc ls st M Q
theorem d_law_10 : decode code 10 = .ok (.astore 4, 2) := by decide +kernel
theorem d_law_12 : decode code 12 = .ok (.iload_n 1, 1) := by decide +kernel
theorem d_law_13 : decode code 13 = .ok (.ifCond .lt 13, 3) := by decide +kernel
theorem d_law_26 : decode code 26 = .ok (.iconst 0, 1) := by decide +kernel
theorem d_law_16 : decode code 16 = .ok (.iload_n 1, 1) := by decide +kernel
theorem d_law_17 : decode code 17 = .ok (.ldc 12, 2) := by decide +kernel
theorem d_law_22 : decode code 22 = .ok (.iconst 1, 1) := by decide +kernel
theorem d_law_23 : decode code 23 = .ok (.goto 4, 3) := by decide +kernel
theorem d_law_19 : decode code 19 = .ok (.if_icmp .gt 7, 3) := by decide +kernel
theorem d_law_27 : decode code 27 = .ok (.istore 5, 2) := by decide +kernel
theorem d_law_29 : decode code 29 = .ok (.iload 5, 2) := by decide +kernel
theorem d_law_31 : decode code 31 = .ok (.ifCond .ne 7, 3) := by decide +kernel
theorem d_law_38 : decode code 38 = .ok (.iload_n 2, 1) := by decide +kernel
theorem d_law_39 : decode code 39 = .ok (.iconst 1, 1) := by decide +kernel
theorem d_law_47 : decode code 47 = .ok (.iconst 0, 1) := by decide +kernel
theorem d_law_43 : decode code 43 = .ok (.iconst 5, 1) := by decide +kernel
theorem d_law_44 : decode code 44 = .ok (.goto 4, 3) := by decide +kernel
theorem d_law_40 : decode code 40 = .ok (.if_icmp .ge 7, 3) := by decide +kernel
theorem d_law_34 : decode code 34 = .ok (.iconst 4, 1) := by decide +kernel
theorem d_law_35 : decode code 35 = .ok (.goto 13, 3) := by decide +kernel
theorem d_law_48 : decode code 48 = .ok (.istore 6, 2) := by decide +kernel
theorem d_law_50 : decode code 50 = .ok (.iload 6, 2) := by decide +kernel
theorem d_law_52 : decode code 52 = .ok (.ifCond .ne 7, 3) := by decide +kernel
theorem d_law_59 : decode code 59 = .ok (.iconst 0, 1) := by decide +kernel
theorem d_law_55 : decode code 55 = .ok (.iconst 1, 1) := by decide +kernel
theorem d_law_56 : decode code 56 = .ok (.goto 4, 3) := by decide +kernel
theorem d_law_60 : decode code 60 = .ok (.istore 7, 2) := by decide +kernel
theorem d_law_62 : decode code 62 = .ok (.iload 5, 2) := by decide +kernel
theorem d_law_64 : decode code 64 = .ok (.ifCond .ne 7, 3) := by decide +kernel
theorem d_law_71 : decode code 71 = .ok (.iload_n 3, 1) := by decide +kernel
theorem d_law_72 : decode code 72 = .ok (.iconst 1, 1) := by decide +kernel
theorem d_law_80 : decode code 80 = .ok (.iload 7, 2) := by decide +kernel
theorem d_law_89 : decode code 89 = .ok (.iconst 0, 1) := by decide +kernel
theorem d_law_85 : decode code 85 = .ok (.iconst 1, 1) := by decide +kernel
theorem d_law_86 : decode code 86 = .ok (.goto 4, 3) := by decide +kernel
theorem d_law_82 : decode code 82 = .ok (.ifCond .eq 7, 3) := by decide +kernel
theorem d_law_76 : decode code 76 = .ok (.iconst 5, 1) := by decide +kernel
theorem d_law_77 : decode code 77 = .ok (.goto 13, 3) := by decide +kernel
theorem d_law_73 : decode code 73 = .ok (.if_icmp .ge 7, 3) := by decide +kernel
theorem d_law_67 : decode code 67 = .ok (.iconst 4, 1) := by decide +kernel
theorem d_law_68 : decode code 68 = .ok (.goto 22, 3) := by decide +kernel
theorem d_law_90 : decode code 90 = .ok (.istore 8, 2) := by decide +kernel
theorem d_law_92 : decode code 92 = .ok (.iload 7, 2) := by decide +kernel
theorem d_law_94 : decode code 94 = .ok (.ifCond .eq 7, 3) := by decide +kernel
theorem d_law_101 : decode code 101 = .ok (.iload 8, 2) := by decide +kernel
theorem d_law_110 : decode code 110 = .ok (.iconst 0, 1) := by decide +kernel
theorem d_law_106 : decode code 106 = .ok (.iload_n 3, 1) := by decide +kernel
theorem d_law_107 : decode code 107 = .ok (.goto 4, 3) := by decide +kernel
theorem d_law_103 : decode code 103 = .ok (.ifCond .ne 7, 3) := by decide +kernel
theorem d_law_97 : decode code 97 = .ok (.iload_n 2, 1) := by decide +kernel
theorem d_law_98 : decode code 98 = .ok (.goto 13, 3) := by decide +kernel
theorem d_law_111 : decode code 111 = .ok (.istore 9, 2) := by decide +kernel
theorem d_law_113 : decode code 113 = .ok (.iload_n 0, 1) := by decide +kernel
theorem d_law_114 : decode code 114 = .ok (.ifCond .ge 7, 3) := by decide +kernel
theorem d_law_121 : decode code 121 = .ok (.iload_n 0, 1) := by decide +kernel
theorem d_law_122 : decode code 122 = .ok (.ldc 12, 2) := by decide +kernel
theorem d_law_132 : decode code 132 = .ok (.iload_n 0, 1) := by decide +kernel
theorem d_law_127 : decode code 127 = .ok (.ldc 12, 2) := by decide +kernel
theorem d_law_129 : decode code 129 = .ok (.goto 4, 3) := by decide +kernel
theorem d_law_124 : decode code 124 = .ok (.if_icmp .le 8, 3) := by decide +kernel
theorem d_law_117 : decode code 117 = .ok (.iconst 0, 1) := by decide +kernel
theorem d_law_118 : decode code 118 = .ok (.goto 15, 3) := by decide +kernel
theorem d_law_133 : decode code 133 = .ok (.istore 10, 2) := by decide +kernel
theorem d_law_135 : decode code 135 = .ok (.iload 5, 2) := by decide +kernel
theorem d_law_137 : decode code 137 = .ok (.ifCond .eq 12, 3) := by decide +kernel
theorem d_law_149 : decode code 149 = .ok (.iconst (-1), 1) := by decide +kernel
theorem d_law_140 : decode code 140 = .ok (.iload 10, 2) := by decide +kernel
theorem d_law_142 : decode code 142 = .ok (.iload_n 1, 1) := by decide +kernel
theorem d_law_143 : decode code 143 = .ok (.invokestatic 13, 3) := by decide +kernel
theorem ml_w13 : methodLk "HtreeDirL2" 13 tables_1 = some (⟨"HtreeDirL2", "hash", "(II)I"⟩ : MethodName) := by decide +kernel
theorem cl_law_hash : codeLk (⟨"HtreeDirL2", "hash", "(II)I"⟩ : MethodName) tables_1 = some (method_3_code, 3, (some .int)) := codeLk_at (i := 42) rfl (by decide +kernel)
theorem pd_law_hash : parseMethodDescriptor "(II)I" = some ⟨[.int, .int], some .int⟩ := by decide +kernel
theorem cc_law_hash_3 : hasInit (⟨"HtreeDirL2", "hash", "(II)I"⟩ : MethodName).cls tables_1 = true ∧ plainName (⟨"HtreeDirL2", "hash", "(II)I"⟩ : MethodName).cls = true ∧ (⟨"HtreeDirL2", "hash", "(II)I"⟩ : MethodName).cls ≠ "java/lang/invoke/MethodHandle" ∧ (⟨"HtreeDirL2", "hash", "(II)I"⟩ : MethodName).cls ≠ "java/lang/invoke/VarHandle" ∧ (((3 : Nat) = 0 ∧ hasDecl (⟨"HtreeDirL2", "hash", "(II)I"⟩ : MethodName) tables_1 = true ∧ hasSel (⟨"HtreeDirL2", "hash", "(II)I"⟩ : MethodName) tables_1 = true ∧ hasInst (⟨"HtreeDirL2", "hash", "(II)I"⟩ : MethodName) tables_1 = true) ∨ ((3 : Nat) = 1 ∧ hasPriv (⟨"HtreeDirL2", "hash", "(II)I"⟩ : MethodName) tables_1 = true ∧ hasInst (⟨"HtreeDirL2", "hash", "(II)I"⟩ : MethodName) tables_1 = true ∧ (instLk (⟨"HtreeDirL2", "hash", "(II)I"⟩ : MethodName).cls tables_1).isSome = true) ∨ ((3 : Nat) = 2 ∧ (⟨"HtreeDirL2", "hash", "(II)I"⟩ : MethodName).name = "<init>" ∧ hasInst (⟨"HtreeDirL2", "hash", "(II)I"⟩ : MethodName) tables_1 = true ∧ ((some .int) : Option FieldType) = none) ∨ ((3 : Nat) = 3 ∧ hasStat (⟨"HtreeDirL2", "hash", "(II)I"⟩ : MethodName) tables_1 = true)) := by decide +kernel
theorem ca_w13_3 : callAt tables_1 "HtreeDirL2" 13 3 = some ((⟨"HtreeDirL2", "hash", "(II)I"⟩ : MethodName), 2, method_3_code, 3, (some .int)) := callAt_of ml_w13 cl_law_hash pd_law_hash cc_law_hash_3 rfl
theorem d_law_146 : decode code 146 = .ok (.goto 4, 3) := by decide +kernel
theorem d_law_150 : decode code 150 = .ok (.istore 11, 2) := by decide +kernel
theorem d_law_152 : decode code 152 = .ok (.aload 4, 2) := by decide +kernel
theorem d_law_154 : decode code 154 = .ok (.iload_n 1, 1) := by decide +kernel
theorem d_law_155 : decode code 155 = .ok (.iload_n 2, 1) := by decide +kernel
theorem d_law_156 : decode code 156 = .ok (.invokevirtual 19, 3) := by decide +kernel
theorem ml_w19 : methodLk "HtreeDirL2" 19 tables_1 = some (⟨"HtreeDir", "insert", "(II)I"⟩ : MethodName) := by decide +kernel
theorem cl_insert : codeLk (⟨"HtreeDir", "insert", "(II)I"⟩ : MethodName) tables_1 = some (prog_1_method_5_code, 6, (some .int)) := codeLk_at (i := 48) rfl (by decide +kernel)
theorem pd_insert : parseMethodDescriptor "(II)I" = some ⟨[.int, .int], some .int⟩ := by decide +kernel
theorem cc_insert_0 : hasInit (⟨"HtreeDir", "insert", "(II)I"⟩ : MethodName).cls tables_1 = true ∧ plainName (⟨"HtreeDir", "insert", "(II)I"⟩ : MethodName).cls = true ∧ (⟨"HtreeDir", "insert", "(II)I"⟩ : MethodName).cls ≠ "java/lang/invoke/MethodHandle" ∧ (⟨"HtreeDir", "insert", "(II)I"⟩ : MethodName).cls ≠ "java/lang/invoke/VarHandle" ∧ (((0 : Nat) = 0 ∧ hasDecl (⟨"HtreeDir", "insert", "(II)I"⟩ : MethodName) tables_1 = true ∧ hasSel (⟨"HtreeDir", "insert", "(II)I"⟩ : MethodName) tables_1 = true ∧ hasInst (⟨"HtreeDir", "insert", "(II)I"⟩ : MethodName) tables_1 = true) ∨ ((0 : Nat) = 1 ∧ hasPriv (⟨"HtreeDir", "insert", "(II)I"⟩ : MethodName) tables_1 = true ∧ hasInst (⟨"HtreeDir", "insert", "(II)I"⟩ : MethodName) tables_1 = true ∧ (instLk (⟨"HtreeDir", "insert", "(II)I"⟩ : MethodName).cls tables_1).isSome = true) ∨ ((0 : Nat) = 2 ∧ (⟨"HtreeDir", "insert", "(II)I"⟩ : MethodName).name = "<init>" ∧ hasInst (⟨"HtreeDir", "insert", "(II)I"⟩ : MethodName) tables_1 = true ∧ ((some .int) : Option FieldType) = none) ∨ ((0 : Nat) = 3 ∧ hasStat (⟨"HtreeDir", "insert", "(II)I"⟩ : MethodName) tables_1 = true)) := by decide +kernel
theorem ca_w19_0 : callAt tables_1 "HtreeDirL2" 19 0 = some ((⟨"HtreeDir", "insert", "(II)I"⟩ : MethodName), 2, prog_1_method_5_code, 6, (some .int)) := callAt_of ml_w19 cl_insert pd_insert cc_insert_0 rfl
theorem np_insert : hasPriv (⟨"HtreeDir", "insert", "(II)I"⟩ : MethodName) tables_1 = false := by decide +kernel
theorem ca_w19_0n : callAt tables_1 "HtreeDirL2" 19 1 = none := callAt_pub ml_w19 np_insert
theorem d_law_159 : decode code 159 = .ok (.iload 6, 2) := by decide +kernel
theorem d_law_161 : decode code 161 = .ok (.if_icmp .eq 5, 3) := by decide +kernel
theorem d_law_166 : decode code 166 = .ok (.aload 4, 2) := by decide +kernel
theorem d_law_168 : decode code 168 = .ok (.invokevirtual 22, 3) := by decide +kernel
theorem ml_w22 : methodLk "HtreeDirL2" 22 tables_1 = some (⟨"HtreeDir", "count", "()I"⟩ : MethodName) := by decide +kernel
theorem cl_count : codeLk (⟨"HtreeDir", "count", "()I"⟩ : MethodName) tables_1 = some (prog_1_method_3_code, 1, (some .int)) := codeLk_at (i := 86) rfl (by decide +kernel)
theorem pd_count : parseMethodDescriptor "()I" = some ⟨[], some .int⟩ := by decide +kernel
theorem cc_count_0 : hasInit (⟨"HtreeDir", "count", "()I"⟩ : MethodName).cls tables_1 = true ∧ plainName (⟨"HtreeDir", "count", "()I"⟩ : MethodName).cls = true ∧ (⟨"HtreeDir", "count", "()I"⟩ : MethodName).cls ≠ "java/lang/invoke/MethodHandle" ∧ (⟨"HtreeDir", "count", "()I"⟩ : MethodName).cls ≠ "java/lang/invoke/VarHandle" ∧ (((0 : Nat) = 0 ∧ hasDecl (⟨"HtreeDir", "count", "()I"⟩ : MethodName) tables_1 = true ∧ hasSel (⟨"HtreeDir", "count", "()I"⟩ : MethodName) tables_1 = true ∧ hasInst (⟨"HtreeDir", "count", "()I"⟩ : MethodName) tables_1 = true) ∨ ((0 : Nat) = 1 ∧ hasPriv (⟨"HtreeDir", "count", "()I"⟩ : MethodName) tables_1 = true ∧ hasInst (⟨"HtreeDir", "count", "()I"⟩ : MethodName) tables_1 = true ∧ (instLk (⟨"HtreeDir", "count", "()I"⟩ : MethodName).cls tables_1).isSome = true) ∨ ((0 : Nat) = 2 ∧ (⟨"HtreeDir", "count", "()I"⟩ : MethodName).name = "<init>" ∧ hasInst (⟨"HtreeDir", "count", "()I"⟩ : MethodName) tables_1 = true ∧ ((some .int) : Option FieldType) = none) ∨ ((0 : Nat) = 3 ∧ hasStat (⟨"HtreeDir", "count", "()I"⟩ : MethodName) tables_1 = true)) := by decide +kernel
theorem ca_w22_0 : callAt tables_1 "HtreeDirL2" 22 0 = some ((⟨"HtreeDir", "count", "()I"⟩ : MethodName), 0, prog_1_method_3_code, 1, (some .int)) := callAt_of ml_w22 cl_count pd_count cc_count_0 rfl
theorem np_count : hasPriv (⟨"HtreeDir", "count", "()I"⟩ : MethodName) tables_1 = false := by decide +kernel
theorem ca_w22_0n : callAt tables_1 "HtreeDirL2" 22 1 = none := callAt_pub ml_w22 np_count
theorem d_law_171 : decode code 171 = .ok (.iload 7, 2) := by decide +kernel
theorem d_law_173 : decode code 173 = .ok (.ifCond .eq 7, 3) := by decide +kernel
theorem d_law_180 : decode code 180 = .ok (.iconst 0, 1) := by decide +kernel
theorem d_law_176 : decode code 176 = .ok (.iconst 1, 1) := by decide +kernel
theorem d_law_177 : decode code 177 = .ok (.goto 4, 3) := by decide +kernel
theorem d_law_181 : decode code 181 = .ok (.if_icmp .eq 5, 3) := by decide +kernel
theorem d_law_186 : decode code 186 = .ok (.aload 4, 2) := by decide +kernel
theorem d_law_188 : decode code 188 = .ok (.iload_n 1, 1) := by decide +kernel
theorem d_law_189 : decode code 189 = .ok (.invokevirtual 26, 3) := by decide +kernel
theorem ml_w26 : methodLk "HtreeDirL2" 26 tables_1 = some (⟨"HtreeDir", "lookup", "(I)I"⟩ : MethodName) := by decide +kernel
theorem cl_lookup : codeLk (⟨"HtreeDir", "lookup", "(I)I"⟩ : MethodName) tables_1 = some (prog_1_method_8_code, 4, (some .int)) := codeLk_at (i := 91) rfl (by decide +kernel)
theorem pd_lookup : parseMethodDescriptor "(I)I" = some ⟨[.int], some .int⟩ := by decide +kernel
theorem cc_lookup_0 : hasInit (⟨"HtreeDir", "lookup", "(I)I"⟩ : MethodName).cls tables_1 = true ∧ plainName (⟨"HtreeDir", "lookup", "(I)I"⟩ : MethodName).cls = true ∧ (⟨"HtreeDir", "lookup", "(I)I"⟩ : MethodName).cls ≠ "java/lang/invoke/MethodHandle" ∧ (⟨"HtreeDir", "lookup", "(I)I"⟩ : MethodName).cls ≠ "java/lang/invoke/VarHandle" ∧ (((0 : Nat) = 0 ∧ hasDecl (⟨"HtreeDir", "lookup", "(I)I"⟩ : MethodName) tables_1 = true ∧ hasSel (⟨"HtreeDir", "lookup", "(I)I"⟩ : MethodName) tables_1 = true ∧ hasInst (⟨"HtreeDir", "lookup", "(I)I"⟩ : MethodName) tables_1 = true) ∨ ((0 : Nat) = 1 ∧ hasPriv (⟨"HtreeDir", "lookup", "(I)I"⟩ : MethodName) tables_1 = true ∧ hasInst (⟨"HtreeDir", "lookup", "(I)I"⟩ : MethodName) tables_1 = true ∧ (instLk (⟨"HtreeDir", "lookup", "(I)I"⟩ : MethodName).cls tables_1).isSome = true) ∨ ((0 : Nat) = 2 ∧ (⟨"HtreeDir", "lookup", "(I)I"⟩ : MethodName).name = "<init>" ∧ hasInst (⟨"HtreeDir", "lookup", "(I)I"⟩ : MethodName) tables_1 = true ∧ ((some .int) : Option FieldType) = none) ∨ ((0 : Nat) = 3 ∧ hasStat (⟨"HtreeDir", "lookup", "(I)I"⟩ : MethodName) tables_1 = true)) := by decide +kernel
theorem ca_w26_0 : callAt tables_1 "HtreeDirL2" 26 0 = some ((⟨"HtreeDir", "lookup", "(I)I"⟩ : MethodName), 1, prog_1_method_8_code, 4, (some .int)) := callAt_of ml_w26 cl_lookup pd_lookup cc_lookup_0 rfl
theorem np_lookup : hasPriv (⟨"HtreeDir", "lookup", "(I)I"⟩ : MethodName) tables_1 = false := by decide +kernel
theorem ca_w26_0n : callAt tables_1 "HtreeDirL2" 26 1 = none := callAt_pub ml_w26 np_lookup
theorem d_law_184 : decode code 184 = .ok (.iconst 0, 1) := by decide +kernel
theorem d_law_185 : decode code 185 = .ok (.ireturn, 1) := by decide +kernel
theorem d_law_164 : decode code 164 = .ok (.iconst 0, 1) := by decide +kernel
theorem d_law_165 : decode code 165 = .ok (.ireturn, 1) := by decide +kernel
theorem d_law_192 : decode code 192 = .ok (.iload 7, 2) := by decide +kernel
theorem d_law_194 : decode code 194 = .ok (.ifCond .eq 7, 3) := by decide +kernel
theorem d_law_201 : decode code 201 = .ok (.iconst 0, 1) := by decide +kernel
theorem d_law_197 : decode code 197 = .ok (.iload_n 2, 1) := by decide +kernel
theorem d_law_198 : decode code 198 = .ok (.goto 4, 3) := by decide +kernel
theorem d_law_202 : decode code 202 = .ok (.if_icmp .eq 5, 3) := by decide +kernel
theorem d_law_207 : decode code 207 = .ok (.aload 4, 2) := by decide +kernel
theorem d_law_209 : decode code 209 = .ok (.iconst 0, 1) := by decide +kernel
theorem d_law_210 : decode code 210 = .ok (.invokevirtual 30, 3) := by decide +kernel
theorem ml_w30 : methodLk "HtreeDirL2" 30 tables_1 = some (⟨"HtreeDir", "nameAtRank", "(I)I"⟩ : MethodName) := by decide +kernel
theorem cl_nameAtRank : codeLk (⟨"HtreeDir", "nameAtRank", "(I)I"⟩ : MethodName) tables_1 = some (prog_1_method_10_code, 6, (some .int)) := codeLk_at (i := 100) rfl (by decide +kernel)
theorem pd_nameAtRank : parseMethodDescriptor "(I)I" = some ⟨[.int], some .int⟩ := by decide +kernel
theorem cc_nameAtRank_0 : hasInit (⟨"HtreeDir", "nameAtRank", "(I)I"⟩ : MethodName).cls tables_1 = true ∧ plainName (⟨"HtreeDir", "nameAtRank", "(I)I"⟩ : MethodName).cls = true ∧ (⟨"HtreeDir", "nameAtRank", "(I)I"⟩ : MethodName).cls ≠ "java/lang/invoke/MethodHandle" ∧ (⟨"HtreeDir", "nameAtRank", "(I)I"⟩ : MethodName).cls ≠ "java/lang/invoke/VarHandle" ∧ (((0 : Nat) = 0 ∧ hasDecl (⟨"HtreeDir", "nameAtRank", "(I)I"⟩ : MethodName) tables_1 = true ∧ hasSel (⟨"HtreeDir", "nameAtRank", "(I)I"⟩ : MethodName) tables_1 = true ∧ hasInst (⟨"HtreeDir", "nameAtRank", "(I)I"⟩ : MethodName) tables_1 = true) ∨ ((0 : Nat) = 1 ∧ hasPriv (⟨"HtreeDir", "nameAtRank", "(I)I"⟩ : MethodName) tables_1 = true ∧ hasInst (⟨"HtreeDir", "nameAtRank", "(I)I"⟩ : MethodName) tables_1 = true ∧ (instLk (⟨"HtreeDir", "nameAtRank", "(I)I"⟩ : MethodName).cls tables_1).isSome = true) ∨ ((0 : Nat) = 2 ∧ (⟨"HtreeDir", "nameAtRank", "(I)I"⟩ : MethodName).name = "<init>" ∧ hasInst (⟨"HtreeDir", "nameAtRank", "(I)I"⟩ : MethodName) tables_1 = true ∧ ((some .int) : Option FieldType) = none) ∨ ((0 : Nat) = 3 ∧ hasStat (⟨"HtreeDir", "nameAtRank", "(I)I"⟩ : MethodName) tables_1 = true)) := by decide +kernel
theorem ca_w30_0 : callAt tables_1 "HtreeDirL2" 30 0 = some ((⟨"HtreeDir", "nameAtRank", "(I)I"⟩ : MethodName), 1, prog_1_method_10_code, 6, (some .int)) := callAt_of ml_w30 cl_nameAtRank pd_nameAtRank cc_nameAtRank_0 rfl
theorem np_nameAtRank : hasPriv (⟨"HtreeDir", "nameAtRank", "(I)I"⟩ : MethodName) tables_1 = false := by decide +kernel
theorem ca_w30_0n : callAt tables_1 "HtreeDirL2" 30 1 = none := callAt_pub ml_w30 np_nameAtRank
theorem d_law_205 : decode code 205 = .ok (.iconst 0, 1) := by decide +kernel
theorem d_law_206 : decode code 206 = .ok (.ireturn, 1) := by decide +kernel
theorem d_law_213 : decode code 213 = .ok (.iload 7, 2) := by decide +kernel
theorem d_law_215 : decode code 215 = .ok (.ifCond .eq 7, 3) := by decide +kernel
theorem d_law_222 : decode code 222 = .ok (.iconst (-1), 1) := by decide +kernel
theorem d_law_218 : decode code 218 = .ok (.iload_n 1, 1) := by decide +kernel
theorem d_law_219 : decode code 219 = .ok (.goto 4, 3) := by decide +kernel
theorem d_law_223 : decode code 223 = .ok (.if_icmp .eq 5, 3) := by decide +kernel
theorem d_law_228 : decode code 228 = .ok (.aload 4, 2) := by decide +kernel
theorem d_law_230 : decode code 230 = .ok (.iload_n 1, 1) := by decide +kernel
theorem d_law_231 : decode code 231 = .ok (.iload_n 3, 1) := by decide +kernel
theorem d_law_232 : decode code 232 = .ok (.invokevirtual 19, 3) := by decide +kernel
theorem d_law_226 : decode code 226 = .ok (.iconst 0, 1) := by decide +kernel
theorem d_law_227 : decode code 227 = .ok (.ireturn, 1) := by decide +kernel
theorem d_law_235 : decode code 235 = .ok (.iload 8, 2) := by decide +kernel
theorem d_law_237 : decode code 237 = .ok (.if_icmp .eq 5, 3) := by decide +kernel
theorem d_law_242 : decode code 242 = .ok (.aload 4, 2) := by decide +kernel
theorem d_law_244 : decode code 244 = .ok (.iload_n 1, 1) := by decide +kernel
theorem d_law_245 : decode code 245 = .ok (.invokevirtual 26, 3) := by decide +kernel
theorem d_law_240 : decode code 240 = .ok (.iconst 0, 1) := by decide +kernel
theorem d_law_241 : decode code 241 = .ok (.ireturn, 1) := by decide +kernel
theorem d_law_248 : decode code 248 = .ok (.iload 9, 2) := by decide +kernel
theorem d_law_250 : decode code 250 = .ok (.if_icmp .eq 5, 3) := by decide +kernel
theorem d_law_255 : decode code 255 = .ok (.aload 4, 2) := by decide +kernel
theorem d_law_257 : decode code 257 = .ok (.invokevirtual 22, 3) := by decide +kernel
theorem d_law_260 : decode code 260 = .ok (.iload 9, 2) := by decide +kernel
theorem d_law_262 : decode code 262 = .ok (.ifCond .eq 7, 3) := by decide +kernel
theorem d_law_269 : decode code 269 = .ok (.iconst 0, 1) := by decide +kernel
theorem d_law_265 : decode code 265 = .ok (.iconst 1, 1) := by decide +kernel
theorem d_law_266 : decode code 266 = .ok (.goto 4, 3) := by decide +kernel
theorem d_law_270 : decode code 270 = .ok (.if_icmp .eq 5, 3) := by decide +kernel
theorem d_law_275 : decode code 275 = .ok (.aload 4, 2) := by decide +kernel
theorem d_law_277 : decode code 277 = .ok (.iload 11, 2) := by decide +kernel
theorem d_law_279 : decode code 279 = .ok (.invokevirtual 33, 3) := by decide +kernel
theorem ml_w33 : methodLk "HtreeDirL2" 33 tables_1 = some (⟨"HtreeDir", "nameWithHash", "(I)I"⟩ : MethodName) := by decide +kernel
theorem cl_nameWithHash : codeLk (⟨"HtreeDir", "nameWithHash", "(I)I"⟩ : MethodName) tables_1 = some (prog_1_method_9_code, 3, (some .int)) := codeLk_at (i := 105) rfl (by decide +kernel)
theorem pd_nameWithHash : parseMethodDescriptor "(I)I" = some ⟨[.int], some .int⟩ := by decide +kernel
theorem cc_nameWithHash_0 : hasInit (⟨"HtreeDir", "nameWithHash", "(I)I"⟩ : MethodName).cls tables_1 = true ∧ plainName (⟨"HtreeDir", "nameWithHash", "(I)I"⟩ : MethodName).cls = true ∧ (⟨"HtreeDir", "nameWithHash", "(I)I"⟩ : MethodName).cls ≠ "java/lang/invoke/MethodHandle" ∧ (⟨"HtreeDir", "nameWithHash", "(I)I"⟩ : MethodName).cls ≠ "java/lang/invoke/VarHandle" ∧ (((0 : Nat) = 0 ∧ hasDecl (⟨"HtreeDir", "nameWithHash", "(I)I"⟩ : MethodName) tables_1 = true ∧ hasSel (⟨"HtreeDir", "nameWithHash", "(I)I"⟩ : MethodName) tables_1 = true ∧ hasInst (⟨"HtreeDir", "nameWithHash", "(I)I"⟩ : MethodName) tables_1 = true) ∨ ((0 : Nat) = 1 ∧ hasPriv (⟨"HtreeDir", "nameWithHash", "(I)I"⟩ : MethodName) tables_1 = true ∧ hasInst (⟨"HtreeDir", "nameWithHash", "(I)I"⟩ : MethodName) tables_1 = true ∧ (instLk (⟨"HtreeDir", "nameWithHash", "(I)I"⟩ : MethodName).cls tables_1).isSome = true) ∨ ((0 : Nat) = 2 ∧ (⟨"HtreeDir", "nameWithHash", "(I)I"⟩ : MethodName).name = "<init>" ∧ hasInst (⟨"HtreeDir", "nameWithHash", "(I)I"⟩ : MethodName) tables_1 = true ∧ ((some .int) : Option FieldType) = none) ∨ ((0 : Nat) = 3 ∧ hasStat (⟨"HtreeDir", "nameWithHash", "(I)I"⟩ : MethodName) tables_1 = true)) := by decide +kernel
theorem ca_w33_0 : callAt tables_1 "HtreeDirL2" 33 0 = some ((⟨"HtreeDir", "nameWithHash", "(I)I"⟩ : MethodName), 1, prog_1_method_9_code, 3, (some .int)) := callAt_of ml_w33 cl_nameWithHash pd_nameWithHash cc_nameWithHash_0 rfl
theorem np_nameWithHash : hasPriv (⟨"HtreeDir", "nameWithHash", "(I)I"⟩ : MethodName) tables_1 = false := by decide +kernel
theorem ca_w33_0n : callAt tables_1 "HtreeDirL2" 33 1 = none := callAt_pub ml_w33 np_nameWithHash
theorem d_law_273 : decode code 273 = .ok (.iconst 0, 1) := by decide +kernel
theorem d_law_274 : decode code 274 = .ok (.ireturn, 1) := by decide +kernel
theorem d_law_253 : decode code 253 = .ok (.iconst 0, 1) := by decide +kernel
theorem d_law_254 : decode code 254 = .ok (.ireturn, 1) := by decide +kernel
theorem d_law_282 : decode code 282 = .ok (.iload 9, 2) := by decide +kernel
theorem d_law_284 : decode code 284 = .ok (.ifCond .eq 7, 3) := by decide +kernel
theorem d_law_291 : decode code 291 = .ok (.iconst (-1), 1) := by decide +kernel
theorem d_law_287 : decode code 287 = .ok (.iload_n 1, 1) := by decide +kernel
theorem d_law_288 : decode code 288 = .ok (.goto 4, 3) := by decide +kernel
theorem d_law_292 : decode code 292 = .ok (.if_icmp .eq 5, 3) := by decide +kernel
theorem d_law_297 : decode code 297 = .ok (.iconst 1, 1) := by decide +kernel
theorem d_law_298 : decode code 298 = .ok (.ireturn, 1) := by decide +kernel
theorem d_law_295 : decode code 295 = .ok (.iconst 0, 1) := by decide +kernel
theorem d_law_296 : decode code 296 = .ok (.ireturn, 1) := by decide +kernel
set_option maxRecDepth 65536 in
set_option maxHeartbeats 4000000 in
theorem L_count_0 {mi : Nat → Nat → Int32} {ml : Nat → Nat → Int64} {Q : Option Value → EMem → Prop}
    (h1 : Q (some (.int (mi 0 33))) (LL1, mi, ml, RR1)) :
    W_count 0 [.val (.ref 0)] [] (LL1, mi, ml, RR1) Q := by
  refine Wp.p (pc' := 1) d_count_0 rfl rfl ?_
  refine Wp.getI (mi 0 33) d_count_1 fa_c43 rfl rfl ?_
  refine Wp.retI d_count_4 ?_
  exact h1
set_option maxRecDepth 65536 in
set_option maxHeartbeats 4000000 in
theorem L_isName_0 {x1 : Int32} {mi : Nat → Nat → Int32} {ml : Nat → Nat → Int64} {Q : Option Value → EMem → Prop}
    (h1 : ∀ v1 : Int32, v1 = (if x1 < (0 : Int32) then (0 : Int32) else (if (65535 : Int32) < x1 then (0 : Int32) else (1 : Int32))) → Q (some (.int (v1 &&& 1))) (LL1, mi, ml, RR1)) :
    W_isName 0 [.val (.ref 0), .val (.int x1)] [] (LL1, mi, ml, RR1) Q := by
  refine Wp.p (pc' := 1) d_isName_0 rfl rfl ?_
  obtain ⟨v1, e1⟩ : ∃ z : Int32, z = (if x1 < (0 : Int32) then (0 : Int32) else (if (65535 : Int32) < x1 then (0 : Int32) else (1 : Int32))) := ⟨_, rfl⟩
  suffices K : W_isName 15 [.val (.ref 0), .val (.int x1)] [.int v1] (LL1, mi, ml, RR1) Q by
    refine Wp.if_lt d_isName_1 rfl (fun q0 => ?_) (fun q0 => ?_)
    ·
      refine Wp.iconst (0 : Int32) d_isName_14 (by decide) ?_
      rw [if_pos q0] at e1; subst e1
      exact K
    ·
      refine Wp.p (pc' := 5) d_isName_4 rfl rfl ?_
      refine Wp.ldc d_isName_5 ik_c35 ?_
      refine Wp.icmp_gt d_isName_7 rfl (fun q1 => ?_) (fun q1 => ?_)
      ·
        refine Wp.iconst (0 : Int32) d_isName_14 (by decide) ?_
        rw [if_neg q0, if_pos q1] at e1; subst e1
        exact K
      ·
        refine Wp.iconst (1 : Int32) d_isName_10 (by decide) ?_
        refine Wp.p (pc' := 15) d_isName_11 rfl rfl ?_
        rw [if_neg q0, if_neg q1] at e1; subst e1
        exact K
  refine Wp.retZ (v1 &&& 1) d_isName_15 (by rfl) ?_
  exact (h1 v1 e1)
set_option maxRecDepth 65536 in
set_option maxHeartbeats 4000000 in
theorem L_hash_0 {x1 : Int32} {mi : Nat → Nat → Int32} {ml : Nat → Nat → Int64} {Q : Option Value → EMem → Prop}
    (h1 : Q (some (.int ((((((((x1 ^^^ (mi 0 29)) &&& (65535 : Int32)) * (40507 : Int32)) &&& (65535 : Int32)) ^^^ (XT.ushr ((((x1 ^^^ (mi 0 29)) &&& (65535 : Int32)) * (40507 : Int32)) &&& (65535 : Int32)) (7 : Int32))) * (23505 : Int32)) &&& (65535 : Int32)) ^^^ (XT.ushr (((((((x1 ^^^ (mi 0 29)) &&& (65535 : Int32)) * (40507 : Int32)) &&& (65535 : Int32)) ^^^ (XT.ushr ((((x1 ^^^ (mi 0 29)) &&& (65535 : Int32)) * (40507 : Int32)) &&& (65535 : Int32)) (7 : Int32))) * (23505 : Int32)) &&& (65535 : Int32)) (9 : Int32))))) (LL1, mi, ml, RR1)) :
    W_hash 0 [.val (.ref 0), .val (.int x1), .unset] [] (LL1, mi, ml, RR1) Q := by
  refine Wp.p (pc' := 1) d_hash_0 rfl rfl ?_
  refine Wp.p (pc' := 2) d_hash_1 rfl rfl ?_
  refine Wp.getI (mi 0 29) d_hash_2 fa_c36 rfl rfl ?_
  refine Wp.p (pc' := 6) d_hash_5 rfl rfl ?_
  refine Wp.ldc d_hash_6 ik_c35 ?_
  refine Wp.p (pc' := 9) d_hash_8 rfl rfl ?_
  refine Wp.p (pc' := 10) d_hash_9 rfl rfl ?_
  refine Wp.p (pc' := 11) d_hash_10 rfl rfl ?_
  refine Wp.ldc d_hash_11 ik_c99 ?_
  refine Wp.p (pc' := 14) d_hash_13 rfl rfl ?_
  refine Wp.ldc d_hash_14 ik_c35 ?_
  refine Wp.p (pc' := 17) d_hash_16 rfl rfl ?_
  refine Wp.p (pc' := 18) d_hash_17 rfl rfl ?_
  refine Wp.p (pc' := 19) d_hash_18 rfl rfl ?_
  refine Wp.p (pc' := 20) d_hash_19 rfl rfl ?_
  refine Wp.bipush (7 : Int32) d_hash_20 (by decide) ?_
  refine Wp.p (pc' := 23) d_hash_22 rfl rfl ?_
  refine Wp.p (pc' := 24) d_hash_23 rfl rfl ?_
  refine Wp.p (pc' := 25) d_hash_24 rfl rfl ?_
  refine Wp.p (pc' := 26) d_hash_25 rfl rfl ?_
  refine Wp.sipush (23505 : Int32) d_hash_26 (by decide) ?_
  refine Wp.p (pc' := 30) d_hash_29 rfl rfl ?_
  refine Wp.ldc d_hash_30 ik_c35 ?_
  refine Wp.p (pc' := 33) d_hash_32 rfl rfl ?_
  refine Wp.p (pc' := 34) d_hash_33 rfl rfl ?_
  refine Wp.p (pc' := 35) d_hash_34 rfl rfl ?_
  refine Wp.p (pc' := 36) d_hash_35 rfl rfl ?_
  refine Wp.bipush (9 : Int32) d_hash_36 (by decide) ?_
  refine Wp.p (pc' := 39) d_hash_38 rfl rfl ?_
  refine Wp.p (pc' := 40) d_hash_39 rfl rfl ?_
  refine Wp.p (pc' := 41) d_hash_40 rfl rfl ?_
  refine Wp.p (pc' := 42) d_hash_41 rfl rfl ?_
  refine Wp.retI d_hash_42 ?_
  exact h1
set_option maxRecDepth 65536 in
set_option maxHeartbeats 4000000 in
theorem L_keyAt_0 {x1 : Int32} {mi : Nat → Nat → Int32} {ml : Nat → Nat → Int64} {Q : Option Value → EMem → Prop}
    (b1 : inb (x1 &&& (31 : Int32)) 32 = true)
    (b2 : inb ((mi 5 (Int32.toNatClampNeg (x1 &&& (31 : Int32)))) * (4 : Int32)) 128 = true)
    (h1 : Q (some (.int (mi 1 (Int32.toNatClampNeg ((mi 5 (Int32.toNatClampNeg (x1 &&& (31 : Int32)))) * (4 : Int32)))))) (LL1, mi, ml, RR1)) :
    W_keyAt 0 [.val (.ref 0), .val (.int x1), .unset] [] (LL1, mi, ml, RR1) Q := by
  refine Wp.p (pc' := 1) d_keyAt_0 rfl rfl ?_
  refine Wp.getR (b := 5) d_keyAt_1 fa_c22 rfl rfl ?_
  refine Wp.p (pc' := 5) d_keyAt_4 rfl rfl ?_
  refine Wp.bipush (31 : Int32) d_keyAt_5 (by decide) ?_
  refine Wp.p (pc' := 8) d_keyAt_7 rfl rfl ?_
  refine Wp.iaload (mi 5 (Int32.toNatClampNeg (x1 &&& (31 : Int32)))) d_keyAt_8 rfl (k := (Int32.toNatClampNeg (x1 &&& (31 : Int32)))) rfl b1 rfl ?_
  refine Wp.p (pc' := 10) d_keyAt_9 rfl rfl ?_
  refine Wp.p (pc' := 11) d_keyAt_10 rfl rfl ?_
  refine Wp.getR (b := 1) d_keyAt_11 fa_c7 rfl rfl ?_
  refine Wp.p (pc' := 15) d_keyAt_14 rfl rfl ?_
  refine Wp.iconst (4 : Int32) d_keyAt_15 (by decide) ?_
  refine Wp.p (pc' := 17) d_keyAt_16 rfl rfl ?_
  refine Wp.iaload (mi 1 (Int32.toNatClampNeg ((mi 5 (Int32.toNatClampNeg (x1 &&& (31 : Int32)))) * (4 : Int32)))) d_keyAt_17 rfl (k := (Int32.toNatClampNeg ((mi 5 (Int32.toNatClampNeg (x1 &&& (31 : Int32)))) * (4 : Int32)))) rfl b2 rfl ?_
  refine Wp.retI d_keyAt_18 ?_
  exact h1
set_option maxRecDepth 65536 in
set_option maxHeartbeats 4000000 in
theorem L_findLeafPos_0 {x1 : Int32} {mi : Nat → Nat → Int32} {ml : Nat → Nat → Int64} {Q : Option Value → EMem → Prop}
    (h1 : W_findLeafPos 15 [.val (.ref 0), .val (.int x1), .val (.int (0 : Int32)), .val (.int ((mi 0 35) - (1 : Int32))), .val (.int (0 : Int32)), .val (.int (0 : Int32)), .unset] [] (LL1, mi, ml, RR1) Q) :
    W_findLeafPos 0 [.val (.ref 0), .val (.int x1), .unset, .unset, .unset, .unset, .unset] [] (LL1, mi, ml, RR1) Q := by
  refine Wp.iconst (0 : Int32) d_findLeafPos_0 (by decide) ?_
  refine Wp.p (pc' := 2) d_findLeafPos_1 rfl rfl ?_
  refine Wp.p (pc' := 3) d_findLeafPos_2 rfl rfl ?_
  refine Wp.getI (mi 0 35) d_findLeafPos_3 fa_c46 rfl rfl ?_
  refine Wp.iconst (1 : Int32) d_findLeafPos_6 (by decide) ?_
  refine Wp.p (pc' := 8) d_findLeafPos_7 rfl rfl ?_
  refine Wp.p (pc' := 9) d_findLeafPos_8 rfl rfl ?_
  refine Wp.iconst (0 : Int32) d_findLeafPos_9 (by decide) ?_
  refine Wp.p (pc' := 12) d_findLeafPos_10 rfl rfl ?_
  refine Wp.iconst (0 : Int32) d_findLeafPos_12 (by decide) ?_
  refine Wp.p (pc' := 15) d_findLeafPos_13 rfl rfl ?_
  exact h1
set_option maxRecDepth 65536 in
set_option maxHeartbeats 4000000 in
theorem L_findLeafPos_15 {x1 x2 x3 x4 x5 : Int32} {s6 : Slot} {mi : Nat → Nat → Int32} {ml : Nat → Nat → Int64} {Q : Option Value → EMem → Prop} (o6 : One s6)
    (h1 : ¬ x5 < (8 : Int32) → Q (some (.int x4)) (LL1, mi, ml, RR1))
    (h2 : x5 < (8 : Int32) → x3 < x2 → Q (some (.int x4)) (LL1, mi, ml, RR1))
    (b1 : x5 < (8 : Int32) → ¬ x3 < x2 → inb ((XT.ushr (x2 + x3) (1 : Int32)) &&& (31 : Int32)) 32 = true)
    (b2 : x5 < (8 : Int32) → ¬ x3 < x2 → inb ((mi 5 (Int32.toNatClampNeg ((XT.ushr (x2 + x3) (1 : Int32)) &&& (31 : Int32)))) * (4 : Int32)) 128 = true)
    (h3 : x5 < (8 : Int32) → ¬ x3 < x2 → ∀ v3 : Int32, v3 = (if x1 < (mi 1 (Int32.toNatClampNeg ((mi 5 (Int32.toNatClampNeg ((XT.ushr (x2 + x3) (1 : Int32)) &&& (31 : Int32)))) * (4 : Int32)))) then x2 else ((XT.ushr (x2 + x3) (1 : Int32)) + (1 : Int32))) → ∀ v4 : Int32, v4 = (if x1 < (mi 1 (Int32.toNatClampNeg ((mi 5 (Int32.toNatClampNeg ((XT.ushr (x2 + x3) (1 : Int32)) &&& (31 : Int32)))) * (4 : Int32)))) then ((XT.ushr (x2 + x3) (1 : Int32)) - (1 : Int32)) else x3) → ∀ v5 : Int32, v5 = (if x1 < (mi 1 (Int32.toNatClampNeg ((mi 5 (Int32.toNatClampNeg ((XT.ushr (x2 + x3) (1 : Int32)) &&& (31 : Int32)))) * (4 : Int32)))) then x4 else (XT.ushr (x2 + x3) (1 : Int32))) → W_findLeafPos 15 [.val (.ref 0), .val (.int x1), .val (.int v3), .val (.int v4), .val (.int v5), .val (.int (x5 + (1 : Int32))), .val (.int (XT.ushr (x2 + x3) (1 : Int32)))] [] (LL1, mi, ml, RR1) Q) :
    W_findLeafPos 15 [.val (.ref 0), .val (.int x1), .val (.int x2), .val (.int x3), .val (.int x4), .val (.int x5), s6] [] (LL1, mi, ml, RR1) Q := by
  refine Wp.p (pc' := 17) d_findLeafPos_15 rfl rfl ?_
  refine Wp.bipush (8 : Int32) d_findLeafPos_17 (by decide) ?_
  refine Wp.icmp_ge d_findLeafPos_19 rfl (fun c1 => ?_) (fun c1 => ?_)
  ·
    refine Wp.p (pc' := 69) d_findLeafPos_67 rfl rfl ?_
    refine Wp.retI d_findLeafPos_69 ?_
    exact (h1 c1)
  ·
    refine Wp.p (pc' := 23) d_findLeafPos_22 rfl rfl ?_
    refine Wp.p (pc' := 24) d_findLeafPos_23 rfl rfl ?_
    refine Wp.icmp_gt d_findLeafPos_24 rfl (fun c2 => ?_) (fun c2 => ?_)
    ·
      refine Wp.p (pc' := 69) d_findLeafPos_67 rfl rfl ?_
      refine Wp.retI d_findLeafPos_69 ?_
      exact (h2 c1 c2)
    ·
      refine Wp.p (pc' := 28) d_findLeafPos_27 rfl rfl ?_
      refine Wp.p (pc' := 29) d_findLeafPos_28 rfl rfl ?_
      refine Wp.p (pc' := 30) d_findLeafPos_29 rfl rfl ?_
      refine Wp.iconst (1 : Int32) d_findLeafPos_30 (by decide) ?_
      refine Wp.p (pc' := 32) d_findLeafPos_31 rfl rfl ?_
      refine Wp.istoreO (i := 6) d_findLeafPos_32 (Or.inl ⟨rfl, rfl⟩) rfl o6 rfl ?_
      show Wp _ _ _ _ _ _ _ 34 _ _ _ _
      refine Wp.p (pc' := 35) d_findLeafPos_34 rfl rfl ?_
      refine Wp.p (pc' := 37) d_findLeafPos_35 rfl rfl ?_
      refine Wp.callP (a := 0) (as := [.int (XT.ushr (x2 + x3) (1 : Int32))]) (rest := []) (w := 0) (F' := 0) (Lb' := 0) d_findLeafPos_37 ca_c100_1 rfl rfl rfl rfl (by decide) (by decide) (Nat.le_of_ble_eq_true rfl) ?_
      refine L_keyAt_0 ?_ ?_ ?_
      · first | decide | exact (b1 c1 c2) | exact (b2 c1 c2)
      · first | decide | exact (b1 c1 c2) | exact (b2 c1 c2)
      show W_findLeafPos 40 [.val (.ref 0), .val (.int x1), .val (.int x2), .val (.int x3), .val (.int x4), .val (.int x5), .val (.int (XT.ushr (x2 + x3) (1 : Int32)))] [.int (mi 1 (Int32.toNatClampNeg ((mi 5 (Int32.toNatClampNeg ((XT.ushr (x2 + x3) (1 : Int32)) &&& (31 : Int32)))) * (4 : Int32))))] (LL1, mi, ml, RR1) Q
      refine Wp.p (pc' := 41) d_findLeafPos_40 rfl rfl ?_
      obtain ⟨v3, e3⟩ : ∃ z : Int32, z = (if x1 < (mi 1 (Int32.toNatClampNeg ((mi 5 (Int32.toNatClampNeg ((XT.ushr (x2 + x3) (1 : Int32)) &&& (31 : Int32)))) * (4 : Int32)))) then x2 else ((XT.ushr (x2 + x3) (1 : Int32)) + (1 : Int32))) := ⟨_, rfl⟩
      obtain ⟨v4, e4⟩ : ∃ z : Int32, z = (if x1 < (mi 1 (Int32.toNatClampNeg ((mi 5 (Int32.toNatClampNeg ((XT.ushr (x2 + x3) (1 : Int32)) &&& (31 : Int32)))) * (4 : Int32)))) then ((XT.ushr (x2 + x3) (1 : Int32)) - (1 : Int32)) else x3) := ⟨_, rfl⟩
      obtain ⟨v5, e5⟩ : ∃ z : Int32, z = (if x1 < (mi 1 (Int32.toNatClampNeg ((mi 5 (Int32.toNatClampNeg ((XT.ushr (x2 + x3) (1 : Int32)) &&& (31 : Int32)))) * (4 : Int32)))) then x4 else (XT.ushr (x2 + x3) (1 : Int32))) := ⟨_, rfl⟩
      suffices K : W_findLeafPos 61 [.val (.ref 0), .val (.int x1), .val (.int v3), .val (.int v4), .val (.int v5), .val (.int x5), .val (.int (XT.ushr (x2 + x3) (1 : Int32)))] [] (LL1, mi, ml, RR1) Q by
        refine Wp.icmp_gt d_findLeafPos_41 rfl (fun q0 => ?_) (fun q0 => ?_)
        ·
          refine Wp.p (pc' := 58) d_findLeafPos_56 rfl rfl ?_
          refine Wp.iconst (1 : Int32) d_findLeafPos_58 (by decide) ?_
          refine Wp.p (pc' := 60) d_findLeafPos_59 rfl rfl ?_
          refine Wp.p (pc' := 61) d_findLeafPos_60 rfl rfl ?_
          rw [if_pos q0] at e3; subst e3
          rw [if_pos q0] at e4; subst e4
          rw [if_pos q0] at e5; subst e5
          exact K
        ·
          refine Wp.p (pc' := 46) d_findLeafPos_44 rfl rfl ?_
          refine Wp.p (pc' := 48) d_findLeafPos_46 rfl rfl ?_
          refine Wp.p (pc' := 50) d_findLeafPos_48 rfl rfl ?_
          refine Wp.iconst (1 : Int32) d_findLeafPos_50 (by decide) ?_
          refine Wp.p (pc' := 52) d_findLeafPos_51 rfl rfl ?_
          refine Wp.p (pc' := 53) d_findLeafPos_52 rfl rfl ?_
          refine Wp.p (pc' := 61) d_findLeafPos_53 rfl rfl ?_
          rw [if_neg q0] at e3; subst e3
          rw [if_neg q0] at e4; subst e4
          rw [if_neg q0] at e5; subst e5
          exact K
      refine Wp.iinc (1 : Int32) d_findLeafPos_61 (by decide) rfl rfl ?_
      refine Wp.p (pc' := 15) d_findLeafPos_64 rfl rfl ?_
      exact (h3 c1 c2 v3 e3 v4 e4 v5 e5)
set_option maxRecDepth 65536 in
set_option maxHeartbeats 4000000 in
theorem L_locate_0 {x1 : Int32} {mi : Nat → Nat → Int32} {ml : Nat → Nat → Int64} {Q : Option Value → EMem → Prop}
    (h1 : (0 : Int32) < (mi 0 35) → W_findLeafPos 0 [.val (.ref 0), .val (.int x1), .unset, .unset, .unset, .unset, .unset] [] (LL1, mi, ml, RR1) (fun v M' => W_locate 14 [.val (.ref 0), .val (.int x1), .unset, .unset, .unset, .unset, .unset] (v.toList ++ []) M' Q))
    (h2 : ¬ (0 : Int32) < (mi 0 35) → Q (some (.int (-1 : Int32))) (LL1, mi, ml, RR1)) :
    W_locate 0 [.val (.ref 0), .val (.int x1), .unset, .unset, .unset, .unset, .unset] [] (LL1, mi, ml, RR1) Q := by
  refine Wp.p (pc' := 1) d_locate_0 rfl rfl ?_
  refine Wp.getI (mi 0 35) d_locate_1 fa_c46 rfl rfl ?_
  refine Wp.if_gt d_locate_4 rfl (fun c1 => ?_) (fun c1 => ?_)
  ·
    refine Wp.p (pc' := 10) d_locate_9 rfl rfl ?_
    refine Wp.p (pc' := 11) d_locate_10 rfl rfl ?_
    refine Wp.callP (a := 0) (as := [.int x1]) (rest := []) (w := 0) (F' := 1) (Lb' := 14) d_locate_11 ca_c67_1 rfl rfl rfl rfl (by decide) (by decide) (Nat.le_of_ble_eq_true rfl) ?_
    exact (h1 c1)
  ·
    refine Wp.iconst (-1 : Int32) d_locate_7 (by decide) ?_
    refine Wp.retI d_locate_8 ?_
    exact (h2 c1)
set_option maxRecDepth 65536 in
set_option maxHeartbeats 4000000 in
theorem L_locate_14 {x1 y0 : Int32} {mi : Nat → Nat → Int32} {ml : Nat → Nat → Int64} {Q : Option Value → EMem → Prop}
    (b1 : inb y0 32 = true)
    (b2 : inb (mi 5 (Int32.toNatClampNeg y0)) 32 = true)
    (h1 : W_locate 38 [.val (.ref 0), .val (.int x1), .val (.int y0), .val (.int (mi 5 (Int32.toNatClampNeg y0))), .val (.int ((mi 5 (Int32.toNatClampNeg y0)) * (4 : Int32))), .val (.int (mi 4 (Int32.toNatClampNeg (mi 5 (Int32.toNatClampNeg y0))))), .val (.int (0 : Int32))] [] (LL1, mi, ml, RR1) Q) :
    W_locate 14 [.val (.ref 0), .val (.int x1), .unset, .unset, .unset, .unset, .unset] [.int y0] (LL1, mi, ml, RR1) Q := by
  refine Wp.p (pc' := 15) d_locate_14 rfl rfl ?_
  refine Wp.p (pc' := 16) d_locate_15 rfl rfl ?_
  refine Wp.getR (b := 5) d_locate_16 fa_c22 rfl rfl ?_
  refine Wp.p (pc' := 20) d_locate_19 rfl rfl ?_
  refine Wp.iaload (mi 5 (Int32.toNatClampNeg y0)) d_locate_20 rfl (k := (Int32.toNatClampNeg y0)) rfl b1 rfl ?_
  refine Wp.p (pc' := 22) d_locate_21 rfl rfl ?_
  refine Wp.p (pc' := 23) d_locate_22 rfl rfl ?_
  refine Wp.iconst (4 : Int32) d_locate_23 (by decide) ?_
  refine Wp.p (pc' := 25) d_locate_24 rfl rfl ?_
  refine Wp.p (pc' := 27) d_locate_25 rfl rfl ?_
  refine Wp.p (pc' := 28) d_locate_27 rfl rfl ?_
  refine Wp.getR (b := 4) d_locate_28 fa_c19 rfl rfl ?_
  refine Wp.p (pc' := 32) d_locate_31 rfl rfl ?_
  refine Wp.iaload (mi 4 (Int32.toNatClampNeg (mi 5 (Int32.toNatClampNeg y0)))) d_locate_32 rfl (k := (Int32.toNatClampNeg (mi 5 (Int32.toNatClampNeg y0)))) rfl b2 rfl ?_
  refine Wp.p (pc' := 35) d_locate_33 rfl rfl ?_
  refine Wp.iconst (0 : Int32) d_locate_35 (by decide) ?_
  refine Wp.p (pc' := 38) d_locate_36 rfl rfl ?_
  exact h1
set_option maxRecDepth 65536 in
set_option maxHeartbeats 4000000 in
theorem L_locate_38 {x1 x2 x3 x4 x5 x6 : Int32} {mi : Nat → Nat → Int32} {ml : Nat → Nat → Int64} {Q : Option Value → EMem → Prop}
    (h1 : ¬ x6 < x5 → Q (some (.int (-1 : Int32))) (LL1, mi, ml, RR1))
    (h2 : x6 < x5 → ¬ x6 < (4 : Int32) → Q (some (.int (-1 : Int32))) (LL1, mi, ml, RR1))
    (b1 : x6 < x5 → x6 < (4 : Int32) → inb (x4 + x6) 128 = true)
    (h3 : x6 < x5 → x6 < (4 : Int32) → ¬ (mi 1 (Int32.toNatClampNeg (x4 + x6))) = x1 → W_locate 38 [.val (.ref 0), .val (.int x1), .val (.int x2), .val (.int x3), .val (.int x4), .val (.int x5), .val (.int (x6 + (1 : Int32)))] [] (LL1, mi, ml, RR1) Q)
    (h4 : x6 < x5 → x6 < (4 : Int32) → (mi 1 (Int32.toNatClampNeg (x4 + x6))) = x1 → Q (some (.int ((x2 * (4 : Int32)) + x6))) (LL1, mi, ml, RR1)) :
    W_locate 38 [.val (.ref 0), .val (.int x1), .val (.int x2), .val (.int x3), .val (.int x4), .val (.int x5), .val (.int x6)] [] (LL1, mi, ml, RR1) Q := by
  refine Wp.p (pc' := 40) d_locate_38 rfl rfl ?_
  refine Wp.p (pc' := 42) d_locate_40 rfl rfl ?_
  refine Wp.icmp_ge d_locate_42 rfl (fun c1 => ?_) (fun c1 => ?_)
  ·
    refine Wp.iconst (-1 : Int32) d_locate_78 (by decide) ?_
    refine Wp.retI d_locate_79 ?_
    exact (h1 c1)
  ·
    refine Wp.p (pc' := 47) d_locate_45 rfl rfl ?_
    refine Wp.iconst (4 : Int32) d_locate_47 (by decide) ?_
    refine Wp.icmp_ge d_locate_48 rfl (fun c2 => ?_) (fun c2 => ?_)
    ·
      refine Wp.iconst (-1 : Int32) d_locate_78 (by decide) ?_
      refine Wp.retI d_locate_79 ?_
      exact (h2 c1 c2)
    ·
      refine Wp.p (pc' := 52) d_locate_51 rfl rfl ?_
      refine Wp.getR (b := 1) d_locate_52 fa_c7 rfl rfl ?_
      refine Wp.p (pc' := 57) d_locate_55 rfl rfl ?_
      refine Wp.p (pc' := 59) d_locate_57 rfl rfl ?_
      refine Wp.p (pc' := 60) d_locate_59 rfl rfl ?_
      refine Wp.iaload (mi 1 (Int32.toNatClampNeg (x4 + x6))) d_locate_60 rfl (k := (Int32.toNatClampNeg (x4 + x6))) rfl (b1 c1 c2) rfl ?_
      refine Wp.p (pc' := 62) d_locate_61 rfl rfl ?_
      refine Wp.icmp_ne d_locate_62 rfl (fun c3 => ?_) (fun c3 => ?_)
      ·
        refine Wp.iinc (1 : Int32) d_locate_72 (by decide) rfl rfl ?_
        refine Wp.p (pc' := 38) d_locate_75 rfl rfl ?_
        exact (h3 c1 c2 c3)
      ·
        refine Wp.p (pc' := 66) d_locate_65 rfl rfl ?_
        refine Wp.iconst (4 : Int32) d_locate_66 (by decide) ?_
        refine Wp.p (pc' := 68) d_locate_67 rfl rfl ?_
        refine Wp.p (pc' := 70) d_locate_68 rfl rfl ?_
        refine Wp.p (pc' := 71) d_locate_70 rfl rfl ?_
        refine Wp.retI d_locate_71 ?_
        exact (h4 c1 c2 c3)
set_option maxRecDepth 65536 in
set_option maxHeartbeats 4000000 in
theorem L_entryIndex_0 {x1 : Int32} {mi : Nat → Nat → Int32} {ml : Nat → Nat → Int64} {Q : Option Value → EMem → Prop}
    (b1 : inb ((XT.ushr x1 (2 : Int32)) &&& (31 : Int32)) 32 = true)
    (h1 : Q (some (.int (((mi 5 (Int32.toNatClampNeg ((XT.ushr x1 (2 : Int32)) &&& (31 : Int32)))) * (4 : Int32)) + (x1 &&& (3 : Int32))))) (LL1, mi, ml, RR1)) :
    W_entryIndex 0 [.val (.ref 0), .val (.int x1), .unset] [] (LL1, mi, ml, RR1) Q := by
  refine Wp.p (pc' := 1) d_entryIndex_0 rfl rfl ?_
  refine Wp.getR (b := 5) d_entryIndex_1 fa_c22 rfl rfl ?_
  refine Wp.p (pc' := 5) d_entryIndex_4 rfl rfl ?_
  refine Wp.iconst (2 : Int32) d_entryIndex_5 (by decide) ?_
  refine Wp.p (pc' := 7) d_entryIndex_6 rfl rfl ?_
  refine Wp.bipush (31 : Int32) d_entryIndex_7 (by decide) ?_
  refine Wp.p (pc' := 10) d_entryIndex_9 rfl rfl ?_
  refine Wp.iaload (mi 5 (Int32.toNatClampNeg ((XT.ushr x1 (2 : Int32)) &&& (31 : Int32)))) d_entryIndex_10 rfl (k := (Int32.toNatClampNeg ((XT.ushr x1 (2 : Int32)) &&& (31 : Int32)))) rfl b1 rfl ?_
  refine Wp.p (pc' := 12) d_entryIndex_11 rfl rfl ?_
  refine Wp.p (pc' := 13) d_entryIndex_12 rfl rfl ?_
  refine Wp.iconst (4 : Int32) d_entryIndex_13 (by decide) ?_
  refine Wp.p (pc' := 15) d_entryIndex_14 rfl rfl ?_
  refine Wp.p (pc' := 16) d_entryIndex_15 rfl rfl ?_
  refine Wp.iconst (3 : Int32) d_entryIndex_16 (by decide) ?_
  refine Wp.p (pc' := 18) d_entryIndex_17 rfl rfl ?_
  refine Wp.p (pc' := 19) d_entryIndex_18 rfl rfl ?_
  refine Wp.retI d_entryIndex_19 ?_
  exact h1
set_option maxRecDepth 65536 in
set_option maxHeartbeats 4000000 in
theorem L_allocLeaf_0 {mi : Nat → Nat → Int32} {ml : Nat → Nat → Int64} {Q : Option Value → EMem → Prop}
    (b1 : (0 : Int32) < (mi 0 37) → inb ((mi 0 37) - (1 : Int32)) 32 = true)
    (b2 : (0 : Int32) < (mi 0 37) → inb ((mi 6 (Int32.toNatClampNeg ((mi 0 37) - (1 : Int32)))) &&& (31 : Int32)) 32 = true)
    (h1 : (0 : Int32) < (mi 0 37) → Q (some (.int ((mi 6 (Int32.toNatClampNeg ((mi 0 37) - (1 : Int32)))) &&& (31 : Int32)))) (LL1, (up (up mi 0 37 ((mi 0 37) - (1 : Int32))) 4 (Int32.toNatClampNeg ((mi 6 (Int32.toNatClampNeg ((mi 0 37) - (1 : Int32)))) &&& (31 : Int32))) (0 : Int32)), ml, RR1))
    (h2 : ¬ (0 : Int32) < (mi 0 37) → Q (some (.int (-1 : Int32))) (LL1, mi, ml, RR1)) :
    W_allocLeaf 0 [.val (.ref 0), .unset] [] (LL1, mi, ml, RR1) Q := by
  refine Wp.p (pc' := 1) d_allocLeaf_0 rfl rfl ?_
  refine Wp.getI (mi 0 37) d_allocLeaf_1 fa_c49 rfl rfl ?_
  refine Wp.if_gt d_allocLeaf_4 rfl (fun c1 => ?_) (fun c1 => ?_)
  ·
    refine Wp.p (pc' := 10) d_allocLeaf_9 rfl rfl ?_
    refine Wp.p (pc' := 11) d_allocLeaf_10 rfl rfl ?_
    refine Wp.getI (mi 0 37) d_allocLeaf_11 fa_c49 rfl rfl ?_
    refine Wp.iconst (1 : Int32) d_allocLeaf_14 (by decide) ?_
    refine Wp.p (pc' := 16) d_allocLeaf_15 rfl rfl ?_
    refine Wp.putI d_allocLeaf_16 fa_c49 rfl (by decide) in_HtreeDir (Or.inl rfl) ?_
    refine Wp.p (pc' := 20) d_allocLeaf_19 rfl rfl ?_
    refine Wp.getR (b := 6) d_allocLeaf_20 fa_c25 rfl rfl ?_
    refine Wp.p (pc' := 24) d_allocLeaf_23 rfl rfl ?_
    refine Wp.getI ((mi 0 37) - (1 : Int32)) d_allocLeaf_24 fa_c49 rfl rfl ?_
    refine Wp.iaload (mi 6 (Int32.toNatClampNeg ((mi 0 37) - (1 : Int32)))) d_allocLeaf_27 rfl (k := (Int32.toNatClampNeg ((mi 0 37) - (1 : Int32)))) rfl (b1 c1) rfl ?_
    refine Wp.bipush (31 : Int32) d_allocLeaf_28 (by decide) ?_
    refine Wp.p (pc' := 31) d_allocLeaf_30 rfl rfl ?_
    refine Wp.p (pc' := 32) d_allocLeaf_31 rfl rfl ?_
    refine Wp.p (pc' := 33) d_allocLeaf_32 rfl rfl ?_
    refine Wp.getR (b := 4) d_allocLeaf_33 fa_c19 rfl rfl ?_
    refine Wp.p (pc' := 37) d_allocLeaf_36 rfl rfl ?_
    refine Wp.iconst (0 : Int32) d_allocLeaf_37 (by decide) ?_
    refine Wp.iastore d_allocLeaf_38 rfl (k := (Int32.toNatClampNeg ((mi 6 (Int32.toNatClampNeg ((mi 0 37) - (1 : Int32)))) &&& (31 : Int32)))) rfl (b2 c1) (by decide) ?_
    refine Wp.p (pc' := 40) d_allocLeaf_39 rfl rfl ?_
    refine Wp.retI d_allocLeaf_40 ?_
    exact (h1 c1)
  ·
    refine Wp.iconst (-1 : Int32) d_allocLeaf_7 (by decide) ?_
    refine Wp.retI d_allocLeaf_8 ?_
    exact (h2 c1)
set_option maxRecDepth 65536 in
set_option maxHeartbeats 4000000 in
theorem L_createFirstLeaf_0 {mi : Nat → Nat → Int32} {ml : Nat → Nat → Int64} {Q : Option Value → EMem → Prop}
    (h1 : W_allocLeaf 0 [.val (.ref 0), .unset] [] (LL1, mi, ml, RR1) (fun v M' => W_createFirstLeaf 4 [.val (.ref 0), .unset] (v.toList ++ []) M' Q)) :
    W_createFirstLeaf 0 [.val (.ref 0), .unset] [] (LL1, mi, ml, RR1) Q := by
  refine Wp.p (pc' := 1) d_createFirstLeaf_0 rfl rfl ?_
  refine Wp.callP (a := 0) (as := []) (rest := []) (w := 0) (F' := 0) (Lb' := 0) d_createFirstLeaf_1 ca_c103_1 rfl rfl rfl rfl (by decide) (by decide) (Nat.le_of_ble_eq_true rfl) ?_
  exact h1
set_option maxRecDepth 65536 in
set_option maxHeartbeats 4000000 in
theorem L_createFirstLeaf_4 {y0 : Int32} {mi : Nat → Nat → Int32} {ml : Nat → Nat → Int64} {Q : Option Value → EMem → Prop}
    (h1 : ¬ y0 < (0 : Int32) → Q (some (.int (1 : Int32))) (LL1, (up (up mi 5 0 y0) 0 35 (1 : Int32)), ml, RR1))
    (h2 : y0 < (0 : Int32) → Q (some (.int (0 : Int32))) (LL1, mi, ml, RR1)) :
    W_createFirstLeaf 4 [.val (.ref 0), .unset] [.int y0] (LL1, mi, ml, RR1) Q := by
  refine Wp.p (pc' := 5) d_createFirstLeaf_4 rfl rfl ?_
  refine Wp.p (pc' := 6) d_createFirstLeaf_5 rfl rfl ?_
  refine Wp.if_ge d_createFirstLeaf_6 rfl (fun c1 => ?_) (fun c1 => ?_)
  ·
    refine Wp.p (pc' := 12) d_createFirstLeaf_11 rfl rfl ?_
    refine Wp.getR (b := 5) d_createFirstLeaf_12 fa_c22 rfl rfl ?_
    refine Wp.iconst (0 : Int32) d_createFirstLeaf_15 (by decide) ?_
    refine Wp.p (pc' := 17) d_createFirstLeaf_16 rfl rfl ?_
    refine Wp.iastore d_createFirstLeaf_17 rfl (k := 0) (by decide) (by decide) (by decide) ?_
    refine Wp.p (pc' := 19) d_createFirstLeaf_18 rfl rfl ?_
    refine Wp.iconst (1 : Int32) d_createFirstLeaf_19 (by decide) ?_
    refine Wp.putI d_createFirstLeaf_20 fa_c46 rfl (by decide) in_HtreeDir (Or.inl rfl) ?_
    refine Wp.iconst (1 : Int32) d_createFirstLeaf_23 (by decide) ?_
    refine Wp.retZ (1 : Int32) d_createFirstLeaf_24 (by decide) ?_
    exact (h1 c1)
  ·
    refine Wp.iconst (0 : Int32) d_createFirstLeaf_9 (by decide) ?_
    refine Wp.retZ (0 : Int32) d_createFirstLeaf_10 (by decide) ?_
    exact (h2 c1)
set_option maxRecDepth 65536 in
set_option maxHeartbeats 4000000 in
theorem L_insertIntoLeaf_0 {x1 x2 x3 x4 : Int32} {mi : Nat → Nat → Int32} {ml : Nat → Nat → Int64} {Q : Option Value → EMem → Prop}
    (b1 : inb x1 32 = true)
    (h1 : ¬ (mi 4 (Int32.toNatClampNeg x1)) < (4 : Int32) → Q none (LL1, mi, ml, RR1))
    (h2 : (mi 4 (Int32.toNatClampNeg x1)) < (4 : Int32) → ¬ (mi 4 (Int32.toNatClampNeg x1)) < (0 : Int32) → W_insertIntoLeaf 29 [.val (.ref 0), .val (.int x1), .val (.int x2), .val (.int x3), .val (.int x4), .val (.int (mi 4 (Int32.toNatClampNeg x1))), .val (.int (x1 * (4 : Int32))), .val (.int (mi 4 (Int32.toNatClampNeg x1)))] [] (LL1, mi, ml, RR1) Q)
    (h3 : (mi 4 (Int32.toNatClampNeg x1)) < (4 : Int32) → (mi 4 (Int32.toNatClampNeg x1)) < (0 : Int32) → Q none (LL1, mi, ml, RR1)) :
    W_insertIntoLeaf 0 [.val (.ref 0), .val (.int x1), .val (.int x2), .val (.int x3), .val (.int x4), .unset, .unset, .unset] [] (LL1, mi, ml, RR1) Q := by
  refine Wp.p (pc' := 1) d_insertIntoLeaf_0 rfl rfl ?_
  refine Wp.getR (b := 4) d_insertIntoLeaf_1 fa_c19 rfl rfl ?_
  refine Wp.p (pc' := 5) d_insertIntoLeaf_4 rfl rfl ?_
  refine Wp.iaload (mi 4 (Int32.toNatClampNeg x1)) d_insertIntoLeaf_5 rfl (k := (Int32.toNatClampNeg x1)) rfl b1 rfl ?_
  refine Wp.p (pc' := 8) d_insertIntoLeaf_6 rfl rfl ?_
  refine Wp.p (pc' := 10) d_insertIntoLeaf_8 rfl rfl ?_
  refine Wp.iconst (4 : Int32) d_insertIntoLeaf_10 (by decide) ?_
  refine Wp.icmp_ge d_insertIntoLeaf_11 rfl (fun c1 => ?_) (fun c1 => ?_)
  ·
    refine Wp.retV d_insertIntoLeaf_19 ?_
    exact (h1 c1)
  ·
    refine Wp.p (pc' := 16) d_insertIntoLeaf_14 rfl rfl ?_
    refine Wp.if_ge d_insertIntoLeaf_16 rfl (fun c2 => ?_) (fun c2 => ?_)
    ·
      refine Wp.p (pc' := 21) d_insertIntoLeaf_20 rfl rfl ?_
      refine Wp.iconst (4 : Int32) d_insertIntoLeaf_21 (by decide) ?_
      refine Wp.p (pc' := 23) d_insertIntoLeaf_22 rfl rfl ?_
      refine Wp.p (pc' := 25) d_insertIntoLeaf_23 rfl rfl ?_
      refine Wp.p (pc' := 27) d_insertIntoLeaf_25 rfl rfl ?_
      refine Wp.p (pc' := 29) d_insertIntoLeaf_27 rfl rfl ?_
      exact (h2 c1 c2)
    ·
      refine Wp.retV d_insertIntoLeaf_19 ?_
      exact (h3 c1 c2)
set_option maxRecDepth 65536 in
set_option maxHeartbeats 4000000 in
theorem L_insertIntoLeaf_29 {x1 x2 x3 x4 x5 x6 x7 : Int32} {mi : Nat → Nat → Int32} {ml : Nat → Nat → Int64} {Q : Option Value → EMem → Prop}
    (h1 : ¬ (0 : Int32) < x7 → W_insertIntoLeaf 75 [.val (.ref 0), .val (.int x1), .val (.int x2), .val (.int x3), .val (.int x4), .val (.int x5), .val (.int x6), .val (.int x7)] [] (LL1, mi, ml, RR1) Q)
    (b1 : (0 : Int32) < x7 → inb ((x6 + x7) - (1 : Int32)) 128 = true)
    (u1 : (0 : Int32) < x7 → ¬ (mi 1 (Int32.toNatClampNeg ((x6 + x7) - (1 : Int32)))) < x2 → False)
    (h2 : (0 : Int32) < x7 → (mi 1 (Int32.toNatClampNeg ((x6 + x7) - (1 : Int32)))) < x2 → W_insertIntoLeaf 75 [.val (.ref 0), .val (.int x1), .val (.int x2), .val (.int x3), .val (.int x4), .val (.int x5), .val (.int x6), .val (.int x7)] [] (LL1, mi, ml, RR1) Q) :
    W_insertIntoLeaf 29 [.val (.ref 0), .val (.int x1), .val (.int x2), .val (.int x3), .val (.int x4), .val (.int x5), .val (.int x6), .val (.int x7)] [] (LL1, mi, ml, RR1) Q := by
  refine Wp.p (pc' := 31) d_insertIntoLeaf_29 rfl rfl ?_
  refine Wp.if_le d_insertIntoLeaf_31 rfl (fun c1 => ?_) (fun c1 => ?_)
  ·
    exact (h1 c1)
  ·
    refine Wp.p (pc' := 35) d_insertIntoLeaf_34 rfl rfl ?_
    refine Wp.getR (b := 1) d_insertIntoLeaf_35 fa_c7 rfl rfl ?_
    refine Wp.p (pc' := 40) d_insertIntoLeaf_38 rfl rfl ?_
    refine Wp.p (pc' := 42) d_insertIntoLeaf_40 rfl rfl ?_
    refine Wp.p (pc' := 43) d_insertIntoLeaf_42 rfl rfl ?_
    refine Wp.iconst (1 : Int32) d_insertIntoLeaf_43 (by decide) ?_
    refine Wp.p (pc' := 45) d_insertIntoLeaf_44 rfl rfl ?_
    refine Wp.iaload (mi 1 (Int32.toNatClampNeg ((x6 + x7) - (1 : Int32)))) d_insertIntoLeaf_45 rfl (k := (Int32.toNatClampNeg ((x6 + x7) - (1 : Int32)))) rfl (b1 c1) rfl ?_
    refine Wp.p (pc' := 47) d_insertIntoLeaf_46 rfl rfl ?_
    refine Wp.icmp_ge d_insertIntoLeaf_47 rfl (fun c2 => ?_) (fun c2 => ?_)
    ·
      refine Wp.p (pc' := 54) d_insertIntoLeaf_53 rfl rfl ?_
      refine Wp.p (pc' := 56) d_insertIntoLeaf_54 rfl rfl ?_
      refine Wp.p (pc' := 58) d_insertIntoLeaf_56 rfl rfl ?_
      refine Wp.p (pc' := 59) d_insertIntoLeaf_58 rfl rfl ?_
      refine Wp.iconst (1 : Int32) d_insertIntoLeaf_59 (by decide) ?_
      refine Wp.p (pc' := 61) d_insertIntoLeaf_60 rfl rfl ?_
      refine Wp.p (pc' := 63) d_insertIntoLeaf_61 rfl rfl ?_
      refine Wp.p (pc' := 65) d_insertIntoLeaf_63 rfl rfl ?_
      refine Wp.p (pc' := 66) d_insertIntoLeaf_65 rfl rfl ?_
      exact (u1 c1 c2).elim
    ·
      refine Wp.p (pc' := 75) d_insertIntoLeaf_50 rfl rfl ?_
      exact (h2 c1 c2)
set_option maxRecDepth 65536 in
set_option maxHeartbeats 4000000 in
theorem L_insertIntoLeaf_75 {x1 x2 x3 x4 x5 x6 x7 : Int32} {mi : Nat → Nat → Int32} {ml : Nat → Nat → Int64} {Q : Option Value → EMem → Prop}
    (b1 : inb (x6 + x7) 128 = true)
    (b2 : inb x1 32 = true)
    (h1 : Q none (LL1, (up (up (up (up mi 1 (Int32.toNatClampNeg (x6 + x7)) x2) 2 (Int32.toNatClampNeg (x6 + x7)) x3) 3 (Int32.toNatClampNeg (x6 + x7)) x4) 4 (Int32.toNatClampNeg x1) (x5 + (1 : Int32))), ml, RR1)) :
    W_insertIntoLeaf 75 [.val (.ref 0), .val (.int x1), .val (.int x2), .val (.int x3), .val (.int x4), .val (.int x5), .val (.int x6), .val (.int x7)] [] (LL1, mi, ml, RR1) Q := by
  refine Wp.p (pc' := 76) d_insertIntoLeaf_75 rfl rfl ?_
  refine Wp.getR (b := 1) d_insertIntoLeaf_76 fa_c7 rfl rfl ?_
  refine Wp.p (pc' := 81) d_insertIntoLeaf_79 rfl rfl ?_
  refine Wp.p (pc' := 83) d_insertIntoLeaf_81 rfl rfl ?_
  refine Wp.p (pc' := 84) d_insertIntoLeaf_83 rfl rfl ?_
  refine Wp.p (pc' := 85) d_insertIntoLeaf_84 rfl rfl ?_
  refine Wp.iastore d_insertIntoLeaf_85 rfl (k := (Int32.toNatClampNeg (x6 + x7))) rfl b1 (by decide) ?_
  refine Wp.p (pc' := 87) d_insertIntoLeaf_86 rfl rfl ?_
  refine Wp.getR (b := 2) d_insertIntoLeaf_87 fa_c13 rfl rfl ?_
  refine Wp.p (pc' := 92) d_insertIntoLeaf_90 rfl rfl ?_
  refine Wp.p (pc' := 94) d_insertIntoLeaf_92 rfl rfl ?_
  refine Wp.p (pc' := 95) d_insertIntoLeaf_94 rfl rfl ?_
  refine Wp.p (pc' := 96) d_insertIntoLeaf_95 rfl rfl ?_
  refine Wp.iastore d_insertIntoLeaf_96 rfl (k := (Int32.toNatClampNeg (x6 + x7))) rfl b1 (by decide) ?_
  refine Wp.p (pc' := 98) d_insertIntoLeaf_97 rfl rfl ?_
  refine Wp.getR (b := 3) d_insertIntoLeaf_98 fa_c16 rfl rfl ?_
  refine Wp.p (pc' := 103) d_insertIntoLeaf_101 rfl rfl ?_
  refine Wp.p (pc' := 105) d_insertIntoLeaf_103 rfl rfl ?_
  refine Wp.p (pc' := 106) d_insertIntoLeaf_105 rfl rfl ?_
  refine Wp.p (pc' := 108) d_insertIntoLeaf_106 rfl rfl ?_
  refine Wp.iastore d_insertIntoLeaf_108 rfl (k := (Int32.toNatClampNeg (x6 + x7))) rfl b1 (by decide) ?_
  refine Wp.p (pc' := 110) d_insertIntoLeaf_109 rfl rfl ?_
  refine Wp.getR (b := 4) d_insertIntoLeaf_110 fa_c19 rfl rfl ?_
  refine Wp.p (pc' := 114) d_insertIntoLeaf_113 rfl rfl ?_
  refine Wp.p (pc' := 116) d_insertIntoLeaf_114 rfl rfl ?_
  refine Wp.iconst (1 : Int32) d_insertIntoLeaf_116 (by decide) ?_
  refine Wp.p (pc' := 118) d_insertIntoLeaf_117 rfl rfl ?_
  refine Wp.iastore d_insertIntoLeaf_118 rfl (k := (Int32.toNatClampNeg x1)) rfl b2 (by decide) ?_
  refine Wp.retV d_insertIntoLeaf_119 ?_
  exact h1
set_option maxRecDepth 65536 in
set_option maxHeartbeats 4000000 in
theorem L_insert_0 {x1 x2 : Int32} {mi : Nat → Nat → Int32} {ml : Nat → Nat → Int64} {Q : Option Value → EMem → Prop}
    (h1 : ∀ v1 : Int32, v1 = (if x1 < (0 : Int32) then (0 : Int32) else (if (65535 : Int32) < x1 then (0 : Int32) else (1 : Int32))) → ¬ (v1 &&& 1) = (0 : Int32) → ¬ x2 < (1 : Int32) → W_hash 0 [.val (.ref 0), .val (.int x1), .unset] [] (LL1, mi, ml, RR1) (fun v M' => W_insert 22 [.val (.ref 0), .val (.int x1), .val (.int x2), .unset, .unset, .unset] (v.toList ++ []) M' Q))
    (h2 : ∀ v1 : Int32, v1 = (if x1 < (0 : Int32) then (0 : Int32) else (if (65535 : Int32) < x1 then (0 : Int32) else (1 : Int32))) → ¬ (v1 &&& 1) = (0 : Int32) → x2 < (1 : Int32) → Q (some (.int (5 : Int32))) (LL1, mi, ml, RR1))
    (h3 : ∀ v1 : Int32, v1 = (if x1 < (0 : Int32) then (0 : Int32) else (if (65535 : Int32) < x1 then (0 : Int32) else (1 : Int32))) → (v1 &&& 1) = (0 : Int32) → Q (some (.int (4 : Int32))) (LL1, mi, ml, RR1)) :
    W_insert 0 [.val (.ref 0), .val (.int x1), .val (.int x2), .unset, .unset, .unset] [] (LL1, mi, ml, RR1) Q := by
  refine Wp.p (pc' := 1) d_insert_0 rfl rfl ?_
  refine Wp.p (pc' := 2) d_insert_1 rfl rfl ?_
  refine Wp.callP (a := 0) (as := [.int x1]) (rest := []) (w := 0) (F' := 0) (Lb' := 0) d_insert_2 ca_c52_1 rfl rfl rfl rfl (by decide) (by decide) (Nat.le_of_ble_eq_true rfl) ?_
  refine L_isName_0 ?_
  intro v1 e1
  show W_insert 5 [.val (.ref 0), .val (.int x1), .val (.int x2), .unset, .unset, .unset] [.int (v1 &&& 1)] (LL1, mi, ml, RR1) Q
  refine Wp.if_ne d_insert_5 rfl (fun c2 => ?_) (fun c2 => ?_)
  ·
    refine Wp.p (pc' := 11) d_insert_10 rfl rfl ?_
    refine Wp.iconst (1 : Int32) d_insert_11 (by decide) ?_
    refine Wp.icmp_ge d_insert_12 rfl (fun c3 => ?_) (fun c3 => ?_)
    ·
      refine Wp.p (pc' := 18) d_insert_17 rfl rfl ?_
      refine Wp.p (pc' := 19) d_insert_18 rfl rfl ?_
      refine Wp.callP (a := 0) (as := [.int x1]) (rest := []) (w := 0) (F' := 0) (Lb' := 0) d_insert_19 ca_c56_1 rfl rfl rfl rfl (by decide) (by decide) (Nat.le_of_ble_eq_true rfl) ?_
      exact (h1 v1 e1 c2 c3)
    ·
      refine Wp.iconst (5 : Int32) d_insert_15 (by decide) ?_
      refine Wp.retI d_insert_16 ?_
      exact (h2 v1 e1 c2 c3)
  ·
    refine Wp.iconst (4 : Int32) d_insert_8 (by decide) ?_
    refine Wp.retI d_insert_9 ?_
    exact (h3 v1 e1 c2)
set_option maxRecDepth 65536 in
set_option maxHeartbeats 4000000 in
theorem L_insert_22 {x1 x2 y0 : Int32} {mi : Nat → Nat → Int32} {ml : Nat → Nat → Int64} {Q : Option Value → EMem → Prop}
    (h1 : W_locate 0 [.val (.ref 0), .val (.int y0), .unset, .unset, .unset, .unset, .unset] [] (LL1, mi, ml, RR1) (fun v M' => W_insert 28 [.val (.ref 0), .val (.int x1), .val (.int x2), .val (.int y0), .unset, .unset] (v.toList ++ []) M' Q)) :
    W_insert 22 [.val (.ref 0), .val (.int x1), .val (.int x2), .unset, .unset, .unset] [.int y0] (LL1, mi, ml, RR1) Q := by
  refine Wp.p (pc' := 23) d_insert_22 rfl rfl ?_
  refine Wp.p (pc' := 24) d_insert_23 rfl rfl ?_
  refine Wp.p (pc' := 25) d_insert_24 rfl rfl ?_
  refine Wp.callP (a := 0) (as := [.int y0]) (rest := []) (w := 0) (F' := 2) (Lb' := 32) d_insert_25 ca_c60_1 rfl rfl rfl rfl (by decide) (by decide) (Nat.le_of_ble_eq_true rfl) ?_
  exact h1
set_option maxRecDepth 65536 in
set_option maxHeartbeats 4000000 in
theorem L_insert_28 {x1 x2 x3 y0 : Int32} {mi : Nat → Nat → Int32} {ml : Nat → Nat → Int64} {Q : Option Value → EMem → Prop}
    (h1 : y0 < (0 : Int32) → (mi 0 33) < (mi 0 31) → ¬ (mi 0 35) = (0 : Int32) → W_insert 62 [.val (.ref 0), .val (.int x1), .val (.int x2), .val (.int x3), .unset, .unset] [] (LL1, mi, ml, RR1) Q)
    (h2 : y0 < (0 : Int32) → (mi 0 33) < (mi 0 31) → (mi 0 35) = (0 : Int32) → W_createFirstLeaf 0 [.val (.ref 0), .unset] [] (LL1, mi, ml, RR1) (fun v M' => W_insert 57 [.val (.ref 0), .val (.int x1), .val (.int x2), .val (.int x3), .unset, .unset] (v.toList ++ []) M' Q))
    (h3 : y0 < (0 : Int32) → ¬ (mi 0 33) < (mi 0 31) → Q (some (.int (2 : Int32))) (LL1, mi, ml, RR1))
    (h4 : ¬ y0 < (0 : Int32) → Q (some (.int (1 : Int32))) (LL1, mi, ml, RR1)) :
    W_insert 28 [.val (.ref 0), .val (.int x1), .val (.int x2), .val (.int x3), .unset, .unset] [.int y0] (LL1, mi, ml, RR1) Q := by
  refine Wp.if_lt d_insert_28 rfl (fun c1 => ?_) (fun c1 => ?_)
  ·
    refine Wp.p (pc' := 34) d_insert_33 rfl rfl ?_
    refine Wp.getI (mi 0 33) d_insert_34 fa_c43 rfl rfl ?_
    refine Wp.p (pc' := 38) d_insert_37 rfl rfl ?_
    refine Wp.getI (mi 0 31) d_insert_38 fa_c40 rfl rfl ?_
    refine Wp.icmp_lt d_insert_41 rfl (fun c2 => ?_) (fun c2 => ?_)
    ·
      refine Wp.p (pc' := 47) d_insert_46 rfl rfl ?_
      refine Wp.getI (mi 0 35) d_insert_47 fa_c46 rfl rfl ?_
      refine Wp.if_ne d_insert_50 rfl (fun c3 => ?_) (fun c3 => ?_)
      ·
        exact (h1 c1 c2 c3)
      ·
        refine Wp.p (pc' := 54) d_insert_53 rfl rfl ?_
        refine Wp.callP (a := 0) (as := []) (rest := []) (w := 0) (F' := 1) (Lb' := 13) d_insert_54 ca_c63_1 rfl rfl rfl rfl (by decide) (by decide) (Nat.le_of_ble_eq_true rfl) ?_
        exact (h2 c1 c2 c3)
    ·
      refine Wp.iconst (2 : Int32) d_insert_44 (by decide) ?_
      refine Wp.retI d_insert_45 ?_
      exact (h3 c1 c2)
  ·
    refine Wp.iconst (1 : Int32) d_insert_31 (by decide) ?_
    refine Wp.retI d_insert_32 ?_
    exact (h4 c1)
set_option maxRecDepth 65536 in
set_option maxHeartbeats 4000000 in
theorem L_insert_57 {x1 x2 x3 y0 : Int32} {mi : Nat → Nat → Int32} {ml : Nat → Nat → Int64} {Q : Option Value → EMem → Prop}
    (h1 : ¬ y0 = (0 : Int32) → W_insert 62 [.val (.ref 0), .val (.int x1), .val (.int x2), .val (.int x3), .unset, .unset] [] (LL1, mi, ml, RR1) Q)
    (h2 : y0 = (0 : Int32) → Q (some (.int (2 : Int32))) (LL1, mi, ml, RR1)) :
    W_insert 57 [.val (.ref 0), .val (.int x1), .val (.int x2), .val (.int x3), .unset, .unset] [.int y0] (LL1, mi, ml, RR1) Q := by
  refine Wp.if_ne d_insert_57 rfl (fun c1 => ?_) (fun c1 => ?_)
  ·
    exact (h1 c1)
  ·
    refine Wp.iconst (2 : Int32) d_insert_60 (by decide) ?_
    refine Wp.retI d_insert_61 ?_
    exact (h2 c1)
set_option maxRecDepth 65536 in
set_option maxHeartbeats 4000000 in
theorem L_insert_62 {x1 x2 x3 : Int32} {mi : Nat → Nat → Int32} {ml : Nat → Nat → Int64} {Q : Option Value → EMem → Prop}
    (h1 : W_findLeafPos 0 [.val (.ref 0), .val (.int x3), .unset, .unset, .unset, .unset, .unset] [] (LL1, mi, ml, RR1) (fun v M' => W_insert 67 [.val (.ref 0), .val (.int x1), .val (.int x2), .val (.int x3), .unset, .unset] (v.toList ++ []) M' Q)) :
    W_insert 62 [.val (.ref 0), .val (.int x1), .val (.int x2), .val (.int x3), .unset, .unset] [] (LL1, mi, ml, RR1) Q := by
  refine Wp.p (pc' := 63) d_insert_62 rfl rfl ?_
  refine Wp.p (pc' := 64) d_insert_63 rfl rfl ?_
  refine Wp.callP (a := 0) (as := [.int x3]) (rest := []) (w := 0) (F' := 1) (Lb' := 14) d_insert_64 ca_c67_1 rfl rfl rfl rfl (by decide) (by decide) (Nat.le_of_ble_eq_true rfl) ?_
  exact h1
set_option maxRecDepth 65536 in
set_option maxHeartbeats 4000000 in
theorem L_insert_67 {x1 x2 x3 y0 : Int32} {mi : Nat → Nat → Int32} {ml : Nat → Nat → Int64} {Q : Option Value → EMem → Prop}
    (b1 : inb y0 32 = true)
    (b2 : inb (mi 5 (Int32.toNatClampNeg y0)) 32 = true)
    (h1 : (mi 4 (Int32.toNatClampNeg (mi 5 (Int32.toNatClampNeg y0)))) < (4 : Int32) → W_insert 116 [.val (.ref 0), .val (.int x1), .val (.int x2), .val (.int x3), .val (.int y0), .val (.int (mi 5 (Int32.toNatClampNeg y0)))] [] (LL1, mi, ml, RR1) Q)
    (h2 : ¬ (mi 4 (Int32.toNatClampNeg (mi 5 (Int32.toNatClampNeg y0)))) < (4 : Int32) → ¬ (0 : Int32) < (mi 0 37) → Q (some (.int (2 : Int32))) (LL1, mi, ml, RR1))
    (u1 : ¬ (mi 4 (Int32.toNatClampNeg (mi 5 (Int32.toNatClampNeg y0)))) < (4 : Int32) → (0 : Int32) < (mi 0 37) → (mi 0 35) < (32 : Int32) → False)
    (h3 : ¬ (mi 4 (Int32.toNatClampNeg (mi 5 (Int32.toNatClampNeg y0)))) < (4 : Int32) → (0 : Int32) < (mi 0 37) → ¬ (mi 0 35) < (32 : Int32) → Q (some (.int (2 : Int32))) (LL1, mi, ml, RR1)) :
    W_insert 67 [.val (.ref 0), .val (.int x1), .val (.int x2), .val (.int x3), .unset, .unset] [.int y0] (LL1, mi, ml, RR1) Q := by
  refine Wp.p (pc' := 69) d_insert_67 rfl rfl ?_
  refine Wp.p (pc' := 70) d_insert_69 rfl rfl ?_
  refine Wp.getR (b := 5) d_insert_70 fa_c22 rfl rfl ?_
  refine Wp.p (pc' := 75) d_insert_73 rfl rfl ?_
  refine Wp.iaload (mi 5 (Int32.toNatClampNeg y0)) d_insert_75 rfl (k := (Int32.toNatClampNeg y0)) rfl b1 rfl ?_
  refine Wp.p (pc' := 78) d_insert_76 rfl rfl ?_
  refine Wp.p (pc' := 79) d_insert_78 rfl rfl ?_
  refine Wp.getR (b := 4) d_insert_79 fa_c19 rfl rfl ?_
  refine Wp.p (pc' := 84) d_insert_82 rfl rfl ?_
  refine Wp.iaload (mi 4 (Int32.toNatClampNeg (mi 5 (Int32.toNatClampNeg y0)))) d_insert_84 rfl (k := (Int32.toNatClampNeg (mi 5 (Int32.toNatClampNeg y0)))) rfl b2 rfl ?_
  refine Wp.iconst (4 : Int32) d_insert_85 (by decide) ?_
  refine Wp.icmp_lt d_insert_86 rfl (fun c1 => ?_) (fun c1 => ?_)
  ·
    exact (h1 c1)
  ·
    refine Wp.p (pc' := 90) d_insert_89 rfl rfl ?_
    refine Wp.getI (mi 0 37) d_insert_90 fa_c49 rfl rfl ?_
    refine Wp.if_le d_insert_93 rfl (fun c2 => ?_) (fun c2 => ?_)
    ·
      refine Wp.iconst (2 : Int32) d_insert_105 (by decide) ?_
      refine Wp.retI d_insert_106 ?_
      exact (h2 c1 c2)
    ·
      refine Wp.p (pc' := 97) d_insert_96 rfl rfl ?_
      refine Wp.getI (mi 0 35) d_insert_97 fa_c46 rfl rfl ?_
      refine Wp.bipush (32 : Int32) d_insert_100 (by decide) ?_
      refine Wp.icmp_lt d_insert_102 rfl (fun c3 => ?_) (fun c3 => ?_)
      ·
        refine Wp.p (pc' := 108) d_insert_107 rfl rfl ?_
        refine Wp.p (pc' := 110) d_insert_108 rfl rfl ?_
        refine Wp.p (pc' := 111) d_insert_110 rfl rfl ?_
        exact (u1 c1 c2 c3).elim
      ·
        refine Wp.iconst (2 : Int32) d_insert_105 (by decide) ?_
        refine Wp.retI d_insert_106 ?_
        exact (h3 c1 c2 c3)
set_option maxRecDepth 65536 in
set_option maxHeartbeats 4000000 in
theorem L_insert_116 {x1 x2 x3 x4 x5 : Int32} {mi : Nat → Nat → Int32} {ml : Nat → Nat → Int64} {Q : Option Value → EMem → Prop}
    (b1 : inb x4 32 = true)
    (h1 : W_insertIntoLeaf 0 [.val (.ref 0), .val (.int (mi 5 (Int32.toNatClampNeg x4))), .val (.int x3), .val (.int x1), .val (.int x2), .unset, .unset, .unset] [] (LL1, mi, ml, RR1) (fun v M' => W_insert 130 [.val (.ref 0), .val (.int x1), .val (.int x2), .val (.int x3), .val (.int x4), .val (.int x5)] (v.toList ++ []) M' Q)) :
    W_insert 116 [.val (.ref 0), .val (.int x1), .val (.int x2), .val (.int x3), .val (.int x4), .val (.int x5)] [] (LL1, mi, ml, RR1) Q := by
  refine Wp.p (pc' := 117) d_insert_116 rfl rfl ?_
  refine Wp.p (pc' := 118) d_insert_117 rfl rfl ?_
  refine Wp.getR (b := 5) d_insert_118 fa_c22 rfl rfl ?_
  refine Wp.p (pc' := 123) d_insert_121 rfl rfl ?_
  refine Wp.iaload (mi 5 (Int32.toNatClampNeg x4)) d_insert_123 rfl (k := (Int32.toNatClampNeg x4)) rfl b1 rfl ?_
  refine Wp.p (pc' := 125) d_insert_124 rfl rfl ?_
  refine Wp.p (pc' := 126) d_insert_125 rfl rfl ?_
  refine Wp.p (pc' := 127) d_insert_126 rfl rfl ?_
  refine Wp.callP (a := 0) (as := [.int (mi 5 (Int32.toNatClampNeg x4)), .int x3, .int x1, .int x2]) (rest := []) (w := 0) (F' := 0) (Lb' := 0) d_insert_127 ca_c74_1 rfl rfl rfl rfl (by decide) (by decide) (Nat.le_of_ble_eq_true rfl) ?_
  exact h1
set_option maxRecDepth 65536 in
set_option maxHeartbeats 4000000 in
theorem L_insert_130 {x1 x2 x3 x4 x5 : Int32} {mi : Nat → Nat → Int32} {ml : Nat → Nat → Int64} {Q : Option Value → EMem → Prop}
    (h1 : Q (some (.int (0 : Int32))) (LL1, (up mi 0 33 ((mi 0 33) + (1 : Int32))), ml, RR1)) :
    W_insert 130 [.val (.ref 0), .val (.int x1), .val (.int x2), .val (.int x3), .val (.int x4), .val (.int x5)] [] (LL1, mi, ml, RR1) Q := by
  refine Wp.p (pc' := 131) d_insert_130 rfl rfl ?_
  refine Wp.p (pc' := 132) d_insert_131 rfl rfl ?_
  refine Wp.getI (mi 0 33) d_insert_132 fa_c43 rfl rfl ?_
  refine Wp.iconst (1 : Int32) d_insert_135 (by decide) ?_
  refine Wp.p (pc' := 137) d_insert_136 rfl rfl ?_
  refine Wp.putI d_insert_137 fa_c43 rfl (by decide) in_HtreeDir (Or.inl rfl) ?_
  refine Wp.iconst (0 : Int32) d_insert_140 (by decide) ?_
  refine Wp.retI d_insert_141 ?_
  exact h1
set_option maxRecDepth 65536 in
set_option maxHeartbeats 4000000 in
theorem L_lookup_0 {x1 : Int32} {mi : Nat → Nat → Int32} {ml : Nat → Nat → Int64} {Q : Option Value → EMem → Prop}
    (h1 : ∀ v1 : Int32, v1 = (if x1 < (0 : Int32) then (0 : Int32) else (if (65535 : Int32) < x1 then (0 : Int32) else (1 : Int32))) → ¬ (v1 &&& 1) = (0 : Int32) → W_hash 0 [.val (.ref 0), .val (.int x1), .unset] [] (LL1, mi, ml, RR1) (fun v M' => W_lookup 15 [.val (.ref 0), .val (.int x1), .unset, .unset] (v.toList ++ []) M' Q))
    (h2 : ∀ v1 : Int32, v1 = (if x1 < (0 : Int32) then (0 : Int32) else (if (65535 : Int32) < x1 then (0 : Int32) else (1 : Int32))) → (v1 &&& 1) = (0 : Int32) → Q (some (.int (0 : Int32))) (LL1, mi, ml, RR1)) :
    W_lookup 0 [.val (.ref 0), .val (.int x1), .unset, .unset] [] (LL1, mi, ml, RR1) Q := by
  refine Wp.p (pc' := 1) d_lookup_0 rfl rfl ?_
  refine Wp.p (pc' := 2) d_lookup_1 rfl rfl ?_
  refine Wp.callP (a := 0) (as := [.int x1]) (rest := []) (w := 0) (F' := 0) (Lb' := 0) d_lookup_2 ca_c52_1 rfl rfl rfl rfl (by decide) (by decide) (Nat.le_of_ble_eq_true rfl) ?_
  refine L_isName_0 ?_
  intro v1 e1
  show W_lookup 5 [.val (.ref 0), .val (.int x1), .unset, .unset] [.int (v1 &&& 1)] (LL1, mi, ml, RR1) Q
  refine Wp.if_ne d_lookup_5 rfl (fun c2 => ?_) (fun c2 => ?_)
  ·
    refine Wp.p (pc' := 11) d_lookup_10 rfl rfl ?_
    refine Wp.p (pc' := 12) d_lookup_11 rfl rfl ?_
    refine Wp.callP (a := 0) (as := [.int x1]) (rest := []) (w := 0) (F' := 0) (Lb' := 0) d_lookup_12 ca_c56_1 rfl rfl rfl rfl (by decide) (by decide) (Nat.le_of_ble_eq_true rfl) ?_
    exact (h1 v1 e1 c2)
  ·
    refine Wp.iconst (0 : Int32) d_lookup_8 (by decide) ?_
    refine Wp.retI d_lookup_9 ?_
    exact (h2 v1 e1 c2)
set_option maxRecDepth 65536 in
set_option maxHeartbeats 4000000 in
theorem L_lookup_15 {x1 y0 : Int32} {mi : Nat → Nat → Int32} {ml : Nat → Nat → Int64} {Q : Option Value → EMem → Prop}
    (h1 : W_locate 0 [.val (.ref 0), .val (.int y0), .unset, .unset, .unset, .unset, .unset] [] (LL1, mi, ml, RR1) (fun v M' => W_lookup 21 [.val (.ref 0), .val (.int x1), .val (.int y0), .unset] (v.toList ++ []) M' Q)) :
    W_lookup 15 [.val (.ref 0), .val (.int x1), .unset, .unset] [.int y0] (LL1, mi, ml, RR1) Q := by
  refine Wp.p (pc' := 16) d_lookup_15 rfl rfl ?_
  refine Wp.p (pc' := 17) d_lookup_16 rfl rfl ?_
  refine Wp.p (pc' := 18) d_lookup_17 rfl rfl ?_
  refine Wp.callP (a := 0) (as := [.int y0]) (rest := []) (w := 0) (F' := 2) (Lb' := 32) d_lookup_18 ca_c60_1 rfl rfl rfl rfl (by decide) (by decide) (Nat.le_of_ble_eq_true rfl) ?_
  exact h1
set_option maxRecDepth 65536 in
set_option maxHeartbeats 4000000 in
theorem L_lookup_21 {x1 x2 y0 : Int32} {mi : Nat → Nat → Int32} {ml : Nat → Nat → Int64} {Q : Option Value → EMem → Prop}
    (b1 : ¬ y0 < (0 : Int32) → inb ((XT.ushr y0 (2 : Int32)) &&& (31 : Int32)) 32 = true)
    (b2 : ¬ y0 < (0 : Int32) → inb (((mi 5 (Int32.toNatClampNeg ((XT.ushr y0 (2 : Int32)) &&& (31 : Int32)))) * (4 : Int32)) + (y0 &&& (3 : Int32))) 128 = true)
    (h1 : ¬ y0 < (0 : Int32) → Q (some (.int (mi 3 (Int32.toNatClampNeg (((mi 5 (Int32.toNatClampNeg ((XT.ushr y0 (2 : Int32)) &&& (31 : Int32)))) * (4 : Int32)) + (y0 &&& (3 : Int32))))))) (LL1, mi, ml, RR1))
    (h2 : y0 < (0 : Int32) → Q (some (.int (0 : Int32))) (LL1, mi, ml, RR1)) :
    W_lookup 21 [.val (.ref 0), .val (.int x1), .val (.int x2), .unset] [.int y0] (LL1, mi, ml, RR1) Q := by
  refine Wp.p (pc' := 22) d_lookup_21 rfl rfl ?_
  refine Wp.p (pc' := 23) d_lookup_22 rfl rfl ?_
  refine Wp.if_ge d_lookup_23 rfl (fun c1 => ?_) (fun c1 => ?_)
  ·
    refine Wp.p (pc' := 29) d_lookup_28 rfl rfl ?_
    refine Wp.getR (b := 3) d_lookup_29 fa_c16 rfl rfl ?_
    refine Wp.p (pc' := 33) d_lookup_32 rfl rfl ?_
    refine Wp.p (pc' := 34) d_lookup_33 rfl rfl ?_
    refine Wp.callP (a := 0) (as := [.int y0]) (rest := [.ref 3]) (w := 1) (F' := 0) (Lb' := 0) d_lookup_34 ca_c86_1 rfl rfl rfl rfl (by decide) (by decide) (Nat.le_of_ble_eq_true rfl) ?_
    refine L_entryIndex_0 ?_ ?_
    · first | decide | exact (b1 c1)
    show W_lookup 37 [.val (.ref 0), .val (.int x1), .val (.int x2), .val (.int y0)] [.int (((mi 5 (Int32.toNatClampNeg ((XT.ushr y0 (2 : Int32)) &&& (31 : Int32)))) * (4 : Int32)) + (y0 &&& (3 : Int32))), .ref 3] (LL1, mi, ml, RR1) Q
    refine Wp.iaload (mi 3 (Int32.toNatClampNeg (((mi 5 (Int32.toNatClampNeg ((XT.ushr y0 (2 : Int32)) &&& (31 : Int32)))) * (4 : Int32)) + (y0 &&& (3 : Int32))))) d_lookup_37 rfl (k := (Int32.toNatClampNeg (((mi 5 (Int32.toNatClampNeg ((XT.ushr y0 (2 : Int32)) &&& (31 : Int32)))) * (4 : Int32)) + (y0 &&& (3 : Int32))))) rfl (b2 c1) rfl ?_
    refine Wp.retI d_lookup_38 ?_
    exact (h1 c1)
  ·
    refine Wp.iconst (0 : Int32) d_lookup_26 (by decide) ?_
    refine Wp.retI d_lookup_27 ?_
    exact (h2 c1)
set_option maxRecDepth 65536 in
set_option maxHeartbeats 4000000 in
theorem L_nameWithHash_0 {x1 : Int32} {mi : Nat → Nat → Int32} {ml : Nat → Nat → Int64} {Q : Option Value → EMem → Prop}
    (h1 : x1 < (0 : Int32) → Q (some (.int (-1 : Int32))) (LL1, mi, ml, RR1))
    (h2 : ¬ x1 < (0 : Int32) → ¬ (65535 : Int32) < x1 → W_locate 0 [.val (.ref 0), .val (.int x1), .unset, .unset, .unset, .unset, .unset] [] (LL1, mi, ml, RR1) (fun v M' => W_nameWithHash 17 [.val (.ref 0), .val (.int x1), .unset] (v.toList ++ []) M' Q))
    (h3 : ¬ x1 < (0 : Int32) → (65535 : Int32) < x1 → Q (some (.int (-1 : Int32))) (LL1, mi, ml, RR1)) :
    W_nameWithHash 0 [.val (.ref 0), .val (.int x1), .unset] [] (LL1, mi, ml, RR1) Q := by
  refine Wp.p (pc' := 1) d_nameWithHash_0 rfl rfl ?_
  refine Wp.if_lt d_nameWithHash_1 rfl (fun c1 => ?_) (fun c1 => ?_)
  ·
    refine Wp.iconst (-1 : Int32) d_nameWithHash_10 (by decide) ?_
    refine Wp.retI d_nameWithHash_11 ?_
    exact (h1 c1)
  ·
    refine Wp.p (pc' := 5) d_nameWithHash_4 rfl rfl ?_
    refine Wp.ldc d_nameWithHash_5 ik_c35 ?_
    refine Wp.icmp_le d_nameWithHash_7 rfl (fun c2 => ?_) (fun c2 => ?_)
    ·
      refine Wp.p (pc' := 13) d_nameWithHash_12 rfl rfl ?_
      refine Wp.p (pc' := 14) d_nameWithHash_13 rfl rfl ?_
      refine Wp.callP (a := 0) (as := [.int x1]) (rest := []) (w := 0) (F' := 2) (Lb' := 32) d_nameWithHash_14 ca_c60_1 rfl rfl rfl rfl (by decide) (by decide) (Nat.le_of_ble_eq_true rfl) ?_
      exact (h2 c1 c2)
    ·
      refine Wp.iconst (-1 : Int32) d_nameWithHash_10 (by decide) ?_
      refine Wp.retI d_nameWithHash_11 ?_
      exact (h3 c1 c2)
set_option maxRecDepth 65536 in
set_option maxHeartbeats 4000000 in
theorem L_nameWithHash_17 {x1 y0 : Int32} {mi : Nat → Nat → Int32} {ml : Nat → Nat → Int64} {Q : Option Value → EMem → Prop}
    (b1 : ¬ y0 < (0 : Int32) → inb ((XT.ushr y0 (2 : Int32)) &&& (31 : Int32)) 32 = true)
    (b2 : ¬ y0 < (0 : Int32) → inb (((mi 5 (Int32.toNatClampNeg ((XT.ushr y0 (2 : Int32)) &&& (31 : Int32)))) * (4 : Int32)) + (y0 &&& (3 : Int32))) 128 = true)
    (h1 : ¬ y0 < (0 : Int32) → Q (some (.int (mi 2 (Int32.toNatClampNeg (((mi 5 (Int32.toNatClampNeg ((XT.ushr y0 (2 : Int32)) &&& (31 : Int32)))) * (4 : Int32)) + (y0 &&& (3 : Int32))))))) (LL1, mi, ml, RR1))
    (h2 : y0 < (0 : Int32) → Q (some (.int (-1 : Int32))) (LL1, mi, ml, RR1)) :
    W_nameWithHash 17 [.val (.ref 0), .val (.int x1), .unset] [.int y0] (LL1, mi, ml, RR1) Q := by
  refine Wp.p (pc' := 18) d_nameWithHash_17 rfl rfl ?_
  refine Wp.p (pc' := 19) d_nameWithHash_18 rfl rfl ?_
  refine Wp.if_ge d_nameWithHash_19 rfl (fun c1 => ?_) (fun c1 => ?_)
  ·
    refine Wp.p (pc' := 25) d_nameWithHash_24 rfl rfl ?_
    refine Wp.getR (b := 2) d_nameWithHash_25 fa_c13 rfl rfl ?_
    refine Wp.p (pc' := 29) d_nameWithHash_28 rfl rfl ?_
    refine Wp.p (pc' := 30) d_nameWithHash_29 rfl rfl ?_
    refine Wp.callP (a := 0) (as := [.int y0]) (rest := [.ref 2]) (w := 1) (F' := 0) (Lb' := 0) d_nameWithHash_30 ca_c86_1 rfl rfl rfl rfl (by decide) (by decide) (Nat.le_of_ble_eq_true rfl) ?_
    refine L_entryIndex_0 ?_ ?_
    · first | decide | exact (b1 c1)
    show W_nameWithHash 33 [.val (.ref 0), .val (.int x1), .val (.int y0)] [.int (((mi 5 (Int32.toNatClampNeg ((XT.ushr y0 (2 : Int32)) &&& (31 : Int32)))) * (4 : Int32)) + (y0 &&& (3 : Int32))), .ref 2] (LL1, mi, ml, RR1) Q
    refine Wp.iaload (mi 2 (Int32.toNatClampNeg (((mi 5 (Int32.toNatClampNeg ((XT.ushr y0 (2 : Int32)) &&& (31 : Int32)))) * (4 : Int32)) + (y0 &&& (3 : Int32))))) d_nameWithHash_33 rfl (k := (Int32.toNatClampNeg (((mi 5 (Int32.toNatClampNeg ((XT.ushr y0 (2 : Int32)) &&& (31 : Int32)))) * (4 : Int32)) + (y0 &&& (3 : Int32))))) rfl (b2 c1) rfl ?_
    refine Wp.retI d_nameWithHash_34 ?_
    exact (h1 c1)
  ·
    refine Wp.iconst (-1 : Int32) d_nameWithHash_22 (by decide) ?_
    refine Wp.retI d_nameWithHash_23 ?_
    exact (h2 c1)
set_option maxRecDepth 65536 in
set_option maxHeartbeats 4000000 in
theorem L_nameAtRank_0 {x1 : Int32} {mi : Nat → Nat → Int32} {ml : Nat → Nat → Int64} {Q : Option Value → EMem → Prop}
    (h1 : x1 < (0 : Int32) → Q (some (.int (-1 : Int32))) (LL1, mi, ml, RR1))
    (h2 : ¬ x1 < (0 : Int32) → x1 < (mi 0 33) → W_nameAtRank 18 [.val (.ref 0), .val (.int x1), .val (.int x1), .val (.int (0 : Int32)), .unset, .unset] [] (LL1, mi, ml, RR1) Q)
    (h3 : ¬ x1 < (0 : Int32) → ¬ x1 < (mi 0 33) → Q (some (.int (-1 : Int32))) (LL1, mi, ml, RR1)) :
    W_nameAtRank 0 [.val (.ref 0), .val (.int x1), .unset, .unset, .unset, .unset] [] (LL1, mi, ml, RR1) Q := by
  refine Wp.p (pc' := 1) d_nameAtRank_0 rfl rfl ?_
  refine Wp.if_lt d_nameAtRank_1 rfl (fun c1 => ?_) (fun c1 => ?_)
  ·
    refine Wp.iconst (-1 : Int32) d_nameAtRank_12 (by decide) ?_
    refine Wp.retI d_nameAtRank_13 ?_
    exact (h1 c1)
  ·
    refine Wp.p (pc' := 5) d_nameAtRank_4 rfl rfl ?_
    refine Wp.p (pc' := 6) d_nameAtRank_5 rfl rfl ?_
    refine Wp.getI (mi 0 33) d_nameAtRank_6 fa_c43 rfl rfl ?_
    refine Wp.icmp_lt d_nameAtRank_9 rfl (fun c2 => ?_) (fun c2 => ?_)
    ·
      refine Wp.p (pc' := 15) d_nameAtRank_14 rfl rfl ?_
      refine Wp.p (pc' := 16) d_nameAtRank_15 rfl rfl ?_
      refine Wp.iconst (0 : Int32) d_nameAtRank_16 (by decide) ?_
      refine Wp.p (pc' := 18) d_nameAtRank_17 rfl rfl ?_
      exact (h2 c1 c2)
    ·
      refine Wp.iconst (-1 : Int32) d_nameAtRank_12 (by decide) ?_
      refine Wp.retI d_nameAtRank_13 ?_
      exact (h3 c1 c2)
set_option maxRecDepth 65536 in
set_option maxHeartbeats 4000000 in
theorem L_nameAtRank_18 {x1 x2 x3 : Int32} {s4 s5 : Slot} {mi : Nat → Nat → Int32} {ml : Nat → Nat → Int64} {Q : Option Value → EMem → Prop} (o4 : One s4) (o5 : One s5)
    (h1 : ¬ x3 < (mi 0 35) → Q (some (.int (-1 : Int32))) (LL1, mi, ml, RR1))
    (h2 : x3 < (mi 0 35) → ¬ x3 < (32 : Int32) → Q (some (.int (-1 : Int32))) (LL1, mi, ml, RR1))
    (b1 : x3 < (mi 0 35) → x3 < (32 : Int32) → inb x3 32 = true)
    (b2 : x3 < (mi 0 35) → x3 < (32 : Int32) → inb (mi 5 (Int32.toNatClampNeg x3)) 32 = true)
    (h3 : x3 < (mi 0 35) → x3 < (32 : Int32) → ¬ x2 < (mi 4 (Int32.toNatClampNeg (mi 5 (Int32.toNatClampNeg x3)))) → W_nameAtRank 18 [.val (.ref 0), .val (.int x1), .val (.int (x2 - (mi 4 (Int32.toNatClampNeg (mi 5 (Int32.toNatClampNeg x3)))))), .val (.int (x3 + (1 : Int32))), .val (.int (mi 5 (Int32.toNatClampNeg x3))), .val (.int (mi 4 (Int32.toNatClampNeg (mi 5 (Int32.toNatClampNeg x3)))))] [] (LL1, mi, ml, RR1) Q)
    (b3 : x3 < (mi 0 35) → x3 < (32 : Int32) → x2 < (mi 4 (Int32.toNatClampNeg (mi 5 (Int32.toNatClampNeg x3)))) → inb (((mi 5 (Int32.toNatClampNeg x3)) * (4 : Int32)) + x2) 128 = true)
    (h4 : x3 < (mi 0 35) → x3 < (32 : Int32) → x2 < (mi 4 (Int32.toNatClampNeg (mi 5 (Int32.toNatClampNeg x3)))) → Q (some (.int (mi 2 (Int32.toNatClampNeg (((mi 5 (Int32.toNatClampNeg x3)) * (4 : Int32)) + x2))))) (LL1, mi, ml, RR1)) :
    W_nameAtRank 18 [.val (.ref 0), .val (.int x1), .val (.int x2), .val (.int x3), s4, s5] [] (LL1, mi, ml, RR1) Q := by
  refine Wp.p (pc' := 19) d_nameAtRank_18 rfl rfl ?_
  refine Wp.p (pc' := 20) d_nameAtRank_19 rfl rfl ?_
  refine Wp.getI (mi 0 35) d_nameAtRank_20 fa_c46 rfl rfl ?_
  refine Wp.icmp_ge d_nameAtRank_23 rfl (fun c1 => ?_) (fun c1 => ?_)
  ·
    refine Wp.iconst (-1 : Int32) d_nameAtRank_78 (by decide) ?_
    refine Wp.retI d_nameAtRank_79 ?_
    exact (h1 c1)
  ·
    refine Wp.p (pc' := 27) d_nameAtRank_26 rfl rfl ?_
    refine Wp.bipush (32 : Int32) d_nameAtRank_27 (by decide) ?_
    refine Wp.icmp_ge d_nameAtRank_29 rfl (fun c2 => ?_) (fun c2 => ?_)
    ·
      refine Wp.iconst (-1 : Int32) d_nameAtRank_78 (by decide) ?_
      refine Wp.retI d_nameAtRank_79 ?_
      exact (h2 c1 c2)
    ·
      refine Wp.p (pc' := 33) d_nameAtRank_32 rfl rfl ?_
      refine Wp.getR (b := 5) d_nameAtRank_33 fa_c22 rfl rfl ?_
      refine Wp.p (pc' := 37) d_nameAtRank_36 rfl rfl ?_
      refine Wp.iaload (mi 5 (Int32.toNatClampNeg x3)) d_nameAtRank_37 rfl (k := (Int32.toNatClampNeg x3)) rfl (b1 c1 c2) rfl ?_
      refine Wp.istoreO (i := 4) d_nameAtRank_38 (Or.inl ⟨rfl, rfl⟩) rfl o4 rfl ?_
      show Wp _ _ _ _ _ _ _ 40 _ _ _ _
      refine Wp.p (pc' := 41) d_nameAtRank_40 rfl rfl ?_
      refine Wp.getR (b := 4) d_nameAtRank_41 fa_c19 rfl rfl ?_
      refine Wp.p (pc' := 46) d_nameAtRank_44 rfl rfl ?_
      refine Wp.iaload (mi 4 (Int32.toNatClampNeg (mi 5 (Int32.toNatClampNeg x3)))) d_nameAtRank_46 rfl (k := (Int32.toNatClampNeg (mi 5 (Int32.toNatClampNeg x3)))) rfl (b2 c1 c2) rfl ?_
      refine Wp.istoreO (i := 5) d_nameAtRank_47 (Or.inl ⟨rfl, rfl⟩) rfl o5 rfl ?_
      show Wp _ _ _ _ _ _ _ 49 _ _ _ _
      refine Wp.p (pc' := 50) d_nameAtRank_49 rfl rfl ?_
      refine Wp.p (pc' := 52) d_nameAtRank_50 rfl rfl ?_
      refine Wp.icmp_ge d_nameAtRank_52 rfl (fun c3 => ?_) (fun c3 => ?_)
      ·
        refine Wp.p (pc' := 68) d_nameAtRank_67 rfl rfl ?_
        refine Wp.p (pc' := 70) d_nameAtRank_68 rfl rfl ?_
        refine Wp.p (pc' := 71) d_nameAtRank_70 rfl rfl ?_
        refine Wp.p (pc' := 72) d_nameAtRank_71 rfl rfl ?_
        refine Wp.iinc (1 : Int32) d_nameAtRank_72 (by decide) rfl rfl ?_
        refine Wp.p (pc' := 18) d_nameAtRank_75 rfl rfl ?_
        exact (h3 c1 c2 c3)
      ·
        refine Wp.p (pc' := 56) d_nameAtRank_55 rfl rfl ?_
        refine Wp.getR (b := 2) d_nameAtRank_56 fa_c13 rfl rfl ?_
        refine Wp.p (pc' := 61) d_nameAtRank_59 rfl rfl ?_
        refine Wp.iconst (4 : Int32) d_nameAtRank_61 (by decide) ?_
        refine Wp.p (pc' := 63) d_nameAtRank_62 rfl rfl ?_
        refine Wp.p (pc' := 64) d_nameAtRank_63 rfl rfl ?_
        refine Wp.p (pc' := 65) d_nameAtRank_64 rfl rfl ?_
        refine Wp.iaload (mi 2 (Int32.toNatClampNeg (((mi 5 (Int32.toNatClampNeg x3)) * (4 : Int32)) + x2))) d_nameAtRank_65 rfl (k := (Int32.toNatClampNeg (((mi 5 (Int32.toNatClampNeg x3)) * (4 : Int32)) + x2))) rfl (b3 c1 c2 c3) rfl ?_
        refine Wp.retI d_nameAtRank_66 ?_
        exact (h4 c1 c2 c3)
set_option maxRecDepth 65536 in
set_option maxHeartbeats 4000000 in
theorem L_law_hash_0 {x0 x1 : Int32} {mi : Nat → Nat → Int32} {ml : Nat → Nat → Int64} {Q : Option Value → EMem → Prop}
    (h1 : Q (some (.int ((((((((x1 ^^^ x0) &&& (65535 : Int32)) * (40507 : Int32)) &&& (65535 : Int32)) ^^^ (XT.ushr ((((x1 ^^^ x0) &&& (65535 : Int32)) * (40507 : Int32)) &&& (65535 : Int32)) (7 : Int32))) * (23505 : Int32)) &&& (65535 : Int32)) ^^^ (XT.ushr (((((((x1 ^^^ x0) &&& (65535 : Int32)) * (40507 : Int32)) &&& (65535 : Int32)) ^^^ (XT.ushr ((((x1 ^^^ x0) &&& (65535 : Int32)) * (40507 : Int32)) &&& (65535 : Int32)) (7 : Int32))) * (23505 : Int32)) &&& (65535 : Int32)) (9 : Int32))))) (LL1, mi, ml, RR1)) :
    W_law_hash 0 [.val (.int x0), .val (.int x1), .unset] [] (LL1, mi, ml, RR1) Q := by
  refine Wp.p (pc' := 1) d_law_hash_0 rfl rfl ?_
  refine Wp.p (pc' := 2) d_law_hash_1 rfl rfl ?_
  refine Wp.p (pc' := 3) d_law_hash_2 rfl rfl ?_
  refine Wp.ldc d_law_hash_3 ik_w12 ?_
  refine Wp.p (pc' := 6) d_law_hash_5 rfl rfl ?_
  refine Wp.p (pc' := 7) d_law_hash_6 rfl rfl ?_
  refine Wp.p (pc' := 8) d_law_hash_7 rfl rfl ?_
  refine Wp.ldc d_law_hash_8 ik_w36 ?_
  refine Wp.p (pc' := 11) d_law_hash_10 rfl rfl ?_
  refine Wp.ldc d_law_hash_11 ik_w12 ?_
  refine Wp.p (pc' := 14) d_law_hash_13 rfl rfl ?_
  refine Wp.p (pc' := 15) d_law_hash_14 rfl rfl ?_
  refine Wp.p (pc' := 16) d_law_hash_15 rfl rfl ?_
  refine Wp.p (pc' := 17) d_law_hash_16 rfl rfl ?_
  refine Wp.bipush (7 : Int32) d_law_hash_17 (by decide) ?_
  refine Wp.p (pc' := 20) d_law_hash_19 rfl rfl ?_
  refine Wp.p (pc' := 21) d_law_hash_20 rfl rfl ?_
  refine Wp.p (pc' := 22) d_law_hash_21 rfl rfl ?_
  refine Wp.p (pc' := 23) d_law_hash_22 rfl rfl ?_
  refine Wp.sipush (23505 : Int32) d_law_hash_23 (by decide) ?_
  refine Wp.p (pc' := 27) d_law_hash_26 rfl rfl ?_
  refine Wp.ldc d_law_hash_27 ik_w12 ?_
  refine Wp.p (pc' := 30) d_law_hash_29 rfl rfl ?_
  refine Wp.p (pc' := 31) d_law_hash_30 rfl rfl ?_
  refine Wp.p (pc' := 32) d_law_hash_31 rfl rfl ?_
  refine Wp.p (pc' := 33) d_law_hash_32 rfl rfl ?_
  refine Wp.bipush (9 : Int32) d_law_hash_33 (by decide) ?_
  refine Wp.p (pc' := 36) d_law_hash_35 rfl rfl ?_
  refine Wp.p (pc' := 37) d_law_hash_36 rfl rfl ?_
  refine Wp.p (pc' := 38) d_law_hash_37 rfl rfl ?_
  refine Wp.p (pc' := 39) d_law_hash_38 rfl rfl ?_
  refine Wp.retI d_law_hash_39 ?_
  exact h1
set_option maxRecDepth 65536 in
set_option maxHeartbeats 4000000 in
theorem L_init_0 {x1 x2 : Int32} {mi : Nat → Nat → Int32} {ml : Nat → Nat → Int64} {Q : Option Value → EMem → Prop}
    (h1 : ∀ v1 : Int32, v1 = (if x1 < (0 : Int32) then (0 : Int32) else x1) → ∀ v2 : Int32, v2 = (if (65535 : Int32) < v1 then (65535 : Int32) else v1) → ∀ v3 : Int32, v3 = (if x2 < (8 : Int32) then (8 : Int32) else x2) → ∀ v4 : Int32, v4 = (if (32 : Int32) < v3 then (32 : Int32) else v3) → W_init 135 [.val (.ref 0), .val (.int x1), .val (.int x2), .val (.int v2), .val (.int v4), .val (.int (0 : Int32))] [] (LL1, (up (up (up (up mi 0 29 v2) 0 31 v4) 0 33 (0 : Int32)) 0 35 (0 : Int32)), ml, RR1) Q) :
    W_init 0 [.val (.ref 0), .val (.int x1), .val (.int x2), .unset, .unset, .unset] [] ([(0, "HtreeDir", 13)], mi, ml, (fun _ _ => Value.null)) Q := by
  refine Wp.p (pc' := 1) d_init_0 rfl rfl ?_
  refine Wp.objInit (w := 0) d_init_1 oi_c1 rfl (by decide) (by decide) ?_
  refine Wp.p (pc' := 5) d_init_4 rfl rfl ?_
  refine Wp.sipush (128 : Int32) d_init_5 (by decide) ?_
  refine Wp.new_int (a := 1) (z := 128) (L' := [(0, "HtreeDir", 13), (1, "", 128)]) d_init_8 ar_int (by decide) (by decide) rfl rfl ?_
  refine Wp.putR d_init_10 fa_c7 rfl (by decide) in_HtreeDir (Or.inl rfl) ?_
  refine Wp.p (pc' := 14) d_init_13 rfl rfl ?_
  refine Wp.sipush (128 : Int32) d_init_14 (by decide) ?_
  refine Wp.new_int (a := 2) (z := 128) (L' := [(0, "HtreeDir", 13), (1, "", 128), (1, "", 128)]) d_init_17 ar_int (by decide) (by decide) rfl rfl ?_
  refine Wp.putR d_init_19 fa_c13 rfl (by decide) in_HtreeDir (Or.inl rfl) ?_
  refine Wp.p (pc' := 23) d_init_22 rfl rfl ?_
  refine Wp.sipush (128 : Int32) d_init_23 (by decide) ?_
  refine Wp.new_int (a := 3) (z := 128) (L' := [(0, "HtreeDir", 13), (1, "", 128), (1, "", 128), (1, "", 128)]) d_init_26 ar_int (by decide) (by decide) rfl rfl ?_
  refine Wp.putR d_init_28 fa_c16 rfl (by decide) in_HtreeDir (Or.inl rfl) ?_
  refine Wp.p (pc' := 32) d_init_31 rfl rfl ?_
  refine Wp.bipush (32 : Int32) d_init_32 (by decide) ?_
  refine Wp.new_int (a := 4) (z := 32) (L' := [(0, "HtreeDir", 13), (1, "", 128), (1, "", 128), (1, "", 128), (1, "", 32)]) d_init_34 ar_int (by decide) (by decide) rfl rfl ?_
  refine Wp.putR d_init_36 fa_c19 rfl (by decide) in_HtreeDir (Or.inl rfl) ?_
  refine Wp.p (pc' := 40) d_init_39 rfl rfl ?_
  refine Wp.bipush (32 : Int32) d_init_40 (by decide) ?_
  refine Wp.new_int (a := 5) (z := 32) (L' := [(0, "HtreeDir", 13), (1, "", 128), (1, "", 128), (1, "", 128), (1, "", 32), (1, "", 32)]) d_init_42 ar_int (by decide) (by decide) rfl rfl ?_
  refine Wp.putR d_init_44 fa_c22 rfl (by decide) in_HtreeDir (Or.inl rfl) ?_
  refine Wp.p (pc' := 48) d_init_47 rfl rfl ?_
  refine Wp.bipush (32 : Int32) d_init_48 (by decide) ?_
  refine Wp.new_int (a := 6) (z := 32) (L' := [(0, "HtreeDir", 13), (1, "", 128), (1, "", 128), (1, "", 128), (1, "", 32), (1, "", 32), (1, "", 32)]) d_init_50 ar_int (by decide) (by decide) rfl rfl ?_
  refine Wp.putR d_init_52 fa_c25 rfl (by decide) in_HtreeDir (Or.inl rfl) ?_
  refine Wp.p (pc' := 56) d_init_55 rfl rfl ?_
  refine Wp.iconst (4 : Int32) d_init_56 (by decide) ?_
  refine Wp.new_boolean (a := 7) (z := 4) (L' := [(0, "HtreeDir", 13), (1, "", 128), (1, "", 128), (1, "", 128), (1, "", 32), (1, "", 32), (1, "", 32), (3, "", 4)]) d_init_57 ar_boolean (by decide) (by decide) rfl rfl ?_
  refine Wp.putR d_init_59 fa_c28 rfl (by decide) in_HtreeDir (Or.inl rfl) ?_
  refine Wp.p (pc' := 63) d_init_62 rfl rfl ?_
  refine Wp.iconst (4 : Int32) d_init_63 (by decide) ?_
  refine Wp.new_int (a := 8) (z := 4) (L' := [(0, "HtreeDir", 13), (1, "", 128), (1, "", 128), (1, "", 128), (1, "", 32), (1, "", 32), (1, "", 32), (3, "", 4), (1, "", 4)]) d_init_64 ar_int (by decide) (by decide) rfl rfl ?_
  refine Wp.putR d_init_66 fa_c32 rfl (by decide) in_HtreeDir (Or.inl rfl) ?_
  refine Wp.p (pc' := 70) d_init_69 rfl rfl ?_
  refine Wp.p (pc' := 71) d_init_70 rfl rfl ?_
  refine Wp.p (pc' := 72) d_init_71 rfl rfl ?_
  obtain ⟨v1, e1⟩ : ∃ z : Int32, z = (if x1 < (0 : Int32) then (0 : Int32) else x1) := ⟨_, rfl⟩
  suffices K : W_init 77 [.val (.ref 0), .val (.int x1), .val (.int x2), .val (.int v1), .unset, .unset] [] (LL1, mi, ml, RR1) Q by
    refine Wp.if_ge d_init_72 rfl (fun q0 => ?_) (fun q0 => ?_)
    ·
      rw [if_neg q0] at e1; subst e1
      exact K
    ·
      refine Wp.iconst (0 : Int32) d_init_75 (by decide) ?_
      refine Wp.p (pc' := 77) d_init_76 rfl rfl ?_
      rw [if_pos q0] at e1; subst e1
      exact K
  refine Wp.p (pc' := 78) d_init_77 rfl rfl ?_
  refine Wp.ldc d_init_78 ik_c35 ?_
  obtain ⟨v2, e2⟩ : ∃ z : Int32, z = (if (65535 : Int32) < v1 then (65535 : Int32) else v1) := ⟨_, rfl⟩
  suffices K : W_init 86 [.val (.ref 0), .val (.int x1), .val (.int x2), .val (.int v2), .unset, .unset] [] (LL1, mi, ml, RR1) Q by
    refine Wp.icmp_le d_init_80 rfl (fun q0 => ?_) (fun q0 => ?_)
    ·
      rw [if_neg q0] at e2; subst e2
      exact K
    ·
      refine Wp.ldc d_init_83 ik_c35 ?_
      refine Wp.p (pc' := 86) d_init_85 rfl rfl ?_
      rw [if_pos q0] at e2; subst e2
      exact K
  refine Wp.p (pc' := 87) d_init_86 rfl rfl ?_
  refine Wp.p (pc' := 89) d_init_87 rfl rfl ?_
  refine Wp.p (pc' := 91) d_init_89 rfl rfl ?_
  refine Wp.bipush (8 : Int32) d_init_91 (by decide) ?_
  obtain ⟨v3, e3⟩ : ∃ z : Int32, z = (if x2 < (8 : Int32) then (8 : Int32) else x2) := ⟨_, rfl⟩
  suffices K : W_init 100 [.val (.ref 0), .val (.int x1), .val (.int x2), .val (.int v2), .val (.int v3), .unset] [] (LL1, mi, ml, RR1) Q by
    refine Wp.icmp_ge d_init_93 rfl (fun q0 => ?_) (fun q0 => ?_)
    ·
      rw [if_neg q0] at e3; subst e3
      exact K
    ·
      refine Wp.bipush (8 : Int32) d_init_96 (by decide) ?_
      refine Wp.p (pc' := 100) d_init_98 rfl rfl ?_
      rw [if_pos q0] at e3; subst e3
      exact K
  refine Wp.p (pc' := 102) d_init_100 rfl rfl ?_
  refine Wp.bipush (32 : Int32) d_init_102 (by decide) ?_
  obtain ⟨v4, e4⟩ : ∃ z : Int32, z = (if (32 : Int32) < v3 then (32 : Int32) else v3) := ⟨_, rfl⟩
  suffices K : W_init 111 [.val (.ref 0), .val (.int x1), .val (.int x2), .val (.int v2), .val (.int v4), .unset] [] (LL1, mi, ml, RR1) Q by
    refine Wp.icmp_le d_init_104 rfl (fun q0 => ?_) (fun q0 => ?_)
    ·
      rw [if_neg q0] at e4; subst e4
      exact K
    ·
      refine Wp.bipush (32 : Int32) d_init_107 (by decide) ?_
      refine Wp.p (pc' := 111) d_init_109 rfl rfl ?_
      rw [if_pos q0] at e4; subst e4
      exact K
  refine Wp.p (pc' := 112) d_init_111 rfl rfl ?_
  refine Wp.p (pc' := 113) d_init_112 rfl rfl ?_
  refine Wp.putI d_init_113 fa_c36 rfl (by decide) in_HtreeDir (Or.inl rfl) ?_
  refine Wp.p (pc' := 117) d_init_116 rfl rfl ?_
  refine Wp.p (pc' := 119) d_init_117 rfl rfl ?_
  refine Wp.putI d_init_119 fa_c40 rfl (by decide) in_HtreeDir (Or.inl rfl) ?_
  refine Wp.p (pc' := 123) d_init_122 rfl rfl ?_
  refine Wp.iconst (0 : Int32) d_init_123 (by decide) ?_
  refine Wp.putI d_init_124 fa_c43 rfl (by decide) in_HtreeDir (Or.inl rfl) ?_
  refine Wp.p (pc' := 128) d_init_127 rfl rfl ?_
  refine Wp.iconst (0 : Int32) d_init_128 (by decide) ?_
  refine Wp.putI d_init_129 fa_c46 rfl (by decide) in_HtreeDir (Or.inl rfl) ?_
  refine Wp.iconst (0 : Int32) d_init_132 (by decide) ?_
  refine Wp.p (pc' := 135) d_init_133 rfl rfl ?_
  exact (h1 v1 e1 v2 e2 v3 e3 v4 e4)
set_option maxRecDepth 65536 in
set_option maxHeartbeats 4000000 in
theorem L_init_135 {x1 x2 x3 x4 x5 : Int32} {mi : Nat → Nat → Int32} {ml : Nat → Nat → Int64} {Q : Option Value → EMem → Prop}
    (h1 : ¬ x5 < (32 : Int32) → Q none (LL1, (up mi 0 37 (32 : Int32)), ml, RR1))
    (b1 : x5 < (32 : Int32) → inb x5 32 = true)
    (h2 : x5 < (32 : Int32) → W_init 135 [.val (.ref 0), .val (.int x1), .val (.int x2), .val (.int x3), .val (.int x4), .val (.int (x5 + (1 : Int32)))] [] (LL1, (up mi 6 (Int32.toNatClampNeg x5) ((31 : Int32) - x5)), ml, RR1) Q) :
    W_init 135 [.val (.ref 0), .val (.int x1), .val (.int x2), .val (.int x3), .val (.int x4), .val (.int x5)] [] (LL1, mi, ml, RR1) Q := by
  refine Wp.p (pc' := 137) d_init_135 rfl rfl ?_
  refine Wp.bipush (32 : Int32) d_init_137 (by decide) ?_
  refine Wp.icmp_ge d_init_139 rfl (fun c1 => ?_) (fun c1 => ?_)
  ·
    refine Wp.p (pc' := 161) d_init_160 rfl rfl ?_
    refine Wp.bipush (32 : Int32) d_init_161 (by decide) ?_
    refine Wp.putI d_init_163 fa_c49 rfl (by decide) in_HtreeDir (Or.inl rfl) ?_
    refine Wp.retV d_init_166 ?_
    exact (h1 c1)
  ·
    refine Wp.p (pc' := 143) d_init_142 rfl rfl ?_
    refine Wp.getR (b := 6) d_init_143 fa_c25 rfl rfl ?_
    refine Wp.p (pc' := 148) d_init_146 rfl rfl ?_
    refine Wp.bipush (31 : Int32) d_init_148 (by decide) ?_
    refine Wp.p (pc' := 152) d_init_150 rfl rfl ?_
    refine Wp.p (pc' := 153) d_init_152 rfl rfl ?_
    refine Wp.iastore d_init_153 rfl (k := (Int32.toNatClampNeg x5)) rfl (b1 c1) (by decide) ?_
    refine Wp.iinc (1 : Int32) d_init_154 (by decide) rfl rfl ?_
    refine Wp.p (pc' := 135) d_init_157 rfl rfl ?_
    exact (h2 c1)
set_option maxRecDepth 65536 in
set_option maxHeartbeats 4000000 in
theorem L_law_0 {x0 x1 x2 x3 : Int32} {mi : Nat → Nat → Int32} {ml : Nat → Nat → Int64} {Q : Option Value → EMem → Prop}
    (h1 : W_init 0 [.val (.ref 0), .val (.int x0), .val (.int (8 : Int32)), .unset, .unset, .unset] [] ([(0, "HtreeDir", 13)], mi, ml, (fun _ _ => Value.null)) (fun v M' => W_law 10 [.val (.int x0), .val (.int x1), .val (.int x2), .val (.int x3), .unset, .unset, .unset, .unset, .unset, .unset, .unset, .unset] (v.toList ++ [.ref 0]) M' Q)) :
    W_law 0 [.val (.int x0), .val (.int x1), .val (.int x2), .val (.int x3), .unset, .unset, .unset, .unset, .unset, .unset, .unset, .unset] [] ([], mi, ml, (fun _ _ => Value.null)) Q := by
  refine Wp.new (a := 0) (L' := [(0, "HtreeDir", 13)]) d_law_0 na_w7 rfl rfl ?_
  refine Wp.p (pc' := 4) d_law_3 rfl rfl ?_
  refine Wp.p (pc' := 5) d_law_4 rfl rfl ?_
  refine Wp.bipush (8 : Int32) d_law_5 (by decide) ?_
  refine Wp.callI (a := 0) (as := [.int x0, .int (8 : Int32)]) (rest := [.ref 0]) (w := 1) (F' := 1) (Lb' := 12) d_law_7 on_w9 ca_w9_2 rfl rfl rfl (by decide) (by decide) (Nat.le_of_ble_eq_true rfl) ?_
  exact h1
set_option maxRecDepth 65536 in
set_option maxHeartbeats 4000000 in
theorem L_law_10 {x0 x1 x2 x3 : Int32} {mi : Nat → Nat → Int32} {ml : Nat → Nat → Int64} {Q : Option Value → EMem → Prop}
    (h1 : ∀ v1 : Int32, v1 = (if x1 < (0 : Int32) then (0 : Int32) else (if (65535 : Int32) < x1 then (0 : Int32) else (1 : Int32))) → ∀ v2 : Int32, v2 = (if v1 = (0 : Int32) then (4 : Int32) else (if x2 < (1 : Int32) then (5 : Int32) else (0 : Int32))) → ∀ v3 : Int32, v3 = (if v2 = (0 : Int32) then (1 : Int32) else (0 : Int32)) → ∀ v4 : Int32, v4 = (if v1 = (0 : Int32) then (4 : Int32) else (if x3 < (1 : Int32) then (5 : Int32) else (if v3 = (0 : Int32) then (0 : Int32) else (1 : Int32)))) → ∀ v5 : Int32, v5 = (if v3 = (0 : Int32) then (if v4 = (0 : Int32) then x3 else (0 : Int32)) else x2) → ∀ v6 : Int32, v6 = (if x0 < (0 : Int32) then (0 : Int32) else (if (65535 : Int32) < x0 then (65535 : Int32) else x0)) → v1 = (0 : Int32) → W_law 150 [.val (.int x0), .val (.int x1), .val (.int x2), .val (.int x3), .val (.ref 0), .val (.int v1), .val (.int v2), .val (.int v3), .val (.int v4), .val (.int v5), .val (.int v6), .unset] [.int (-1 : Int32)] (LL1, mi, ml, RR1) Q)
    (h2 : ∀ v1 : Int32, v1 = (if x1 < (0 : Int32) then (0 : Int32) else (if (65535 : Int32) < x1 then (0 : Int32) else (1 : Int32))) → ∀ v2 : Int32, v2 = (if v1 = (0 : Int32) then (4 : Int32) else (if x2 < (1 : Int32) then (5 : Int32) else (0 : Int32))) → ∀ v3 : Int32, v3 = (if v2 = (0 : Int32) then (1 : Int32) else (0 : Int32)) → ∀ v4 : Int32, v4 = (if v1 = (0 : Int32) then (4 : Int32) else (if x3 < (1 : Int32) then (5 : Int32) else (if v3 = (0 : Int32) then (0 : Int32) else (1 : Int32)))) → ∀ v5 : Int32, v5 = (if v3 = (0 : Int32) then (if v4 = (0 : Int32) then x3 else (0 : Int32)) else x2) → ∀ v6 : Int32, v6 = (if x0 < (0 : Int32) then (0 : Int32) else (if (65535 : Int32) < x0 then (65535 : Int32) else x0)) → ¬ v1 = (0 : Int32) → W_law_hash 0 [.val (.int v6), .val (.int x1), .unset] [] (LL1, mi, ml, RR1) (fun v M' => W_law 146 [.val (.int x0), .val (.int x1), .val (.int x2), .val (.int x3), .val (.ref 0), .val (.int v1), .val (.int v2), .val (.int v3), .val (.int v4), .val (.int v5), .val (.int v6), .unset] (v.toList ++ []) M' Q)) :
    W_law 10 [.val (.int x0), .val (.int x1), .val (.int x2), .val (.int x3), .unset, .unset, .unset, .unset, .unset, .unset, .unset, .unset] [.ref 0] (LL1, mi, ml, RR1) Q := by
  refine Wp.p (pc' := 12) d_law_10 rfl rfl ?_
  refine Wp.p (pc' := 13) d_law_12 rfl rfl ?_
  obtain ⟨v1, e1⟩ : ∃ z : Int32, z = (if x1 < (0 : Int32) then (0 : Int32) else (if (65535 : Int32) < x1 then (0 : Int32) else (1 : Int32))) := ⟨_, rfl⟩
  suffices K : W_law 27 [.val (.int x0), .val (.int x1), .val (.int x2), .val (.int x3), .val (.ref 0), .unset, .unset, .unset, .unset, .unset, .unset, .unset] [.int v1] (LL1, mi, ml, RR1) Q by
    refine Wp.if_lt d_law_13 rfl (fun q0 => ?_) (fun q0 => ?_)
    ·
      refine Wp.iconst (0 : Int32) d_law_26 (by decide) ?_
      rw [if_pos q0] at e1; subst e1
      exact K
    ·
      refine Wp.p (pc' := 17) d_law_16 rfl rfl ?_
      refine Wp.ldc d_law_17 ik_w12 ?_
      refine Wp.icmp_gt d_law_19 rfl (fun q1 => ?_) (fun q1 => ?_)
      ·
        refine Wp.iconst (0 : Int32) d_law_26 (by decide) ?_
        rw [if_neg q0, if_pos q1] at e1; subst e1
        exact K
      ·
        refine Wp.iconst (1 : Int32) d_law_22 (by decide) ?_
        refine Wp.p (pc' := 27) d_law_23 rfl rfl ?_
        rw [if_neg q0, if_neg q1] at e1; subst e1
        exact K
  refine Wp.p (pc' := 29) d_law_27 rfl rfl ?_
  refine Wp.p (pc' := 31) d_law_29 rfl rfl ?_
  obtain ⟨v2, e2⟩ : ∃ z : Int32, z = (if v1 = (0 : Int32) then (4 : Int32) else (if x2 < (1 : Int32) then (5 : Int32) else (0 : Int32))) := ⟨_, rfl⟩
  suffices K : W_law 48 [.val (.int x0), .val (.int x1), .val (.int x2), .val (.int x3), .val (.ref 0), .val (.int v1), .unset, .unset, .unset, .unset, .unset, .unset] [.int v2] (LL1, mi, ml, RR1) Q by
    refine Wp.if_ne d_law_31 rfl (fun q0 => ?_) (fun q0 => ?_)
    ·
      refine Wp.p (pc' := 39) d_law_38 rfl rfl ?_
      refine Wp.iconst (1 : Int32) d_law_39 (by decide) ?_
      refine Wp.icmp_ge d_law_40 rfl (fun q1 => ?_) (fun q1 => ?_)
      ·
        refine Wp.iconst (0 : Int32) d_law_47 (by decide) ?_
        rw [if_neg q0, if_neg q1] at e2; subst e2
        exact K
      ·
        refine Wp.iconst (5 : Int32) d_law_43 (by decide) ?_
        refine Wp.p (pc' := 48) d_law_44 rfl rfl ?_
        rw [if_neg q0, if_pos q1] at e2; subst e2
        exact K
    ·
      refine Wp.iconst (4 : Int32) d_law_34 (by decide) ?_
      refine Wp.p (pc' := 48) d_law_35 rfl rfl ?_
      rw [if_pos q0] at e2; subst e2
      exact K
  refine Wp.p (pc' := 50) d_law_48 rfl rfl ?_
  refine Wp.p (pc' := 52) d_law_50 rfl rfl ?_
  obtain ⟨v3, e3⟩ : ∃ z : Int32, z = (if v2 = (0 : Int32) then (1 : Int32) else (0 : Int32)) := ⟨_, rfl⟩
  suffices K : W_law 60 [.val (.int x0), .val (.int x1), .val (.int x2), .val (.int x3), .val (.ref 0), .val (.int v1), .val (.int v2), .unset, .unset, .unset, .unset, .unset] [.int v3] (LL1, mi, ml, RR1) Q by
    refine Wp.if_ne d_law_52 rfl (fun q0 => ?_) (fun q0 => ?_)
    ·
      refine Wp.iconst (0 : Int32) d_law_59 (by decide) ?_
      rw [if_neg q0] at e3; subst e3
      exact K
    ·
      refine Wp.iconst (1 : Int32) d_law_55 (by decide) ?_
      refine Wp.p (pc' := 60) d_law_56 rfl rfl ?_
      rw [if_pos q0] at e3; subst e3
      exact K
  refine Wp.p (pc' := 62) d_law_60 rfl rfl ?_
  refine Wp.p (pc' := 64) d_law_62 rfl rfl ?_
  obtain ⟨v4, e4⟩ : ∃ z : Int32, z = (if v1 = (0 : Int32) then (4 : Int32) else (if x3 < (1 : Int32) then (5 : Int32) else (if v3 = (0 : Int32) then (0 : Int32) else (1 : Int32)))) := ⟨_, rfl⟩
  suffices K : W_law 90 [.val (.int x0), .val (.int x1), .val (.int x2), .val (.int x3), .val (.ref 0), .val (.int v1), .val (.int v2), .val (.int v3), .unset, .unset, .unset, .unset] [.int v4] (LL1, mi, ml, RR1) Q by
    refine Wp.if_ne d_law_64 rfl (fun q0 => ?_) (fun q0 => ?_)
    ·
      refine Wp.p (pc' := 72) d_law_71 rfl rfl ?_
      refine Wp.iconst (1 : Int32) d_law_72 (by decide) ?_
      refine Wp.icmp_ge d_law_73 rfl (fun q1 => ?_) (fun q1 => ?_)
      ·
        refine Wp.p (pc' := 82) d_law_80 rfl rfl ?_
        refine Wp.if_eq d_law_82 rfl (fun q2 => ?_) (fun q2 => ?_)
        ·
          refine Wp.iconst (0 : Int32) d_law_89 (by decide) ?_
          rw [if_neg q0, if_neg q1, if_pos q2] at e4; subst e4
          exact K
        ·
          refine Wp.iconst (1 : Int32) d_law_85 (by decide) ?_
          refine Wp.p (pc' := 90) d_law_86 rfl rfl ?_
          rw [if_neg q0, if_neg q1, if_neg q2] at e4; subst e4
          exact K
      ·
        refine Wp.iconst (5 : Int32) d_law_76 (by decide) ?_
        refine Wp.p (pc' := 90) d_law_77 rfl rfl ?_
        rw [if_neg q0, if_pos q1] at e4; subst e4
        exact K
    ·
      refine Wp.iconst (4 : Int32) d_law_67 (by decide) ?_
      refine Wp.p (pc' := 90) d_law_68 rfl rfl ?_
      rw [if_pos q0] at e4; subst e4
      exact K
  refine Wp.p (pc' := 92) d_law_90 rfl rfl ?_
  refine Wp.p (pc' := 94) d_law_92 rfl rfl ?_
  obtain ⟨v5, e5⟩ : ∃ z : Int32, z = (if v3 = (0 : Int32) then (if v4 = (0 : Int32) then x3 else (0 : Int32)) else x2) := ⟨_, rfl⟩
  suffices K : W_law 111 [.val (.int x0), .val (.int x1), .val (.int x2), .val (.int x3), .val (.ref 0), .val (.int v1), .val (.int v2), .val (.int v3), .val (.int v4), .unset, .unset, .unset] [.int v5] (LL1, mi, ml, RR1) Q by
    refine Wp.if_eq d_law_94 rfl (fun q0 => ?_) (fun q0 => ?_)
    ·
      refine Wp.p (pc' := 103) d_law_101 rfl rfl ?_
      refine Wp.if_ne d_law_103 rfl (fun q1 => ?_) (fun q1 => ?_)
      ·
        refine Wp.iconst (0 : Int32) d_law_110 (by decide) ?_
        rw [if_pos q0, if_neg q1] at e5; subst e5
        exact K
      ·
        refine Wp.p (pc' := 107) d_law_106 rfl rfl ?_
        refine Wp.p (pc' := 111) d_law_107 rfl rfl ?_
        rw [if_pos q0, if_pos q1] at e5; subst e5
        exact K
    ·
      refine Wp.p (pc' := 98) d_law_97 rfl rfl ?_
      refine Wp.p (pc' := 111) d_law_98 rfl rfl ?_
      rw [if_neg q0] at e5; subst e5
      exact K
  refine Wp.p (pc' := 113) d_law_111 rfl rfl ?_
  refine Wp.p (pc' := 114) d_law_113 rfl rfl ?_
  obtain ⟨v6, e6⟩ : ∃ z : Int32, z = (if x0 < (0 : Int32) then (0 : Int32) else (if (65535 : Int32) < x0 then (65535 : Int32) else x0)) := ⟨_, rfl⟩
  suffices K : W_law 133 [.val (.int x0), .val (.int x1), .val (.int x2), .val (.int x3), .val (.ref 0), .val (.int v1), .val (.int v2), .val (.int v3), .val (.int v4), .val (.int v5), .unset, .unset] [.int v6] (LL1, mi, ml, RR1) Q by
    refine Wp.if_ge d_law_114 rfl (fun q0 => ?_) (fun q0 => ?_)
    ·
      refine Wp.p (pc' := 122) d_law_121 rfl rfl ?_
      refine Wp.ldc d_law_122 ik_w12 ?_
      refine Wp.icmp_le d_law_124 rfl (fun q1 => ?_) (fun q1 => ?_)
      ·
        refine Wp.p (pc' := 133) d_law_132 rfl rfl ?_
        rw [if_neg q0, if_neg q1] at e6; subst e6
        exact K
      ·
        refine Wp.ldc d_law_127 ik_w12 ?_
        refine Wp.p (pc' := 133) d_law_129 rfl rfl ?_
        rw [if_neg q0, if_pos q1] at e6; subst e6
        exact K
    ·
      refine Wp.iconst (0 : Int32) d_law_117 (by decide) ?_
      refine Wp.p (pc' := 133) d_law_118 rfl rfl ?_
      rw [if_pos q0] at e6; subst e6
      exact K
  refine Wp.p (pc' := 135) d_law_133 rfl rfl ?_
  refine Wp.p (pc' := 137) d_law_135 rfl rfl ?_
  refine Wp.if_eq d_law_137 rfl (fun c7 => ?_) (fun c7 => ?_)
  ·
    refine Wp.iconst (-1 : Int32) d_law_149 (by decide) ?_
    exact (h1 v1 e1 v2 e2 v3 e3 v4 e4 v5 e5 v6 e6 c7)
  ·
    refine Wp.p (pc' := 142) d_law_140 rfl rfl ?_
    refine Wp.p (pc' := 143) d_law_142 rfl rfl ?_
    refine Wp.callS (as := [.int v6, .int x1]) (rest := []) (w := 0) (F' := 0) (Lb' := 0) d_law_143 ca_w13_3 rfl rfl rfl (by decide) (by decide) (Nat.le_of_ble_eq_true rfl) ?_
    exact (h2 v1 e1 v2 e2 v3 e3 v4 e4 v5 e5 v6 e6 c7)
set_option maxRecDepth 65536 in
set_option maxHeartbeats 4000000 in
theorem L_law_146 {x0 x1 x2 x3 x5 x6 x7 x8 x9 x10 y0 : Int32} {mi : Nat → Nat → Int32} {ml : Nat → Nat → Int64} {Q : Option Value → EMem → Prop}
    (h1 : W_law 150 [.val (.int x0), .val (.int x1), .val (.int x2), .val (.int x3), .val (.ref 0), .val (.int x5), .val (.int x6), .val (.int x7), .val (.int x8), .val (.int x9), .val (.int x10), .unset] [.int y0] (LL1, mi, ml, RR1) Q) :
    W_law 146 [.val (.int x0), .val (.int x1), .val (.int x2), .val (.int x3), .val (.ref 0), .val (.int x5), .val (.int x6), .val (.int x7), .val (.int x8), .val (.int x9), .val (.int x10), .unset] [.int y0] (LL1, mi, ml, RR1) Q := by
  refine Wp.p (pc' := 150) d_law_146 rfl rfl ?_
  exact h1
set_option maxRecDepth 65536 in
set_option maxHeartbeats 4000000 in
theorem L_law_150 {x0 x1 x2 x3 x5 x6 x7 x8 x9 x10 y0 : Int32} {mi : Nat → Nat → Int32} {ml : Nat → Nat → Int64} {Q : Option Value → EMem → Prop}
    (h1 : W_insert 0 [.val (.ref 0), .val (.int x1), .val (.int x2), .unset, .unset, .unset] [] (LL1, mi, ml, RR1) (fun v M' => W_law 159 [.val (.int x0), .val (.int x1), .val (.int x2), .val (.int x3), .val (.ref 0), .val (.int x5), .val (.int x6), .val (.int x7), .val (.int x8), .val (.int x9), .val (.int x10), .val (.int y0)] (v.toList ++ []) M' Q)) :
    W_law 150 [.val (.int x0), .val (.int x1), .val (.int x2), .val (.int x3), .val (.ref 0), .val (.int x5), .val (.int x6), .val (.int x7), .val (.int x8), .val (.int x9), .val (.int x10), .unset] [.int y0] (LL1, mi, ml, RR1) Q := by
  refine Wp.p (pc' := 152) d_law_150 rfl rfl ?_
  refine Wp.p (pc' := 154) d_law_152 rfl rfl ?_
  refine Wp.p (pc' := 155) d_law_154 rfl rfl ?_
  refine Wp.p (pc' := 156) d_law_155 rfl rfl ?_
  refine Wp.callV (a := 0) (as := [.int x1, .int x2]) (rest := []) (w := 0) (F' := 3) (Lb' := 50) d_law_156 ca_w19_0n ca_w19_0 rfl rfl rfl rfl (by decide) (by decide) (Nat.le_of_ble_eq_true rfl) ?_
  exact h1
set_option maxRecDepth 65536 in
set_option maxHeartbeats 4000000 in
theorem L_law_159 {x0 x1 x2 x3 x5 x6 x7 x8 x9 x10 x11 y0 : Int32} {mi : Nat → Nat → Int32} {ml : Nat → Nat → Int64} {Q : Option Value → EMem → Prop}
    (h1 : y0 = x6 → ∀ v2 : Int32, v2 = (if x7 = (0 : Int32) then (0 : Int32) else (1 : Int32)) → (mi 0 33) = v2 → W_lookup 0 [.val (.ref 0), .val (.int x1), .unset, .unset] [] (LL1, mi, ml, RR1) (fun v M' => W_law 192 [.val (.int x0), .val (.int x1), .val (.int x2), .val (.int x3), .val (.ref 0), .val (.int x5), .val (.int x6), .val (.int x7), .val (.int x8), .val (.int x9), .val (.int x10), .val (.int x11)] (v.toList ++ []) M' Q))
    (h2 : y0 = x6 → ∀ v2 : Int32, v2 = (if x7 = (0 : Int32) then (0 : Int32) else (1 : Int32)) → ¬ (mi 0 33) = v2 → Q (some (.int (0 : Int32))) (LL1, mi, ml, RR1))
    (h3 : ¬ y0 = x6 → Q (some (.int (0 : Int32))) (LL1, mi, ml, RR1)) :
    W_law 159 [.val (.int x0), .val (.int x1), .val (.int x2), .val (.int x3), .val (.ref 0), .val (.int x5), .val (.int x6), .val (.int x7), .val (.int x8), .val (.int x9), .val (.int x10), .val (.int x11)] [.int y0] (LL1, mi, ml, RR1) Q := by
  refine Wp.p (pc' := 161) d_law_159 rfl rfl ?_
  refine Wp.icmp_eq d_law_161 rfl (fun c1 => ?_) (fun c1 => ?_)
  ·
    refine Wp.p (pc' := 168) d_law_166 rfl rfl ?_
    refine Wp.callV (a := 0) (as := []) (rest := []) (w := 0) (F' := 0) (Lb' := 0) d_law_168 ca_w22_0n ca_w22_0 rfl rfl rfl rfl (by decide) (by decide) (Nat.le_of_ble_eq_true rfl) ?_
    refine L_count_0 ?_
    show W_law 171 [.val (.int x0), .val (.int x1), .val (.int x2), .val (.int x3), .val (.ref 0), .val (.int x5), .val (.int x6), .val (.int x7), .val (.int x8), .val (.int x9), .val (.int x10), .val (.int x11)] [.int (mi 0 33)] (LL1, mi, ml, RR1) Q
    refine Wp.p (pc' := 173) d_law_171 rfl rfl ?_
    obtain ⟨v2, e2⟩ : ∃ z : Int32, z = (if x7 = (0 : Int32) then (0 : Int32) else (1 : Int32)) := ⟨_, rfl⟩
    suffices K : W_law 181 [.val (.int x0), .val (.int x1), .val (.int x2), .val (.int x3), .val (.ref 0), .val (.int x5), .val (.int x6), .val (.int x7), .val (.int x8), .val (.int x9), .val (.int x10), .val (.int x11)] [.int v2, .int (mi 0 33)] (LL1, mi, ml, RR1) Q by
      refine Wp.if_eq d_law_173 rfl (fun q0 => ?_) (fun q0 => ?_)
      ·
        refine Wp.iconst (0 : Int32) d_law_180 (by decide) ?_
        rw [if_pos q0] at e2; subst e2
        exact K
      ·
        refine Wp.iconst (1 : Int32) d_law_176 (by decide) ?_
        refine Wp.p (pc' := 181) d_law_177 rfl rfl ?_
        rw [if_neg q0] at e2; subst e2
        exact K
    refine Wp.icmp_eq d_law_181 rfl (fun c3 => ?_) (fun c3 => ?_)
    ·
      refine Wp.p (pc' := 188) d_law_186 rfl rfl ?_
      refine Wp.p (pc' := 189) d_law_188 rfl rfl ?_
      refine Wp.callV (a := 0) (as := [.int x1]) (rest := []) (w := 0) (F' := 3) (Lb' := 50) d_law_189 ca_w26_0n ca_w26_0 rfl rfl rfl rfl (by decide) (by decide) (Nat.le_of_ble_eq_true rfl) ?_
      exact (h1 c1 v2 e2 c3)
    ·
      refine Wp.iconst (0 : Int32) d_law_184 (by decide) ?_
      refine Wp.retZ (0 : Int32) d_law_185 (by decide) ?_
      exact (h2 c1 v2 e2 c3)
  ·
    refine Wp.iconst (0 : Int32) d_law_164 (by decide) ?_
    refine Wp.retZ (0 : Int32) d_law_165 (by decide) ?_
    exact (h3 c1)
set_option maxRecDepth 65536 in
set_option maxHeartbeats 4000000 in
theorem L_law_192 {x0 x1 x2 x3 x5 x6 x7 x8 x9 x10 x11 y0 : Int32} {mi : Nat → Nat → Int32} {ml : Nat → Nat → Int64} {Q : Option Value → EMem → Prop}
    (h1 : ∀ v1 : Int32, v1 = (if x7 = (0 : Int32) then (0 : Int32) else x2) → y0 = v1 → W_nameAtRank 0 [.val (.ref 0), .val (.int (0 : Int32)), .unset, .unset, .unset, .unset] [] (LL1, mi, ml, RR1) (fun v M' => W_law 213 [.val (.int x0), .val (.int x1), .val (.int x2), .val (.int x3), .val (.ref 0), .val (.int x5), .val (.int x6), .val (.int x7), .val (.int x8), .val (.int x9), .val (.int x10), .val (.int x11)] (v.toList ++ []) M' Q))
    (h2 : ∀ v1 : Int32, v1 = (if x7 = (0 : Int32) then (0 : Int32) else x2) → ¬ y0 = v1 → Q (some (.int (0 : Int32))) (LL1, mi, ml, RR1)) :
    W_law 192 [.val (.int x0), .val (.int x1), .val (.int x2), .val (.int x3), .val (.ref 0), .val (.int x5), .val (.int x6), .val (.int x7), .val (.int x8), .val (.int x9), .val (.int x10), .val (.int x11)] [.int y0] (LL1, mi, ml, RR1) Q := by
  refine Wp.p (pc' := 194) d_law_192 rfl rfl ?_
  obtain ⟨v1, e1⟩ : ∃ z : Int32, z = (if x7 = (0 : Int32) then (0 : Int32) else x2) := ⟨_, rfl⟩
  suffices K : W_law 202 [.val (.int x0), .val (.int x1), .val (.int x2), .val (.int x3), .val (.ref 0), .val (.int x5), .val (.int x6), .val (.int x7), .val (.int x8), .val (.int x9), .val (.int x10), .val (.int x11)] [.int v1, .int y0] (LL1, mi, ml, RR1) Q by
    refine Wp.if_eq d_law_194 rfl (fun q0 => ?_) (fun q0 => ?_)
    ·
      refine Wp.iconst (0 : Int32) d_law_201 (by decide) ?_
      rw [if_pos q0] at e1; subst e1
      exact K
    ·
      refine Wp.p (pc' := 198) d_law_197 rfl rfl ?_
      refine Wp.p (pc' := 202) d_law_198 rfl rfl ?_
      rw [if_neg q0] at e1; subst e1
      exact K
  refine Wp.icmp_eq d_law_202 rfl (fun c2 => ?_) (fun c2 => ?_)
  ·
    refine Wp.p (pc' := 209) d_law_207 rfl rfl ?_
    refine Wp.iconst (0 : Int32) d_law_209 (by decide) ?_
    refine Wp.callV (a := 0) (as := [.int (0 : Int32)]) (rest := []) (w := 0) (F' := 0) (Lb' := 0) d_law_210 ca_w30_0n ca_w30_0 rfl rfl rfl rfl (by decide) (by decide) (Nat.le_of_ble_eq_true rfl) ?_
    exact (h1 v1 e1 c2)
  ·
    refine Wp.iconst (0 : Int32) d_law_205 (by decide) ?_
    refine Wp.retZ (0 : Int32) d_law_206 (by decide) ?_
    exact (h2 v1 e1 c2)
set_option maxRecDepth 65536 in
set_option maxHeartbeats 4000000 in
theorem L_law_213 {x0 x1 x2 x3 x5 x6 x7 x8 x9 x10 x11 y0 : Int32} {mi : Nat → Nat → Int32} {ml : Nat → Nat → Int64} {Q : Option Value → EMem → Prop}
    (h1 : ∀ v1 : Int32, v1 = (if x7 = (0 : Int32) then (-1 : Int32) else x1) → y0 = v1 → W_insert 0 [.val (.ref 0), .val (.int x1), .val (.int x3), .unset, .unset, .unset] [] (LL1, mi, ml, RR1) (fun v M' => W_law 235 [.val (.int x0), .val (.int x1), .val (.int x2), .val (.int x3), .val (.ref 0), .val (.int x5), .val (.int x6), .val (.int x7), .val (.int x8), .val (.int x9), .val (.int x10), .val (.int x11)] (v.toList ++ []) M' Q))
    (h2 : ∀ v1 : Int32, v1 = (if x7 = (0 : Int32) then (-1 : Int32) else x1) → ¬ y0 = v1 → Q (some (.int (0 : Int32))) (LL1, mi, ml, RR1)) :
    W_law 213 [.val (.int x0), .val (.int x1), .val (.int x2), .val (.int x3), .val (.ref 0), .val (.int x5), .val (.int x6), .val (.int x7), .val (.int x8), .val (.int x9), .val (.int x10), .val (.int x11)] [.int y0] (LL1, mi, ml, RR1) Q := by
  refine Wp.p (pc' := 215) d_law_213 rfl rfl ?_
  obtain ⟨v1, e1⟩ : ∃ z : Int32, z = (if x7 = (0 : Int32) then (-1 : Int32) else x1) := ⟨_, rfl⟩
  suffices K : W_law 223 [.val (.int x0), .val (.int x1), .val (.int x2), .val (.int x3), .val (.ref 0), .val (.int x5), .val (.int x6), .val (.int x7), .val (.int x8), .val (.int x9), .val (.int x10), .val (.int x11)] [.int v1, .int y0] (LL1, mi, ml, RR1) Q by
    refine Wp.if_eq d_law_215 rfl (fun q0 => ?_) (fun q0 => ?_)
    ·
      refine Wp.iconst (-1 : Int32) d_law_222 (by decide) ?_
      rw [if_pos q0] at e1; subst e1
      exact K
    ·
      refine Wp.p (pc' := 219) d_law_218 rfl rfl ?_
      refine Wp.p (pc' := 223) d_law_219 rfl rfl ?_
      rw [if_neg q0] at e1; subst e1
      exact K
  refine Wp.icmp_eq d_law_223 rfl (fun c2 => ?_) (fun c2 => ?_)
  ·
    refine Wp.p (pc' := 230) d_law_228 rfl rfl ?_
    refine Wp.p (pc' := 231) d_law_230 rfl rfl ?_
    refine Wp.p (pc' := 232) d_law_231 rfl rfl ?_
    refine Wp.callV (a := 0) (as := [.int x1, .int x3]) (rest := []) (w := 0) (F' := 3) (Lb' := 50) d_law_232 ca_w19_0n ca_w19_0 rfl rfl rfl rfl (by decide) (by decide) (Nat.le_of_ble_eq_true rfl) ?_
    exact (h1 v1 e1 c2)
  ·
    refine Wp.iconst (0 : Int32) d_law_226 (by decide) ?_
    refine Wp.retZ (0 : Int32) d_law_227 (by decide) ?_
    exact (h2 v1 e1 c2)
set_option maxRecDepth 65536 in
set_option maxHeartbeats 4000000 in
theorem L_law_235 {x0 x1 x2 x3 x5 x6 x7 x8 x9 x10 x11 y0 : Int32} {mi : Nat → Nat → Int32} {ml : Nat → Nat → Int64} {Q : Option Value → EMem → Prop}
    (h1 : y0 = x8 → W_lookup 0 [.val (.ref 0), .val (.int x1), .unset, .unset] [] (LL1, mi, ml, RR1) (fun v M' => W_law 248 [.val (.int x0), .val (.int x1), .val (.int x2), .val (.int x3), .val (.ref 0), .val (.int x5), .val (.int x6), .val (.int x7), .val (.int x8), .val (.int x9), .val (.int x10), .val (.int x11)] (v.toList ++ []) M' Q))
    (h2 : ¬ y0 = x8 → Q (some (.int (0 : Int32))) (LL1, mi, ml, RR1)) :
    W_law 235 [.val (.int x0), .val (.int x1), .val (.int x2), .val (.int x3), .val (.ref 0), .val (.int x5), .val (.int x6), .val (.int x7), .val (.int x8), .val (.int x9), .val (.int x10), .val (.int x11)] [.int y0] (LL1, mi, ml, RR1) Q := by
  refine Wp.p (pc' := 237) d_law_235 rfl rfl ?_
  refine Wp.icmp_eq d_law_237 rfl (fun c1 => ?_) (fun c1 => ?_)
  ·
    refine Wp.p (pc' := 244) d_law_242 rfl rfl ?_
    refine Wp.p (pc' := 245) d_law_244 rfl rfl ?_
    refine Wp.callV (a := 0) (as := [.int x1]) (rest := []) (w := 0) (F' := 3) (Lb' := 50) d_law_245 ca_w26_0n ca_w26_0 rfl rfl rfl rfl (by decide) (by decide) (Nat.le_of_ble_eq_true rfl) ?_
    exact (h1 c1)
  ·
    refine Wp.iconst (0 : Int32) d_law_240 (by decide) ?_
    refine Wp.retZ (0 : Int32) d_law_241 (by decide) ?_
    exact (h2 c1)
set_option maxRecDepth 65536 in
set_option maxHeartbeats 4000000 in
theorem L_law_248 {x0 x1 x2 x3 x5 x6 x7 x8 x9 x10 x11 y0 : Int32} {mi : Nat → Nat → Int32} {ml : Nat → Nat → Int64} {Q : Option Value → EMem → Prop}
    (h1 : y0 = x9 → ∀ v2 : Int32, v2 = (if x9 = (0 : Int32) then (0 : Int32) else (1 : Int32)) → (mi 0 33) = v2 → W_nameWithHash 0 [.val (.ref 0), .val (.int x11), .unset] [] (LL1, mi, ml, RR1) (fun v M' => W_law 282 [.val (.int x0), .val (.int x1), .val (.int x2), .val (.int x3), .val (.ref 0), .val (.int x5), .val (.int x6), .val (.int x7), .val (.int x8), .val (.int x9), .val (.int x10), .val (.int x11)] (v.toList ++ []) M' Q))
    (h2 : y0 = x9 → ∀ v2 : Int32, v2 = (if x9 = (0 : Int32) then (0 : Int32) else (1 : Int32)) → ¬ (mi 0 33) = v2 → Q (some (.int (0 : Int32))) (LL1, mi, ml, RR1))
    (h3 : ¬ y0 = x9 → Q (some (.int (0 : Int32))) (LL1, mi, ml, RR1)) :
    W_law 248 [.val (.int x0), .val (.int x1), .val (.int x2), .val (.int x3), .val (.ref 0), .val (.int x5), .val (.int x6), .val (.int x7), .val (.int x8), .val (.int x9), .val (.int x10), .val (.int x11)] [.int y0] (LL1, mi, ml, RR1) Q := by
  refine Wp.p (pc' := 250) d_law_248 rfl rfl ?_
  refine Wp.icmp_eq d_law_250 rfl (fun c1 => ?_) (fun c1 => ?_)
  ·
    refine Wp.p (pc' := 257) d_law_255 rfl rfl ?_
    refine Wp.callV (a := 0) (as := []) (rest := []) (w := 0) (F' := 0) (Lb' := 0) d_law_257 ca_w22_0n ca_w22_0 rfl rfl rfl rfl (by decide) (by decide) (Nat.le_of_ble_eq_true rfl) ?_
    refine L_count_0 ?_
    show W_law 260 [.val (.int x0), .val (.int x1), .val (.int x2), .val (.int x3), .val (.ref 0), .val (.int x5), .val (.int x6), .val (.int x7), .val (.int x8), .val (.int x9), .val (.int x10), .val (.int x11)] [.int (mi 0 33)] (LL1, mi, ml, RR1) Q
    refine Wp.p (pc' := 262) d_law_260 rfl rfl ?_
    obtain ⟨v2, e2⟩ : ∃ z : Int32, z = (if x9 = (0 : Int32) then (0 : Int32) else (1 : Int32)) := ⟨_, rfl⟩
    suffices K : W_law 270 [.val (.int x0), .val (.int x1), .val (.int x2), .val (.int x3), .val (.ref 0), .val (.int x5), .val (.int x6), .val (.int x7), .val (.int x8), .val (.int x9), .val (.int x10), .val (.int x11)] [.int v2, .int (mi 0 33)] (LL1, mi, ml, RR1) Q by
      refine Wp.if_eq d_law_262 rfl (fun q0 => ?_) (fun q0 => ?_)
      ·
        refine Wp.iconst (0 : Int32) d_law_269 (by decide) ?_
        rw [if_pos q0] at e2; subst e2
        exact K
      ·
        refine Wp.iconst (1 : Int32) d_law_265 (by decide) ?_
        refine Wp.p (pc' := 270) d_law_266 rfl rfl ?_
        rw [if_neg q0] at e2; subst e2
        exact K
    refine Wp.icmp_eq d_law_270 rfl (fun c3 => ?_) (fun c3 => ?_)
    ·
      refine Wp.p (pc' := 277) d_law_275 rfl rfl ?_
      refine Wp.p (pc' := 279) d_law_277 rfl rfl ?_
      refine Wp.callV (a := 0) (as := [.int x11]) (rest := []) (w := 0) (F' := 3) (Lb' := 50) d_law_279 ca_w33_0n ca_w33_0 rfl rfl rfl rfl (by decide) (by decide) (Nat.le_of_ble_eq_true rfl) ?_
      exact (h1 c1 v2 e2 c3)
    ·
      refine Wp.iconst (0 : Int32) d_law_273 (by decide) ?_
      refine Wp.retZ (0 : Int32) d_law_274 (by decide) ?_
      exact (h2 c1 v2 e2 c3)
  ·
    refine Wp.iconst (0 : Int32) d_law_253 (by decide) ?_
    refine Wp.retZ (0 : Int32) d_law_254 (by decide) ?_
    exact (h3 c1)
set_option maxRecDepth 65536 in
set_option maxHeartbeats 4000000 in
theorem L_law_282 {x0 x1 x2 x3 x5 x6 x7 x8 x9 x10 x11 y0 : Int32} {mi : Nat → Nat → Int32} {ml : Nat → Nat → Int64} {Q : Option Value → EMem → Prop}
    (h1 : ∀ v1 : Int32, v1 = (if x9 = (0 : Int32) then (-1 : Int32) else x1) → ∀ v2 : Int32, v2 = (if y0 = v1 then (1 : Int32) else (0 : Int32)) → Q (some (.int v2)) (LL1, mi, ml, RR1)) :
    W_law 282 [.val (.int x0), .val (.int x1), .val (.int x2), .val (.int x3), .val (.ref 0), .val (.int x5), .val (.int x6), .val (.int x7), .val (.int x8), .val (.int x9), .val (.int x10), .val (.int x11)] [.int y0] (LL1, mi, ml, RR1) Q := by
  refine Wp.p (pc' := 284) d_law_282 rfl rfl ?_
  obtain ⟨v1, e1⟩ : ∃ z : Int32, z = (if x9 = (0 : Int32) then (-1 : Int32) else x1) := ⟨_, rfl⟩
  suffices K : W_law 292 [.val (.int x0), .val (.int x1), .val (.int x2), .val (.int x3), .val (.ref 0), .val (.int x5), .val (.int x6), .val (.int x7), .val (.int x8), .val (.int x9), .val (.int x10), .val (.int x11)] [.int v1, .int y0] (LL1, mi, ml, RR1) Q by
    refine Wp.if_eq d_law_284 rfl (fun q0 => ?_) (fun q0 => ?_)
    ·
      refine Wp.iconst (-1 : Int32) d_law_291 (by decide) ?_
      rw [if_pos q0] at e1; subst e1
      exact K
    ·
      refine Wp.p (pc' := 288) d_law_287 rfl rfl ?_
      refine Wp.p (pc' := 292) d_law_288 rfl rfl ?_
      rw [if_neg q0] at e1; subst e1
      exact K
  obtain ⟨v2, e2⟩ : ∃ z : Int32, z = (if y0 = v1 then (1 : Int32) else (0 : Int32)) := ⟨_, rfl⟩
  suffices K : Q (some (.int v2)) (LL1, mi, ml, RR1) by
    refine Wp.icmp_eq d_law_292 rfl (fun q0 => ?_) (fun q0 => ?_)
    ·
      refine Wp.iconst (1 : Int32) d_law_297 (by decide) ?_
      refine Wp.retZ (1 : Int32) d_law_298 (by decide) ?_
      rw [if_pos q0] at e2; subst e2
      exact K
    ·
      refine Wp.iconst (0 : Int32) d_law_295 (by decide) ?_
      refine Wp.retZ (0 : Int32) d_law_296 (by decide) ?_
      rw [if_neg q0] at e2; subst e2
      exact K
  exact (h1 v1 e1 v2 e2)

abbrev own_Ent : Type := Int32 × Int32 × Int32
abbrev own_Tr : Type := List (Nat × List own_Ent)
def own_fl (T : own_Tr) : List own_Ent := T.flatMap (·.2)
theorem own_Nt {k : Nat} (h : k < 2147483648) : (Int32.ofNat k).toInt = k := Int32.toInt_ofNat_of_lt (by omega)
theorem own_Nc {k : Nat} (h : k < 2147483648) : (Int32.ofNat k).toNatClampNeg = k := by
  simp only [Int32.toNatClampNeg, own_Nt h]; rfl
theorem own_Nlt {a b : Nat} (ha : a < 2147483648) (hb : b < 2147483648) : Int32.ofNat a < Int32.ofNat b ↔ a < b := by
  rw [Int32.lt_iff_toInt_lt, own_Nt ha, own_Nt hb]; omega
theorem own_Nadd (a b : Nat) : Int32.ofNat a + Int32.ofNat b = Int32.ofNat (a + b) := (Int32.ofNat_add a b).symm
theorem own_Nadd1 (a : Nat) : Int32.ofNat a + 1 = Int32.ofNat (a + 1) := (Int32.ofNat_add a 1).symm
theorem own_Nmul4 (a : Nat) : Int32.ofNat a * 4 = Int32.ofNat (a * 4) := (Int32.ofNat_mul a 4).symm
theorem own_Nsub {a b : Nat} (h : b ≤ a) (ha : a < 2147483648) : Int32.ofNat a - Int32.ofNat b = Int32.ofNat (a - b) := by
  apply Int32.toInt_inj.mp
  rw [sub_int (by rw [own_Nt ha, own_Nt (by omega)]; omega) (by rw [own_Nt ha, own_Nt (by omega)]; omega), own_Nt ha, own_Nt (by omega), own_Nt (by omega)]; omega
theorem own_Nsub1 {a : Nat} (h : 0 < a) (ha : a < 2147483648) : Int32.ofNat a - 1 = Int32.ofNat (a - 1) := own_Nsub (b := 1) h ha
theorem own_Npred {a : Nat} (h : 0 < a) (ha : a < 2147483648) : Int32.ofNat a + -1 = Int32.ofNat (a - 1) := by
  rw [← own_Nsub1 h ha]
  grind
theorem own_Nnn {a : Nat} (ha : a < 2147483648) : ¬ Int32.ofNat a < 0 := by
  rw [Int32.lt_iff_toInt_lt, own_Nt ha]; have : (0 : Int32).toInt = 0 := by decide
  omega
theorem own_Ninb {k n : Nat} (h : k < n) (hn : n < 2147483648) : inb (Int32.ofNat k) n = true := inb_of ⟨by rw [own_Nt (by omega)]; omega, by rw [own_Nt (by omega)]; omega⟩
theorem own_Ninj {a b : Nat} (ha : a < 2147483648) (hb : b < 2147483648) (h : Int32.ofNat a = Int32.ofNat b) : a = b := by
  have := congrArg Int32.toInt h
  rw [own_Nt ha, own_Nt hb] at this; omega
theorem own_N31 {k : Nat} (h : k < 32) : Int32.ofNat k &&& 31 = Int32.ofNat k := by
  have key : ∀ k, k < 32 → Int32.ofNat k &&& 31 = Int32.ofNat k := by decide
  exact key k h
theorem own_pk {pos s : Nat} (hp : pos < 32) (hs : s < 4) : XT.ushr (Int32.ofNat (pos * 4 + s)) 2 &&& 31 = Int32.ofNat pos ∧ Int32.ofNat (pos * 4 + s) &&& 3 = Int32.ofNat s := by
  have key : ∀ s, s < 4 → ∀ pos, pos < 32 → XT.ushr (Int32.ofNat (pos * 4 + s)) 2 &&& 31 = Int32.ofNat pos ∧ Int32.ofNat (pos * 4 + s) &&& 3 = Int32.ofNat s := by decide +kernel
  exact key s hs pos hp
theorem own_half {k : Nat} (h : k < 64) : XT.ushr (Int32.ofNat k) 1 = Int32.ofNat (k / 2) := by
  have key : ∀ k, k < 64 → XT.ushr (Int32.ofNat k) 1 = Int32.ofNat (k / 2) := by decide +kernel
  exact key k h
/-! lists of leaves -/
theorem own_fl_at {T : own_Tr} {p : Nat} (h : p < T.length) : own_fl T = own_fl (T.take p) ++ T[p].2 ++ own_fl (T.drop (p + 1)) := by
  have e : T = T.take p ++ T[p] :: T.drop (p + 1) := by simp
  have q : own_fl T = own_fl (T.take p ++ T[p] :: T.drop (p + 1)) := congrArg own_fl e
  rw [q]
  simp only [own_fl, List.flatMap_append, List.flatMap_cons, List.append_assoc]
theorem own_fl_set {T : own_Tr} {p : Nat} (h : p < T.length) (x : Nat × List own_Ent) : own_fl (T.set p x) = own_fl (T.take p) ++ x.2 ++ own_fl (T.drop (p + 1)) := by
  rw [List.set_eq_take_append_cons_drop, if_pos h]
  simp [own_fl]
theorem own_fl_mem {T : own_Tr} {e : own_Ent} : e ∈ own_fl T ↔ ∃ (p : Nat) (hp : p < T.length) (s : Nat) (hs : s < T[p].2.length), T[p].2[s] = e := by
  simp only [own_fl, List.mem_flatMap]
  constructor
  · rintro ⟨x, hx, he⟩
    obtain ⟨p, hp, rfl⟩ := List.getElem_of_mem hx
    obtain ⟨s, hs, q⟩ := List.getElem_of_mem he
    exact ⟨p, hp, s, hs, q⟩
  · rintro ⟨p, hp, s, hs, rfl⟩
    exact ⟨T[p], List.getElem_mem hp, List.getElem_mem hs⟩
/-- sorted by hash -/
def own_Sd (E : List own_Ent) : Prop := E.Pairwise (fun a b => a.1 < b.1)
theorem own_srt {T : own_Tr} (S : own_Sd (own_fl T)) {p q s t : Nat} (hp : p < T.length) (hq : q < T.length) (hs : s < T[p].2.length) (ht : t < T[q].2.length) (h : p < q ∨ (p = q ∧ s < t)) : (T[p].2[s]).1 < (T[q].2[t]).1 := by
  rcases h with h | ⟨rfl, h⟩
  · unfold own_Sd at S
    rw [own_fl_at hq, List.append_assoc, List.pairwise_append] at S
    refine S.2.2 _ ?_ _ (List.mem_append_left _ (List.getElem_mem ht))
    rw [own_fl_mem]
    exact ⟨p, by simp; omega, s, by simpa using hs, by simp⟩
  · unfold own_Sd at S
    rw [own_fl_at hp, List.append_assoc, List.pairwise_append, List.pairwise_append] at S
    exact (List.pairwise_iff_getElem.mp S.2.1.1) s t hs ht h

/-- the memory of a directory: its leaves in the order of the index, and the free leaves -/
abbrev own_R (mi : Nat → Nat → Int32) (T : own_Tr) (fr : List Nat) : Prop :=
  (mi 0 35 = Int32.ofNat T.length) ∧ (∀ p (h : p < T.length), mi 5 p = Int32.ofNat T[p].1) ∧ (∀ p (h : p < T.length), mi 4 T[p].1 = Int32.ofNat T[p].2.length) ∧ (∀ p (h : p < T.length), T[p].2.length ≤ 4) ∧ (∀ p (h : p < T.length) s (hs : s < T[p].2.length), mi 1 (T[p].1 * 4 + s) = (T[p].2[s]).1 ∧ mi 2 (T[p].1 * 4 + s) = (T[p].2[s]).2.1 ∧ mi 3 (T[p].1 * 4 + s) = (T[p].2[s]).2.2) ∧ (mi 0 37 = Int32.ofNat fr.length) ∧ (∀ k (h : k < fr.length), mi 6 k = Int32.ofNat fr[k]) ∧ ((T.map (·.1) ++ fr).Nodup) ∧ (∀ x ∈ T.map (·.1) ++ fr, x < 32) ∧ (T.length + fr.length = 32)
theorem own_R.nl {mi : Nat → Nat → Int32} {T : own_Tr} {fr : List Nat} (self : own_R mi T fr) : mi 0 35 = Int32.ofNat T.length := self.1
theorem own_R.idx {mi : Nat → Nat → Int32} {T : own_Tr} {fr : List Nat} (self : own_R mi T fr) : ∀ p (h : p < T.length), mi 5 p = Int32.ofNat T[p].1 := self.2.1
theorem own_R.len {mi : Nat → Nat → Int32} {T : own_Tr} {fr : List Nat} (self : own_R mi T fr) : ∀ p (h : p < T.length), mi 4 T[p].1 = Int32.ofNat T[p].2.length := self.2.2.1
theorem own_R.l4 {mi : Nat → Nat → Int32} {T : own_Tr} {fr : List Nat} (self : own_R mi T fr) : ∀ p (h : p < T.length), T[p].2.length ≤ 4 := self.2.2.2.1
theorem own_R.ent {mi : Nat → Nat → Int32} {T : own_Tr} {fr : List Nat} (self : own_R mi T fr) : ∀ p (h : p < T.length) s (hs : s < T[p].2.length), mi 1 (T[p].1 * 4 + s) = (T[p].2[s]).1 ∧ mi 2 (T[p].1 * 4 + s) = (T[p].2[s]).2.1 ∧ mi 3 (T[p].1 * 4 + s) = (T[p].2[s]).2.2 := self.2.2.2.2.1
theorem own_R.ft {mi : Nat → Nat → Int32} {T : own_Tr} {fr : List Nat} (self : own_R mi T fr) : mi 0 37 = Int32.ofNat fr.length := self.2.2.2.2.2.1
theorem own_R.fs {mi : Nat → Nat → Int32} {T : own_Tr} {fr : List Nat} (self : own_R mi T fr) : ∀ k (h : k < fr.length), mi 6 k = Int32.ofNat fr[k] := self.2.2.2.2.2.2.1
theorem own_R.nd {mi : Nat → Nat → Int32} {T : own_Tr} {fr : List Nat} (self : own_R mi T fr) : (T.map (·.1) ++ fr).Nodup := self.2.2.2.2.2.2.2.1
theorem own_R.lt {mi : Nat → Nat → Int32} {T : own_Tr} {fr : List Nat} (self : own_R mi T fr) : ∀ x ∈ T.map (·.1) ++ fr, x < 32 := self.2.2.2.2.2.2.2.2.1
theorem own_R.tot {mi : Nat → Nat → Int32} {T : own_Tr} {fr : List Nat} (self : own_R mi T fr) : T.length + fr.length = 32 := self.2.2.2.2.2.2.2.2.2
theorem own_R.l32 {mi : Nat → Nat → Int32} {T : own_Tr} {fr : List Nat} (R : own_R mi T fr) {p : Nat} (h : p < T.length) : T[p].1 < 32 :=
  R.lt _ (List.mem_append_left _ (List.mem_map.mpr ⟨T[p], List.getElem_mem h, rfl⟩))
theorem own_R.inj {mi : Nat → Nat → Int32} {T : own_Tr} {fr : List Nat} (R : own_R mi T fr) {p q : Nat} (hp : p < T.length) (hq : q < T.length) (h : T[p].1 = T[q].1) : p = q := by
  have nd := (List.nodup_append.mp R.nd).1
  have := (List.getElem_inj (h₀ := by simpa using hp) (h₁ := by simpa using hq) nd (i := p) (j := q)).mp (by simpa using h)
  exact this
theorem own_R.nfr {mi : Nat → Nat → Int32} {T : own_Tr} {fr : List Nat} (R : own_R mi T fr) {p k : Nat} (hp : p < T.length) (hk : k < fr.length) : T[p].1 ≠ fr[k] := by
  have := (List.nodup_append.mp R.nd).2.2
  exact this _ (List.mem_map.mpr ⟨T[p], List.getElem_mem hp, rfl⟩) _ (List.getElem_mem hk)

theorem own_flp1 {Q : Option Value → EMem → Prop} (x : Int32) (mi : Nat → Nat → Int32) (ml : Nat → Nat → Int64) (T : own_Tr) (fr : List Nat) (R : own_R mi T fr) (kf : Nat → Int32) (hk : ∀ p (h : p < T.length), mi 1 (T[p].1 * 4) = kf p) (mono : ∀ p q, p < q → q < T.length → kf p < kf q) (hN : 0 < T.length)
    (K : ∀ pos, pos < T.length → (∀ p, p ≤ pos → p ≠ 0 → ¬ x < kf p) → (∀ p, pos < p → p < T.length → x < kf p) → Q (some (.int (Int32.ofNat pos))) (LL1, mi, ml, RR1)) :
    ∀ (f lo hi ans it : Nat) (s6 : Slot), One s6 → it + f = 8 → hi - lo < 2 ^ f → lo ≤ hi → hi ≤ T.length → (ans = if lo = 0 then 0 else lo - 1) → (∀ p, p < lo → ¬ x < kf p) → (∀ p, hi ≤ p → p < T.length → x < kf p) →
    W_findLeafPos 15 [.val (.ref 0), .val (.int x), .val (.int (Int32.ofNat lo)), .val (.int (Int32.ofNat hi - 1)), .val (.int (Int32.ofNat ans)), .val (.int (Int32.ofNat it)), s6] [] (LL1, mi, ml, RR1) Q := by
  intro f
  have t32 := R.tot
  have c1 : (1 : Int32).toInt = 1 := by decide
  induction f with
  | zero =>
    intro lo hi ans it s6 o6 hit hf hlh hhi hans h1 h2
    have : lo = hi := by simp at hf; omega
    subst this
    have hit8 : it = 8 := by omega
    subst hit8
    refine L_findLeafPos_15 o6 (fun _ => K ans (by split at hans <;> omega) (fun p hp h0 => h1 p (by split at hans <;> omega)) (fun p hp hpT => h2 p (by split at hans <;> omega) hpT)) (fun h => absurd h (by decide)) (fun h => absurd h (by decide)) (fun h => absurd h (by decide)) (fun h => absurd h (by decide))
  | succ f ih =>
    intro lo hi ans it s6 o6 hit hf hlh hhi hans h1 h2
    have it8 : Int32.ofNat it < 8 := (own_Nlt (b := 8) (by omega) (by omega)).mpr (by omega)
    have hi1 : (Int32.ofNat hi - 1).toInt = (hi : Int) - 1 := by rw [sub_int (by rw [own_Nt (by omega), c1]; omega) (by rw [own_Nt (by omega), c1]; omega), own_Nt (by omega), c1]
    have cmp : (Int32.ofNat hi - 1 < Int32.ofNat lo) ↔ hi ≤ lo := by
      rw [Int32.lt_iff_toInt_lt, hi1, own_Nt (by omega)]; omega
    by_cases hc : hi ≤ lo
    · have : lo = hi := by omega
      subst this
      refine L_findLeafPos_15 o6 (fun h => absurd it8 h) (fun _ _ => K ans (by split at hans <;> omega) (fun p hp h0 => h1 p (by split at hans <;> omega)) (fun p hp hpT => h2 p (by split at hans <;> omega) hpT)) (fun _ h => absurd (cmp.mpr hc) h) (fun _ h => absurd (cmp.mpr hc) h) (fun _ h => absurd (cmp.mpr hc) h)
    · have es : Int32.ofNat lo + (Int32.ofNat hi - 1) = Int32.ofNat (lo + hi - 1) := by
        rw [own_Nsub1 (by omega) (by omega), own_Nadd, show lo + (hi - 1) = lo + hi - 1 by omega]
      generalize hm : (lo + hi - 1) / 2 = mid
      have eu : XT.ushr (Int32.ofNat lo + (Int32.ofNat hi - 1)) 1 = Int32.ofNat mid := by rw [es, own_half (by omega), hm]
      have m1 : lo ≤ mid := by omega
      have m2 : mid < hi := by omega
      have ea : Int32.ofNat mid &&& 31 = Int32.ofNat mid := own_N31 (by omega)
      have mT : mid < T.length := by omega
      have ek : mi 1 ((mi 5 (Int32.ofNat mid).toNatClampNeg * 4).toNatClampNeg) = kf mid := by
        rw [own_Nc (by omega), R.idx mid mT, own_Nmul4, own_Nc (by have := R.l32 mT; omega)]; exact hk mid mT
      refine L_findLeafPos_15 o6 (fun h => absurd it8 h) (fun _ h => absurd (cmp.mp h) hc) (fun _ _ => ?_) (fun _ _ => ?_) ?_
      · rw [eu, ea]; exact own_Ninb (by omega) (by omega)
      · rw [eu, ea, own_Nc (by omega), R.idx mid mT, own_Nmul4]; exact own_Ninb (by have := R.l32 mT; omega) (by omega)
      · intro _ _ v3 e3 v4 e4 v5 e5
        rw [eu, ea, ek] at e3 e4 e5
        rw [eu, own_Nadd1]
        have pw : 2 ^ (f + 1) = 2 * 2 ^ f := by rw [Nat.pow_succ]; omega
        by_cases q : x < kf mid
        · rw [if_pos q] at e3 e4 e5
          rw [e3, e4, e5]
          refine ih lo mid ans (it + 1) _ (One.val rfl) (by omega) (by omega) m1 (by omega) hans h1 (fun p hp hpT => ?_)
          by_cases w : p = mid
          · subst w; exact q
          · exact Int32.lt_trans q (mono mid p (by omega) hpT)
        · rw [if_neg q] at e3 e4 e5
          rw [own_Nadd1] at e3
          rw [e3, e4, e5]
          refine ih (mid + 1) hi mid (it + 1) _ (One.val rfl) (by omega) (by omega) (by omega) hhi (by simp) (fun p hp hlt => ?_) h2
          by_cases w : p = mid
          · subst w; exact q hlt
          · exact q (Int32.lt_trans hlt (mono p mid (by omega) mT))
theorem own_findLeafPos {Q : Option Value → EMem → Prop} (x : Int32) (mi : Nat → Nat → Int32) (ml : Nat → Nat → Int64) (T : own_Tr) (fr : List Nat) (R : own_R mi T fr) (kf : Nat → Int32) (hk : ∀ p (h : p < T.length), mi 1 (T[p].1 * 4) = kf p) (mono : ∀ p q, p < q → q < T.length → kf p < kf q) (hN : 0 < T.length)
    (K : ∀ pos, pos < T.length → (∀ p, p ≤ pos → p ≠ 0 → ¬ x < kf p) → (∀ p, pos < p → p < T.length → x < kf p) → Q (some (.int (Int32.ofNat pos))) (LL1, mi, ml, RR1)) :
    W_findLeafPos 0 [.val (.ref 0), .val (.int x), .unset, .unset, .unset, .unset, .unset] [] (LL1, mi, ml, RR1) Q := by
  have := R.tot
  refine L_findLeafPos_0 ?_
  rw [R.nl]
  exact own_flp1 x mi ml T fr R kf hk mono hN K 8 0 T.length 0 0 .unset One.u rfl (by simp; omega) (by omega) (Nat.le_refl _) rfl (fun p hp => absurd hp (by omega)) (fun p h1 h2 => absurd h1 (by omega))

def own_hs (s x : Int32) : Int32 := ((((((((x ^^^ s) &&& (65535 : Int32)) * (40507 : Int32)) &&& (65535 : Int32)) ^^^ (XT.ushr ((((x ^^^ s) &&& (65535 : Int32)) * (40507 : Int32)) &&& (65535 : Int32)) (7 : Int32))) * (23505 : Int32)) &&& (65535 : Int32)) ^^^ (XT.ushr (((((((x ^^^ s) &&& (65535 : Int32)) * (40507 : Int32)) &&& (65535 : Int32)) ^^^ (XT.ushr ((((x ^^^ s) &&& (65535 : Int32)) * (40507 : Int32)) &&& (65535 : Int32)) (7 : Int32))) * (23505 : Int32)) &&& (65535 : Int32)) (9 : Int32)))
theorem S_hash {x1 : Int32} {mi : Nat → Nat → Int32} {ml : Nat → Nat → Int64} {Q : Option Value → EMem → Prop} (h : Q (some (.int (own_hs (mi 0 29) x1))) (LL1, mi, ml, RR1)) : W_hash 0 [.val (.ref 0), .val (.int x1), .unset] [] (LL1, mi, ml, RR1) Q := L_hash_0 h
/-- an entry as it may be held -/
abbrev own_G (sd : Int32) (e : own_Ent) : Prop :=
  (¬ e.2.1 < 0) ∧ (¬ 65535 < e.2.1) ∧ (e.1 = own_hs sd e.2.1) ∧ (¬ e.2.2 < 1)
theorem own_G.nm0 {sd : Int32} {e : own_Ent} (self : own_G sd e) : ¬ e.2.1 < 0 := self.1
theorem own_G.nm1 {sd : Int32} {e : own_Ent} (self : own_G sd e) : ¬ 65535 < e.2.1 := self.2.1
theorem own_G.hh {sd : Int32} {e : own_Ent} (self : own_G sd e) : e.1 = own_hs sd e.2.1 := self.2.2.1
theorem own_G.ino {sd : Int32} {e : own_Ent} (self : own_G sd e) : ¬ e.2.2 < 1 := self.2.2.2
/-- a directory: what it holds, its size, and its streams -/
abbrev own_D (mi : Nat → Nat → Int32) (T : own_Tr) (fr : List Nat) (E : List own_Ent) (sd : Int32) (cp : Nat) (op ck : Nat → Int32) : Prop :=
  (own_R mi T fr) ∧ (own_fl T = E) ∧ (∀ p (h : p < T.length), 0 < T[p].2.length) ∧ (own_Sd E) ∧ (∀ e ∈ E, own_G sd e) ∧ (mi 0 33 = Int32.ofNat E.length) ∧ (mi 0 31 = Int32.ofNat cp) ∧ (cp ≤ 32) ∧ (E.length ≤ cp) ∧ (mi 0 29 = sd) ∧ (∀ k, k < 4 → mi 7 k = op k) ∧ (∀ k, k < 4 → mi 8 k = ck k)
theorem own_D.R {mi : Nat → Nat → Int32} {T : own_Tr} {fr : List Nat} {E : List own_Ent} {sd : Int32} {cp : Nat} {op ck : Nat → Int32} (self : own_D mi T fr E sd cp op ck) : own_R mi T fr := self.1
theorem own_D.fl {mi : Nat → Nat → Int32} {T : own_Tr} {fr : List Nat} {E : List own_Ent} {sd : Int32} {cp : Nat} {op ck : Nat → Int32} (self : own_D mi T fr E sd cp op ck) : own_fl T = E := self.2.1
theorem own_D.ne {mi : Nat → Nat → Int32} {T : own_Tr} {fr : List Nat} {E : List own_Ent} {sd : Int32} {cp : Nat} {op ck : Nat → Int32} (self : own_D mi T fr E sd cp op ck) : ∀ p (h : p < T.length), 0 < T[p].2.length := self.2.2.1
theorem own_D.srt {mi : Nat → Nat → Int32} {T : own_Tr} {fr : List Nat} {E : List own_Ent} {sd : Int32} {cp : Nat} {op ck : Nat → Int32} (self : own_D mi T fr E sd cp op ck) : own_Sd E := self.2.2.2.1
theorem own_D.gd {mi : Nat → Nat → Int32} {T : own_Tr} {fr : List Nat} {E : List own_Ent} {sd : Int32} {cp : Nat} {op ck : Nat → Int32} (self : own_D mi T fr E sd cp op ck) : ∀ e ∈ E, own_G sd e := self.2.2.2.2.1
theorem own_D.size {mi : Nat → Nat → Int32} {T : own_Tr} {fr : List Nat} {E : List own_Ent} {sd : Int32} {cp : Nat} {op ck : Nat → Int32} (self : own_D mi T fr E sd cp op ck) : mi 0 33 = Int32.ofNat E.length := self.2.2.2.2.2.1
theorem own_D.cap {mi : Nat → Nat → Int32} {T : own_Tr} {fr : List Nat} {E : List own_Ent} {sd : Int32} {cp : Nat} {op ck : Nat → Int32} (self : own_D mi T fr E sd cp op ck) : mi 0 31 = Int32.ofNat cp := self.2.2.2.2.2.2.1
theorem own_D.cp32 {mi : Nat → Nat → Int32} {T : own_Tr} {fr : List Nat} {E : List own_Ent} {sd : Int32} {cp : Nat} {op ck : Nat → Int32} (self : own_D mi T fr E sd cp op ck) : cp ≤ 32 := self.2.2.2.2.2.2.2.1
theorem own_D.ecp {mi : Nat → Nat → Int32} {T : own_Tr} {fr : List Nat} {E : List own_Ent} {sd : Int32} {cp : Nat} {op ck : Nat → Int32} (self : own_D mi T fr E sd cp op ck) : E.length ≤ cp := self.2.2.2.2.2.2.2.2.1
theorem own_D.seed {mi : Nat → Nat → Int32} {T : own_Tr} {fr : List Nat} {E : List own_Ent} {sd : Int32} {cp : Nat} {op ck : Nat → Int32} (self : own_D mi T fr E sd cp op ck) : mi 0 29 = sd := self.2.2.2.2.2.2.2.2.2.1
theorem own_D.op {mi : Nat → Nat → Int32} {T : own_Tr} {fr : List Nat} {E : List own_Ent} {sd : Int32} {cp : Nat} {op ck : Nat → Int32} (self : own_D mi T fr E sd cp op ck) : ∀ k, k < 4 → mi 7 k = op k := self.2.2.2.2.2.2.2.2.2.2.1
theorem own_D.ck {mi : Nat → Nat → Int32} {T : own_Tr} {fr : List Nat} {E : List own_Ent} {sd : Int32} {cp : Nat} {op ck : Nat → Int32} (self : own_D mi T fr E sd cp op ck) : ∀ k, k < 4 → mi 8 k = ck k := self.2.2.2.2.2.2.2.2.2.2.2
def own_kf (T : own_Tr) (p : Nat) : Int32 := if h : p < T.length then (if h2 : 0 < T[p].2.length then (T[p].2[0]).1 else 0) else 0
theorem own_kf_at {T : own_Tr} {p : Nat} (h : p < T.length) (h2 : 0 < T[p].2.length) : own_kf T p = (T[p].2[0]).1 := by simp [own_kf, h, h2]
/-- the leaf where a hash belongs -/
theorem own_D.flp {mi : Nat → Nat → Int32} {T : own_Tr} {fr : List Nat} {E : List own_Ent} {sd : Int32} {cp : Nat} {op ck : Nat → Int32} (D : own_D mi T fr E sd cp op ck) {Q : Option Value → EMem → Prop} (x : Int32) (ml : Nat → Nat → Int64) (hN : 0 < T.length)
    (K : ∀ pos (h : pos < T.length), (∀ p (hp : p < T.length) s (hs : s < T[p].2.length), p < pos → (T[p].2[s]).1 < x) → (pos ≠ 0 → ¬ x < (T[pos].2[0]'(D.ne pos h)).1) → (∀ p (hp : p < T.length) s (hs : s < T[p].2.length), pos < p → x < (T[p].2[s]).1) → Q (some (.int (Int32.ofNat pos))) (LL1, mi, ml, RR1)) :
    W_findLeafPos 0 [.val (.ref 0), .val (.int x), .unset, .unset, .unset, .unset, .unset] [] (LL1, mi, ml, RR1) Q := by
  have S : own_Sd (own_fl T) := by rw [D.fl]; exact D.srt
  have mono : ∀ p q, p < q → q < T.length → own_kf T p < own_kf T q := fun p q h hq => by
    rw [own_kf_at (by omega) (D.ne p (by omega)), own_kf_at hq (D.ne q hq)]
    exact own_srt S (by omega) hq (D.ne p (by omega)) (D.ne q hq) (Or.inl h)
  refine own_findLeafPos x mi ml T fr D.R (own_kf T) (fun p h => ?_) mono hN (fun pos hp h1 h2 => K pos hp (fun p hp' s hs hlt => ?_) (fun h0 => ?_) (fun p hp' s hs hlt => ?_))
  · rw [own_kf_at h (D.ne p h)]
    exact (D.R.ent p h 0 (D.ne p h)).1
  · have a := own_srt S hp' hp hs (D.ne pos hp) (Or.inl hlt)
    have b := h1 pos (Nat.le_refl _) (by omega)
    rw [own_kf_at hp (D.ne pos hp)] at b
    rw [Int32.lt_iff_toInt_lt] at *
    omega
  · have b := h1 pos (Nat.le_refl _) h0
    rw [own_kf_at hp (D.ne pos hp)] at b
    exact b
  · have b := h2 p hlt hp'
    rw [own_kf_at hp' (D.ne p hp')] at b
    by_cases q : s = 0
    · subst q; exact b
    · exact Int32.lt_trans b (own_srt S hp' hp' (D.ne p hp') hs (Or.inr ⟨rfl, by omega⟩))
theorem own_loc1 {Q : Option Value → EMem → Prop} (x : Int32) (mi : Nat → Nat → Int32) (ml : Nat → Nat → Int64) (T : own_Tr) (fr : List Nat) (R : own_R mi T fr) (pos : Nat) (hp : pos < T.length)
    (K1 : (∀ s (hs : s < T[pos].2.length), ¬ (T[pos].2[s]).1 = x) → Q (some (.int (-1))) (LL1, mi, ml, RR1)) (K2 : ∀ s (hs : s < T[pos].2.length), (T[pos].2[s]).1 = x → Q (some (.int (Int32.ofNat (pos * 4 + s)))) (LL1, mi, ml, RR1)) :
    ∀ (f s : Nat), s + f = T[pos].2.length → (∀ j (hj : j < T[pos].2.length), j < s → ¬ (T[pos].2[j]).1 = x) →
    W_locate 38 [.val (.ref 0), .val (.int x), .val (.int (Int32.ofNat pos)), .val (.int (Int32.ofNat T[pos].1)), .val (.int (Int32.ofNat (T[pos].1 * 4))), .val (.int (Int32.ofNat T[pos].2.length)), .val (.int (Int32.ofNat s))] [] (LL1, mi, ml, RR1) Q := by
  have l32 := R.l32 hp
  have l4 := R.l4 pos hp
  have t32 := R.tot
  intro f
  induction f with
  | zero =>
    intro s hs hI
    have nlt : ¬ Int32.ofNat s < Int32.ofNat T[pos].2.length := by rw [own_Nlt (by omega) (by omega)]; omega
    exact L_locate_38 (fun _ => K1 (fun j hj => hI j hj (by omega))) (fun h => absurd h nlt) (fun h => absurd h nlt) (fun h => absurd h nlt) (fun h => absurd h nlt)
  | succ f ih =>
    intro s hs hI
    have lt : Int32.ofNat s < Int32.ofNat T[pos].2.length := by rw [own_Nlt (by omega) (by omega)]; omega
    have lt4 : Int32.ofNat s < 4 := (own_Nlt (b := 4) (by omega) (by omega)).mpr (by omega)
    have e : mi 1 (T[pos].1 * 4 + s) = (T[pos].2[s]'(by omega)).1 := (R.ent pos hp s (by omega)).1
    refine L_locate_38 (fun h => absurd lt h) (fun _ h => absurd lt4 h) (fun _ _ => ?_) (fun _ _ h => ?_) (fun _ _ h => ?_)
    · rw [own_Nadd]; exact own_Ninb (by omega) (by omega)
    · rw [own_Nadd, own_Nc (by omega), e] at h
      rw [own_Nadd1]
      refine ih (s + 1) (by omega) (fun j hj hlt => ?_)
      by_cases q : j = s
      · subst q; exact h
      · exact hI j hj (by omega)
    · rw [own_Nadd, own_Nc (by omega), e] at h
      rw [own_Nmul4, own_Nadd]
      exact K2 s (by omega) h
theorem own_D.locate {mi : Nat → Nat → Int32} {T : own_Tr} {fr : List Nat} {E : List own_Ent} {sd : Int32} {cp : Nat} {op ck : Nat → Int32} (D : own_D mi T fr E sd cp op ck) {Q : Option Value → EMem → Prop} (x : Int32) (ml : Nat → Nat → Int64)
    (K1 : (∀ e ∈ E, ¬ e.1 = x) → Q (some (.int (-1))) (LL1, mi, ml, RR1)) (K2 : ∀ p (hp : p < T.length) s (hs : s < T[p].2.length), (T[p].2[s]).1 = x → Q (some (.int (Int32.ofNat (p * 4 + s)))) (LL1, mi, ml, RR1)) :
    W_locate 0 [.val (.ref 0), .val (.int x), .unset, .unset, .unset, .unset, .unset] [] (LL1, mi, ml, RR1) Q := by
  have t32 := D.R.tot
  refine L_locate_0 (fun h => ?_) (fun h => K1 (fun e he => ?_))
  · rw [D.R.nl] at h
    have hN : 0 < T.length := (own_Nlt (a := 0) (by omega) (by omega)).mp h
    refine D.flp x ml hN (fun pos hp h1 h2 h3 => ?_)
    have l32 := D.R.l32 hp
    refine L_locate_14 (own_Ninb (by omega) (by omega)) ?_ ?_
    · rw [own_Nc (by omega), D.R.idx pos hp]; exact own_Ninb (by omega) (by omega)
    · rw [own_Nc (by omega), D.R.idx pos hp, own_Nc (by omega), D.R.len pos hp, own_Nmul4]
      refine own_loc1 x mi ml T fr D.R pos hp (fun hno => K1 (fun e he heq => ?_)) (fun s hs he => K2 pos hp s hs he) T[pos].2.length 0 (by omega) (fun j _ hj => absurd hj (by omega))
      rw [← D.fl, own_fl_mem] at he
      obtain ⟨p, hp', s, hs, rfl⟩ := he
      rcases Nat.lt_trichotomy p pos with q | q | q
      · have := h1 p hp' s hs q
        rw [heq] at this
        exact Int32.lt_irrefl this
      · subst q; exact hno s hs heq
      · have := h3 p hp' s hs q
        rw [heq] at this
        exact Int32.lt_irrefl this
  · rw [D.R.nl] at h
    have hN : T.length = 0 := by
      by_cases q : 0 < T.length
      · exact absurd ((own_Nlt (a := 0) (by omega) (by omega)).mpr q) h
      · omega
    rw [← D.fl, own_fl_mem] at he
    obtain ⟨p, hp, -⟩ := he
    omega
/-- where an entry lies -/
theorem own_R.slot {mi : Nat → Nat → Int32} {T : own_Tr} {fr : List Nat} (R : own_R mi T fr) {p s : Nat} (hp : p < T.length) (hs : s < T[p].2.length) :
    ¬ Int32.ofNat (p * 4 + s) < 0 ∧ inb (XT.ushr (Int32.ofNat (p * 4 + s)) 2 &&& 31) 32 = true ∧ XT.ushr (Int32.ofNat (p * 4 + s)) 2 &&& 31 = Int32.ofNat p ∧ (mi 5 (XT.ushr (Int32.ofNat (p * 4 + s)) 2 &&& 31).toNatClampNeg) * 4 + (Int32.ofNat (p * 4 + s) &&& 3) = Int32.ofNat (T[p].1 * 4 + s) ∧ T[p].1 * 4 + s < 128 := by
  have l32 := R.l32 hp
  have l4 := R.l4 p hp
  have t32 := R.tot
  obtain ⟨e1, e2⟩ := own_pk (pos := p) (s := s) (by omega) (by omega)
  refine ⟨own_Nnn (by omega), by rw [e1]; exact own_Ninb (by omega) (by omega), e1, ?_, by omega⟩
  rw [e1, own_Nc (by omega), R.idx p hp, own_Nmul4, e2, own_Nadd]
theorem own_name {x : Int32} {v : Int32} (e : v = if x < 0 then 0 else if 65535 < x then 0 else 1) : (v &&& 1 = 0) ↔ (x < 0 ∨ 65535 < x) := by
  have : v = 0 ∨ v = 1 := by grind
  rw [and1 this]
  grind
theorem own_D.lookup {mi : Nat → Nat → Int32} {T : own_Tr} {fr : List Nat} {E : List own_Ent} {sd : Int32} {cp : Nat} {op ck : Nat → Int32} (D : own_D mi T fr E sd cp op ck) {Q : Option Value → EMem → Prop} (x : Int32) (ml : Nat → Nat → Int64)
    (K1 : (x < 0 ∨ 65535 < x) ∨ (∀ e ∈ E, ¬ e.1 = own_hs sd x) → Q (some (.int 0)) (LL1, mi, ml, RR1)) (K2 : ¬ (x < 0 ∨ 65535 < x) → ∀ e ∈ E, e.1 = own_hs sd x → Q (some (.int e.2.2)) (LL1, mi, ml, RR1)) :
    W_lookup 0 [.val (.ref 0), .val (.int x), .unset, .unset] [] (LL1, mi, ml, RR1) Q := by
  refine L_lookup_0 (fun v e h => ?_) (fun v e h => K1 (Or.inl ((own_name e).mp h)))
  have hn : ¬ (x < 0 ∨ 65535 < x) := fun q => h ((own_name e).mpr q)
  refine S_hash ?_
  rw [D.seed]
  refine L_lookup_15 ?_
  refine D.locate _ ml (fun hno => ?_) (fun p hp s hs he => ?_)
  · exact L_lookup_21 (fun h => absurd (by decide) h) (fun h => absurd (by decide) h) (fun h => absurd (by decide) h) (fun _ => K1 (Or.inr hno))
  · obtain ⟨a1, a2, a3, a4, a5⟩ := D.R.slot hp hs
    refine L_lookup_21 (fun _ => a2) (fun _ => ?_) (fun _ => ?_) (fun h => absurd h a1)
    · rw [a4]; exact own_Ninb a5 (by omega)
    · rw [a4, own_Nc (by omega), (D.R.ent p hp s hs).2.2]
      exact K2 hn _ (by rw [← D.fl, own_fl_mem]; exact ⟨p, hp, s, hs, rfl⟩) he
theorem own_D.nameWithHash {mi : Nat → Nat → Int32} {T : own_Tr} {fr : List Nat} {E : List own_Ent} {sd : Int32} {cp : Nat} {op ck : Nat → Int32} (D : own_D mi T fr E sd cp op ck) {Q : Option Value → EMem → Prop} (x : Int32) (ml : Nat → Nat → Int64)
    (K1 : (x < 0 ∨ 65535 < x) ∨ (∀ e ∈ E, ¬ e.1 = x) → Q (some (.int (-1))) (LL1, mi, ml, RR1)) (K2 : ¬ (x < 0 ∨ 65535 < x) → ∀ e ∈ E, e.1 = x → Q (some (.int e.2.1)) (LL1, mi, ml, RR1)) :
    W_nameWithHash 0 [.val (.ref 0), .val (.int x), .unset] [] (LL1, mi, ml, RR1) Q := by
  refine L_nameWithHash_0 (fun h => K1 (Or.inl (Or.inl h))) (fun h1 h2 => ?_) (fun _ h => K1 (Or.inl (Or.inr h)))
  refine D.locate _ ml (fun hno => ?_) (fun p hp s hs he => ?_)
  · exact L_nameWithHash_17 (fun h => absurd (by decide) h) (fun h => absurd (by decide) h) (fun h => absurd (by decide) h) (fun _ => K1 (Or.inr hno))
  · obtain ⟨a1, a2, a3, a4, a5⟩ := D.R.slot hp hs
    refine L_nameWithHash_17 (fun _ => a2) (fun _ => ?_) (fun _ => ?_) (fun h => absurd h a1)
    · rw [a4]; exact own_Ninb a5 (by omega)
    · rw [a4, own_Nc (by omega), (D.R.ent p hp s hs).2.1]
      exact K2 (fun q => q.elim h1 h2) _ (by rw [← D.fl, own_fl_mem]; exact ⟨p, hp, s, hs, rfl⟩) he

theorem own_fl_take {T : own_Tr} {p : Nat} (h : p < T.length) : own_fl (T.take (p + 1)) = own_fl (T.take p) ++ T[p].2 := by
  rw [List.take_succ_eq_append_getElem h]
  simp only [own_fl, List.flatMap_append, List.flatMap_cons, List.flatMap_nil, List.append_nil]
/-- how many hashes lie below x -/
def own_cl (E : List own_Ent) (x : Int32) : Nat := (E.filter (fun e => decide (e.1 < x))).length
theorem own_cl_app (A B : List own_Ent) (x : Int32) : own_cl (A ++ B) x = own_cl A x + own_cl B x := by simp [own_cl]
theorem own_cl_all {A : List own_Ent} {x : Int32} (h : ∀ e ∈ A, e.1 < x) : own_cl A x = A.length := by
  unfold own_cl
  rw [List.filter_eq_self.mpr (fun e he => by simpa using h e he)]
theorem own_cl_none {A : List own_Ent} {x : Int32} (h : ∀ e ∈ A, ¬ e.1 < x) : own_cl A x = 0 := by
  unfold own_cl
  rw [List.filter_eq_nil_iff.mpr (fun e he => by simpa using h e he)]; rfl
theorem own_cl_le (E : List own_Ent) (x : Int32) : own_cl E x ≤ E.length := List.length_filter_le _ _
theorem own_fl_len {T : own_Tr} (h4 : ∀ p (h : p < T.length), T[p].2.length ≤ 4) : (own_fl T).length ≤ T.length * 4 := by
  induction T with
  | nil => simp [own_fl]
  | cons a T ih =>
    have := ih (fun p h => h4 (p + 1) (by simp; omega))
    have h0 := h4 0 (by simp)
    simp [own_fl] at *
    omega
theorem own_nar1 {Q : Option Value → EMem → Prop} (x1 : Int32) (mi : Nat → Nat → Int32) (ml : Nat → Nat → Int64) (T : own_Tr) (fr : List Nat) (R : own_R mi T fr) (k : Nat) (hk : k < (own_fl T).length)
    (K : Q (some (.int ((own_fl T)[k]).2.1)) (LL1, mi, ml, RR1)) :
    ∀ (f p : Nat) (s4 s5 : Slot), One s4 → One s5 → p + f = T.length → (own_fl (T.take p)).length ≤ k →
    W_nameAtRank 18 [.val (.ref 0), .val (.int x1), .val (.int (Int32.ofNat (k - (own_fl (T.take p)).length))), .val (.int (Int32.ofNat p)), s4, s5] [] (LL1, mi, ml, RR1) Q := by
  have t32 := R.tot
  have kb := own_fl_len R.l4
  intro f
  induction f with
  | zero =>
    intro p s4 s5 o4 o5 hp hle
    have : p = T.length := by omega
    subst this
    rw [List.take_length] at hle
    omega
  | succ f ih =>
    intro p s4 s5 o4 o5 hp hle
    have pT : p < T.length := by omega
    have l32 := R.l32 pT
    have l4 := R.l4 p pT
    have lt : Int32.ofNat p < mi 0 35 := by rw [R.nl]; exact (own_Nlt (by omega) (by omega)).mpr pT
    have lt32 : Int32.ofNat p < 32 := (own_Nlt (b := 32) (by omega) (by omega)).mpr (by omega)
    have ex : mi 4 (mi 5 (Int32.ofNat p).toNatClampNeg).toNatClampNeg = Int32.ofNat T[p].2.length := by
      rw [own_Nc (by omega), R.idx p pT, own_Nc (by omega), R.len p pT]
    have ei : mi 5 (Int32.ofNat p).toNatClampNeg = Int32.ofNat T[p].1 := by rw [own_Nc (by omega), R.idx p pT]
    refine L_nameAtRank_18 o4 o5 (fun h => absurd lt h) (fun _ h => absurd lt32 h) (fun _ _ => own_Ninb (by omega) (by omega)) (fun _ _ => ?_) (fun _ _ h => ?_) (fun _ _ h => ?_) (fun _ _ h => ?_)
    · rw [ei]; exact own_Ninb (by omega) (by omega)
    · rw [ex, own_Nlt (by omega) (by omega)] at h
      rw [ex, own_Nsub (by omega) (by omega), own_Nadd1]
      have := ih (p + 1) (.val (.int (mi 5 (Int32.ofNat p).toNatClampNeg))) (.val (.int (Int32.ofNat T[p].2.length))) (One.val rfl) (One.val rfl) (by omega) (by rw [own_fl_take pT, List.length_append]; omega)
      rw [own_fl_take pT, List.length_append] at this
      rw [show k - (own_fl (T.take p)).length - T[p].2.length = k - ((own_fl (T.take p)).length + T[p].2.length) by omega]
      exact this
    · rw [ex, own_Nlt (by omega) (by omega)] at h
      rw [ei, own_Nmul4, own_Nadd]; exact own_Ninb (by omega) (by omega)
    · rw [ex, own_Nlt (by omega) (by omega)] at h
      rw [ei, own_Nmul4, own_Nadd, own_Nc (by omega), (R.ent p pT _ h).2.1]
      have : (own_fl T)[k] = T[p].2[k - (own_fl (T.take p)).length] := by
        have e := own_fl_at pT
        have : (own_fl T)[k]? = some (T[p].2[k - (own_fl (T.take p)).length]) := by
          rw [e, List.append_assoc, List.getElem?_append_right hle, List.getElem?_append_left h, List.getElem?_eq_getElem h]
        rw [List.getElem?_eq_getElem hk] at this
        exact Option.some.inj this
      rw [← this]; exact K
theorem own_D.nameAtRank {mi : Nat → Nat → Int32} {T : own_Tr} {fr : List Nat} {E : List own_Ent} {sd : Int32} {cp : Nat} {op ck : Nat → Int32} (D : own_D mi T fr E sd cp op ck) {Q : Option Value → EMem → Prop} (x : Int32) (ml : Nat → Nat → Int64)
    (K1 : (x < 0 ∨ ¬ x < Int32.ofNat E.length) → Q (some (.int (-1))) (LL1, mi, ml, RR1)) (K2 : ∀ k (hk : k < E.length), x = Int32.ofNat k → Q (some (.int (E[k]).2.1)) (LL1, mi, ml, RR1)) :
    W_nameAtRank 0 [.val (.ref 0), .val (.int x), .unset, .unset, .unset, .unset] [] (LL1, mi, ml, RR1) Q := by
  have t32 := D.cp32
  have t33 := D.ecp
  refine L_nameAtRank_0 (fun h => K1 (Or.inl h)) (fun h1 h2 => ?_) (fun h1 h2 => K1 (Or.inr (by rw [D.size] at h2; exact h2)))
  rw [D.size] at h2
  have x0 := nn_int h1
  have x1 := lt_int h2
  rw [own_Nt (by omega)] at x1
  have ex : x = Int32.ofNat x.toInt.toNat := by
    apply Int32.toInt_inj.mp
    rw [own_Nt (by omega)]; omega
  have hk : x.toInt.toNat < E.length := by omega
  have K3 := K2 _ hk ex
  generalize x.toInt.toNat = k at *
  subst ex
  have fl := D.fl
  have hk' : k < (own_fl T).length := by rw [fl]; exact hk
  refine own_nar1 _ mi ml T fr D.R k hk' ?_ T.length 0 .unset .unset One.u One.u (by omega) (by simp [own_fl])
  have : (own_fl T)[k] = E[k] := by simp [fl]
  rw [this]; exact K3

theorem own_D.st {mi mi' : Nat → Nat → Int32} {T : own_Tr} {fr : List Nat} {E : List own_Ent} {sd : Int32} {cp : Nat} {op ck op' ck' : Nat → Int32} (D : own_D mi T fr E sd cp op ck)
    (f : ∀ b k, b ≠ 7 → b ≠ 8 → mi' b k = mi b k) (ho : ∀ k, k < 4 → mi' 7 k = op' k) (hc : ∀ k, k < 4 → mi' 8 k = ck' k) : own_D mi' T fr E sd cp op' ck' := by
  have R := D.R
  refine ⟨⟨?_, fun p h => ?_, fun p h => ?_, R.l4, fun p h s hs => ?_, ?_, fun k h => ?_, R.nd, R.lt, R.tot⟩, D.fl, D.ne, D.srt, D.gd, ?_, ?_, D.cp32, D.ecp, ?_, ho, hc⟩
  · rw [f _ _ (by decide) (by decide)]; exact R.nl
  · rw [f _ _ (by decide) (by decide)]; exact R.idx p h
  · rw [f _ _ (by decide) (by decide)]; exact R.len p h
  · rw [f _ _ (by decide) (by decide), f _ _ (by decide) (by decide), f _ _ (by decide) (by decide)]; exact R.ent p h s hs
  · rw [f _ _ (by decide) (by decide)]; exact R.ft
  · rw [f _ _ (by decide) (by decide)]; exact R.fs k h
  · rw [f _ _ (by decide) (by decide)]; exact D.size
  · rw [f _ _ (by decide) (by decide)]; exact D.cap
  · rw [f _ _ (by decide) (by decide)]; exact D.seed
def own_set (f : Nat → Int32) (k : Nat) (v : Int32) : Nat → Int32 := fun j => if j = k then v else f j
theorem own_D.ckSet {mi : Nat → Nat → Int32} {T : own_Tr} {fr : List Nat} {E : List own_Ent} {sd : Int32} {cp : Nat} {op ck : Nat → Int32} (D : own_D mi T fr E sd cp op ck) (k : Nat) (v : Int32) : own_D (up mi 8 k v) T fr E sd cp op (own_set ck k v) := by
  refine D.st (fun b j _ h => by rw [up_ne h]) (fun j hj => by rw [up_ne (by decide)]; exact D.op j hj) (fun j hj => ?_)
  rw [up_at, own_set]
  by_cases q : j = k
  · rw [if_pos ⟨rfl, q⟩, if_pos q]
  · rw [if_neg (fun z => q z.2), if_neg q]; exact D.ck j hj
theorem own_D.opSet {mi : Nat → Nat → Int32} {T : own_Tr} {fr : List Nat} {E : List own_Ent} {sd : Int32} {cp : Nat} {op ck : Nat → Int32} (D : own_D mi T fr E sd cp op ck) (k : Nat) (v : Int32) : own_D (up mi 7 k v) T fr E sd cp (own_set op k v) ck := by
  refine D.st (fun b j h _ => by rw [up_ne h]) (fun j hj => ?_) (fun j hj => by rw [up_ne (by decide)]; exact D.ck j hj)
  rw [up_at, own_set]
  by_cases q : j = k
  · rw [if_pos ⟨rfl, q⟩, if_pos q]
  · rw [if_neg (fun z => q z.2), if_neg q]; exact D.op j hj
/-- a handle that is no open stream's -/
def own_noH (op : Nat → Int32) (h : Int32) : Prop := ∀ k, k < 4 → h = Int32.ofNat k → op k = 0
/-- the entry in a slot -/
def own_sl (m : Nat → Nat → Int32) (k : Nat) : own_Ent := (m 1 k, m 2 k, m 3 k)
theorem own_R.sl {mi : Nat → Nat → Int32} {T : own_Tr} {fr : List Nat} (R : own_R mi T fr) {p s : Nat} (hp : p < T.length) (hs : s < T[p].2.length) : own_sl mi (T[p].1 * 4 + s) = T[p].2[s] := by
  obtain ⟨a, b, c⟩ := R.ent p hp s hs
  unfold own_sl
  rw [a, b, c]
theorem own_sl_copy (m : Nat → Nat → Int32) (a b k : Nat) : own_sl (up (up (up m 1 b (m 1 a)) 2 b (m 2 a)) 3 b (m 3 a)) k = if k = b then own_sl m a else own_sl m k := by
  unfold own_sl
  rw [up_ne (by decide), up_ne (by decide), up_at, up_ne (by decide), up_at, up_ne (by decide), up_at, up_ne (by decide), up_ne (by decide)]
  by_cases q : k = b
  · simp [q]
  · simp [q]
theorem own_ar_copy (m : Nat → Nat → Int32) (b : Nat) {c : Nat} (k : Nat) (h1 : c ≠ 1) (h2 : c ≠ 2) (h3 : c ≠ 3) {u v w : Int32} : (up (up (up m 1 b u) 2 b v) 3 b w) c k = m c k := by
  rw [up_ne h3, up_ne h2, up_ne h1]
theorem own_set_map {T : own_Tr} {p : Nat} (h : p < T.length) (es : List own_Ent) : (T.set p (T[p].1, es)).map (·.1) = T.map (·.1) := by
  rw [List.map_set]
  have : T[p].1 = (T.map (·.1))[p]'(by simpa using h) := by simp
  rw [this, List.set_getElem_self]
theorem own_perm {T T' : own_Tr} {fr fr' : List Nat} (P : (T'.map (·.1) ++ fr').Perm (T.map (·.1) ++ fr)) {mi : Nat → Nat → Int32} (R : own_R mi T fr) : (T'.map (·.1) ++ fr').Nodup ∧ (∀ x ∈ T'.map (·.1) ++ fr', x < 32) ∧ T'.length + fr'.length = 32 := by
  refine ⟨P.nodup_iff.mpr R.nd, fun x hx => R.lt x (P.mem_iff.mp hx), ?_⟩
  have := P.length_eq
  simp at this
  rw [this]; exact R.tot
/-- one leaf's entries are new -/
theorem own_R.upd {mi m : Nat → Nat → Int32} {T : own_Tr} {fr : List Nat} (R : own_R mi T fr) {p : Nat} (h : p < T.length) (es : List own_Ent) (h4 : es.length ≤ 4)
    (f : ∀ b k, b ≠ 1 → b ≠ 2 → b ≠ 3 → b ≠ 4 → (b = 0 → k = 35 ∨ k = 37) → m b k = mi b k) (fl : ∀ k, k ≠ T[p].1 → m 4 k = mi 4 k) (ll : m 4 T[p].1 = Int32.ofNat es.length)
    (fs : ∀ k, (k < T[p].1 * 4 ∨ T[p].1 * 4 + 4 ≤ k) → own_sl m k = own_sl mi k) (ss : ∀ s (hs : s < es.length), own_sl m (T[p].1 * 4 + s) = es[s]) : own_R m (T.set p (T[p].1, es)) fr := by
  have e1 : ∀ q (hq : q < (T.set p (T[p].1, es)).length), (T.set p (T[p].1, es))[q].1 = (T[q]'(by simpa using hq)).1 := by
    intro q hq
    rw [List.getElem_set]
    by_cases w : p = q
    · subst w; simp
    · simp [w]
  obtain ⟨n1, n2, n3⟩ := own_perm (T' := T.set p (T[p].1, es)) (fr' := fr) (by rw [own_set_map h]) R
  refine ⟨?_, fun q hq => ?_, fun q hq => ?_, fun q hq => ?_, fun q hq s hs => ?_, ?_, fun k hk => ?_, n1, n2, n3⟩
  · rw [f _ _ (by decide) (by decide) (by decide) (by decide) (fun _ => Or.inl rfl), List.length_set]; exact R.nl
  · rw [f _ _ (by decide) (by decide) (by decide) (by decide) (fun w => absurd w (by decide)), e1 q hq]; exact R.idx q (by simpa using hq)
  · rw [e1 q hq]
    have hq' : q < T.length := by simpa using hq
    by_cases w : q = p
    · subst w
      rw [ll]; simp
    · rw [fl _ (fun z => w (R.inj hq' h z)), R.len q hq', List.getElem_set_ne (fun z => w z.symm)]
  · rw [List.getElem_set]
    by_cases w : p = q
    · rw [if_pos w]; exact h4
    · rw [if_neg w]; exact R.l4 q (by simpa using hq)
  · have hq' : q < T.length := by simpa using hq
    have key : own_sl m ((T.set p (T[p].1, es))[q].1 * 4 + s) = (T.set p (T[p].1, es))[q].2[s] := by
      rw [e1 q hq]
      by_cases w : p = q
      · subst w
        simp only [List.getElem_set_self] at hs ⊢
        exact ss s hs
      · have hs' : s < T[q].2.length := by
          rw [List.getElem_set_ne w] at hs; exact hs
        have l4 := R.l4 q hq'
        have ne : T[q].1 ≠ T[p].1 := fun z => w (R.inj hq' h z).symm
        rw [fs _ (by omega), R.sl hq' hs']
        simp [List.getElem_set_ne w]
    unfold own_sl at key
    rw [← key]
    exact ⟨rfl, rfl, rfl⟩
  · rw [f _ _ (by decide) (by decide) (by decide) (by decide) (fun _ => Or.inr rfl)]; exact R.ft
  · rw [f _ _ (by decide) (by decide) (by decide) (by decide) (fun w => absurd w (by decide))]; exact R.fs k hk
theorem own_iil1 {Q : Option Value → EMem → Prop} (x nm ino : Int32) (mi : Nat → Nat → Int32) (ml : Nat → Nat → Int64) (l : Nat) (l32 : l < 32) (es : List own_Ent) (h4 : es.length < 1) (hs0 : ∀ s (hs : s < es.length), own_sl mi (l * 4 + s) = es[s])
    (K : ∀ m j, j ≤ es.length → (∀ b k, b ≠ 1 → b ≠ 2 → b ≠ 3 → m b k = mi b k) → (∀ k, (k < l * 4 ∨ l * 4 + 4 ≤ k) → own_sl m k = own_sl mi k) → (∀ s (hs : s < es.length), s < j → own_sl m (l * 4 + s) = es[s]) → (∀ s (hs : s < es.length), j ≤ s → own_sl m (l * 4 + s + 1) = es[s] ∧ ¬ (es[s]).1 < x) → (∀ (hj : 0 < j) (h : j - 1 < es.length), (es[j - 1]).1 < x) →
      W_insertIntoLeaf 75 [.val (.ref 0), .val (.int (Int32.ofNat l)), .val (.int x), .val (.int nm), .val (.int ino), .val (.int (Int32.ofNat es.length)), .val (.int (Int32.ofNat (l * 4))), .val (.int (Int32.ofNat j))] [] (LL1, m, ml, RR1) Q) :
    ∀ (j : Nat) (m : Nat → Nat → Int32), j ≤ es.length → (∀ b k, b ≠ 1 → b ≠ 2 → b ≠ 3 → m b k = mi b k) → (∀ k, (k < l * 4 ∨ l * 4 + 4 ≤ k) → own_sl m k = own_sl mi k) → (∀ s (hs : s < es.length), s < j → own_sl m (l * 4 + s) = es[s]) → (∀ s (hs : s < es.length), j ≤ s → own_sl m (l * 4 + s + 1) = es[s] ∧ ¬ (es[s]).1 < x) →
    W_insertIntoLeaf 29 [.val (.ref 0), .val (.int (Int32.ofNat l)), .val (.int x), .val (.int nm), .val (.int ino), .val (.int (Int32.ofNat es.length)), .val (.int (Int32.ofNat (l * 4))), .val (.int (Int32.ofNat j))] [] (LL1, m, ml, RR1) Q := by
  intro j
  induction j with
  | zero =>
    intro m hj f1 f2 f3 f4
    have n0 : ¬ (0 : Int32) < Int32.ofNat 0 := by decide
    exact L_insertIntoLeaf_29 (fun _ => K m 0 hj f1 f2 f3 f4 (fun h => absurd h (by omega))) (fun h => absurd h n0) (fun h => absurd h n0) (fun h => absurd h n0)
  | succ j ih => intro m hj; omega
/-- a new entry goes into a leaf that has room -/
theorem own_R.iil {mi : Nat → Nat → Int32} {T : own_Tr} {fr : List Nat} (R : own_R mi T fr) {Q : Option Value → EMem → Prop} (x nm ino : Int32) (ml : Nat → Nat → Int64) {p : Nat} (h : p < T.length) (h4 : T[p].2.length < 1)
    (K : ∀ m j, j ≤ T[p].2.length → (∀ b k, b ≠ 1 → b ≠ 2 → b ≠ 3 → b ≠ 4 → m b k = mi b k) → own_R m (T.set p (T[p].1, T[p].2.take j ++ (x, nm, ino) :: T[p].2.drop j)) fr → (∀ s (hs : s < T[p].2.length), j ≤ s → ¬ (T[p].2[s]).1 < x) → (∀ (hj : 0 < j) (h' : j - 1 < T[p].2.length), (T[p].2[j - 1]).1 < x) → Q none (LL1, m, ml, RR1)) :
    W_insertIntoLeaf 0 [.val (.ref 0), .val (.int (Int32.ofNat T[p].1)), .val (.int x), .val (.int nm), .val (.int ino), .unset, .unset, .unset] [] (LL1, mi, ml, RR1) Q := by
  have l32 := R.l32 h
  have el : mi 4 (Int32.ofNat T[p].1).toNatClampNeg = Int32.ofNat T[p].2.length := by rw [own_Nc (by omega), R.len p h]
  have lt4 : Int32.ofNat T[p].2.length < 4 := (own_Nlt (b := 4) (by omega) (by omega)).mpr (by omega)
  refine L_insertIntoLeaf_0 (own_Ninb l32 (by omega)) (fun q => absurd (by rw [el]; exact lt4) q) (fun _ _ => ?_) (fun _ q => absurd q (by rw [el]; exact own_Nnn (by omega)))
  rw [el, own_Nmul4]
  refine own_iil1 x nm ino mi ml T[p].1 l32 T[p].2 h4 (fun s hs => R.sl h hs) ?_ _ mi (Nat.le_refl _) (fun _ _ _ _ _ => rfl) (fun _ _ => rfl) (fun s hs _ => R.sl h hs) (fun s hs hle => absurd hs (by omega))
  intro m j hj f1 f2 f3 f4 f5
  have e1 : Int32.ofNat (T[p].1 * 4) + Int32.ofNat j = Int32.ofNat (T[p].1 * 4 + j) := own_Nadd _ _
  refine L_insertIntoLeaf_75 (by rw [e1]; exact own_Ninb (by omega) (by omega)) (own_Ninb l32 (by omega)) ?_
  rw [e1, own_Nc (by omega), own_Nc (by omega), own_Nadd1]
  generalize hm2 : up (up (up (up m 1 (T[p].1 * 4 + j) x) 2 (T[p].1 * 4 + j) nm) 3 (T[p].1 * 4 + j) ino) 4 T[p].1 (Int32.ofNat (T[p].2.length + 1)) = m2
  have g1 : ∀ b k, b ≠ 1 → b ≠ 2 → b ≠ 3 → b ≠ 4 → m2 b k = mi b k := by
    intro b k h1 h2 h3 h5
    rw [← hm2, up_ne h5, up_ne h3, up_ne h2, up_ne h1]; exact f1 b k h1 h2 h3
  have g2 : ∀ k, own_sl m2 k = if k = T[p].1 * 4 + j then (x, nm, ino) else own_sl m k := by
    intro k
    rw [← hm2]
    simp only [own_sl, up_at]
    by_cases q : k = T[p].1 * 4 + j
    · simp [q]
    · simp [q]
  have g3 : ∀ k, m2 4 k = if k = T[p].1 then Int32.ofNat (T[p].2.length + 1) else mi 4 k := by
    intro k
    rw [← hm2, up_at, up_ne (by decide), up_ne (by decide), up_ne (by decide), f1 _ _ (by decide) (by decide) (by decide)]
    simp
  clear hm2
  refine K m2 j hj g1 (R.upd h _ ?_ (fun b k h1 h2 h3 h5 _ => g1 b k h1 h2 h3 h5) (fun k hk => by rw [g3, if_neg hk]) ?_ (fun k hk => ?_) (fun s hs => ?_)) (fun s hs hle => (f4 s hs hle).2) f5
  · simp; omega
  · rw [g3, if_pos rfl]
    congr 1
    simp only [List.length_append, List.length_cons, List.length_take, List.length_drop]
    omega
  · rw [g2, if_neg (by omega)]; exact f2 k hk
  · rw [g2]
    by_cases q : s = j
    · subst q
      rw [if_pos rfl]
      rw [List.getElem_append_right (by simp [Nat.min_eq_left hj])]
      simp [Nat.min_eq_left hj]
    · rw [if_neg (by omega)]
      by_cases w : s < j
      · rw [f3 s (by omega) w, List.getElem_append_left (by simp; omega)]
        simp
      · have hs' : s - 1 < T[p].2.length := by simp at hs; omega
        have := (f4 (s - 1) hs' (by omega)).1
        rw [show T[p].1 * 4 + (s - 1) + 1 = T[p].1 * 4 + s by omega] at this
        rw [this, List.getElem_append_right (by simp; omega)]
        have e : s - (List.take j T[p].2).length = (s - 1 - j) + 1 := by simp; omega
        simp only [e, List.getElem_cons_succ, List.getElem_drop]
        congr 1; omega

theorem own_R.alloc {mi : Nat → Nat → Int32} {T : own_Tr} {fr' : List Nat} {nl : Nat} (R : own_R mi T (fr' ++ [nl])) {Q : Option Value → EMem → Prop} (ml : Nat → Nat → Int64)
    (K : ∀ m, (∀ b k, ¬ (b = 0 ∧ k = 37) → ¬ (b = 4 ∧ k = nl) → m b k = mi b k) → m 0 37 = Int32.ofNat fr'.length → m 4 nl = 0 → Q (some (.int (Int32.ofNat nl))) (LL1, m, ml, RR1)) :
    W_allocLeaf 0 [.val (.ref 0), .unset] [] (LL1, mi, ml, RR1) Q := by
  have t32 := R.tot
  have n32 : nl < 32 := R.lt _ (by simp)
  simp at t32
  have ef : mi 0 37 = Int32.ofNat (fr'.length + 1) := by rw [R.ft]; simp
  have p0 : (0 : Int32) < Int32.ofNat (fr'.length + 1) := (own_Nlt (a := 0) (by omega) (by omega)).mpr (by omega)
  have e1 : mi 0 37 - 1 = Int32.ofNat fr'.length := by rw [ef, own_Nsub1 (by omega) (by omega)]; rfl
  have e2 : mi 6 (mi 0 37 - 1).toNatClampNeg &&& 31 = Int32.ofNat nl := by
    rw [e1, own_Nc (by omega), R.fs fr'.length (by simp)]
    simp
    exact own_N31 n32
  refine L_allocLeaf_0 (fun _ => by rw [e1]; exact own_Ninb (by omega) (by omega)) (fun _ => by rw [e2]; exact own_Ninb n32 (by omega)) (fun _ => ?_) (fun h => absurd (by rw [ef]; exact p0) h)
  rw [e2, e1, own_Nc (by omega)]
  refine K _ (fun b k h1 h2 => ?_) rfl ?_
  · rw [up_at, if_neg h2, up_at, if_neg h1]
  · rw [up_eq]
theorem own_spl_get {T : own_Tr} {p l nl : Nat} {a b : List own_Ent} (h : p < T.length) : ∀ q (hq : q < ((T.set p (l, a)).insertIdx (p + 1) (nl, b)).length),
    (q = p + 1 → ((T.set p (l, a)).insertIdx (p + 1) (nl, b))[q] = (nl, b)) ∧ (q = p → ((T.set p (l, a)).insertIdx (p + 1) (nl, b))[q] = (l, a)) ∧ (∀ (hh : q < p), ((T.set p (l, a)).insertIdx (p + 1) (nl, b))[q] = T[q]'(by omega)) ∧ (∀ (_ : p + 1 < q) (h'' : q - 1 < T.length), ((T.set p (l, a)).insertIdx (p + 1) (nl, b))[q] = T[q - 1]) := by
  intro q hq
  rw [List.getElem_insertIdx]
  refine ⟨fun w => ?_, fun w => ?_, fun w => ?_, fun w h'' => ?_⟩
  · rw [dif_neg (by omega), dif_pos w]
  · subst w; rw [dif_pos (by omega)]; simp
  · rw [dif_pos (by omega), List.getElem_set_ne (by omega)]
  · rw [dif_neg (by omega), dif_neg (by omega), List.getElem_set_ne (by omega)]
theorem own_insApp {α : Type} (y z : α) (B : List α) : ∀ A : List α, (A ++ y :: B).insertIdx (A.length + 1) z = A ++ y :: z :: B
  | [] => rfl
  | a :: A => by
    rw [List.cons_append, List.length_cons, List.insertIdx_succ_cons, own_insApp y z B A]; rfl
theorem own_spl_fl {T : own_Tr} {p l nl : Nat} {a b : List own_Ent} (h : p < T.length) (e : a ++ b = T[p].2) : own_fl ((T.set p (l, a)).insertIdx (p + 1) (nl, b)) = own_fl T := by
  rw [List.set_eq_take_append_cons_drop, if_pos h]
  have hl : (T.take p).length = p := by simp; omega
  have := own_insApp (l, a) (nl, b) (T.drop (p + 1)) (T.take p)
  rw [hl] at this
  rw [this, own_fl_at h]
  simp only [own_fl, List.flatMap_append, List.flatMap_cons, ← e, List.append_assoc]
theorem own_fl_ge {T : own_Tr} (h : ∀ p (hp : p < T.length), 0 < T[p].2.length) : T.length ≤ (own_fl T).length := by
  induction T with
  | nil => simp
  | cons a T ih =>
    have := ih (fun p hp => h (p + 1) (by simp; omega))
    have h0 := h 0 (by simp)
    simp [own_fl] at *
    omega
theorem own_fl_ge4 {T : own_Tr} (h : ∀ p (hp : p < T.length), 0 < T[p].2.length) {p : Nat} (hp : p < T.length) (h4 : T[p].2.length = 4) : T.length + 3 ≤ (own_fl T).length := by
  rw [own_fl_at hp]
  have a := own_fl_ge (T := T.take p) (fun q hq => by simp at hq ⊢; exact h q (by omega))
  have b := own_fl_ge (T := T.drop (p + 1)) (fun q hq => by simp at hq ⊢; exact h (p + 1 + q) (by omega))
  simp at a b ⊢
  omega
theorem own_Sd_ins {A B : List own_Ent} {e : own_Ent} (S : own_Sd (A ++ B)) (h1 : ∀ a ∈ A, a.1 < e.1) (h2 : ∀ b ∈ B, e.1 < b.1) : own_Sd (A ++ e :: B) := by
  unfold own_Sd at *
  rw [List.pairwise_append] at S ⊢
  refine ⟨S.1, List.pairwise_cons.mpr ⟨h2, S.2.1⟩, fun a ha b hb => ?_⟩
  rcases List.mem_cons.mp hb with rfl | hb
  · exact h1 a ha
  · exact S.2.2 a ha b hb
/-- only other fields of the directory have changed -/
theorem own_R.fr {mi m : Nat → Nat → Int32} {T : own_Tr} {fr : List Nat} (R : own_R mi T fr) (f : ∀ b k, (b = 0 → k = 35 ∨ k = 37) → m b k = mi b k) : own_R m T fr := by
  refine ⟨?_, fun p h => ?_, fun p h => ?_, R.l4, fun p h s hs => ?_, ?_, fun k h => ?_, R.nd, R.lt, R.tot⟩
  · rw [f _ _ (fun _ => Or.inl rfl)]; exact R.nl
  · rw [f _ _ (fun w => absurd w (by decide))]; exact R.idx p h
  · rw [f _ _ (fun w => absurd w (by decide))]; exact R.len p h
  · rw [f _ _ (fun w => absurd w (by decide)), f _ _ (fun w => absurd w (by decide)), f _ _ (fun w => absurd w (by decide))]; exact R.ent p h s hs
  · rw [f _ _ (fun _ => Or.inr rfl)]; exact R.ft
  · rw [f _ _ (fun w => absurd w (by decide))]; exact R.fs k h
/-- the end of insert: the leaf p has room and is where x belongs -/
theorem own_ins116 {m : Nat → Nat → Int32} {T : own_Tr} {fr : List Nat} {E : List own_Ent} {sd : Int32} {cp : Nat} {op ck : Nat → Int32} (R : own_R m T fr) (hE : own_fl T = E) (srt : own_Sd E) (gd : ∀ e ∈ E, own_G sd e) (hsz : m 0 33 = Int32.ofNat E.length) (hcap : m 0 31 = Int32.ofNat cp) (cp32 : cp ≤ 32) (ecp : E.length < cp) (hsd : m 0 29 = sd)
    (hop : ∀ k, k < 4 → m 7 k = op k) (hck : ∀ k, k < 4 → m 8 k = ck k) {Q : Option Value → EMem → Prop} (x nm ino x5 : Int32) (ml : Nat → Nat → Int64) (G : own_G sd (x, nm, ino)) {p : Nat} (h : p < T.length) (h4 : T[p].2.length < 1)
    (ne : ∀ q (hq : q < T.length), q ≠ p → 0 < T[q].2.length) (lo : ∀ q (hq : q < T.length) s (hs : s < T[q].2.length), q < p → (T[q].2[s]).1 < x) (hi : ∀ q (hq : q < T.length) s (hs : s < T[q].2.length), p < q → x < (T[q].2[s]).1) (no : ∀ e ∈ E, ¬ e.1 = x)
    (K : ∀ m' T' fr' A B, E = A ++ B → (∀ a ∈ A, a.1 < x) → (∀ b ∈ B, x < b.1) → own_D m' T' fr' (A ++ (x, nm, ino) :: B) sd cp op ck → Q (some (.int 0)) (LL1, m', ml, RR1)) :
    W_insert 116 [.val (.ref 0), .val (.int nm), .val (.int ino), .val (.int x), .val (.int (Int32.ofNat p)), .val (.int x5)] [] (LL1, m, ml, RR1) Q := by
  have t32 := R.tot
  have S : own_Sd (own_fl T) := by rw [hE]; exact srt
  refine L_insert_116 (own_Ninb (by omega) (by omega)) ?_
  rw [own_Nc (by omega), R.idx p h]
  refine R.iil x nm ino ml h h4 (fun m1 j hj f1 R1 g1 g2 => ?_)
  refine L_insert_130 ?_
  have e1 : m1 0 33 = Int32.ofNat E.length := by rw [f1 _ _ (by decide) (by decide) (by decide) (by decide)]; exact hsz
  rw [e1, own_Nadd1]
  have noL : ∀ s (hs : s < T[p].2.length), ¬ (T[p].2[s]).1 = x := fun s hs => no _ (by rw [← hE, own_fl_mem]; exact ⟨p, h, s, hs, rfl⟩)
  have mA : ∀ a ∈ own_fl (T.take p) ++ T[p].2.take j, a.1 < x := by
    intro a ha
    rcases List.mem_append.mp ha with ha | ha
    · rw [own_fl_mem] at ha
      obtain ⟨q, hq, s, hs, rfl⟩ := ha
      simp at hq hs ⊢
      exact lo q (by omega) s hs (by omega)
    · obtain ⟨s, hs, rfl⟩ := List.getElem_of_mem ha
      simp at hs ⊢
      have a1 := g2 (by omega) (by omega)
      by_cases w : s = j - 1
      · subst w; exact a1
      · exact Int32.lt_trans (own_srt S h h (by omega) (by omega) (Or.inr ⟨rfl, by omega⟩)) a1
  have mB : ∀ b ∈ T[p].2.drop j ++ own_fl (T.drop (p + 1)), x < b.1 := by
    intro b hb
    rcases List.mem_append.mp hb with hb | hb
    · obtain ⟨s, hs, rfl⟩ := List.getElem_of_mem hb
      simp at hs ⊢
      have a1 := g1 (j + s) (by omega) (by omega)
      have a2 := noL (j + s) (by omega)
      rw [Int32.lt_iff_toInt_lt] at *
      have : (T[p].2[j + s]).1.toInt ≠ x.toInt := fun z => a2 (Int32.toInt_inj.mp z)
      omega
    · rw [own_fl_mem] at hb
      obtain ⟨q, hq, s, hs, rfl⟩ := hb
      simp at hq hs ⊢
      exact hi (p + 1 + q) (by omega) s hs (by omega)
  have eE : E = (own_fl (T.take p) ++ T[p].2.take j) ++ (T[p].2.drop j ++ own_fl (T.drop (p + 1))) := by
    rw [← hE, own_fl_at h]
    conv => lhs; rw [← List.take_append_drop j T[p].2]
    simp only [List.append_assoc]
  refine K _ _ fr _ _ eE mA mB ⟨R1.fr (fun b k hb => ?_), ?_, fun q hq => ?_, own_Sd_ins (by rw [← eE]; exact srt) mA mB, fun e he => ?_, ?_, ?_, cp32, ?_, ?_, fun k hk => ?_, fun k hk => ?_⟩
  · rw [up_at, if_neg (fun z => by rcases hb z.1 with w | w <;> rw [w] at z <;> exact absurd z.2 (by decide))]
  · rw [own_fl_set h]; simp
  · rw [List.getElem_set]
    by_cases w : p = q
    · rw [if_pos w]; simp; omega
    · rw [if_neg w]; exact ne q (by simpa using hq) (fun z => w z.symm)
  · rcases List.mem_append.mp he with he | he
    · exact gd e (by rw [eE]; exact List.mem_append_left _ he)
    · rcases List.mem_cons.mp he with rfl | he
      · exact G
      · exact gd e (by rw [eE]; exact List.mem_append_right _ he)
  · rw [up_eq]; congr 1; rw [eE]; simp; omega
  · rw [up_ne' (by decide), f1 _ _ (by decide) (by decide) (by decide) (by decide)]; exact hcap
  · have : E.length = ((own_fl (T.take p) ++ T[p].2.take j) ++ (T[p].2.drop j ++ own_fl (T.drop (p + 1)))).length := congrArg List.length eE
    simp only [List.length_append, List.length_cons] at this ⊢
    omega
  · rw [up_ne' (by decide), f1 _ _ (by decide) (by decide) (by decide) (by decide)]; exact hsd
  · rw [up_ne (by decide), f1 _ _ (by decide) (by decide) (by decide) (by decide)]; exact hop k hk
  · rw [up_ne (by decide), f1 _ _ (by decide) (by decide) (by decide) (by decide)]; exact hck k hk
theorem own_D.insertS {mi : Nat → Nat → Int32} {T : own_Tr} {fr : List Nat} {E : List own_Ent} {sd : Int32} {cp : Nat} {op ck : Nat → Int32} (D : own_D mi T fr E sd cp op ck) {Q : Option Value → EMem → Prop} (nm ino : Int32) (ml : Nat → Nat → Int64) (hE4 : (∀ e ∈ E, ¬ e.1 = own_hs sd nm) → E.length < 1)
    (K4 : (nm < 0 ∨ 65535 < nm) → Q (some (.int 4)) (LL1, mi, ml, RR1)) (K5 : ¬ (nm < 0 ∨ 65535 < nm) → ino < 1 → Q (some (.int 5)) (LL1, mi, ml, RR1))
    (K1 : ¬ (nm < 0 ∨ 65535 < nm) → ¬ ino < 1 → ∀ e ∈ E, e.1 = own_hs sd nm → Q (some (.int 1)) (LL1, mi, ml, RR1))
    (K2 : ¬ (nm < 0 ∨ 65535 < nm) → ¬ ino < 1 → (∀ e ∈ E, ¬ e.1 = own_hs sd nm) → E.length = cp → Q (some (.int 2)) (LL1, mi, ml, RR1))
    (K0 : ¬ (nm < 0 ∨ 65535 < nm) → ¬ ino < 1 → (∀ e ∈ E, ¬ e.1 = own_hs sd nm) → E.length < cp → ∀ m' T' fr' A B, E = A ++ B → (∀ a ∈ A, a.1 < own_hs sd nm) → (∀ b ∈ B, own_hs sd nm < b.1) → own_D m' T' fr' (A ++ (own_hs sd nm, nm, ino) :: B) sd cp op ck → Q (some (.int 0)) (LL1, m', ml, RR1)) :
    W_insert 0 [.val (.ref 0), .val (.int nm), .val (.int ino), .unset, .unset, .unset] [] (LL1, mi, ml, RR1) Q := by
  have t32 := D.R.tot
  have c32 := D.cp32
  have ec := D.ecp
  refine L_insert_0 (fun v e h hi => ?_) (fun v e h hi => K5 (fun q => h ((own_name e).mpr q)) hi) (fun v e h => K4 ((own_name e).mp h))
  have hn : ¬ (nm < 0 ∨ 65535 < nm) := fun q => h ((own_name e).mpr q)
  refine S_hash ?_
  rw [D.seed]
  generalize hx : own_hs sd nm = x at *
  have G : own_G sd (x, nm, ino) := ⟨fun q => hn (Or.inl q), fun q => hn (Or.inr q), hx.symm, hi⟩
  refine L_insert_22 ?_
  refine D.locate x ml (fun hno => ?_) (fun p hp s hs he => ?_)
  · have K0' := K0 hn hi hno
    have hE4 := hE4 hno
    refine L_insert_28 (fun _ q1 q2 => ?_) (fun _ q1 q2 => ?_) (fun _ q => ?_) (fun q => absurd (by decide) q)
    · rw [D.size, D.cap, own_Nlt (by omega) (by omega)] at q1
      rw [D.R.nl] at q2
      have hN : 0 < T.length := by
        rcases Nat.eq_zero_or_pos T.length with w | w
        · rw [w] at q2; exact absurd rfl q2
        · exact w
      refine L_insert_62 ?_
      refine D.flp x ml hN (fun pos hp h1 h2 h3 => ?_)
      have l32 := D.R.l32 hp
      have l4 := D.R.l4 pos hp
      have el : mi 4 (mi 5 (Int32.ofNat pos).toNatClampNeg).toNatClampNeg = Int32.ofNat T[pos].2.length := by
        rw [own_Nc (by omega), D.R.idx pos hp, own_Nc (by omega), D.R.len pos hp]
      refine L_insert_67 (own_Ninb (by omega) (by omega)) ?_ (fun q => ?_) ?_ ?_ ?_
      · rw [own_Nc (by omega), D.R.idx pos hp]; exact own_Ninb (by omega) (by omega)
      · rw [el] at q
        have ge1 := own_fl_ge D.ne
        rw [D.fl] at ge1
        have lt4 : T[pos].2.length < 1 := by omega
        exact own_ins116 D.R D.fl D.srt D.gd D.size D.cap c32 q1 D.seed D.op D.ck x nm ino _ ml G hp lt4 (fun q hq _ => D.ne q hq) h1 h3 hno (K0' q1)
      all_goals
        intro q
        rw [el] at q
        have l4' : T[pos].2.length = 4 := by
          by_cases w : T[pos].2.length < 4
          · exact absurd ((own_Nlt (b := 4) (by omega) (by omega)).mpr w) q
          · omega
        have big := own_fl_ge4 D.ne hp l4'
        rw [D.fl] at big
      · omega
      · omega
      · omega
    · rw [D.size, D.cap, own_Nlt (by omega) (by omega)] at q1
      rw [D.R.nl] at q2
      have hN : T.length = 0 := own_Ninj (b := 0) (by omega) (by omega) q2
      have hT : T = [] := List.eq_nil_of_length_eq_zero hN
      have hE : E = [] := by rw [← D.fl, hT]; rfl
      subst hT
      subst hE
      have R := D.R
      obtain ⟨fr', nl, rfl⟩ : ∃ fr' nl, fr = fr' ++ [nl] := by
        rcases List.eq_nil_or_concat fr with w | ⟨a, b, w⟩
        · subst w; simp at t32
        · exact ⟨a, b, by simpa using w⟩
      refine L_createFirstLeaf_0 ?_
      refine R.alloc ml (fun m1 a1 a2 a3 => ?_)
      have n32 : nl < 32 := R.lt _ (by simp)
      simp at t32
      refine L_createFirstLeaf_4 (fun _ => ?_) (fun w => absurd w (own_Nnn (by omega)))
      refine L_insert_57 (fun _ => ?_) (fun w => absurd w (by decide))
      refine L_insert_62 ?_
      have f1 : ∀ b k, ¬ (b = 0 ∧ (k = 37 ∨ k = 35)) → b ≠ 4 → b ≠ 5 → (up (up m1 5 0 (Int32.ofNat nl)) 0 35 1) b k = mi b k := fun b k h1 h2 h3 => by
        rw [up_at, if_neg (fun z => h1 ⟨z.1, Or.inr z.2⟩), up_ne h3, a1 _ _ (fun z => h1 ⟨z.1, Or.inl z.2⟩) (fun z => h2 z.1)]
      have R1 : own_R (up (up m1 5 0 (Int32.ofNat nl)) 0 35 1) [(nl, [])] fr' := by
        obtain ⟨n1, n2, n3⟩ := own_perm (T' := [(nl, [])]) (fr' := fr') (by simpa using (List.perm_append_singleton nl fr').symm) R
        refine ⟨?_, fun q hq => ?_, fun q hq => ?_, fun q hq => ?_, fun q hq s hs => ?_, ?_, fun k hk => ?_, n1, n2, n3⟩
        · rw [up_eq]; rfl
        · have : q = 0 := by simp at hq; exact hq
          subst this
          rw [up_ne (by decide), up_eq]; rfl
        · have : q = 0 := by simp at hq; exact hq
          subst this
          rw [up_ne (by decide), up_ne (by decide)]; exact a3
        · have : q = 0 := by simp at hq; exact hq
          subst this; simp
        · have : q = 0 := by simp at hq; exact hq
          subst this; simp at hs
        · rw [up_ne' (by decide), up_ne (by decide)]; exact a2
        · rw [f1 _ _ (fun z => absurd z.1 (by decide)) (by decide) (by decide), R.fs k (by simp; omega), List.getElem_append_left hk]
      refine own_findLeafPos x _ ml _ fr' R1 (fun _ => (up (up m1 5 0 (Int32.ofNat nl)) 0 35 1) 1 (nl * 4)) (fun p hp => ?_) (fun p q hpq hq => ?_) (by simp) (fun pos hp _ _ => ?_)
      · have : p = 0 := by simp at hp; exact hp
        subst this; rfl
      · simp at hq; omega
      · have : pos = 0 := by simp at hp; exact hp
        subst this
        have i0 : (up (up m1 5 0 (Int32.ofNat nl)) 0 35 1) 5 (Int32.ofNat 0).toNatClampNeg = Int32.ofNat nl := by
          rw [own_Nc (by omega)]; exact R1.idx 0 (by simp)
        have l0 : (up (up m1 5 0 (Int32.ofNat nl)) 0 35 1) 4 ((up (up m1 5 0 (Int32.ofNat nl)) 0 35 1) 5 (Int32.ofNat 0).toNatClampNeg).toNatClampNeg = 0 := by
          rw [i0, own_Nc (by omega)]; exact R1.len 0 (by simp)
        refine L_insert_67 (by decide) (by rw [i0]; exact own_Ninb n32 (by omega)) (fun _ => ?_) (fun w => absurd (by rw [l0]; decide) w) (fun w => absurd (by rw [l0]; decide) w) (fun w => absurd (by rw [l0]; decide) w)
        refine own_ins116 (E := []) (p := 0) R1 rfl D.srt D.gd ?_ ?_ c32 q1 ?_ (fun k hk => ?_) (fun k hk => ?_) x nm ino _ ml G (by simp) (by simp) (fun q hq hne => absurd (by simp at hq; exact hq) hne) (fun q hq s hs hlt => by omega) (fun q hq s hs hlt => by simp at hq; omega) hno (K0' q1)
        · rw [f1 _ _ (fun z => by rcases z.2 with w | w <;> exact absurd w (by decide)) (by decide) (by decide)]; exact D.size
        · rw [f1 _ _ (fun z => by rcases z.2 with w | w <;> exact absurd w (by decide)) (by decide) (by decide)]; exact D.cap
        · rw [f1 _ _ (fun z => by rcases z.2 with w | w <;> exact absurd w (by decide)) (by decide) (by decide)]; exact D.seed
        · rw [f1 _ _ (fun z => absurd z.1 (by decide)) (by decide) (by decide)]; exact D.op k hk
        · rw [f1 _ _ (fun z => absurd z.1 (by decide)) (by decide) (by decide)]; exact D.ck k hk
    · rw [D.size, D.cap, own_Nlt (by omega) (by omega)] at q
      exact K2 hn hi hno (by omega)
  · refine L_insert_28 (fun q => absurd q (own_Nnn (by have := D.R.l4 p hp; omega))) (fun q => absurd q (own_Nnn (by have := D.R.l4 p hp; omega))) (fun q => absurd q (own_Nnn (by have := D.R.l4 p hp; omega))) (fun _ => K1 hn hi _ (by rw [← D.fl, own_fl_mem]; exact ⟨p, hp, s, hs, rfl⟩) he)

theorem own_fl_merge {T : own_Tr} {p : Nat} {l : Nat} (h : p + 1 < T.length) : own_fl ((T.set p (l, T[p].2 ++ T[p + 1].2)).eraseIdx (p + 1)) = own_fl T := by
  have e : T.drop (p + 1) = T[p + 1] :: T.drop (p + 2) := by
    rw [List.drop_eq_getElem_cons h]
  rw [own_fl_at (T := T) (p := p) (by omega), e, List.set_eq_take_append_cons_drop, if_pos (by omega), e, List.eraseIdx_append_of_length_le (by simp; omega)]
  have hl : p + 1 - (T.take p).length = 1 := by simp; omega
  rw [hl]
  simp only [own_fl, List.eraseIdx_cons_succ, List.eraseIdx_cons_zero, List.flatMap_append, List.flatMap_cons, List.append_assoc]
theorem own_ne_merge {T : own_Tr} {p : Nat} {l : Nat} (h : p + 1 < T.length) (ne : ∀ q (hq : q < T.length), 0 < T[q].2.length) : ∀ q (hq : q < ((T.set p (l, T[p].2 ++ T[p + 1].2)).eraseIdx (p + 1)).length), 0 < (((T.set p (l, T[p].2 ++ T[p + 1].2)).eraseIdx (p + 1))[q]).2.length := by
  intro q hq
  have hl : ((T.set p (l, T[p].2 ++ T[p + 1].2)).eraseIdx (p + 1)).length = T.length - 1 := by
    rw [List.length_eraseIdx, if_pos (by simp; omega)]; simp
  rw [List.getElem_eraseIdx]
  split
  · rw [List.getElem_set]
    split
    · have := ne p (by omega); simp; omega
    · exact ne q (by omega)
  · rw [List.getElem_set]
    split
    · have := ne p (by omega); simp; omega
    · exact ne (q + 1) (by omega)
theorem own_Sd_del {A B : List own_Ent} {e : own_Ent} (S : own_Sd (A ++ e :: B)) : own_Sd (A ++ B) := by
  unfold own_Sd at *
  rw [List.pairwise_append] at S ⊢
  exact ⟨S.1, (List.pairwise_cons.mp S.2.1).2, fun a ha b hb => S.2.2 a ha b (List.mem_cons_of_mem _ hb)⟩
theorem own_Sd_set {A B : List own_Ent} {e e' : own_Ent} (S : own_Sd (A ++ e :: B)) (h : e'.1 = e.1) : own_Sd (A ++ e' :: B) := by
  unfold own_Sd at *
  rw [List.pairwise_append] at S ⊢
  refine ⟨S.1, List.pairwise_cons.mpr ⟨fun b hb => by rw [h]; exact (List.pairwise_cons.mp S.2.1).1 b hb, (List.pairwise_cons.mp S.2.1).2⟩, fun a ha b hb => ?_⟩
  rcases List.mem_cons.mp hb with rfl | hb
  · rw [h]; exact S.2.2 a ha _ (List.mem_cons_self ..)
  · exact S.2.2 a ha b (List.mem_cons_of_mem _ hb)

theorem own_Nxor {a b : Nat} (ha : a < 65536) (hb : b < 65536) : Int32.ofNat a ^^^ Int32.ofNat b = Int32.ofNat (a ^^^ b) := by
  apply Int32.toBitVec_inj.mp
  rw [Int32.toBitVec_xor, Int32.toBitVec_ofNat', Int32.toBitVec_ofNat', Int32.toBitVec_ofNat']
  apply BitVec.eq_of_toNat_eq
  have hx : a ^^^ b < 2 ^ 16 := Nat.xor_lt_two_pow (by omega) (by omega)
  rw [BitVec.toNat_xor, BitVec.toNat_ofNat, BitVec.toNat_ofNat, BitVec.toNat_ofNat, Nat.mod_eq_of_lt (by omega), Nat.mod_eq_of_lt (by omega), Nat.mod_eq_of_lt (by omega)]
theorem own_and16 (z : Int32) : ∃ k, k < 65536 ∧ z &&& 65535 = Int32.ofNat k ∧ k = z.toBitVec.toNat % 65536 := by
  refine ⟨z.toBitVec.toNat % 65536, Nat.mod_lt _ (by decide), ?_, rfl⟩
  apply Int32.toBitVec_inj.mp
  rw [Int32.toBitVec_and, Int32.toBitVec_ofNat']
  apply BitVec.eq_of_toNat_eq
  have e : (65535 : Int32).toBitVec.toNat = 2 ^ 16 - 1 := by decide
  rw [BitVec.toNat_and, e, Nat.and_two_pow_sub_one_eq_mod, BitVec.toNat_ofNat, Nat.mod_eq_of_lt (a := z.toBitVec.toNat % 65536) (by omega)]
theorem own_Nshr {k : Nat} (hk : k < 65536) (q : Int32) (j : Nat) (hj : q.toBitVec.toNat % 32 = j) (h0 : 0 < j) : XT.ushr (Int32.ofNat k) q = Int32.ofNat (k >>> j) := by
  apply Int32.toInt_inj.mp
  have h := c_iushr (Int32.ofNat k) q j hj h0
  have hd : k / 2 ^ j ≤ k := Nat.div_le_self _ _
  rw [Nat.shiftRight_eq_div_pow, own_Nt (k := k / 2 ^ j) (by omega)]
  show ((Int32.ofNat k).toUInt32 >>> (q &&& 31).toUInt32).toInt32.toInt = _
  rw [h, own_Nt (by omega), Int.emod_eq_of_lt (by omega) (by omega)]
  exact (Int.natCast_ediv k (2 ^ j)).symm
theorem own_xsh {k : Nat} (hk : k < 65536) (q : Int32) (j : Nat) (hj : q.toBitVec.toNat % 32 = j) (h0 : 0 < j) : Int32.ofNat k ^^^ XT.ushr (Int32.ofNat k) q = Int32.ofNat (k ^^^ (k >>> j)) ∧ k ^^^ (k >>> j) < 65536 := by
  have hs : k >>> j ≤ k := by rw [Nat.shiftRight_eq_div_pow]; exact Nat.div_le_self _ _
  rw [own_Nshr hk q j hj h0, own_Nxor hk (by omega)]
  exact ⟨rfl, Nat.xor_lt_two_pow (n := 16) (by omega) (by omega)⟩
theorem own_hs_rng (s x : Int32) : ∃ k, k < 65536 ∧ own_hs s x = Int32.ofNat k := by
  unfold own_hs
  generalize (((((x ^^^ s) &&& (65535 : Int32)) * (40507 : Int32)) &&& (65535 : Int32)) ^^^ (XT.ushr ((((x ^^^ s) &&& (65535 : Int32)) * (40507 : Int32)) &&& (65535 : Int32)) (7 : Int32))) * (23505 : Int32) = z
  obtain ⟨k, hk, e, -⟩ := own_and16 z
  rw [e]
  obtain ⟨e2, h2⟩ := own_xsh hk 9 9 (by decide) (by decide)
  exact ⟨_, h2, e2⟩
theorem own_hs_b (s x : Int32) : ¬ own_hs s x < 0 ∧ own_hs s x < 65536 ∧ ¬ 65535 < own_hs s x := by
  obtain ⟨k, hk, e⟩ := own_hs_rng s x
  rw [e]
  exact ⟨own_Nnn (by omega), (own_Nlt (b := 65536) (by omega) (by omega)).mpr hk, fun z => by have := (own_Nlt (a := 65535) (by omega) (by omega)).mp z; omega⟩
/-- how many hashes lie at or below that of rank k -/
theorem own_cl_rank {E : List own_Ent} (S : own_Sd E) {k : Nat} (hk : k < E.length) {x : Int32} (hx : x.toInt = (E[k]).1.toInt + 1) : own_cl E x = k + 1 := by
  have hl : (E.take (k + 1)).length = k + 1 := by simp; omega
  rw [← List.take_append_drop (k + 1) E, own_cl_app, own_cl_all, own_cl_none, hl]
  · intro e he w
    obtain ⟨s, hs, rfl⟩ := List.getElem_of_mem he
    simp at hs
    have := (List.pairwise_iff_getElem.mp S) k (k + 1 + s) hk (by omega) (by omega)
    rw [List.getElem_drop] at w
    rw [Int32.lt_iff_toInt_lt] at w this
    omega
  · intro e he
    obtain ⟨s, hs, rfl⟩ := List.getElem_of_mem he
    simp at hs
    rw [List.getElem_take, Int32.lt_iff_toInt_lt, hx]
    by_cases q : s = k
    · subst q; omega
    · have := lt_int ((List.pairwise_iff_getElem.mp S) s k (by omega) hk (by omega))
      omega
theorem own_uniq {E : List own_Ent} (S : own_Sd E) {e e' : own_Ent} (h : e ∈ E) (h' : e' ∈ E) (q : e.1 = e'.1) : e = e' := by
  obtain ⟨s, hs, rfl⟩ := List.getElem_of_mem h
  obtain ⟨t, ht, rfl⟩ := List.getElem_of_mem h'
  rcases Nat.lt_trichotomy s t with w | w | w
  · have := (List.pairwise_iff_getElem.mp S) s t hs ht w
    rw [q] at this; exact absurd this Int32.lt_irrefl
  · subst w; rfl
  · have := (List.pairwise_iff_getElem.mp S) t s ht hs w
    rw [q] at this; exact absurd this Int32.lt_irrefl

def own_fr0 : List Nat := (List.range 32).map (31 - ·)
theorem own_init1 {Q : Option Value → EMem → Prop} {x1 x2 : Int32} (sd cpv : Int32) (cp : Nat) (hc : cpv = Int32.ofNat cp) (cp32 : cp ≤ 32) (ml : Nat → Nat → Int64)
    (K : ∀ m ml', own_D m [] own_fr0 [] sd cp (fun _ => 0) (fun _ => 0) → Q none (LL1, m, ml', RR1)) :
    ∀ (f i : Nat) (m : Nat → Nat → Int32), i + f = 32 → m 0 29 = sd → m 0 31 = cpv → m 0 33 = 0 → m 0 35 = 0 → (∀ k, m 7 k = 0) → (∀ k, m 8 k = 0) → (∀ k, k < i → m 6 k = Int32.ofNat (31 - k)) →
    W_init 135 [.val (.ref 0), .val (.int x1), .val (.int x2), .val (.int sd), .val (.int cpv), .val (.int (Int32.ofNat i))] [] (LL1, m, ml, RR1) Q := by
  intro f
  induction f with
  | zero =>
    intro i m hf h1 h2 h3 h4 h5 h6 h7
    have : i = 32 := by omega
    subst this
    refine L_init_135 (fun _ => K _ _ ?_) (fun h => absurd h (by decide)) (fun h => absurd h (by decide))
    refine ⟨⟨?_, fun p h => absurd h (by simp), fun p h => absurd h (by simp), fun p h => absurd h (by simp), fun p h => absurd h (by simp), rfl, fun k hk => ?_, ?_, fun x hx => ?_, ?_⟩, rfl, fun p h => absurd h (by simp), List.Pairwise.nil, fun e he => absurd he (by simp), ?_, ?_, cp32, Nat.zero_le _, ?_, fun k _ => ?_, fun k _ => ?_⟩
    · rw [up_ne' (by decide), h4]; rfl
    · have hk' : k < 32 := by simpa [own_fr0] using hk
      rw [up_ne (by decide), h7 k hk']; simp [own_fr0]
    · decide
    · have : ∀ x ∈ ([] : own_Tr).map (·.1) ++ own_fr0, x < 32 := by decide
      exact this x hx
    · decide
    · rw [up_ne' (by decide), h3]; rfl
    · rw [up_ne' (by decide), h2, hc]
    · rw [up_ne' (by decide), h1]
    · rw [up_ne (by decide)]; exact h5 k
    · rw [up_ne (by decide)]; exact h6 k
  | succ f ih =>
    intro i m hf h1 h2 h3 h4 h5 h6 h7
    have lt : Int32.ofNat i < 32 := (own_Nlt (b := 32) (by omega) (by omega)).mpr (by omega)
    refine L_init_135 (fun h => absurd lt h) (fun _ => own_Ninb (by omega) (by omega)) (fun _ => ?_)
    rw [own_Nc (by omega), own_Nadd1]
    have e : (31 : Int32) - Int32.ofNat i = Int32.ofNat (31 - i) := own_Nsub (a := 31) (by omega) (by omega)
    rw [e]
    refine ih (i + 1) _ (by omega) ?_ ?_ ?_ ?_ (fun k => ?_) (fun k => ?_) (fun k hk => ?_)
    · rw [up_ne (by decide)]; exact h1
    · rw [up_ne (by decide)]; exact h2
    · rw [up_ne (by decide)]; exact h3
    · rw [up_ne (by decide)]; exact h4
    · rw [up_ne (by decide)]; exact h5 k
    · rw [up_ne (by decide)]; exact h6 k
    · rw [up_at]
      by_cases q : k = i
      · rw [if_pos ⟨rfl, q⟩, q]
      · rw [if_neg (fun z => q z.2)]; exact h7 k (by omega)
theorem own_init {Q : Option Value → EMem → Prop} (x1 x2 : Int32) (mi : Nat → Nat → Int32) (ml : Nat → Nat → Int64) (hz : ∀ b k, 0 ≤ b → mi b k = 0)
    (K : ∀ m ml' sd cp, (sd = if x1 < 0 then 0 else if 65535 < x1 then 65535 else x1) → (Int32.ofNat cp = if x2 < 8 then 8 else if 32 < x2 then 32 else x2) → 8 ≤ cp → own_D m [] own_fr0 [] sd cp (fun _ => 0) (fun _ => 0) → Q none (LL1, m, ml', RR1)) :
    W_init 0 [.val (.ref 0), .val (.int x1), .val (.int x2), .unset, .unset, .unset] [] ([(0, "HtreeDir", 13)], mi, ml, (fun _ _ => Value.null)) Q := by
  refine L_init_0 ?_
  intro v1 e1 v2 e2 v3 e3 v4 e4
  have b1 : ¬ v4 < 8 := by grind
  have b2 : ¬ 32 < v4 := by grind
  have c8 : (8 : Int32).toInt = 8 := by decide
  have c32 : (32 : Int32).toInt = 32 := by decide
  have d1 := ge_int b1
  have d2 := ge_int b2
  have e : v4 = Int32.ofNat v4.toInt.toNat := by
    apply Int32.toInt_inj.mp
    rw [own_Nt (by omega)]; omega
  refine own_init1 v2 v4 v4.toInt.toNat e (by omega) ml (fun m ml' D => K m ml' v2 v4.toInt.toNat ?_ (by rw [← e]; grind) (by omega) D) 32 0 _ rfl rfl rfl rfl rfl (fun k => ?_) (fun k => ?_) (fun k hk => absurd hk (by omega))
  · rw [e2, e1]; grind
  · rw [up_ne (by decide), up_ne (by decide), up_ne (by decide), up_ne (by decide)]; exact hz _ _ (by decide)
  · rw [up_ne (by decide), up_ne (by decide), up_ne (by decide), up_ne (by decide)]; exact hz _ _ (by decide)

/-- the hash on numbers -/
def own_hN (s x : Nat) : Nat :=
  let b := (x ^^^ s) * 40507 % 65536
  let c := b ^^^ (b >>> 7)
  let d := c * 23505 % 65536
  d ^^^ (d >>> 9)
theorem own_Nand16 {k : Nat} (hk : k < 4294967296) : Int32.ofNat k &&& 65535 = Int32.ofNat (k % 65536) := by
  obtain ⟨j, hj, e, q⟩ := own_and16 (Int32.ofNat k)
  rw [e, q, Int32.toBitVec_ofNat', BitVec.toNat_ofNat, Nat.mod_eq_of_lt (a := k) (by omega)]
theorem own_hs_N {s x : Nat} (hs : s < 65536) (hx : x < 65536) : own_hs (Int32.ofNat s) (Int32.ofNat x) = Int32.ofNat (own_hN s x) := by
  have a0 : x ^^^ s < 65536 := Nat.xor_lt_two_pow (n := 16) (by omega) (by omega)
  unfold own_hs
  rw [own_Nxor hx hs, own_Nand16 (by omega), Nat.mod_eq_of_lt a0]
  have m1 : Int32.ofNat (x ^^^ s) * 40507 = Int32.ofNat ((x ^^^ s) * 40507) := (Int32.ofNat_mul (x ^^^ s) 40507).symm
  rw [m1, own_Nand16 (by omega)]
  have b0 : (x ^^^ s) * 40507 % 65536 < 65536 := Nat.mod_lt _ (by decide)
  obtain ⟨e1, c0⟩ := own_xsh b0 7 7 (by decide) (by decide)
  rw [e1]
  have m2 : ∀ c : Nat, Int32.ofNat c * 23505 = Int32.ofNat (c * 23505) := fun c => (Int32.ofNat_mul c 23505).symm
  rw [m2, own_Nand16 (by omega)]
  obtain ⟨e2, d0⟩ := own_xsh (k := (((x ^^^ s) * 40507 % 65536) ^^^ (((x ^^^ s) * 40507 % 65536) >>> 7)) * 23505 % 65536) (Nat.mod_lt _ (by decide)) 9 9 (by decide) (by decide)
  rw [e2]
  rfl
theorem own_mulinj {m w a b : Nat} (h : m * w % 65536 = 1) (ha : a < 65536) (hb : b < 65536) (e : a * m % 65536 = b * m % 65536) : a = b := by
  have key : ∀ z : Nat, z < 65536 → (z * m % 65536) * w % 65536 = z := fun z hz => by
    rw [Nat.mod_mul_mod, Nat.mul_assoc, Nat.mul_mod, h, Nat.mul_one, Nat.mod_mod, Nat.mod_eq_of_lt hz]
  rw [← key a ha, ← key b hb, e]
theorem own_xsinj {j a b : Nat} (hj : 0 < j) (e : a ^^^ (a >>> j) = b ^^^ (b >>> j)) : a = b := by
  have d : a ^^^ b = (a ^^^ b) >>> j := by
    rw [Nat.shiftRight_xor_distrib]
    have h1 : a = (b ^^^ (b >>> j)) ^^^ (a >>> j) := by rw [← e, Nat.xor_assoc, Nat.xor_self, Nat.xor_zero]
    calc a ^^^ b = ((b ^^^ (b >>> j)) ^^^ (a >>> j)) ^^^ b := by rw [← h1]
      _ = (a >>> j) ^^^ (b >>> j) := by
        rw [Nat.xor_comm b (b >>> j), Nat.xor_assoc, Nat.xor_assoc, Nat.xor_comm (a >>> j) b, ← Nat.xor_assoc b, Nat.xor_self, Nat.zero_xor, Nat.xor_comm]
  have z : a ^^^ b = 0 := by
    rw [Nat.shiftRight_eq_div_pow] at d
    generalize a ^^^ b = t at *
    rcases Nat.eq_zero_or_pos t with w | w
    · exact w
    · have : t / 2 ^ j < t := Nat.div_lt_self w (Nat.one_lt_two_pow (by omega))
      omega
  have : a = (a ^^^ b) ^^^ b := by rw [Nat.xor_assoc, Nat.xor_self, Nat.xor_zero]
  rw [this, z, Nat.zero_xor]
theorem own_hN_inj {s x y : Nat} (hs : s < 65536) (hx : x < 65536) (hy : y < 65536) (e : own_hN s x = own_hN s y) : x = y := by
  unfold own_hN at e
  have e1 := own_xsinj (by decide) e
  have lt : ∀ z : Nat, (z * 40507 % 65536) ^^^ ((z * 40507 % 65536) >>> 7) < 65536 := fun z => by
    have h1 : z * 40507 % 65536 < 65536 := Nat.mod_lt _ (by decide)
    have h2 : (z * 40507 % 65536) >>> 7 ≤ z * 40507 % 65536 := by rw [Nat.shiftRight_eq_div_pow]; exact Nat.div_le_self _ _
    exact Nat.xor_lt_two_pow (n := 16) (by omega) (by omega)
  have e2 := own_mulinj (w := 56625) (by decide) (lt _) (lt _) e1
  have e3 := own_xsinj (by decide) e2
  have e4 := own_mulinj (w := 35571) (by decide) (Nat.xor_lt_two_pow (n := 16) (by omega) (by omega)) (Nat.xor_lt_two_pow (n := 16) (by omega) (by omega)) e3
  have : ∀ a : Nat, a = (a ^^^ s) ^^^ s := fun a => by rw [Nat.xor_assoc, Nat.xor_self, Nat.xor_zero]
  rw [this x, e4, ← this y]
theorem own_hs_inj {s x y : Nat} (hs : s < 65536) (hx : x < 65536) (hy : y < 65536) (e : own_hs (Int32.ofNat s) (Int32.ofNat x) = own_hs (Int32.ofNat s) (Int32.ofNat y)) : x = y := by
  rw [own_hs_N hs hx, own_hs_N hs hy] at e
  have b : ∀ z, own_hN s z < 65536 := fun z => by
    unfold own_hN
    have h1 : ∀ c : Nat, c * 23505 % 65536 < 65536 := fun c => Nat.mod_lt _ (by decide)
    have h2 : ∀ c : Nat, (c * 23505 % 65536) >>> 9 ≤ c * 23505 % 65536 := fun c => by rw [Nat.shiftRight_eq_div_pow]; exact Nat.div_le_self _ _
    exact Nat.xor_lt_two_pow (n := 16) (h1 _) (Nat.lt_of_le_of_lt (h2 _) (h1 _))
  have := b x
  have := b y
  exact own_hN_inj hs hx hy (own_Ninj (by omega) (by omega) e)
theorem own_andN (z : Int32) (m : Nat) (hm : m < 2147483648) : ∃ k, k ≤ m ∧ z &&& Int32.ofNat m = Int32.ofNat k := by
  refine ⟨(z &&& Int32.ofNat m).toBitVec.toNat, ?_, ?_⟩
  · rw [Int32.toBitVec_and, BitVec.toNat_and, Int32.toBitVec_ofNat', BitVec.toNat_ofNat, Nat.mod_eq_of_lt (a := m) (by omega)]
    exact Nat.and_le_right
  · apply Int32.toBitVec_inj.mp
    rw [Int32.toBitVec_ofNat']
    apply BitVec.eq_of_toNat_eq
    rw [BitVec.toNat_ofNat, Nat.mod_eq_of_lt (BitVec.isLt _)]
theorem own_orN {i k : Nat} (hi : i < 30) (hk : k < 2 ^ i) : Int32.ofNat (2 ^ i) ||| Int32.ofNat k = Int32.ofNat (2 ^ i + k) := by
  have hp : 2 ^ i ≤ 2 ^ 29 := Nat.pow_le_pow_right (by decide) (by omega)
  have h29 : (2 : Nat) ^ 29 = 536870912 := by decide
  apply Int32.toBitVec_inj.mp
  rw [Int32.toBitVec_or, Int32.toBitVec_ofNat', Int32.toBitVec_ofNat', Int32.toBitVec_ofNat']
  apply BitVec.eq_of_toNat_eq
  have := Nat.two_pow_add_eq_or_of_lt hk 1
  rw [Nat.mul_one] at this
  rw [BitVec.toNat_or, BitVec.toNat_ofNat, BitVec.toNat_ofNat, BitVec.toNat_ofNat, Nat.mod_eq_of_lt (a := 2 ^ i) (by omega), Nat.mod_eq_of_lt (a := k) (by omega), Nat.mod_eq_of_lt (by omega), this]

/-- what is found under a name -/
def own_look (E : List own_Ent) (sd x : Int32) : Int32 := if x < 0 ∨ 65535 < x then 0 else ((E.find? (fun e => decide (e.1 = own_hs sd x))).map (fun e => e.2.2)).getD 0
theorem own_look_of {E : List own_Ent} (S : own_Sd E) {sd x : Int32} {e : own_Ent} (hn : ¬ (x < 0 ∨ 65535 < x)) (he : e ∈ E) (hq : e.1 = own_hs sd x) : own_look E sd x = e.2.2 := by
  unfold own_look
  rw [if_neg hn]
  cases h : E.find? (fun e => decide (e.1 = own_hs sd x)) with
  | none =>
    have := List.find?_eq_none.mp h e he
    simp [hq] at this
  | some e' =>
    have h1 := List.mem_of_find?_eq_some h
    have h2 := List.find?_some h
    simp at h2
    have := own_uniq S h1 he (h2.trans hq.symm)
    subst this; rfl
theorem own_look_no {E : List own_Ent} {sd x : Int32} (h : (x < 0 ∨ 65535 < x) ∨ ∀ e ∈ E, ¬ e.1 = own_hs sd x) : own_look E sd x = 0 := by
  unfold own_look
  by_cases q : x < 0 ∨ 65535 < x
  · rw [if_pos q]
  · rw [if_neg q]
    have h' := h.resolve_left q
    have : E.find? (fun e => decide (e.1 = own_hs sd x)) = none := List.find?_eq_none.mpr (fun e he => by simpa using h' e he)
    rw [this]; rfl
theorem own_D.look {mi : Nat → Nat → Int32} {T : own_Tr} {fr : List Nat} {E : List own_Ent} {sd : Int32} {cp : Nat} {op ck : Nat → Int32} (D : own_D mi T fr E sd cp op ck) {Q : Option Value → EMem → Prop} (x : Int32) (ml : Nat → Nat → Int64)
    (K : Q (some (.int (own_look E sd x))) (LL1, mi, ml, RR1)) : W_lookup 0 [.val (.ref 0), .val (.int x), .unset, .unset] [] (LL1, mi, ml, RR1) Q :=
  D.lookup x ml (fun h => by rw [own_look_no h] at K; exact K) (fun hn e he hq => by rw [own_look_of D.srt hn he hq] at K; exact K)

/-- the name at a rank -/
def own_nar (E : List own_Ent) (x : Int32) : Int32 := if x < 0 ∨ ¬ x < Int32.ofNat E.length then -1 else ((E[x.toNatClampNeg]?).map (fun e => e.2.1)).getD (-1)
theorem own_D.nar {mi : Nat → Nat → Int32} {T : own_Tr} {fr : List Nat} {E : List own_Ent} {sd : Int32} {cp : Nat} {op ck : Nat → Int32} (D : own_D mi T fr E sd cp op ck) {Q : Option Value → EMem → Prop} (x : Int32) (ml : Nat → Nat → Int64)
    (K : Q (some (.int (own_nar E x))) (LL1, mi, ml, RR1)) : W_nameAtRank 0 [.val (.ref 0), .val (.int x), .unset, .unset, .unset, .unset] [] (LL1, mi, ml, RR1) Q := by
  have c32 := D.cp32
  have ec := D.ecp
  refine D.nameAtRank x ml (fun h => ?_) (fun k hk he => ?_)
  · unfold own_nar at K; rw [if_pos h] at K; exact K
  · unfold own_nar at K
    subst he
    rw [if_neg (fun q => by rcases q with q | q; exact own_Nnn (by omega) q; exact q ((own_Nlt (by omega) (by omega)).mpr hk)), own_Nc (by omega), List.getElem?_eq_getElem hk] at K
    exact K

/-- the cookie of a stream -/
def own_tell (op ck : Nat → Int32) (k : Nat) : Int32 := if op k = 0 then -2 else ck k

theorem own_end (i0 nm ino oth v1 e1 h1 e2 ino2 es eh : Int32) (mi : Nat → Nat → Int32) (ml : Nat → Nat → Int64) (T : own_Tr) (fr : List Nat) (E : List own_Ent) (cp : Nat) (op ck : Nat → Int32) (D : own_D mi T fr E es cp op ck)
    (heh : ¬ (nm < 0 ∨ 65535 < nm) → eh = own_hs es nm) (hbad : (nm < 0 ∨ 65535 < nm) → eh = -1)
    (hE : (ino2 = 0 ∧ E = []) ∨ (¬ ino2 = 0 ∧ E = [(own_hs es nm, nm, ino2)] ∧ ¬ (nm < 0 ∨ 65535 < nm))) :
    W_law 235 [.val (.int i0), .val (.int nm), .val (.int ino), .val (.int oth), .val (.ref 0), .val (.int v1), .val (.int e1), .val (.int h1), .val (.int e2), .val (.int ino2), .val (.int es), .val (.int eh)] [.int e2] (LL1, mi, ml, RR1) QL := by
  refine L_law_235 (fun _ => ?_) (fun w => absurd rfl w)
  have fin : ∀ y : Int32, (y = if ino2 = 0 then -1 else nm) → W_law 282 [.val (.int i0), .val (.int nm), .val (.int ino), .val (.int oth), .val (.ref 0), .val (.int v1), .val (.int e1), .val (.int h1), .val (.int e2), .val (.int ino2), .val (.int es), .val (.int eh)] [.int y] (LL1, mi, ml, RR1) QL := by
    intro y hy
    refine L_law_282 (fun v ev v2 ev2 => ?_)
    rw [if_pos (by rw [hy, ev])] at ev2
    exact ql1 ev2
  rcases hE with ⟨h0, rfl⟩ | ⟨h0, rfl, hn⟩
  · subst h0
    refine D.lookup nm ml (fun _ => ?_) (fun _ e he => absurd he (by simp))
    refine L_law_248 (fun _ v ev _ => ?_) (fun _ v ev w => absurd (by rw [ev, D.size]; rfl) w) (fun w => absurd rfl w)
    refine D.nameWithHash _ ml (fun _ => fin _ rfl) (fun _ e he => absurd he (by simp))
  · refine D.lookup nm ml (fun w => ?_) (fun _ e he hq => ?_)
    · exfalso; rcases w with w | w
      · exact hn w
      · exact w _ (List.mem_singleton.mpr rfl) rfl
    · have := List.mem_singleton.mp he
      subst this
      refine L_law_248 (fun _ v ev _ => ?_) (fun _ v ev w => absurd (by rw [ev, D.size, if_neg h0]; rfl) w) (fun w => absurd rfl w)
      rw [heh hn]
      have hb := own_hs_b es nm
      refine D.nameWithHash _ ml (fun w => ?_) (fun _ e he' hq' => ?_)
      · exfalso; rcases w with (w | w) | w
        · exact hb.1 w
        · exact hb.2.2 w
        · exact w _ (List.mem_singleton.mpr rfl) rfl
      · have := List.mem_singleton.mp he'
        subst this
        rw [← heh hn]
        exact fin _ (by rw [if_neg h0])
set_option maxHeartbeats 4000000 in
theorem law_ok (i0 nm ino oth : Int32) : W_law 0 (entryL [.int i0, .int nm, .int ino, .int oth] maxLocals) [] mem0 QL := by
  refine L_law_0 ?_
  refine own_init i0 8 _ _ (fun b k hb => rfl) (fun m ml sd cp hsd hcp hcp8 D => ?_)
  have body : ∀ (v1 e1 h1 e2 ino2 eh : Int32), (v1 = if nm < 0 then 0 else if 65535 < nm then 0 else 1) → (e1 = if v1 = 0 then 4 else if ino < 1 then 5 else 0) → (h1 = if e1 = 0 then 1 else 0) → (e2 = if v1 = 0 then 4 else if oth < 1 then 5 else if h1 = 0 then 0 else 1) → (ino2 = if h1 = 0 then (if e2 = 0 then oth else 0) else ino) →
      (¬ (nm < 0 ∨ 65535 < nm) → eh = own_hs sd nm) → ((nm < 0 ∨ 65535 < nm) → eh = -1) →
      W_law 150 [.val (.int i0), .val (.int nm), .val (.int ino), .val (.int oth), .val (.ref 0), .val (.int v1), .val (.int e1), .val (.int h1), .val (.int e2), .val (.int ino2), .val (.int sd), .unset] [.int eh] (LL1, m, ml, RR1) QL := by
    intro v1 e1 h1 e2 ino2 eh f1 f2 f3 f4 f5 g1 g2
    have vb : (v1 = 0) ↔ (nm < 0 ∨ 65535 < nm) := by grind
    refine L_law_150 ?_
    -- behind the first insert
    have mid : ∀ (m' : Nat → Nat → Int32) (ml' : Nat → Nat → Int64) (T' : own_Tr) (fr' : List Nat) (E' : List own_Ent), own_D m' T' fr' E' sd cp (fun _ => 0) (fun _ => 0) → ((h1 = 0 ∧ E' = []) ∨ (h1 = 1 ∧ E' = [(own_hs sd nm, nm, ino)] ∧ ¬ (nm < 0 ∨ 65535 < nm) ∧ ¬ ino < 1)) →
        W_law 159 [.val (.int i0), .val (.int nm), .val (.int ino), .val (.int oth), .val (.ref 0), .val (.int v1), .val (.int e1), .val (.int h1), .val (.int e2), .val (.int ino2), .val (.int sd), .val (.int eh)] [.int e1] (LL1, m', ml', RR1) QL := by
      intro m' ml' T' fr' E' D' hE
      have hsz : m' 0 33 = if h1 = 0 then 0 else 1 := by
        rw [D'.size]
        rcases hE with ⟨a, b⟩ | ⟨a, b, -⟩
        · rw [a, b]; rfl
        · rw [a, b]; rfl
      refine L_law_159 (fun _ v ev _ => ?_) (fun _ v ev w => absurd (by rw [ev]; exact hsz) w) (fun w => absurd rfl w)
      refine D'.look nm ml' ?_
      have hl : own_look E' sd nm = if h1 = 0 then 0 else ino := by
        rcases hE with ⟨a, b⟩ | ⟨a, b, c, d⟩
        · rw [a, b, if_pos rfl]; exact own_look_no (Or.inr (fun e he => absurd he (by simp)))
        · rw [a, if_neg (by decide), own_look_of D'.srt c (by rw [b]; exact List.mem_singleton.mpr rfl) rfl]
      rw [hl]
      refine L_law_192 (fun v ev _ => ?_) (fun v ev w => absurd ev.symm w)
      refine D'.nar _ ml' ?_
      have hna : own_nar E' 0 = if h1 = 0 then -1 else nm := by
        rcases hE with ⟨a, b⟩ | ⟨a, b, c, d⟩
        · rw [a, b]; rfl
        · rw [a, b, if_neg (by decide)]
          unfold own_nar
          rw [if_neg (fun q => by rcases q with q | q; exact absurd q (by decide); exact q (by show (0 : Int32) < Int32.ofNat 1; decide))]; rfl
      rw [hna]
      refine L_law_213 (fun v ev _ => ?_) (fun v ev w => absurd ev.symm w)
      have hlen : (∀ e ∈ E', ¬ e.1 = own_hs sd nm) → E'.length < 1 := by
        intro hno
        rcases hE with ⟨a, b⟩ | ⟨a, b, c, d⟩
        · rw [b]; simp
        · rw [b] at hno; exact absurd rfl (hno _ (List.mem_singleton.mpr rfl))
      refine D'.insertS nm oth ml' hlen (fun w => ?_) (fun w w2 => ?_) (fun w w2 e he hq => ?_) (fun w w2 hno hc => ?_) (fun w w2 hno hlt m2 T2 fr2 A B hAB hA hB D2 => ?_)
      · have z1 : v1 = 0 := vb.mpr w
        have z2 : h1 = 0 := by grind
        have z3 : e2 = 4 := by grind
        have z4 : ino2 = 0 := by grind
        have := own_end i0 nm ino oth v1 e1 h1 e2 ino2 sd eh m' ml' T' fr' E' cp _ _ D' g1 g2 (Or.inl ⟨z4, by rcases hE with ⟨a, b⟩ | ⟨a, b, c, d⟩; exact b; exact absurd w c⟩)
        rw [z3] at this ⊢; exact this
      · have z1 : ¬ v1 = 0 := fun q => w (vb.mp q)
        have z3 : e2 = 5 := by grind
        have := own_end i0 nm ino oth v1 e1 h1 e2 ino2 sd eh m' ml' T' fr' E' cp _ _ D' g1 g2 (by
          rcases hE with ⟨a, b⟩ | ⟨a, b, c, d⟩
          · left; exact ⟨by grind, b⟩
          · right; refine ⟨by grind, ?_, c⟩
            have : ino2 = ino := by grind
            rw [this]; exact b)
        rw [z3] at this ⊢; exact this
      · have z1 : ¬ v1 = 0 := fun q => w (vb.mp q)
        rcases hE with ⟨a, b⟩ | ⟨a, b, c, d⟩
        · rw [b] at he; exact absurd he (by simp)
        · have z3 : e2 = 1 := by grind
          have := own_end i0 nm ino oth v1 e1 h1 e2 ino2 sd eh m' ml' T' fr' E' cp _ _ D' g1 g2 (Or.inr ⟨by grind, by rw [show ino2 = ino by grind]; exact b, c⟩)
          rw [z3] at this ⊢; exact this
      · exfalso
        have := hlen hno
        omega
      · have z1 : ¬ v1 = 0 := fun q => w (vb.mp q)
        rcases hE with ⟨a, b⟩ | ⟨a, b, c, d⟩
        · have z3 : e2 = 0 := by grind
          have z4 : ino2 = oth := by grind
          have hA0 : A = [] ∧ B = [] := by rw [b] at hAB; simpa using hAB.symm
          rw [hA0.1, hA0.2] at D2
          have := own_end i0 nm ino oth v1 e1 h1 e2 ino2 sd eh m2 ml' T2 fr2 _ cp _ _ D2 g1 g2 (Or.inr ⟨by grind, by rw [z4]; rfl, w⟩)
          rw [z3] at this ⊢; exact this
        · rw [b] at hno
          exact absurd rfl (hno _ (List.mem_singleton.mpr rfl))
    refine D.insertS nm ino ml (fun _ => by simp) (fun w => ?_) (fun w w2 => ?_) (fun w w2 e he hq => absurd he (by simp)) (fun w w2 hno hc => ?_) (fun w w2 hno hlt m2 T2 fr2 A B hAB hA hB D2 => ?_)
    · have z1 : v1 = 0 := vb.mpr w
      have z2 : e1 = 4 := by grind
      have := mid m ml _ _ _ D (Or.inl ⟨by grind, rfl⟩)
      rw [z2] at this ⊢; exact this
    · have z1 : ¬ v1 = 0 := fun q => w (vb.mp q)
      have z2 : e1 = 5 := by grind
      have := mid m ml _ _ _ D (Or.inl ⟨by grind, rfl⟩)
      rw [z2] at this ⊢; exact this
    · simp at hc; omega
    · have z1 : ¬ v1 = 0 := fun q => w (vb.mp q)
      have z2 : e1 = 0 := by grind
      have hA0 : A = [] ∧ B = [] := by simpa using hAB.symm
      rw [hA0.1, hA0.2] at D2
      have := mid m2 ml _ _ _ D2 (Or.inr ⟨by grind, rfl, w, w2⟩)
      rw [z2] at this ⊢; exact this
  refine L_law_10 ?_ ?_
  · intro v1 f1 e1 f2 h1 f3 e2 f4 ino2 f5 v6 f6 hv
    have : v6 = sd := by rw [f6, hsd]
    subst this
    refine body v1 e1 h1 e2 ino2 (-1) f1 f2 f3 f4 f5 (fun w => ?_) (fun _ => rfl)
    exfalso; grind
  · intro v1 f1 e1 f2 h1 f3 e2 f4 ino2 f5 v6 f6 hv
    have : v6 = sd := by rw [f6, hsd]
    subst this
    refine L_law_hash_0 ?_
    refine L_law_146 ?_
    refine body v1 e1 h1 e2 ino2 _ f1 f2 f3 f4 f5 (fun _ => rfl) (fun w => ?_)
    exfalso; grind

set_option maxRecDepth 65536 in
set_option maxHeartbeats 40000000 in
theorem comes_1 {Post : Tables → Env → Array Value → State → Outcome → State → Prop} (hpost : ∀ tb e args s v u, (limb_1_1.after args s (.returned v) u = true ∧ limb_1_2.after args s (.returned v) u = true ∧ True) → FrameEnd s (.returned v) u (Jvm.fieldLocs frame_1_writes args s ++ Jvm.arrayLocs frame_1_arrays args s ++ Jvm.staticLocs frame_1_statics s) 32 1088 → Post tb e args s (.returned v) u) :
    ArmFor flags0 classFile x code maxLocals ret World_1 tables_1 room_1 Calls_1 rest_1 Pre_1 Post := by
  intro l hfl _ _ p e ha hc hk s m args below hf hA hF happ hP
  obtain ⟨hcalls, hrest, hpre⟩ := hP
  obtain ⟨-, -, -, hnamed, -, -, -, hat⟩ := (Spec.applies_iff hf).mp happ
  obtain ⟨hg, hn⟩ := and_e (Cond.before_iff.mp (show (Jvm.Cond.and given_1 narrow_1).before args s = true from hpre))
  obtain ⟨g0, t0⟩ := and_e hg
  obtain ⟨g1, t1⟩ := and_e t0
  obtain ⟨g2, t2⟩ := and_e t1
  obtain ⟨g3, t3⟩ := and_e t2
  obtain ⟨w0, w1, w2, w3, rfl⟩ : ∃ w0 w1 w2 w3 : Value, args = #[w0, w1, w2, w3] := by
    have hs : args.size = 4 := by simpa [Cond.value, given_1] using g0
    obtain ⟨L⟩ := args
    match L, hs with
    | [w0, w1, w2, w3], _ => exact ⟨w0, w1, w2, w3, rfl⟩
  have hw := fun d (hd : d ∈ tables_1) => atoms_spec (ws := Jvm.Cond.code x code maxLocals ret :: tables_1) hat d (List.mem_cons_of_mem _ hd)
  obtain ⟨i0, e0⟩ := is_v g1
  obtain rfl : w0 = (.int i0) := Option.some.inj e0
  obtain ⟨i1, e1⟩ := is_v g2
  obtain rfl : w1 = (.int i1) := Option.some.inj e1
  obtain ⟨i2, e2⟩ := is_v g3
  obtain rfl : w2 = (.int i2) := Option.some.inj e2
  obtain ⟨i3, e3⟩ := is_v t3
  obtain rfl : w3 = (.int i3) := Option.some.inj e3
  obtain ⟨n, o, h1, h2, h3, _, L, rfl, ⟨rfl, N⟩, hq⟩ := law_run (l := l) (R := room_1) (as := [.int i0, .int i1, .int i2, .int i3]) hw (ρ := fun a => s.heap.size + a) (fun a b q => Nat.add_left_cancel q) (fun a _ => rfl) (rel0 s _) (by first | (simp [plainName, overriddenIn, x]; done) | decide +kernel) (Nat.le_of_ble_eq_true rfl) (law_ok i0 i1 i2 i3) tables_1 p e ha hc hk s m _ below hf ((Spec.applies_iff_loose hf).mp happ).1 ⟨rfl, State.Warmed39.refl s, rfl⟩ trivial
  refine ⟨n, _, h1, h2, h3, hpost _ _ _ _ _ _ ⟨Cond.after_iff.mpr rfl, Cond.after_iff.mpr (eq_i res_at (Term.int_eval (1)) rfl), trivial⟩ ⟨hq.1, hq.2.1, (hq.2.2.sift fun y hy => Or.inr (N y hy)).mono (by decide) (by decide)⟩⟩
theorem main_1_1 : Claimed_1_1 := comes_1 fun _ _ _ _ _ _ h hF => ⟨h.1, hF⟩
theorem main_1_2 : Claimed_1_2 := comes_1 fun _ _ _ _ _ _ h hF => ⟨h.2.1, hF⟩
end Jvm.Pilot.@@N@@
namespace Jvm.Pilot.@@N@@
open Jvm Jvm.ClassFile Sem Op Lib Jvm.Free Jvm.Stand Jvm.Pilot.@@N@@.Jvm.D
/-! MADE BY PROGRAM (witnessworld.py) out of the Statement's table words and the real class files: 11 classes; the members and pool entries that the words name. The judged class is class 1, her method 1. -/
namespace start1
open Jvm.ClassFile
def u (s : String) : CpInfo := .utf8 (stringToUtf16 s)
/-- a pool by its gaps: so many unusable entries, then the entry; so many at the end -/
def gap : Nat → List CpInfo → List CpInfo
  | 0, r => r
  | n + 1, r => .unusable :: gap n r
def poolList (es : List (Nat × CpInfo)) (last : Nat) : List CpInfo := es.foldr (fun e r => gap e.1 (e.2 :: r)) (gap last [])
def pool (es : List (Nat × CpInfo)) (last : Nat) : Array CpInfo := ⟨poolList es last⟩
def fileOf (pool : Array CpInfo) (this : Nat) (attrs : Array Attribute := #[]) (ms : Array MethodInfo := #[]) (fl : Nat := 33) (sup : Nat := 0) (ifs : Array Nat := #[]) (fds : Array FieldInfo := #[]) : ClassFile where
  minorVersion := 0
  majorVersion := 65
  constantPool := pool
  accessFlags := fl
  thisClass := this
  superClass := sup
  interfaces := ifs
  fields := fds
  methods := ms
  attributes := attrs
def plain (name : String) (sup : Option ClassId) : Class where
  name := name
  kind := .ordinary
  loader := none
  accessFlags := 33
  super := sup
  interfaces := #[]
  cf := none
  fields := #[]
  methods := #[]
  instanceTypes := #[]
  staticTypes := #[]
  resolved := #[]
  callSites := []
  init := .initialized
  statics := none
  mirror := none

def pool0 : Array CpInfo := pool [(5, u "<init>"), (0, u "()V"), (1, .class_ 10), (1, u "java/lang/Object")] 113

def k0c0 : Code := { maxStack := 0, maxLocals := 1, code := object_method_1_code, exceptionTable := #[], attributes := #[] }
def k0m0 : Method := { name := "<init>", desc := "()V", sig := { parameters := [], returnType := none }, accessFlags := 1, code := some k0c0 }
/-- java/lang/Object -/
def k0 : Class := { plain "java/lang/Object" none with
  accessFlags := 33
  interfaces := #[]
  cf := some (fileOf pool0 8 #[] #[{ accessFlags := 1, nameIndex := 5, descriptorIndex := 6, attributes := #[] }] 33 0 #[] #[])
  fields := #[]
  methods := #[k0m0]
  instanceTypes := #[]
  staticTypes := #[]
  resolved := Array.replicate 124 none
  statics := none }

def pool1 : Array CpInfo := pool [(2, .class_ 4), (1, u "java/lang/Object"), (0, u "<init>"), (0, u "()V"), (0, .class_ 8), (0, u "HtreeDir"), (0, .methodref 7 10), (0, .nameAndType 5 11), (0, u "(II)V"), (0, .integer 65535), (0, .methodref 14 15), (0, .class_ 16), (0, .nameAndType 17 18), (0, u "HtreeDirL2"), (0, u "hash"), (0, u "(II)I"), (0, .methodref 7 20), (0, .nameAndType 21 18), (0, u "insert"), (0, .methodref 7 23), (0, .nameAndType 24 25), (0, u "count"), (0, u "()I"), (0, .methodref 7 27), (0, .nameAndType 28 29), (0, u "lookup"), (0, u "(I)I"), (0, .methodref 7 31), (0, .nameAndType 32 29), (0, u "nameAtRank"), (0, .methodref 7 34), (0, .nameAndType 35 29), (0, u "nameWithHash"), (0, .integer 40507), (2, u "law"), (0, u "(IIII)Z")] 3

def k1m0 : Method := { name := "<init>", desc := "()V", sig := { parameters := [], returnType := none }, accessFlags := 1, code := none }
def k1c1 : Code := { maxStack := 4, maxLocals := 12, code := code, exceptionTable := #[], attributes := #[] }
def k1m1 : Method := { name := "law", desc := "(IIII)Z", sig := { parameters := [.int, .int, .int, .int], returnType := some .boolean }, accessFlags := 9, code := some k1c1 }
def k1c2 : Code := { maxStack := 3, maxLocals := 3, code := method_3_code, exceptionTable := #[], attributes := #[] }
def k1m2 : Method := { name := "hash", desc := "(II)I", sig := { parameters := [.int, .int], returnType := some .int }, accessFlags := 10, code := some k1c2 }
/-- HtreeDirL2 -/
def k1 : Class := { plain "HtreeDirL2" (some 0) with
  accessFlags := 49
  interfaces := #[]
  cf := some (fileOf pool1 14 #[] #[{ accessFlags := 1, nameIndex := 5, descriptorIndex := 6, attributes := #[] }, { accessFlags := 9, nameIndex := 39, descriptorIndex := 40, attributes := #[] }, { accessFlags := 10, nameIndex := 17, descriptorIndex := 18, attributes := #[] }] 49 2 #[] #[])
  fields := #[]
  methods := #[k1m0, k1m1, k1m2]
  instanceTypes := #[]
  staticTypes := #[]
  resolved := Array.replicate 44 none
  statics := none }

def pool2 : Array CpInfo := pool [(1, .methodref 2 3), (0, .class_ 4), (0, .nameAndType 5 6), (0, u "java/lang/Object"), (0, u "<init>"), (0, u "()V"), (0, .fieldref 8 9), (0, .class_ 10), (0, .nameAndType 11 12), (0, u "HtreeDir"), (0, u "eHash"), (0, u "[I"), (0, .fieldref 8 14), (0, .nameAndType 15 12), (0, u "eName"), (0, .fieldref 8 17), (0, .nameAndType 18 12), (0, u "eInode"), (0, .fieldref 8 20), (0, .nameAndType 21 12), (0, u "leafLen"), (0, .fieldref 8 23), (0, .nameAndType 24 12), (0, u "idxLeaf"), (0, .fieldref 8 26), (0, .nameAndType 27 12), (0, u "freeStack"), (0, .fieldref 8 29), (0, .nameAndType 30 31), (0, u "open"), (0, u "[Z"), (0, .fieldref 8 33), (0, .nameAndType 34 12), (0, u "cookie"), (0, .integer 65535), (0, .fieldref 8 37), (0, .nameAndType 38 39), (0, u "seed"), (0, u "I"), (0, .fieldref 8 41), (0, .nameAndType 42 39), (0, u "cap"), (0, .fieldref 8 44), (0, .nameAndType 45 39), (0, u "size"), (0, .fieldref 8 47), (0, .nameAndType 48 39), (0, u "numLeaves"), (0, .fieldref 8 50), (0, .nameAndType 51 39), (0, u "freeTop"), (0, .methodref 8 53), (0, .nameAndType 54 55), (0, u "isName"), (0, u "(I)Z"), (0, .methodref 8 57), (0, .nameAndType 58 59), (0, u "hash"), (0, u "(I)I"), (0, .methodref 8 61), (0, .nameAndType 62 59), (0, u "locate"), (0, .methodref 8 64), (0, .nameAndType 65 66), (0, u "createFirstLeaf"), (0, u "()Z"), (0, .methodref 8 68), (0, .nameAndType 69 59), (0, u "findLeafPos"), (3, u "(II)I"), (0, .methodref 8 75), (0, .nameAndType 76 77), (0, u "insertIntoLeaf"), (0, u "(IIII)V"), (3, u "(II)V"), (4, .methodref 8 87), (0, .nameAndType 88 59), (0, u "entryIndex"), (10, .integer 40507), (0, .methodref 8 101), (0, .nameAndType 102 59), (0, u "keyAt"), (0, .methodref 8 104), (0, .nameAndType 105 106), (0, u "allocLeaf"), (0, u "()I"), (15, u "OK"), (2, u "DUP"), (1, u "FULL"), (1, u "ABSENT"), (1, u "BAD_NAME"), (1, u "BAD_INODE"), (1, u "END"), (1, u "BAD_HANDLE"), (1, u "COOKIE_START"), (0, u "COOKIE_EOF"), (0, u "MAX_HANDLES"), (0, u "NAME_MAX"), (4, u "count"), (1, u "insert"), (2, u "lookup"), (0, u "nameWithHash"), (0, u "nameAtRank")] 9

def k2c0 : Code := { maxStack := 4, maxLocals := 6, code := prog_1_method_1_code, exceptionTable := #[], attributes := #[] }
def k2m0 : Method := { name := "<init>", desc := "(II)V", sig := { parameters := [.int, .int], returnType := none }, accessFlags := 1, code := some k2c0 }
def k2c1 : Code := { maxStack := 1, maxLocals := 1, code := prog_1_method_3_code, exceptionTable := #[], attributes := #[] }
def k2m1 : Method := { name := "count", desc := "()I", sig := { parameters := [], returnType := some .int }, accessFlags := 1, code := some k2c1 }
def k2c2 : Code := { maxStack := 5, maxLocals := 6, code := prog_1_method_5_code, exceptionTable := #[], attributes := #[] }
def k2m2 : Method := { name := "insert", desc := "(II)I", sig := { parameters := [.int, .int], returnType := some .int }, accessFlags := 1, code := some k2c2 }
def k2c3 : Code := { maxStack := 3, maxLocals := 4, code := prog_1_method_8_code, exceptionTable := #[], attributes := #[] }
def k2m3 : Method := { name := "lookup", desc := "(I)I", sig := { parameters := [.int], returnType := some .int }, accessFlags := 1, code := some k2c3 }
def k2c4 : Code := { maxStack := 3, maxLocals := 3, code := prog_1_method_9_code, exceptionTable := #[], attributes := #[] }
def k2m4 : Method := { name := "nameWithHash", desc := "(I)I", sig := { parameters := [.int], returnType := some .int }, accessFlags := 1, code := some k2c4 }
def k2c5 : Code := { maxStack := 3, maxLocals := 6, code := prog_1_method_10_code, exceptionTable := #[], attributes := #[] }
def k2m5 : Method := { name := "nameAtRank", desc := "(I)I", sig := { parameters := [.int], returnType := some .int }, accessFlags := 1, code := some k2c5 }
def k2c6 : Code := { maxStack := 2, maxLocals := 2, code := prog_1_method_17_code, exceptionTable := #[], attributes := #[] }
def k2m6 : Method := { name := "isName", desc := "(I)Z", sig := { parameters := [.int], returnType := some .boolean }, accessFlags := 2, code := some k2c6 }
def k2c7 : Code := { maxStack := 3, maxLocals := 3, code := prog_1_method_19_code, exceptionTable := #[], attributes := #[] }
def k2m7 : Method := { name := "hash", desc := "(I)I", sig := { parameters := [.int], returnType := some .int }, accessFlags := 2, code := some k2c7 }
def k2c8 : Code := { maxStack := 3, maxLocals := 3, code := prog_1_method_20_code, exceptionTable := #[], attributes := #[] }
def k2m8 : Method := { name := "keyAt", desc := "(I)I", sig := { parameters := [.int], returnType := some .int }, accessFlags := 2, code := some k2c8 }
def k2c9 : Code := { maxStack := 2, maxLocals := 7, code := prog_1_method_21_code, exceptionTable := #[], attributes := #[] }
def k2m9 : Method := { name := "findLeafPos", desc := "(I)I", sig := { parameters := [.int], returnType := some .int }, accessFlags := 2, code := some k2c9 }
def k2c10 : Code := { maxStack := 3, maxLocals := 7, code := prog_1_method_22_code, exceptionTable := #[], attributes := #[] }
def k2m10 : Method := { name := "locate", desc := "(I)I", sig := { parameters := [.int], returnType := some .int }, accessFlags := 2, code := some k2c10 }
def k2c11 : Code := { maxStack := 3, maxLocals := 3, code := prog_1_method_24_code, exceptionTable := #[], attributes := #[] }
def k2m11 : Method := { name := "entryIndex", desc := "(I)I", sig := { parameters := [.int], returnType := some .int }, accessFlags := 2, code := some k2c11 }
def k2c12 : Code := { maxStack := 3, maxLocals := 2, code := prog_1_method_26_code, exceptionTable := #[], attributes := #[] }
def k2m12 : Method := { name := "allocLeaf", desc := "()I", sig := { parameters := [], returnType := some .int }, accessFlags := 2, code := some k2c12 }
def k2c13 : Code := { maxStack := 3, maxLocals := 2, code := prog_1_method_28_code, exceptionTable := #[], attributes := #[] }
def k2m13 : Method := { name := "createFirstLeaf", desc := "()Z", sig := { parameters := [], returnType := some .boolean }, accessFlags := 2, code := some k2c13 }
def k2c14 : Code := { maxStack := 4, maxLocals := 8, code := prog_1_method_33_code, exceptionTable := #[], attributes := #[] }
def k2m14 : Method := { name := "insertIntoLeaf", desc := "(IIII)V", sig := { parameters := [.int, .int, .int, .int], returnType := none }, accessFlags := 2, code := some k2c14 }
/-- HtreeDir -/
def k2 : Class := { plain "HtreeDir" (some 0) with
  accessFlags := 49
  interfaces := #[]
  cf := some (fileOf pool2 8 #[] #[{ accessFlags := 1, nameIndex := 5, descriptorIndex := 81, attributes := #[] }, { accessFlags := 1, nameIndex := 147, descriptorIndex := 106, attributes := #[] }, { accessFlags := 1, nameIndex := 149, descriptorIndex := 73, attributes := #[] }, { accessFlags := 1, nameIndex := 152, descriptorIndex := 59, attributes := #[] }, { accessFlags := 1, nameIndex := 153, descriptorIndex := 59, attributes := #[] }, { accessFlags := 1, nameIndex := 154, descriptorIndex := 59, attributes := #[] }, { accessFlags := 2, nameIndex := 54, descriptorIndex := 55, attributes := #[] }, { accessFlags := 2, nameIndex := 58, descriptorIndex := 59, attributes := #[] }, { accessFlags := 2, nameIndex := 102, descriptorIndex := 59, attributes := #[] }, { accessFlags := 2, nameIndex := 69, descriptorIndex := 59, attributes := #[] }, { accessFlags := 2, nameIndex := 62, descriptorIndex := 59, attributes := #[] }, { accessFlags := 2, nameIndex := 88, descriptorIndex := 59, attributes := #[] }, { accessFlags := 2, nameIndex := 105, descriptorIndex := 106, attributes := #[] }, { accessFlags := 2, nameIndex := 65, descriptorIndex := 66, attributes := #[] }, { accessFlags := 2, nameIndex := 76, descriptorIndex := 77, attributes := #[] }] 49 2 #[] #[{ accessFlags := 25, nameIndex := 122, descriptorIndex := 39, attributes := #[] }, { accessFlags := 25, nameIndex := 125, descriptorIndex := 39, attributes := #[] }, { accessFlags := 25, nameIndex := 127, descriptorIndex := 39, attributes := #[] }, { accessFlags := 25, nameIndex := 129, descriptorIndex := 39, attributes := #[] }, { accessFlags := 25, nameIndex := 131, descriptorIndex := 39, attributes := #[] }, { accessFlags := 25, nameIndex := 133, descriptorIndex := 39, attributes := #[] }, { accessFlags := 25, nameIndex := 135, descriptorIndex := 39, attributes := #[] }, { accessFlags := 25, nameIndex := 137, descriptorIndex := 39, attributes := #[] }, { accessFlags := 25, nameIndex := 139, descriptorIndex := 39, attributes := #[] }, { accessFlags := 25, nameIndex := 140, descriptorIndex := 39, attributes := #[] }, { accessFlags := 25, nameIndex := 141, descriptorIndex := 39, attributes := #[] }, { accessFlags := 25, nameIndex := 142, descriptorIndex := 39, attributes := #[] }, { accessFlags := 2, nameIndex := 38, descriptorIndex := 39, attributes := #[] }, { accessFlags := 2, nameIndex := 42, descriptorIndex := 39, attributes := #[] }, { accessFlags := 2, nameIndex := 45, descriptorIndex := 39, attributes := #[] }, { accessFlags := 2, nameIndex := 11, descriptorIndex := 12, attributes := #[] }, { accessFlags := 2, nameIndex := 15, descriptorIndex := 12, attributes := #[] }, { accessFlags := 2, nameIndex := 18, descriptorIndex := 12, attributes := #[] }, { accessFlags := 2, nameIndex := 21, descriptorIndex := 12, attributes := #[] }, { accessFlags := 2, nameIndex := 24, descriptorIndex := 12, attributes := #[] }, { accessFlags := 2, nameIndex := 48, descriptorIndex := 39, attributes := #[] }, { accessFlags := 2, nameIndex := 27, descriptorIndex := 12, attributes := #[] }, { accessFlags := 2, nameIndex := 51, descriptorIndex := 39, attributes := #[] }, { accessFlags := 2, nameIndex := 30, descriptorIndex := 31, attributes := #[] }, { accessFlags := 2, nameIndex := 34, descriptorIndex := 12, attributes := #[] }])
  fields := #[{ name := "OK", type := .int, accessFlags := 25, slot := 0, constantValue := 0 }, { name := "DUP", type := .int, accessFlags := 25, slot := 1, constantValue := 0 }, { name := "FULL", type := .int, accessFlags := 25, slot := 2, constantValue := 0 }, { name := "ABSENT", type := .int, accessFlags := 25, slot := 3, constantValue := 0 }, { name := "BAD_NAME", type := .int, accessFlags := 25, slot := 4, constantValue := 0 }, { name := "BAD_INODE", type := .int, accessFlags := 25, slot := 5, constantValue := 0 }, { name := "END", type := .int, accessFlags := 25, slot := 6, constantValue := 0 }, { name := "BAD_HANDLE", type := .int, accessFlags := 25, slot := 7, constantValue := 0 }, { name := "COOKIE_START", type := .int, accessFlags := 25, slot := 8, constantValue := 0 }, { name := "COOKIE_EOF", type := .int, accessFlags := 25, slot := 9, constantValue := 0 }, { name := "MAX_HANDLES", type := .int, accessFlags := 25, slot := 10, constantValue := 0 }, { name := "NAME_MAX", type := .int, accessFlags := 25, slot := 11, constantValue := 0 }, { name := "seed", type := .int, accessFlags := 2, slot := 0, constantValue := 0 }, { name := "cap", type := .int, accessFlags := 2, slot := 1, constantValue := 0 }, { name := "size", type := .int, accessFlags := 2, slot := 2, constantValue := 0 }, { name := "eHash", type := (.array .int), accessFlags := 2, slot := 3, constantValue := 0 }, { name := "eName", type := (.array .int), accessFlags := 2, slot := 4, constantValue := 0 }, { name := "eInode", type := (.array .int), accessFlags := 2, slot := 5, constantValue := 0 }, { name := "leafLen", type := (.array .int), accessFlags := 2, slot := 6, constantValue := 0 }, { name := "idxLeaf", type := (.array .int), accessFlags := 2, slot := 7, constantValue := 0 }, { name := "numLeaves", type := .int, accessFlags := 2, slot := 8, constantValue := 0 }, { name := "freeStack", type := (.array .int), accessFlags := 2, slot := 9, constantValue := 0 }, { name := "freeTop", type := .int, accessFlags := 2, slot := 10, constantValue := 0 }, { name := "open", type := (.array .boolean), accessFlags := 2, slot := 11, constantValue := 0 }, { name := "cookie", type := (.array .int), accessFlags := 2, slot := 12, constantValue := 0 }]
  methods := #[k2m0, k2m1, k2m2, k2m3, k2m4, k2m5, k2m6, k2m7, k2m8, k2m9, k2m10, k2m11, k2m12, k2m13, k2m14]
  instanceTypes := #[.int, .int, .int, (.array .int), (.array .int), (.array .int), (.array .int), (.array .int), .int, (.array .int), .int, (.array .boolean), (.array .int)]
  staticTypes := #[.int, .int, .int, .int, .int, .int, .int, .int, .int, .int, .int, .int]
  resolved := Array.replicate 164 none
  statics := none }

def pool3 : Array CpInfo := pool [(1, u "java/lang/Cloneable"), (0, .class_ 1), (0, u "java/lang/Object"), (0, .class_ 3)] 3

/-- java/lang/Cloneable -/
def k3 : Class := { plain "java/lang/Cloneable" (some 0) with
  accessFlags := 1537
  interfaces := #[]
  cf := some (fileOf pool3 2 #[] #[] 1537 4 #[] #[])
  fields := #[]
  methods := #[]
  instanceTypes := #[]
  staticTypes := #[]
  resolved := Array.replicate 8 none
  statics := none }

def pool4 : Array CpInfo := pool [(1, u "java/io/Serializable"), (0, .class_ 1), (0, u "java/lang/Object"), (0, .class_ 3)] 3

/-- java/io/Serializable -/
def k4 : Class := { plain "java/io/Serializable" (some 0) with
  accessFlags := 1537
  interfaces := #[]
  cf := some (fileOf pool4 2 #[] #[] 1537 4 #[] #[])
  fields := #[]
  methods := #[]
  instanceTypes := #[]
  staticTypes := #[]
  resolved := Array.replicate 8 none
  statics := none }

/-- the primitive boolean -/
def k5 : Class := { plain "boolean" none with kind := .primitive 'Z', accessFlags := 0x411 }
/-- [Z -/
def k6 : Class := { plain "[Z" (some 0) with kind := .array 5 .boolean, interfaces := #[3, 4], accessFlags := 1041 }

/-- the primitive byte -/
def k7 : Class := { plain "byte" none with kind := .primitive 'B', accessFlags := 0x411 }
/-- [B -/
def k8 : Class := { plain "[B" (some 0) with kind := .array 7 .byte, interfaces := #[3, 4], accessFlags := 1041 }

/-- the primitive int -/
def k9 : Class := { plain "int" none with kind := .primitive 'I', accessFlags := 0x411 }
/-- [I -/
def k10 : Class := { plain "[I" (some 0) with kind := .array 9 .int, interfaces := #[3, 4], accessFlags := 1041 }

def heap : Heap := #[]
def classes : Array Class := #[k0, k1, k2, k3, k4, k5, k6, k7, k8, k9, k10]
def interned : List (Array UInt16 × Addr) := []
def slotsUsed : Nat := 0
def theMethod : MethodId := ⟨1, 1⟩
def args0 : Array Value := #[.int 5, .int 5, .int 5, .int 5]
def aboutOver (below : List Frame) : State where
  vm := { classes := classes, interned := interned.toArray }
  heap := heap
  slotsUsed := slotsUsed
  threads := #[{ frames := .invoking theMethod args0 :: below }]
def below0 : List Frame := [.native { method := ⟨0, 0⟩, args := #[] }]
def about1 : State := aboutOver below0
def p0 : Program := .bare "" "" ""
def e0 : Env := launch0.env 0 0 0
theorem w_frames : about1.frames = Frame.invoking theMethod args0 :: below0 := rfl
set_option maxRecDepth 65536 in
theorem w_args : argsFit about1.vm theMethod args0 = true := by decide +kernel
set_option maxRecDepth 65536 in
theorem w_heap : heapFits about1 = true := by decide +kernel
set_option maxRecDepth 65536 in
theorem w_runnable : about1.curStatus? = some .runnable := by decide +kernel
set_option maxRecDepth 65536 in
theorem w_alone : about1.alone = true := by decide +kernel
set_option maxRecDepth 65536 in
theorem w_named : about1.methodNamed? x = some theMethod := by decide +kernel
set_option maxRecDepth 65536 in
theorem w_hears : about1.hears theMethod below0 = true := by decide +kernel
set_option maxRecDepth 65536 in
theorem w_ripe : about1.ripe theMethod args0 below0 = true := by decide +kernel
theorem w_running : about1.status = .running := rfl
set_option maxRecDepth 65536 in
theorem w_room : about1.hasRoom e0.platform room_1 = true :=
  launch0.hasRoom_least _ room_1 (by decide +kernel) (by decide +kernel) (by decide +kernel) (by decide +kernel) (by decide +kernel) (by decide +kernel)
theorem allAtoms_all (ts : List Jvm.Cond) (a : Array Jvm.Value) (st : Jvm.State) : (allAtoms ts).before a st = ts.all (fun c => c.before a st) := by
  induction ts with
  | nil => rfl
  | cons c t ih =>
    show (Jvm.Cond.and c (allAtoms t)).before a st = _
    rw [Jvm.Cond.before_and, ih, List.all_cons]
def words1 : List Jvm.Cond := Jvm.Cond.code x code maxLocals ret :: tables_1
/-- a 'code' word, met by the world's own term for the bytes: nothing is compared byte by byte -/
theorem code_word {y : MethodName} {bytes : ByteArray} {mx : Nat} {rt : Option FieldType} {a : Array Value} {s : State} {m : MethodId} {meth : Method} {c : Code} (h1 : s.methodNamed? y = some m) (h2 : s.vm.method? m = some meth) (h3 : meth.code = some c) (h4 : c.code = bytes)
    (h5 : (c.maxLocals == mx && c.exceptionTable.isEmpty && decide (c.maxStack ≤ mostOperands) && decide (meth.sig.returnType = rt) && !meth.locks && decide (parseMethodDescriptor y.desc = some meth.sig)) = true) : (Jvm.Cond.code y bytes mx rt).before a s = true := by
  simp only [Bool.and_eq_true, beq_iff_eq, Bool.not_eq_true', decide_eq_true_eq] at h5
  obtain ⟨⟨⟨⟨⟨g1, g2⟩, g3⟩, g4⟩, g5⟩, g6⟩ := h5
  simp [Cond.before, Cond.holds, Cond.value, h1, h2, h3, h4, g1, g2, g3, g4, g5, g6]
def isCode : Jvm.Cond → Bool
  | .code _ _ _ _ => true
  | _ => false
theorem all_split {L : List Jvm.Cond} {P : Jvm.Cond → Bool} (h1 : L.all (fun c => isCode c || P c) = true) (h2 : ∀ c ∈ L.filter isCode, P c = true) : L.all P = true := by
  refine List.all_eq_true.mpr fun c hc => ?_
  have h := List.all_eq_true.mp h1 c hc
  rcases Bool.eq_false_or_eq_true (isCode c) with hi | hi
  · exact h2 c (List.mem_filter.mpr ⟨hc, hi⟩)
  · simpa [hi] using h
set_option maxRecDepth 65536 in
theorem w_c0 : (Jvm.Cond.code x code maxLocals ret).before args0 about1 = true := code_word (m := ⟨1, 1⟩) (meth := k1m1) (c := k1c1) (by decide +kernel) rfl rfl rfl (by decide +kernel)
set_option maxRecDepth 65536 in
theorem w_c1 : (Jvm.Cond.code ({ cls := "HtreeDir", name := "<init>", desc := "(II)V" } : Jvm.MethodName) prog_1_method_1_code (6 : Nat) (Option.none : Option Jvm.ClassFile.FieldType)).before args0 about1 = true := code_word (m := ⟨2, 0⟩) (meth := k2m0) (c := k2c0) (by decide +kernel) rfl rfl rfl (by decide +kernel)
set_option maxRecDepth 65536 in
theorem w_c2 : (Jvm.Cond.code ({ cls := "java/lang/Object", name := "<init>", desc := "()V" } : Jvm.MethodName) object_method_1_code (1 : Nat) (Option.none : Option Jvm.ClassFile.FieldType)).before args0 about1 = true := code_word (m := ⟨0, 0⟩) (meth := k0m0) (c := k0c0) (by decide +kernel) rfl rfl rfl (by decide +kernel)
set_option maxRecDepth 65536 in
theorem w_c3 : (Jvm.Cond.code ({ cls := "HtreeDirL2", name := "hash", desc := "(II)I" } : Jvm.MethodName) method_3_code (3 : Nat) (Option.some Jvm.ClassFile.FieldType.int)).before args0 about1 = true := code_word (m := ⟨1, 2⟩) (meth := k1m2) (c := k1c2) (by decide +kernel) rfl rfl rfl (by decide +kernel)
set_option maxRecDepth 65536 in
theorem w_c4 : (Jvm.Cond.code ({ cls := "HtreeDir", name := "insert", desc := "(II)I" } : Jvm.MethodName) prog_1_method_5_code (6 : Nat) (Option.some Jvm.ClassFile.FieldType.int)).before args0 about1 = true := code_word (m := ⟨2, 2⟩) (meth := k2m2) (c := k2c2) (by decide +kernel) rfl rfl rfl (by decide +kernel)
set_option maxRecDepth 65536 in
theorem w_c5 : (Jvm.Cond.code ({ cls := "HtreeDir", name := "isName", desc := "(I)Z" } : Jvm.MethodName) prog_1_method_17_code (2 : Nat) (Option.some Jvm.ClassFile.FieldType.boolean)).before args0 about1 = true := code_word (m := ⟨2, 6⟩) (meth := k2m6) (c := k2c6) (by decide +kernel) rfl rfl rfl (by decide +kernel)
set_option maxRecDepth 65536 in
theorem w_c6 : (Jvm.Cond.code ({ cls := "HtreeDir", name := "hash", desc := "(I)I" } : Jvm.MethodName) prog_1_method_19_code (3 : Nat) (Option.some Jvm.ClassFile.FieldType.int)).before args0 about1 = true := code_word (m := ⟨2, 7⟩) (meth := k2m7) (c := k2c7) (by decide +kernel) rfl rfl rfl (by decide +kernel)
set_option maxRecDepth 65536 in
theorem w_c7 : (Jvm.Cond.code ({ cls := "HtreeDir", name := "locate", desc := "(I)I" } : Jvm.MethodName) prog_1_method_22_code (7 : Nat) (Option.some Jvm.ClassFile.FieldType.int)).before args0 about1 = true := code_word (m := ⟨2, 10⟩) (meth := k2m10) (c := k2c10) (by decide +kernel) rfl rfl rfl (by decide +kernel)
set_option maxRecDepth 65536 in
theorem w_c8 : (Jvm.Cond.code ({ cls := "HtreeDir", name := "createFirstLeaf", desc := "()Z" } : Jvm.MethodName) prog_1_method_28_code (2 : Nat) (Option.some Jvm.ClassFile.FieldType.boolean)).before args0 about1 = true := code_word (m := ⟨2, 13⟩) (meth := k2m13) (c := k2c13) (by decide +kernel) rfl rfl rfl (by decide +kernel)
set_option maxRecDepth 65536 in
theorem w_c9 : (Jvm.Cond.code ({ cls := "HtreeDir", name := "allocLeaf", desc := "()I" } : Jvm.MethodName) prog_1_method_26_code (2 : Nat) (Option.some Jvm.ClassFile.FieldType.int)).before args0 about1 = true := code_word (m := ⟨2, 12⟩) (meth := k2m12) (c := k2c12) (by decide +kernel) rfl rfl rfl (by decide +kernel)
set_option maxRecDepth 65536 in
theorem w_c10 : (Jvm.Cond.code ({ cls := "HtreeDir", name := "findLeafPos", desc := "(I)I" } : Jvm.MethodName) prog_1_method_21_code (7 : Nat) (Option.some Jvm.ClassFile.FieldType.int)).before args0 about1 = true := code_word (m := ⟨2, 9⟩) (meth := k2m9) (c := k2c9) (by decide +kernel) rfl rfl rfl (by decide +kernel)
set_option maxRecDepth 65536 in
theorem w_c11 : (Jvm.Cond.code ({ cls := "HtreeDir", name := "keyAt", desc := "(I)I" } : Jvm.MethodName) prog_1_method_20_code (3 : Nat) (Option.some Jvm.ClassFile.FieldType.int)).before args0 about1 = true := code_word (m := ⟨2, 8⟩) (meth := k2m8) (c := k2c8) (by decide +kernel) rfl rfl rfl (by decide +kernel)
set_option maxRecDepth 65536 in
theorem w_c12 : (Jvm.Cond.code ({ cls := "HtreeDir", name := "insertIntoLeaf", desc := "(IIII)V" } : Jvm.MethodName) prog_1_method_33_code (8 : Nat) (Option.none : Option Jvm.ClassFile.FieldType)).before args0 about1 = true := code_word (m := ⟨2, 14⟩) (meth := k2m14) (c := k2c14) (by decide +kernel) rfl rfl rfl (by decide +kernel)
set_option maxRecDepth 65536 in
theorem w_c13 : (Jvm.Cond.code ({ cls := "HtreeDir", name := "count", desc := "()I" } : Jvm.MethodName) prog_1_method_3_code (1 : Nat) (Option.some Jvm.ClassFile.FieldType.int)).before args0 about1 = true := code_word (m := ⟨2, 1⟩) (meth := k2m1) (c := k2c1) (by decide +kernel) rfl rfl rfl (by decide +kernel)
set_option maxRecDepth 65536 in
theorem w_c14 : (Jvm.Cond.code ({ cls := "HtreeDir", name := "lookup", desc := "(I)I" } : Jvm.MethodName) prog_1_method_8_code (4 : Nat) (Option.some Jvm.ClassFile.FieldType.int)).before args0 about1 = true := code_word (m := ⟨2, 3⟩) (meth := k2m3) (c := k2c3) (by decide +kernel) rfl rfl rfl (by decide +kernel)
set_option maxRecDepth 65536 in
theorem w_c15 : (Jvm.Cond.code ({ cls := "HtreeDir", name := "entryIndex", desc := "(I)I" } : Jvm.MethodName) prog_1_method_24_code (3 : Nat) (Option.some Jvm.ClassFile.FieldType.int)).before args0 about1 = true := code_word (m := ⟨2, 11⟩) (meth := k2m11) (c := k2c11) (by decide +kernel) rfl rfl rfl (by decide +kernel)
set_option maxRecDepth 65536 in
theorem w_c16 : (Jvm.Cond.code ({ cls := "HtreeDir", name := "nameAtRank", desc := "(I)I" } : Jvm.MethodName) prog_1_method_10_code (6 : Nat) (Option.some Jvm.ClassFile.FieldType.int)).before args0 about1 = true := code_word (m := ⟨2, 5⟩) (meth := k2m5) (c := k2c5) (by decide +kernel) rfl rfl rfl (by decide +kernel)
set_option maxRecDepth 65536 in
theorem w_c17 : (Jvm.Cond.code ({ cls := "HtreeDir", name := "nameWithHash", desc := "(I)I" } : Jvm.MethodName) prog_1_method_9_code (3 : Nat) (Option.some Jvm.ClassFile.FieldType.int)).before args0 about1 = true := code_word (m := ⟨2, 4⟩) (meth := k2m4) (c := k2c4) (by decide +kernel) rfl rfl rfl (by decide +kernel)
def codes1 : List Jvm.Cond := [Jvm.Cond.code x code maxLocals ret, Jvm.Cond.code ({ cls := "HtreeDir", name := "<init>", desc := "(II)V" } : Jvm.MethodName) prog_1_method_1_code (6 : Nat) (Option.none : Option Jvm.ClassFile.FieldType), Jvm.Cond.code ({ cls := "java/lang/Object", name := "<init>", desc := "()V" } : Jvm.MethodName) object_method_1_code (1 : Nat) (Option.none : Option Jvm.ClassFile.FieldType), Jvm.Cond.code ({ cls := "HtreeDirL2", name := "hash", desc := "(II)I" } : Jvm.MethodName) method_3_code (3 : Nat) (Option.some Jvm.ClassFile.FieldType.int), Jvm.Cond.code ({ cls := "HtreeDir", name := "insert", desc := "(II)I" } : Jvm.MethodName) prog_1_method_5_code (6 : Nat) (Option.some Jvm.ClassFile.FieldType.int), Jvm.Cond.code ({ cls := "HtreeDir", name := "isName", desc := "(I)Z" } : Jvm.MethodName) prog_1_method_17_code (2 : Nat) (Option.some Jvm.ClassFile.FieldType.boolean), Jvm.Cond.code ({ cls := "HtreeDir", name := "hash", desc := "(I)I" } : Jvm.MethodName) prog_1_method_19_code (3 : Nat) (Option.some Jvm.ClassFile.FieldType.int), Jvm.Cond.code ({ cls := "HtreeDir", name := "locate", desc := "(I)I" } : Jvm.MethodName) prog_1_method_22_code (7 : Nat) (Option.some Jvm.ClassFile.FieldType.int), Jvm.Cond.code ({ cls := "HtreeDir", name := "createFirstLeaf", desc := "()Z" } : Jvm.MethodName) prog_1_method_28_code (2 : Nat) (Option.some Jvm.ClassFile.FieldType.boolean), Jvm.Cond.code ({ cls := "HtreeDir", name := "allocLeaf", desc := "()I" } : Jvm.MethodName) prog_1_method_26_code (2 : Nat) (Option.some Jvm.ClassFile.FieldType.int), Jvm.Cond.code ({ cls := "HtreeDir", name := "findLeafPos", desc := "(I)I" } : Jvm.MethodName) prog_1_method_21_code (7 : Nat) (Option.some Jvm.ClassFile.FieldType.int), Jvm.Cond.code ({ cls := "HtreeDir", name := "keyAt", desc := "(I)I" } : Jvm.MethodName) prog_1_method_20_code (3 : Nat) (Option.some Jvm.ClassFile.FieldType.int), Jvm.Cond.code ({ cls := "HtreeDir", name := "insertIntoLeaf", desc := "(IIII)V" } : Jvm.MethodName) prog_1_method_33_code (8 : Nat) (Option.none : Option Jvm.ClassFile.FieldType), Jvm.Cond.code ({ cls := "HtreeDir", name := "count", desc := "()I" } : Jvm.MethodName) prog_1_method_3_code (1 : Nat) (Option.some Jvm.ClassFile.FieldType.int), Jvm.Cond.code ({ cls := "HtreeDir", name := "lookup", desc := "(I)I" } : Jvm.MethodName) prog_1_method_8_code (4 : Nat) (Option.some Jvm.ClassFile.FieldType.int), Jvm.Cond.code ({ cls := "HtreeDir", name := "entryIndex", desc := "(I)I" } : Jvm.MethodName) prog_1_method_24_code (3 : Nat) (Option.some Jvm.ClassFile.FieldType.int), Jvm.Cond.code ({ cls := "HtreeDir", name := "nameAtRank", desc := "(I)I" } : Jvm.MethodName) prog_1_method_10_code (6 : Nat) (Option.some Jvm.ClassFile.FieldType.int), Jvm.Cond.code ({ cls := "HtreeDir", name := "nameWithHash", desc := "(I)I" } : Jvm.MethodName) prog_1_method_9_code (3 : Nat) (Option.some Jvm.ClassFile.FieldType.int)]
set_option maxRecDepth 65536 in
theorem codes_eq : words1.filter isCode = codes1 := rfl
theorem w_codes : ∀ c ∈ words1.filter isCode, c.before args0 about1 = true := by
  rw [codes_eq]
  intro c hc
  simp only [codes1, List.mem_cons, List.not_mem_nil, or_false] at hc
  rcases hc with rfl | rfl | rfl | rfl | rfl | rfl | rfl | rfl | rfl | rfl | rfl | rfl | rfl | rfl | rfl | rfl | rfl | rfl
  · exact w_c0
  · exact w_c1
  · exact w_c2
  · exact w_c3
  · exact w_c4
  · exact w_c5
  · exact w_c6
  · exact w_c7
  · exact w_c8
  · exact w_c9
  · exact w_c10
  · exact w_c11
  · exact w_c12
  · exact w_c13
  · exact w_c14
  · exact w_c15
  · exact w_c16
  · exact w_c17
set_option maxRecDepth 65536 in
theorem w_t1 : (words1.take 24).all (fun c => isCode c || c.before args0 about1) = true := by decide +kernel
set_option maxRecDepth 65536 in
theorem w_t2 : ((words1.drop 24).take 24).all (fun c => isCode c || c.before args0 about1) = true := by decide +kernel
set_option maxRecDepth 65536 in
theorem w_t3 : (((words1.drop 24).drop 24).take 24).all (fun c => isCode c || c.before args0 about1) = true := by decide +kernel
set_option maxRecDepth 65536 in
theorem w_t4 : ((((words1.drop 24).drop 24).drop 24).take 24).all (fun c => isCode c || c.before args0 about1) = true := by decide +kernel
set_option maxRecDepth 65536 in
theorem w_t5 : ((((words1.drop 24).drop 24).drop 24).drop 24).all (fun c => isCode c || c.before args0 about1) = true := by decide +kernel
theorem w_tables : (allAtoms (Jvm.Cond.code x code maxLocals ret :: tables_1)).before args0 about1 = true := by
  rw [allAtoms_all]
  show words1.all (fun c => c.before args0 about1) = true
  refine all_split ?_ w_codes
  rw [← List.take_append_drop 24 words1, List.all_append, w_t1, ← List.take_append_drop 24 (words1.drop 24), List.all_append, w_t2, ← List.take_append_drop 24 ((words1.drop 24).drop 24), List.all_append, w_t3, ← List.take_append_drop 24 (((words1.drop 24).drop 24).drop 24), List.all_append, w_t4, w_t5]
  rfl
set_option maxRecDepth 65536 in
theorem w_case : (Jvm.Cond.and given_1 narrow_1).before args0 about1 = true := by decide +kernel
theorem w_applies : (headSpec (Jvm.Cond.code x code maxLocals ret :: tables_1) room_1).applies x e0.platform about1 = true :=
  (Spec.applies_iff w_frames).mpr ⟨w_running, w_runnable, w_alone, w_named, w_hears, w_ripe, w_room, w_tables⟩
theorem atStart : AtStart classFile x code maxLocals ret World_1 tables_1 room_1 Calls_1 rest_1 Pre_1 launch0 p0 e0 about1 theMethod args0 below0 :=
  ⟨lists_1, trivial, launch0.admits_env _ _ _, launch0.least_env, fairChoices_fair.cas, fairChoices_fair.clock, w_frames, w_args, w_heap, w_applies, trivial, trivial, w_case⟩
end start1
theorem witness_1 : WitnessClaimed_1 := ⟨start1.p0, start1.e0, start1.about1, start1.theMethod, start1.args0, start1.below0, start1.atStart⟩
end Jvm.Pilot.@@N@@
