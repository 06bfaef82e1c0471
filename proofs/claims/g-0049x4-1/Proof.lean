import JvmDerived
import JvmDerived.Pilot.@@N@@Statement
import JvmDerived.Pilot.@@N@@Code
set_option linter.unusedVariables false
set_option linter.unusedSimpArgs false
namespace Jvm.OwnEv
open Sem ClassFile Op Lib Jvm.Stand Jvm.Free Jvm.LawKit Jvm.RoadKit
/-! PART 1: a small evaluator of bytecode over a memory of its own (defs alone). A memory: the cells made (kind, class, size), and what they hold: ints, longs, references. -/
abbrev ELay : Type := List (Nat × String × Nat)
abbrev EMem : Type := ELay × (Nat → Nat → Int32) × (Nat → Nat → Int64) × (Nat → Nat → Value)
def up {α : Type} (f : Nat → Nat → α) (a k : Nat) (v : α) : Nat → Nat → α := fun x y => if x = a ∧ y = k then v else f x y
def szL (L : ELay) : Nat := (L.map fun c => c.2.2).sum
def wt (vs : List Value) : Nat := (vs.map fun v => v.category).sum
def setL : List Slot → Nat → Slot → Option (List Slot)
  | [], _, _ => none
  | _ :: t, 0, x => some (x :: t)
  | h :: t, n + 1, x => match setL t n x with
    | some t' => some (h :: t')
    | none => none
def storeSelfL (l : List Slot) (i : Nat) (v : Value) : Option (List Slot) :=
  match setL l i (.val v) with
  | none => none
  | some l1 => if v.category = 2 then
      match l1[i + 1]? with
      | none => none
      | some (.val old) => if old.category = 2 then
          match setL l1 (i + 2) .unset with
          | none => none
          | some l2 => setL l2 (i + 1) .second
        else setL l1 (i + 1) .second
      | some _ => setL l1 (i + 1) .second
    else some l1
def storeL (l : List Slot) (i : Nat) (v : Value) : Option (List Slot) :=
  match l[i]? with
  | none => none
  | some .second => match setL l (i - 1) .unset with
    | none => none
    | some l' => storeSelfL l' i v
  | some (.val old) => if old.category = 2 then
      match setL l (i + 1) .unset with
      | none => none
      | some l' => storeSelfL l' i v
    else storeSelfL l i v
  | some .unset => storeSelfL l i v
def fillL : List Value → List Slot
  | [] => []
  | v :: t => if v.category = 2 then .val v :: .second :: fillL t else .val v :: fillL t
def entryL (as : List Value) (maxL : Nat) : List Slot := fillL as ++ List.replicate (maxL - (fillL as).length) .unset
/-! what the sheet's words say -/
def kindD (d : String) : Nat := match parseFieldDescriptor d with
  | some .int => 1
  | some .boolean => 2
  | some .long => 3
  | some (.array _) => 4
  | some (.object _) => 4
  | _ => 0
def layGo (C n : String) : List Jvm.Cond → Nat → Option (Nat × String × Bool)
  | [], _ => none
  | .lays c o n' d :: t, k => if n' = n ∧ c = C ∧ o = C then some (k, d, false) else layGo C n t (k + 1)
  | .laysFinal c o n' d :: t, k => if n' = n ∧ c = C ∧ o = C then some (k, d, true) else layGo C n t (k + 1)
  | _ :: t, k => layGo C n t (k + 1)
def layAt (W : List Jvm.Cond) (C n : String) : Option (Nat × String × Bool) := layGo C n W 0
def fieldLk (own : String) (idx : Nat) : List Jvm.Cond → Option (String × String × String)
  | [] => none
  | .fieldLink o i r n d :: t => if i = idx ∧ o = own then some (r, n, d) else fieldLk own idx t
  | _ :: t => fieldLk own idx t
/-- the class, the field's place, its kind, final or not -/
def fieldAt (W : List Jvm.Cond) (own : String) (idx : Nat) : Option (String × Nat × Nat × Bool) :=
  match fieldLk own idx W with
  | none => none
  | some (r, n, d) => match layAt W r n with
    | none => none
    | some (k, d', fin) => if d' = d ∧ kindD d ≠ 0 then some (r, k, kindD d, fin) else none
def methodLk (own : String) (idx : Nat) : List Jvm.Cond → Option MethodName
  | [] => none
  | .methodLink o i y :: t => if i = idx ∧ o = own then some y else methodLk own idx t
  | _ :: t => methodLk own idx t
def classLk (own : String) (idx : Nat) : List Jvm.Cond → Option String
  | [] => none
  | .classLink o i C :: t => if i = idx ∧ o = own then some C else classLk own idx t
  | _ :: t => classLk own idx t
def instLk (C : String) : List Jvm.Cond → Option Nat
  | [] => none
  | .instantiable c n :: t => if c = C then some n else instLk C t
  | _ :: t => instLk C t
def meq (z y : MethodName) : Bool := decide (z.name = y.name) && (decide (z.desc = y.desc) && decide (z.cls = y.cls))
def codeLk (y : MethodName) : List Jvm.Cond → Option (ByteArray × Nat × Option FieldType)
  | [] => none
  | .code z b n r :: t => if meq z y = true then some (b, n, r) else codeLk y t
  | _ :: t => codeLk y t
def intLk (own : String) (idx : Nat) : List Jvm.Cond → Option Int32
  | [] => none
  | .constant o i v :: t => if i = idx ∧ o = own then some v else intLk own idx t
  | _ :: t => intLk own idx t
def longLk (own : String) (idx : Nat) : List Jvm.Cond → Option Int64
  | [] => none
  | .constantLong o i v :: t => if i = idx ∧ o = own then some v else longLk own idx t
  | _ :: t => longLk own idx t
def hasInit (C : String) : List Jvm.Cond → Bool
  | [] => false
  | .initialized c :: t => if c = C then true else hasInit C t
  | _ :: t => hasInit C t
def hasInst (y : MethodName) : List Jvm.Cond → Bool
  | [] => false
  | .instanceMethod z :: t => if meq z y = true then true else hasInst y t
  | _ :: t => hasInst y t
def hasPriv (y : MethodName) : List Jvm.Cond → Bool
  | [] => false
  | .privateMethod z :: t => if meq z y = true then true else hasPriv y t
  | _ :: t => hasPriv y t
def hasStat (y : MethodName) : List Jvm.Cond → Bool
  | [] => false
  | .static z :: t => if meq z y = true then true else hasStat y t
  | _ :: t => hasStat y t
def hasDecl (y : MethodName) : List Jvm.Cond → Bool
  | [] => false
  | .declares z :: t => if meq z y = true then true else hasDecl y t
  | _ :: t => hasDecl y t
def hasSel (y : MethodName) : List Jvm.Cond → Bool
  | [] => false
  | .selects C z z' :: t => if meq z y = true ∧ meq z' y = true ∧ C = y.cls then true else hasSel y t
  | _ :: t => hasSel y t
def hasArr (ty : FieldType) : List Jvm.Cond → Bool
  | [] => false
  | .arrayClass z :: t => if z = ty then true else hasArr ty t
  | _ :: t => hasArr ty t
def newAt (W : List Jvm.Cond) (own : String) (idx : Nat) : Option (String × Nat) :=
  match classLk own idx W with
  | none => none
  | some C => match instLk C W with
    | none => none
    | some n => if hasInit C W = true then some (C, n) else none
/-- kind: 0 invokevirtual of a public method, 1 of a private one, 2 a constructor, 3 static; the method, how many arguments, its body -/
def callAt (W : List Jvm.Cond) (own : String) (idx : Nat) (kd : Nat) : Option (MethodName × Nat × ByteArray × Nat × Option FieldType) :=
  match methodLk own idx W with
  | none => none
  | some z => match codeLk z W, parseMethodDescriptor z.desc with
    | some (b, n, r), some sig =>
      if hasInit z.cls W = true ∧ plainName z.cls = true ∧ z.cls ≠ "java/lang/invoke/MethodHandle" ∧ z.cls ≠ "java/lang/invoke/VarHandle" ∧
         ((kd = 0 ∧ hasDecl z W = true ∧ hasSel z W = true ∧ hasInst z W = true) ∨ (kd = 1 ∧ hasPriv z W = true ∧ hasInst z W = true ∧ (instLk z.cls W).isSome = true) ∨ (kd = 2 ∧ z.name = "<init>" ∧ hasInst z W = true ∧ r = none) ∨ (kd = 3 ∧ hasStat z W = true))
      then some (z, sig.parameters.length, b, n, r) else none
    | _, _ => none
def objInitAt (W : List Jvm.Cond) (own : String) (idx : Nat) : Bool :=
  match methodLk own idx W, codeLk Lib.objectInit W with
  | some z, some (b, n, r) => decide (z = Lib.objectInit) && hasInst Lib.objectInit W && decide (b = ⟨#[0xb1]⟩) && decide (n = 1) && decide (r = none)
  | _, _ => false
def jump (pc : Nat) (o : Int) : Option Nat := match (pc : Int) + o with
  | .ofNat n => some n
  | .negSucc _ => none
def getV (kd : Nat) (i : Int32) (j : Int64) (r : Value) : Value := match kd with
  | 1 => .int i
  | 2 => .int i
  | 3 => .long j
  | _ => r
def inb (j : Int32) (n : Nat) : Bool := decide (¬ j < 0) && decide (j.toNatClampNeg < n)
def lenOk (len : Nat) : Instr → Bool
  | .aload _ | .iload _ | .lload _ | .astore _ | .istore _ | .lstore _ | .bipush _ | .ldc _ | .newarray _ => len == 2
  | .sipush _ | .iinc _ _ | .ldc_w _ | .ldc2_w _ | .goto _ | .ifCond _ _ | .if_icmp _ _ | .ifnull _ | .ifnonnull _ | .getfield _ | .putfield _ | .new _ | .invokevirtual _ | .invokespecial _ | .invokestatic _ => len == 3
  | .tableswitch _ _ _ _ => true
  | _ => len == 1
/-- the steps that leave the memory as it is -/
def execP (W : List Jvm.Cond) (F Lb : Nat) (y : MethodName) (ins : Instr) (pc len : Nat) (ls : List Slot) (st : List Value) (M : EMem) : Option (Nat × List Slot × List Value) :=
  match ins with
  | .aload k => match ls[k]? with
    | some (.val (.ref a)) => some (pc + 2, ls, .ref a :: st)
    | some (.val .null) => some (pc + 2, ls, .null :: st)
    | _ => none
  | .aload_n k => match ls[k.val]? with
    | some (.val (.ref a)) => some (pc + 1, ls, .ref a :: st)
    | some (.val .null) => some (pc + 1, ls, .null :: st)
    | _ => none
  | .iload k => match ls[k]? with
    | some (.val (.int v)) => some (pc + 2, ls, .int v :: st)
    | _ => none
  | .iload_n k => match ls[k.val]? with
    | some (.val (.int v)) => some (pc + 1, ls, .int v :: st)
    | _ => none
  | .lload k => match ls[k]? with
    | some (.val (.long v)) => some (pc + 2, ls, .long v :: st)
    | _ => none
  | .lload_n k => match ls[k.val]? with
    | some (.val (.long v)) => some (pc + 1, ls, .long v :: st)
    | _ => none
  | .istore k => match st with
    | .int x :: r => match storeL ls k (.int x) with
      | some l' => some (pc + 2, l', r)
      | none => none
    | _ => none
  | .istore_n k => match st with
    | .int x :: r => match storeL ls k.val (.int x) with
      | some l' => some (pc + 1, l', r)
      | none => none
    | _ => none
  | .lstore k => match st with
    | .long x :: r => match storeL ls k (.long x) with
      | some l' => some (pc + 2, l', r)
      | none => none
    | _ => none
  | .lstore_n k => match st with
    | .long x :: r => match storeL ls k.val (.long x) with
      | some l' => some (pc + 1, l', r)
      | none => none
    | _ => none
  | .astore k => match st with
    | .ref x :: r => match storeL ls k (.ref x) with
      | some l' => some (pc + 2, l', r)
      | none => none
    | _ => none
  | .astore_n k => match st with
    | .ref x :: r => match storeL ls k.val (.ref x) with
      | some l' => some (pc + 1, l', r)
      | none => none
    | _ => none
  | .iinc k d => match ls[k]? with
    | some (.val (.int v)) => match storeL ls k (.int (v + Int32.ofInt d)) with
      | some l' => some (pc + 3, l', st)
      | none => none
    | _ => none
  | .iconst i => some (pc + 1, ls, .int (Int32.ofInt i) :: st)
  | .bipush i => some (pc + 2, ls, .int (Int8.ofInt i).toInt32 :: st)
  | .sipush i => some (pc + 3, ls, .int (Int16.ofInt i).toInt32 :: st)
  | .lconst k => some (pc + 1, ls, .long (Int64.ofNat k) :: st)
  | .ldc i => match intLk y.cls i W with
    | some v => some (pc + 2, ls, .int v :: st)
    | none => none
  | .ldc_w i => match intLk y.cls i W with
    | some v => some (pc + 3, ls, .int v :: st)
    | none => none
  | .ldc2_w i => match longLk y.cls i W with
    | some v => some (pc + 3, ls, .long v :: st)
    | none => none
  | .iadd => match st with
    | .int b :: .int a :: r => some (pc + 1, ls, .int (a + b) :: r)
    | _ => none
  | .isub => match st with
    | .int b :: .int a :: r => some (pc + 1, ls, .int (a - b) :: r)
    | _ => none
  | .imul => match st with
    | .int b :: .int a :: r => some (pc + 1, ls, .int (a * b) :: r)
    | _ => none
  | .iand => match st with
    | .int b :: .int a :: r => some (pc + 1, ls, .int (a &&& b) :: r)
    | _ => none
  | .ior => match st with
    | .int b :: .int a :: r => some (pc + 1, ls, .int (a ||| b) :: r)
    | _ => none
  | .ixor => match st with
    | .int b :: .int a :: r => some (pc + 1, ls, .int (a ^^^ b) :: r)
    | _ => none
  | .ishl => match st with
    | .int b :: .int a :: r => some (pc + 1, ls, .int (a <<< (b &&& 31)) :: r)
    | _ => none
  | .ishr => match st with
    | .int b :: .int a :: r => some (pc + 1, ls, .int (a >>> (b &&& 31)) :: r)
    | _ => none
  | .iushr => match st with
    | .int b :: .int a :: r => some (pc + 1, ls, .int (XT.ushr a b) :: r)
    | _ => none
  | .idiv => match st with
    | .int b :: .int a :: r => if b = 0 then none else some (pc + 1, ls, .int (a / b) :: r)
    | _ => none
  | .irem => match st with
    | .int b :: .int a :: r => if b = 0 then none else some (pc + 1, ls, .int (a - (a / b) * b) :: r)
    | _ => none
  | .ineg => match st with
    | .int a :: r => some (pc + 1, ls, .int (-a) :: r)
    | _ => none
  | .ladd => match st with
    | .long b :: .long a :: r => some (pc + 1, ls, .long (a + b) :: r)
    | _ => none
  | .lsub => match st with
    | .long b :: .long a :: r => some (pc + 1, ls, .long (a - b) :: r)
    | _ => none
  | .lmul => match st with
    | .long b :: .long a :: r => some (pc + 1, ls, .long (a * b) :: r)
    | _ => none
  | .land => match st with
    | .long b :: .long a :: r => some (pc + 1, ls, .long (a &&& b) :: r)
    | _ => none
  | .lor => match st with
    | .long b :: .long a :: r => some (pc + 1, ls, .long (a ||| b) :: r)
    | _ => none
  | .lxor => match st with
    | .long b :: .long a :: r => some (pc + 1, ls, .long (a ^^^ b) :: r)
    | _ => none
  | .lshl => match st with
    | .int b :: .long a :: r => some (pc + 1, ls, .long (a <<< (b.toInt64 &&& 63)) :: r)
    | _ => none
  | .lshr => match st with
    | .int b :: .long a :: r => some (pc + 1, ls, .long (a >>> (b.toInt64 &&& 63)) :: r)
    | _ => none
  | .lushr => match st with
    | .int b :: .long a :: r => some (pc + 1, ls, .long (XT.ushrL a b) :: r)
    | _ => none
  | .ldiv => match st with
    | .long b :: .long a :: r => if b = 0 then none else some (pc + 1, ls, .long (a / b) :: r)
    | _ => none
  | .lrem => match st with
    | .long b :: .long a :: r => if b = 0 then none else some (pc + 1, ls, .long (a - (a / b) * b) :: r)
    | _ => none
  | .lneg => match st with
    | .long a :: r => some (pc + 1, ls, .long (-a) :: r)
    | _ => none
  | .lcmp => match st with
    | .long b :: .long a :: r => some (pc + 1, ls, .int (XT.cmpL a b) :: r)
    | _ => none
  | .i2l => match st with
    | .int a :: r => some (pc + 1, ls, .long a.toInt64 :: r)
    | _ => none
  | .l2i => match st with
    | .long a :: r => some (pc + 1, ls, .int a.toInt32 :: r)
    | _ => none
  | .i2s => match st with
    | .int a :: r => some (pc + 1, ls, .int a.toInt16.toInt32 :: r)
    | _ => none
  | .dup => match st with
    | .int a :: r => some (pc + 1, ls, .int a :: .int a :: r)
    | .ref a :: r => some (pc + 1, ls, .ref a :: .ref a :: r)
    | _ => none
  | .dup2 => match st with
    | .int b :: .int a :: r => some (pc + 1, ls, .int b :: .int a :: .int b :: .int a :: r)
    | .int b :: .ref a :: r => some (pc + 1, ls, .int b :: .ref a :: .int b :: .ref a :: r)
    | .long b :: r => some (pc + 1, ls, .long b :: .long b :: r)
    | _ => none
  | .dup_x1 => match st with
    | .int b :: .ref a :: r => some (pc + 1, ls, .int b :: .ref a :: .int b :: r)
    | _ => none
  | .pop => match st with
    | .int _ :: r => some (pc + 1, ls, r)
    | .ref _ :: r => some (pc + 1, ls, r)
    | _ => none
  | .goto o => match jump pc o with
    | some t => some (t, ls, st)
    | none => none
  | .ifCond cd o => match st with
    | .int a :: r => match jump pc o with
      | some t => some (if ifCond.holds cd a = true then t else pc + 3, ls, r)
      | none => none
    | _ => none
  | .if_icmp cd o => match st with
    | .int b :: .int a :: r => match jump pc o with
      | some t => some (if if_icmp.holds cd a b = true then t else pc + 3, ls, r)
      | none => none
    | _ => none
  | .ifnull o => match st with
    | .null :: r => match jump pc o with
      | some t => some (t, ls, r)
      | none => none
    | .ref _ :: r => some (pc + 3, ls, r)
    | _ => none
  | .ifnonnull o => match st with
    | .ref _ :: r => match jump pc o with
      | some t => some (t, ls, r)
      | none => none
    | .null :: r => some (pc + 3, ls, r)
    | _ => none
  | .tableswitch dflt low high offs => match st with
    | .int i :: r => if i.toInt < low ∨ i.toInt > high then
        match jump pc dflt with
        | some t => some (t, ls, r)
        | none => none
      else match offs[(i.toInt - low).toNat]? with
        | none => none
        | some o => match jump pc o with
          | some t => some (t, ls, r)
          | none => none
    | _ => none
  | .getfield idx => match st with
    | .ref a :: r => match fieldAt W y.cls idx, M.1[a]? with
      | some (C, k, kd, _), some (0, C', _) => if C' = C then some (pc + 3, ls, getV kd (M.2.1 a k) (M.2.2.1 a k) (M.2.2.2 a k) :: r) else none
      | _, _ => none
    | _ => none
  | .arraylength => match st with
    | .ref a :: r => match M.1[a]? with
      | some (1, _, n) => some (pc + 1, ls, .int n.toInt32 :: r)
      | some (2, _, n) => some (pc + 1, ls, .int n.toInt32 :: r)
      | some (3, _, n) => some (pc + 1, ls, .int n.toInt32 :: r)
      | _ => none
    | _ => none
  | .iaload => match st with
    | .int j :: .ref a :: r => match M.1[a]? with
      | some (1, _, n) => if inb j n = true then some (pc + 1, ls, .int (M.2.1 a j.toNatClampNeg) :: r) else none
      | _ => none
    | _ => none
  | .baload => match st with
    | .int j :: .ref a :: r => match M.1[a]? with
      | some (3, _, n) => if inb j n = true then some (pc + 1, ls, .int (M.2.1 a j.toNatClampNeg) :: r) else none
      | _ => none
    | _ => none
  | .laload => match st with
    | .int j :: .ref a :: r => match M.1[a]? with
      | some (2, _, n) => if inb j n = true then some (pc + 1, ls, .long (M.2.2.1 a j.toNatClampNeg) :: r) else none
      | _ => none
    | _ => none
  | .invokespecial idx => match st with
    | .ref _ :: r => if objInitAt W y.cls idx = true ∧ 1 ≤ F ∧ wt r + 12 ≤ Lb then some (pc + 3, ls, r) else none
    | _ => none
  | _ => none
/-- the steps that write or make; ro: the cells below it are not written -/
def execM (W : List Jvm.Cond) (ro : Nat) (y : MethodName) (ins : Instr) (st : List Value) (M : EMem) : Option (List Value × EMem) :=
  match ins with
  | .putfield idx => match st with
    | v :: .ref a :: r => match fieldAt W y.cls idx, M.1[a]? with
      | some (C, k, kd, fin), some (0, C', _) =>
        if C' = C ∧ ro ≤ a ∧ (fin = false ∨ (y.cls = C ∧ y.name = "<init>")) ∧ (instLk C W).isSome = true then
          match kd, v with
          | 1, .int x => some (r, M.1, up M.2.1 a k x, M.2.2.1, M.2.2.2)
          | 2, .int x => some (r, M.1, up M.2.1 a k (x &&& 1), M.2.2.1, M.2.2.2)
          | 3, .long x => some (r, M.1, M.2.1, up M.2.2.1 a k x, M.2.2.2)
          | 4, .ref b => some (r, M.1, M.2.1, M.2.2.1, up M.2.2.2 a k (.ref b))
          | _, _ => none
        else none
      | _, _ => none
    | _ => none
  | .iastore => match st with
    | .int x :: .int j :: .ref a :: r => match M.1[a]? with
      | some (1, _, n) => if inb j n = true ∧ ro ≤ a then some (r, M.1, up M.2.1 a j.toNatClampNeg x, M.2.2.1, M.2.2.2) else none
      | _ => none
    | _ => none
  | .bastore => match st with
    | .int x :: .int j :: .ref a :: r => match M.1[a]? with
      | some (3, _, n) => if inb j n = true ∧ ro ≤ a then some (r, M.1, up M.2.1 a j.toNatClampNeg (x &&& 1), M.2.2.1, M.2.2.2) else none
      | _ => none
    | _ => none
  | .lastore => match st with
    | .long x :: .int j :: .ref a :: r => match M.1[a]? with
      | some (2, _, n) => if inb j n = true ∧ ro ≤ a then some (r, M.1, M.2.1, up M.2.2.1 a j.toNatClampNeg x, M.2.2.2) else none
      | _ => none
    | _ => none
  | .new idx => match newAt W y.cls idx with
    | some (C, n) => some (.ref M.1.length :: st, M.1 ++ [(0, C, n)], M.2.1, M.2.2.1, M.2.2.2)
    | none => none
  | .newarray .int => match st with
    | .int n :: r => if ¬ n < 0 ∧ n.toNatClampNeg * 8 ≤ 536870912 ∧ hasArr .int W = true then some (.ref M.1.length :: r, M.1 ++ [(1, "", n.toNatClampNeg)], M.2.1, M.2.2.1, M.2.2.2) else none
    | _ => none
  | .newarray .long => match st with
    | .int n :: r => if ¬ n < 0 ∧ n.toNatClampNeg * 8 ≤ 536870912 ∧ hasArr .long W = true then some (.ref M.1.length :: r, M.1 ++ [(2, "", n.toNatClampNeg)], M.2.1, M.2.2.1, M.2.2.2) else none
    | _ => none
  | .newarray .boolean => match st with
    | .int n :: r => if ¬ n < 0 ∧ n.toNatClampNeg * 8 ≤ 536870912 ∧ hasArr .boolean W = true then some (.ref M.1.length :: r, M.1 ++ [(3, "", n.toNatClampNeg)], M.2.1, M.2.2.1, M.2.2.2) else none
    | _ => none
  | _ => none
def retOf (ins : Instr) (len : Nat) (ret : Option FieldType) (st : List Value) : Option (Option Value) :=
  if len = 1 then
    match ins, ret, st with
    | .return_, none, [] => some none
    | .ireturn, some .int, [.int z] => some (some (.int z))
    | .ireturn, some .boolean, [.int z] => some (some (.int (z &&& 1)))
    | .lreturn, some .long, [.long z] => some (some (.long z))
    | _, _, _ => none
  else none
/-- the callee, her arguments (the receiver first), what lies under, her body -/
def callOf (W : List Jvm.Cond) (y : MethodName) (ins : Instr) (len : Nat) (st : List Value) (M : EMem) : Option (MethodName × List Value × List Value × ByteArray × Nat × Option FieldType) :=
  if len = 3 then
    match ins with
    | .invokevirtual idx => match callAt W y.cls idx 1 with
      | some (z, na, b, n, r) => match (st.drop na) with
        | .ref a :: rest => match M.1[a]? with
          | some (0, C, _) => if C = z.cls ∧ (st.take na).length = na then some (z, .ref a :: (st.take na).reverse, rest, b, n, r) else none
          | _ => none
        | _ => none
      | none => match callAt W y.cls idx 0 with
        | some (z, na, b, n, r) => match (st.drop na) with
          | .ref a :: rest => match M.1[a]? with
            | some (0, C, _) => if C = z.cls ∧ (st.take na).length = na then some (z, .ref a :: (st.take na).reverse, rest, b, n, r) else none
            | _ => none
          | _ => none
        | none => none
    | .invokespecial idx => match callAt W y.cls idx 2 with
      | some (z, na, b, n, r) => match (st.drop na) with
        | .ref a :: rest => if (st.take na).length = na then some (z, .ref a :: (st.take na).reverse, rest, b, n, r) else none
        | _ => none
      | none => none
    | .invokestatic idx => match callAt W y.cls idx 3 with
      | some (z, na, b, n, r) => if (st.take na).length = na then some (z, (st.take na).reverse, st.drop na, b, n, r) else none
      | none => none
    | _ => none
  else none
def run (W : List Jvm.Cond) (ro : Nat) : Nat → Nat → Nat → MethodName → ByteArray → Option FieldType → Nat → List Slot → List Value → EMem → Option (Option Value × EMem)
  | 0, _, _, _, _, _, _, _, _, _ => none
  | n + 1, F, Lb, y, code, ret, pc, ls, st, M =>
    match decode code pc with
    | .ok (ins, len) =>
      match (if lenOk len ins = true then execP W F Lb y ins pc len ls st M else none) with
      | some (pc', ls', st') => run W ro n F Lb y code ret pc' ls' st' M
      | none => match (if lenOk len ins = true then execM W ro y ins st M else none) with
        | some (st', M') => run W ro n F Lb y code ret (pc + len) ls st' M'
        | none => match retOf ins len ret st with
          | some v => some (v, M)
          | none => match callOf W y ins len st M with
            | some (z, as, rest, b, mx, r) =>
              if 1 ≤ F ∧ wt rest + (mx + 11) ≤ Lb ∧ (fillL as).length ≤ mx then
                match run W ro n (F - 1) (Lb - (wt rest + (mx + 11))) z b r 0 (entryL as mx) [] M with
                | some (v, M') => run W ro n F Lb y code ret (pc + 3) ls (v.toList ++ rest) M'
                | none => none
              else none
            | none => none
    | .error _ => none
end Jvm.OwnEv
namespace Jvm.OwnEv
open Sem ClassFile Op Lib Jvm.Stand Jvm.Free Jvm.LawKit Jvm.RoadKit
/-! PART 2: small facts: the variables, the words -/
def conc (ρ : Nat → Addr) : Value → Value
  | .ref a => .ref (ρ a)
  | v => v
def concS (ρ : Nat → Addr) : Slot → Slot
  | .val v => .val (conc ρ v)
  | s => s
theorem conc_cat (ρ : Nat → Addr) (v : Value) : (conc ρ v).category = v.category := by cases v <;> rfl
theorem wt_conc (ρ : Nat → Addr) (vs : List Value) : ((vs.map (conc ρ)).map fun v => v.category).sum = wt vs := by
  unfold wt
  rw [List.map_map]
  congr 1
  exact List.map_congr_left fun v _ => conc_cat ρ v
abbrev cl (ρ : Nat → Addr) (ls : List Slot) : Array Slot := (ls.map (concS ρ)).toArray
abbrev cs (ρ : Nat → Addr) (st : List Value) : List Value := st.map (conc ρ)
theorem get_cl {ρ : Nat → Addr} {ls : List Slot} {k : Nat} {x : Slot} (h : ls[k]? = some x) : (cl ρ ls)[k]? = some (concS ρ x) := by simp [cl, h]
theorem setL_some : ∀ {l : List Slot} {i : Nat} {x : Slot} {l' : List Slot}, setL l i x = some l' → i < l.length ∧ l' = l.set i x
  | [], _, _, _, h => by simp [setL] at h
  | _ :: t, 0, x, l', h => by simp only [setL, Option.some.injEq] at h; subst h; simp
  | y :: t, n + 1, x, l', h => by
    simp only [setL] at h
    split at h
    · rename_i t' ht
      cases h
      obtain ⟨h1, h2⟩ := setL_some ht
      subst h2
      exact ⟨by simp; omega, by simp⟩
    · cases h
theorem setAt_conc {ρ : Nat → Addr} {l : List Slot} {i : Nat} {x : Slot} {l' : List Slot} (h : setL l i x = some l') : setAt (cl ρ l) i (concS ρ x) = some (cl ρ l') := by
  obtain ⟨hi, rfl⟩ := setL_some h
  simp [setAt, hi, cl, List.map_set]
theorem setL_len {l : List Slot} {i : Nat} {x : Slot} {l' : List Slot} (h : setL l i x = some l') : l'.length = l.length := by
  obtain ⟨-, rfl⟩ := setL_some h; simp
theorem cl_get {ρ : Nat → Addr} {l : List Slot} {i : Nat} : (cl ρ l)[i]? = (l[i]?).map (concS ρ) := by simp [cl]
theorem storeSelf_conc {ρ : Nat → Addr} {l : List Slot} {i : Nat} {v : Value} {l' : List Slot} (h : storeSelfL l i v = some l') : storeSelf (cl ρ l) i (conc ρ v) = some (cl ρ l') := by
  unfold storeSelfL at h
  split at h
  · cases h
  rename_i l1 h1
  have e1 : setAt (cl ρ l) i (.val (conc ρ v)) = some (cl ρ l1) := setAt_conc (ρ := ρ) h1
  unfold storeSelf
  rw [e1]
  simp only [Option.bind_eq_bind, Option.bind_some, conc_cat]
  split at h
  · rename_i hc
    rw [if_pos hc, cl_get]
    split at h
    · cases h
    · rename_i old ho
      rw [ho]
      simp only [Option.map_some, Option.bind_some, concS, conc_cat]
      split at h
      · rename_i hc2
        rw [if_pos hc2]
        split at h
        · cases h
        · rename_i l2 h2
          have e2 : setAt (cl ρ l1) (i + 2) .unset = some (cl ρ l2) := setAt_conc (ρ := ρ) h2
          have e3 : setAt (cl ρ l2) (i + 1) .second = some (cl ρ l') := setAt_conc (ρ := ρ) h
          rw [e2]
          exact e3
      · rename_i hc2
        rw [if_neg hc2]
        exact setAt_conc (ρ := ρ) h
    · rename_i x hx ho
      have e3 : setAt (cl ρ l1) (i + 1) .second = some (cl ρ l') := setAt_conc (ρ := ρ) h
      rw [ho]
      cases x with
      | val w => exact absurd rfl (hx w)
      | unset => exact e3
      | second => exact e3
  · rename_i hc
    rw [if_neg hc]
    cases h
    rfl
theorem storeL_conc {ρ : Nat → Addr} {l : List Slot} {i : Nat} {v : Value} {l' : List Slot} (h : storeL l i v = some l') : storeLocals (cl ρ l) i (conc ρ v) = some (cl ρ l') := by
  unfold storeL at h
  unfold storeLocals
  rw [cl_get]
  split at h
  · cases h
  · rename_i ho
    rw [ho]
    split at h
    · cases h
    · rename_i l1 h1
      have e1 : setAt (cl ρ l) (i - 1) .unset = some (cl ρ l1) := setAt_conc (ρ := ρ) h1
      have e2 := storeSelf_conc (ρ := ρ) h
      simp only [Option.map_some, Option.bind_eq_bind, Option.bind_some, concS, e1]
      exact e2
  · rename_i old ho
    rw [ho]
    simp only [Option.map_some, Option.bind_eq_bind, Option.bind_some, concS, conc_cat]
    split at h
    · rename_i hc
      rw [if_pos hc]
      split at h
      · cases h
      · rename_i l1 h1
        have e1 : setAt (cl ρ l) (i + 1) .unset = some (cl ρ l1) := setAt_conc (ρ := ρ) h1
        rw [e1]
        exact storeSelf_conc (ρ := ρ) h
    · rename_i hc
      rw [if_neg hc]
      exact storeSelf_conc (ρ := ρ) h
  · rename_i ho
    rw [ho]
    exact storeSelf_conc (ρ := ρ) h
theorem storeSelfL_len {l : List Slot} {i : Nat} {v : Value} {l' : List Slot} (h : storeSelfL l i v = some l') : l'.length = l.length := by
  unfold storeSelfL at h
  split at h
  · cases h
  rename_i l1 h1
  have e1 := setL_len h1
  split at h
  · split at h
    · cases h
    · split at h
      · split at h
        · cases h
        · rename_i l2 h2
          rw [setL_len h, setL_len h2, e1]
      · rw [setL_len h, e1]
    · rw [setL_len h, e1]
  · cases h; exact e1
theorem storeL_len {l : List Slot} {i : Nat} {v : Value} {l' : List Slot} (h : storeL l i v = some l') : l'.length = l.length := by
  unfold storeL at h
  split at h
  · cases h
  · split at h
    · cases h
    · rename_i l1 h1
      rw [storeSelfL_len h, setL_len h1]
  · split at h
    · split at h
      · cases h
      · rename_i l1 h1
        rw [storeSelfL_len h, setL_len h1]
    · exact storeSelfL_len h
  · exact storeSelfL_len h
theorem fill_fold (ρ : Nat → Addr) : ∀ (as : List Value) (acc : Array Slot), (as.map (conc ρ)).foldl (fun acc v => if v.category = 2 then (acc.push (Slot.val v)).push .second else acc.push (.val v)) acc = acc ++ ((fillL as).map (concS ρ)).toArray
  | [], acc => by simp [fillL]
  | v :: t, acc => by
    simp only [List.map_cons, List.foldl_cons, conc_cat]
    rw [fill_fold ρ t]
    rw [show fillL (v :: t) = if v.category = 2 then .val v :: .second :: fillL t else .val v :: fillL t from rfl]
    apply Array.ext'
    split
    · simp [concS]
    · simp [concS]
theorem args_conc (ρ : Nat → Addr) (as : List Value) (mx : Nat) : argsToLocals (as.map (conc ρ)).toArray mx = cl ρ (entryL as mx) := by
  unfold argsToLocals
  simp only [List.foldl_toArray, fill_fold ρ as]
  simp [entryL, cl, concS]
theorem entryL_len {as : List Value} {mx : Nat} (h : (fillL as).length ≤ mx) : (entryL as mx).length = mx := by simp [entryL]; omega
theorem meq_eq {z y : MethodName} (h : meq z y = true) : z = y := by
  simp only [meq, Bool.and_eq_true, decide_eq_true_eq] at h
  obtain ⟨h1, h2, h3⟩ := h
  cases z; cases y
  simp only at h1 h2 h3
  subst h1 h2 h3
  rfl
/-! the words -/
theorem fieldLk_mem {own : String} {idx : Nat} {r n d : String} : ∀ {t : List Jvm.Cond}, fieldLk own idx t = some (r, n, d) → Jvm.Cond.fieldLink own idx r n d ∈ t
  | [], h => by simp [fieldLk] at h
  | w :: t, h => by
    unfold fieldLk at h
    split at h
    · rename_i heq; cases heq
    · rename_i heq
      cases heq
      split at h
      · rename_i hc; obtain ⟨rfl, rfl⟩ := hc; cases h; exact List.mem_cons_self
      · exact List.mem_cons_of_mem _ (fieldLk_mem h)
    · rename_i heq; cases heq; exact List.mem_cons_of_mem _ (fieldLk_mem h)
theorem methodLk_mem {own : String} {idx : Nat} {y : MethodName} : ∀ {t : List Jvm.Cond}, methodLk own idx t = some y → Jvm.Cond.methodLink own idx y ∈ t
  | [], h => by simp [methodLk] at h
  | w :: t, h => by
    unfold methodLk at h
    split at h
    · rename_i heq; cases heq
    · rename_i heq
      cases heq
      split at h
      · rename_i hc; obtain ⟨rfl, rfl⟩ := hc; cases h; exact List.mem_cons_self
      · exact List.mem_cons_of_mem _ (methodLk_mem h)
    · rename_i heq; cases heq; exact List.mem_cons_of_mem _ (methodLk_mem h)
theorem classLk_mem {own : String} {idx : Nat} {y : String} : ∀ {t : List Jvm.Cond}, classLk own idx t = some y → Jvm.Cond.classLink own idx y ∈ t
  | [], h => by simp [classLk] at h
  | w :: t, h => by
    unfold classLk at h
    split at h
    · rename_i heq; cases heq
    · rename_i heq
      cases heq
      split at h
      · rename_i hc; obtain ⟨rfl, rfl⟩ := hc; cases h; exact List.mem_cons_self
      · exact List.mem_cons_of_mem _ (classLk_mem h)
    · rename_i heq; cases heq; exact List.mem_cons_of_mem _ (classLk_mem h)
theorem intLk_mem {own : String} {idx : Nat} {y : Int32} : ∀ {t : List Jvm.Cond}, intLk own idx t = some y → Jvm.Cond.constant own idx y ∈ t
  | [], h => by simp [intLk] at h
  | w :: t, h => by
    unfold intLk at h
    split at h
    · rename_i heq; cases heq
    · rename_i heq
      cases heq
      split at h
      · rename_i hc; obtain ⟨rfl, rfl⟩ := hc; cases h; exact List.mem_cons_self
      · exact List.mem_cons_of_mem _ (intLk_mem h)
    · rename_i heq; cases heq; exact List.mem_cons_of_mem _ (intLk_mem h)
theorem longLk_mem {own : String} {idx : Nat} {y : Int64} : ∀ {t : List Jvm.Cond}, longLk own idx t = some y → Jvm.Cond.constantLong own idx y ∈ t
  | [], h => by simp [longLk] at h
  | w :: t, h => by
    unfold longLk at h
    split at h
    · rename_i heq; cases heq
    · rename_i heq
      cases heq
      split at h
      · rename_i hc; obtain ⟨rfl, rfl⟩ := hc; cases h; exact List.mem_cons_self
      · exact List.mem_cons_of_mem _ (longLk_mem h)
    · rename_i heq; cases heq; exact List.mem_cons_of_mem _ (longLk_mem h)
theorem instLk_mem {C : String} {n : Nat} : ∀ {t : List Jvm.Cond}, instLk C t = some n → Jvm.Cond.instantiable C n ∈ t
  | [], h => by simp [instLk] at h
  | w :: t, h => by
    unfold instLk at h
    split at h
    · rename_i heq; cases heq
    · rename_i heq
      cases heq
      split at h
      · rename_i hc; subst hc; cases h; exact List.mem_cons_self
      · exact List.mem_cons_of_mem _ (instLk_mem h)
    · rename_i heq; cases heq; exact List.mem_cons_of_mem _ (instLk_mem h)
theorem codeLk_mem {y : MethodName} {b : ByteArray} {n : Nat} {r : Option FieldType} : ∀ {t : List Jvm.Cond}, codeLk y t = some (b, n, r) → Jvm.Cond.code y b n r ∈ t
  | [], h => by simp [codeLk] at h
  | w :: t, h => by
    unfold codeLk at h
    split at h
    · rename_i heq; cases heq
    · rename_i heq
      cases heq
      split at h
      · rename_i hc; cases meq_eq hc; cases h; exact List.mem_cons_self
      · exact List.mem_cons_of_mem _ (codeLk_mem h)
    · rename_i heq; cases heq; exact List.mem_cons_of_mem _ (codeLk_mem h)
theorem hasInit_mem {y : String} : ∀ {t : List Jvm.Cond}, hasInit y t = true → Jvm.Cond.initialized y ∈ t
  | [], h => by simp [hasInit] at h
  | w :: t, h => by
    unfold hasInit at h
    split at h
    · rename_i heq; cases heq
    · rename_i heq
      cases heq
      split at h
      · rename_i hc; subst hc; exact List.mem_cons_self
      · exact List.mem_cons_of_mem _ (hasInit_mem h)
    · rename_i heq; cases heq; exact List.mem_cons_of_mem _ (hasInit_mem h)
theorem hasInst_mem {y : MethodName} : ∀ {t : List Jvm.Cond}, hasInst y t = true → Jvm.Cond.instanceMethod y ∈ t
  | [], h => by simp [hasInst] at h
  | w :: t, h => by
    unfold hasInst at h
    split at h
    · rename_i heq; cases heq
    · rename_i heq
      cases heq
      split at h
      · rename_i hc; cases meq_eq hc; exact List.mem_cons_self
      · exact List.mem_cons_of_mem _ (hasInst_mem h)
    · rename_i heq; cases heq; exact List.mem_cons_of_mem _ (hasInst_mem h)
theorem hasPriv_mem {y : MethodName} : ∀ {t : List Jvm.Cond}, hasPriv y t = true → Jvm.Cond.privateMethod y ∈ t
  | [], h => by simp [hasPriv] at h
  | w :: t, h => by
    unfold hasPriv at h
    split at h
    · rename_i heq; cases heq
    · rename_i heq
      cases heq
      split at h
      · rename_i hc; cases meq_eq hc; exact List.mem_cons_self
      · exact List.mem_cons_of_mem _ (hasPriv_mem h)
    · rename_i heq; cases heq; exact List.mem_cons_of_mem _ (hasPriv_mem h)
theorem hasStat_mem {y : MethodName} : ∀ {t : List Jvm.Cond}, hasStat y t = true → Jvm.Cond.static y ∈ t
  | [], h => by simp [hasStat] at h
  | w :: t, h => by
    unfold hasStat at h
    split at h
    · rename_i heq; cases heq
    · rename_i heq
      cases heq
      split at h
      · rename_i hc; cases meq_eq hc; exact List.mem_cons_self
      · exact List.mem_cons_of_mem _ (hasStat_mem h)
    · rename_i heq; cases heq; exact List.mem_cons_of_mem _ (hasStat_mem h)
theorem hasDecl_mem {y : MethodName} : ∀ {t : List Jvm.Cond}, hasDecl y t = true → Jvm.Cond.declares y ∈ t
  | [], h => by simp [hasDecl] at h
  | w :: t, h => by
    unfold hasDecl at h
    split at h
    · rename_i heq; cases heq
    · rename_i heq
      cases heq
      split at h
      · rename_i hc; cases meq_eq hc; exact List.mem_cons_self
      · exact List.mem_cons_of_mem _ (hasDecl_mem h)
    · rename_i heq; cases heq; exact List.mem_cons_of_mem _ (hasDecl_mem h)
theorem hasArr_mem {y : FieldType} : ∀ {t : List Jvm.Cond}, hasArr y t = true → Jvm.Cond.arrayClass y ∈ t
  | [], h => by simp [hasArr] at h
  | w :: t, h => by
    unfold hasArr at h
    split at h
    · rename_i heq; cases heq
    · rename_i heq
      cases heq
      split at h
      · rename_i hc; subst hc; exact List.mem_cons_self
      · exact List.mem_cons_of_mem _ (hasArr_mem h)
    · rename_i heq; cases heq; exact List.mem_cons_of_mem _ (hasArr_mem h)
theorem hasSel_mem {y : MethodName} : ∀ {t : List Jvm.Cond}, hasSel y t = true → Jvm.Cond.selects y.cls y y ∈ t
  | [], h => by simp [hasSel] at h
  | w :: t, h => by
    unfold hasSel at h
    split at h
    · rename_i heq; cases heq
    · rename_i heq
      cases heq
      split at h
      · rename_i hc; obtain ⟨c1, c2, rfl⟩ := hc; cases meq_eq c1; cases meq_eq c2; exact List.mem_cons_self
      · exact List.mem_cons_of_mem _ (hasSel_mem h)
    · rename_i heq; cases heq; exact List.mem_cons_of_mem _ (hasSel_mem h)
theorem layGo_spec {C n : String} {k : Nat} {d : String} {fin : Bool} : ∀ {t : List Jvm.Cond} {k0 : Nat}, layGo C n t k0 = some (k, d, fin) → k0 ≤ k ∧ t[k - k0]? = some (if fin = true then Jvm.Cond.laysFinal C C n d else Jvm.Cond.lays C C n d)
  | [], _, h => by simp [layGo] at h
  | w :: t, k0, h => by
    have next : layGo C n t (k0 + 1) = some (k, d, fin) → k0 ≤ k ∧ (w :: t)[k - k0]? = some (if fin = true then Jvm.Cond.laysFinal C C n d else Jvm.Cond.lays C C n d) := fun q => by
      obtain ⟨h1, h2⟩ := layGo_spec q
      refine ⟨by omega, ?_⟩
      have e : k - k0 = (k - (k0 + 1)) + 1 := by omega
      rw [e, List.getElem?_cons_succ]
      exact h2
    unfold layGo at h
    split at h
    · rename_i heq; cases heq
    · rename_i heq
      cases heq
      split at h
      · rename_i hc
        obtain ⟨rfl, rfl, rfl⟩ := hc
        cases h
        exact ⟨Nat.le_refl _, by simp⟩
      · exact next h
    · rename_i heq
      cases heq
      split at h
      · rename_i hc
        obtain ⟨rfl, rfl, rfl⟩ := hc
        cases h
        exact ⟨Nat.le_refl _, by simp⟩
      · exact next h
    · rename_i heq; cases heq; exact next h
theorem layAt_spec {W : List Jvm.Cond} {C n : String} {k : Nat} {d : String} {fin : Bool} (h : layAt W C n = some (k, d, fin)) : W[k]? = some (if fin = true then Jvm.Cond.laysFinal C C n d else Jvm.Cond.lays C C n d) := (layGo_spec h).2
theorem layAt_inj {W : List Jvm.Cond} {C n n' : String} {k : Nat} {d d' : String} {fin fin' : Bool} (h : layAt W C n = some (k, d, fin)) (h' : layAt W C n' = some (k, d', fin')) : n = n' := by
  have e := (layAt_spec h).symm.trans (layAt_spec h')
  cases fin <;> cases fin' <;> simp at e
  · exact e.1
  · exact e.1
theorem layAt_laid {W : List Jvm.Cond} {C n : String} {k : Nat} {d : String} {fin : Bool} {Z : State} {a0 : Array Value} (hw : ∀ d ∈ W, d.before a0 Z = true) (h : layAt W C n = some (k, d, fin)) : Laid Z a0 C C n d := by
  have e := hw _ (List.mem_of_getElem? (layAt_spec h))
  cases fin
  · exact Or.inl e
  · exact Or.inr e
theorem fieldAt_spec {W : List Jvm.Cond} {own : String} {idx : Nat} {C : String} {k kd : Nat} {fin : Bool} (h : fieldAt W own idx = some (C, k, kd, fin)) : ∃ n d, Jvm.Cond.fieldLink own idx C n d ∈ W ∧ layAt W C n = some (k, d, fin) ∧ kd = kindD d ∧ kindD d ≠ 0 := by
  unfold fieldAt at h
  split at h
  · cases h
  · rename_i r n d h1
    split at h
    · cases h
    · rename_i k' d' fin' h2
      split at h
      · rename_i hc
        cases h
        obtain ⟨rfl, hk⟩ := hc
        exact ⟨n, _, fieldLk_mem h1, h2, rfl, hk⟩
      · cases h
theorem kindD_1 {d : String} (h : kindD d = 1) : parseFieldDescriptor d = some .int := by
  unfold kindD at h
  split at h <;> first | assumption | (simp at h)
theorem kindD_2 {d : String} (h : kindD d = 2) : parseFieldDescriptor d = some .boolean := by
  unfold kindD at h
  split at h <;> first | assumption | (simp at h)
theorem kindD_3 {d : String} (h : kindD d = 3) : parseFieldDescriptor d = some .long := by
  unfold kindD at h
  split at h <;> first | assumption | (simp at h)
theorem kindD_4 {d : String} (h : kindD d = 4) : ∃ ty, parseFieldDescriptor d = some ty ∧ (∀ v : Value, narrow ty v = v) ∧ (∀ a, fits ty (.ref a) = true) ∧ defaultValue ty = .null := by
  unfold kindD at h
  split at h
  · simp at h
  · simp at h
  · simp at h
  · rename_i t ht; exact ⟨_, ht, fun _ => rfl, fun _ => rfl, rfl⟩
  · rename_i t ht; exact ⟨_, ht, fun _ => rfl, fun _ => rfl, rfl⟩
  · simp at h
theorem kindD_lt (d : String) : kindD d = 0 ∨ kindD d = 1 ∨ kindD d = 2 ∨ kindD d = 3 ∨ kindD d = 4 := by
  unfold kindD
  split <;> simp
theorem jump_spec {pc : Nat} {o : Int} {t : Nat} (h : jump pc o = some t) : 0 ≤ (pc : Int) + o ∧ ((pc : Int) + o).toNat = t := by
  unfold jump at h
  split at h
  · rename_i n hn
    cases h
    rw [hn]
    exact ⟨Int.natCast_nonneg _, rfl⟩
  · cases h
theorem inb_spec {j : Int32} {n : Nat} (h : inb j n = true) : ¬ (j < 0 ∨ n ≤ j.toNatClampNeg) := by
  simp only [inb, Bool.and_eq_true, decide_eq_true_eq] at h
  rintro (q | q)
  · exact h.1 q
  · omega
end Jvm.OwnEv
namespace Jvm.OwnEv
open Sem ClassFile Op Lib Jvm.Stand Jvm.Free Jvm.LawKit Jvm.RoadKit
/-! PART 3: the memory and the heap -/
def RelC (Z : State) (W : List Jvm.Cond) (ρ : Nat → Addr) (h : Heap) (mi : Nat → Nat → Int32) (ml : Nat → Nat → Int64) (mr : Nat → Nat → Value) (a : Nat) (c : Nat × String × Nat) : Prop :=
  (c.1 = 0 → Exa Z h (ρ a) c.2.1 ∧ ∀ n k d fin, layAt W c.2.1 n = some (k, d, fin) → kindD d ≠ 0 → Fld Z h (ρ a) c.2.1 n d (conc ρ (getV (kindD d) (mi a k) (ml a k) (mr a k)))) ∧
  (c.1 = 1 → ∃ cell : Cell, Arr Z h (ρ a) cell .int ∧ cell.slots.size = c.2.2 ∧ ∀ k, k < c.2.2 → cell.slots[k]? = some (.int (mi a k))) ∧
  (c.1 = 2 → ∃ cell : Cell, Arr Z h (ρ a) cell .long ∧ cell.slots.size = c.2.2 ∧ ∀ k, k < c.2.2 → cell.slots[k]? = some (.long (ml a k))) ∧
  (c.1 = 3 → ∃ cell : Cell, Arr Z h (ρ a) cell .boolean ∧ cell.slots.size = c.2.2 ∧ ∀ k, k < c.2.2 → cell.slots[k]? = some (.int (mi a k)))
def Rel (Z : State) (W : List Jvm.Cond) (ρ : Nat → Addr) (ro n0 : Nat) (h : Heap) (M : EMem) : Prop :=
  h.size = n0 + (M.1.length - ro) ∧ ro ≤ M.1.length ∧ (∀ a c, M.1[a]? = some c → RelC Z W ρ h M.2.1 M.2.2.1 M.2.2.2 a c) ∧
  (∀ a, M.1.length ≤ a → ∀ k, M.2.1 a k = 0 ∧ M.2.2.1 a k = 0 ∧ M.2.2.2 a k = .null)
section R
variable {Z : State} {W : List Jvm.Cond} {ρ : Nat → Addr} {h h' : Heap} {mi mi' : Nat → Nat → Int32} {ml ml' : Nat → Nat → Int64} {mr mr' : Nat → Nat → Value} {a b : Nat} {c : Nat × String × Nat} {a0 : Array Value}
theorem RelC.mono (hE : ∀ C, Exa Z h (ρ a) C → Exa Z h' (ρ a) C) (hF : ∀ C n d v, Fld Z h (ρ a) C n d v → Fld Z h' (ρ a) C n d v) (hA : ∀ cell ty, Arr Z h (ρ a) cell ty → Arr Z h' (ρ a) cell ty)
    (hi : ∀ k, mi' a k = mi a k) (hl : ∀ k, ml' a k = ml a k) (hr : ∀ k, mr' a k = mr a k) (X : RelC Z W ρ h mi ml mr a c) : RelC Z W ρ h' mi' ml' mr' a c := by
  obtain ⟨x0, x1, x2, x3⟩ := X
  refine ⟨fun q => ?_, fun q => ?_, fun q => ?_, fun q => ?_⟩
  · obtain ⟨e1, e2⟩ := x0 q
    exact ⟨hE _ e1, fun n k d fin e3 e4 => by rw [hi, hl, hr]; exact hF _ _ _ _ (e2 n k d fin e3 e4)⟩
  · obtain ⟨cell, e1, e2, e3⟩ := x1 q
    exact ⟨cell, hA _ _ e1, e2, fun k hk => by rw [hi]; exact e3 k hk⟩
  · obtain ⟨cell, e1, e2, e3⟩ := x2 q
    exact ⟨cell, hA _ _ e1, e2, fun k hk => by rw [hl]; exact e3 k hk⟩
  · obtain ⟨cell, e1, e2, e3⟩ := x3 q
    exact ⟨cell, hA _ _ e1, e2, fun k hk => by rw [hi]; exact e3 k hk⟩
theorem up_ne {α : Type} {f : Nat → Nat → α} {a k : Nat} {v : α} {x : Nat} (h : x ≠ a) (y : Nat) : up f a k v x y = f x y := by simp [up, h]
theorem up_eq {α : Type} {f : Nat → Nat → α} {a k : Nat} {v : α} : up f a k v a k = v := by simp [up]
theorem up_ne' {α : Type} {f : Nat → Nat → α} {a k : Nat} {v : α} {y : Nat} (h : y ≠ k) (x : Nat) : up f a k v x y = f x y := by simp [up, h]
theorem RelC.other {sl : Nat} {v : Value} (w : Wr h h' (ρ b) sl v) (ne : ρ a ≠ ρ b) (hi : ∀ k, mi' a k = mi a k) (hl : ∀ k, ml' a k = ml a k) (hr : ∀ k, mr' a k = mr a k) (X : RelC Z W ρ h mi ml mr a c) : RelC Z W ρ h' mi' ml' mr' a c :=
  X.mono (fun _ q => q.wr w) (fun _ _ _ _ q => q.other w (Or.inl ne)) (fun _ _ q => q.other w ne) hi hl hr
theorem RelC.ext (E : Ext h h') (X : RelC Z W ρ h mi ml mr a c) : RelC Z W ρ h' mi ml mr a c :=
  X.mono (fun _ q => q.ext E) (fun _ _ _ _ q => q.ext E) (fun _ _ q => q.ext E) (fun _ => rfl) (fun _ => rfl) (fun _ => rfl)
/-- a field is written -/
theorem RelC.put (hw : ∀ d ∈ W, d.before a0 Z = true) {C n d : String} {k : Nat} {fin : Bool} {u : Nat} {v : Value} (hla : layAt W C n = some (k, d, fin)) (hk0 : kindD d ≠ 0) (w : Wr h h' (ρ a) (Jvm.RoadKit.slotOf Z C n d) v)
    (hv : conc ρ (getV (kindD d) (mi' a k) (ml' a k) (mr' a k)) = v)
    (hi : ∀ j, j ≠ k → mi' a j = mi a j) (hl : ∀ j, j ≠ k → ml' a j = ml a j) (hr : ∀ j, j ≠ k → mr' a j = mr a j) (X : RelC Z W ρ h mi ml mr a (0, C, u)) : RelC Z W ρ h' mi' ml' mr' a (0, C, u) := by
  obtain ⟨x0, -⟩ := X
  refine ⟨fun q => ?_, fun q => (by cases q), fun q => (by cases q), fun q => (by cases q)⟩
  obtain ⟨e1, e2⟩ := x0 q
  refine ⟨e1.wr w, fun n' k' d' fin' e3 e4 => ?_⟩
  by_cases hn : n' = n
  · subst hn
    cases hla.symm.trans e3
    rw [hv]
    exact Fld.same w (e2 _ _ _ _ e3 e4)
  · have hk : k' ≠ k := fun q => by subst q; exact hn (layAt_inj e3 hla)
    rw [hi _ hk, hl _ hk, hr _ hk]
    have pd : ∀ {x : String}, kindD x ≠ 0 → ∃ t, parseFieldDescriptor x = some t := fun {x} q => by
      rcases kindD_lt x with z | z | z | z | z
      · exact absurd z q
      · exact ⟨_, kindD_1 z⟩
      · exact ⟨_, kindD_2 z⟩
      · exact ⟨_, kindD_3 z⟩
      · obtain ⟨t, ht, -⟩ := kindD_4 z; exact ⟨t, ht⟩
    obtain ⟨t1, ht1⟩ := pd e4
    obtain ⟨t2, ht2⟩ := pd hk0
    exact (e2 _ _ _ _ e3 e4).other w (Or.inr (slot_ne (layAt_laid hw e3) (layAt_laid hw hla) hn ht1 ht2))
theorem get_set {cell : Cell} {j k n : Nat} {v : Value} (hs : cell.slots.size = n) (hk : k < n) : (cell.setSlot j v).slots[k]? = if j = k then some v else cell.slots[k]? := by
  by_cases e : j = k
  · subst e
    simp [Cell.setSlot, hs, hk]
  · rw [if_neg e]
    exact Array.getElem?_setIfInBounds_ne e
theorem RelC.st1 {n : Nat} {u : String} {j : Nat} {x : Int32} (w : Wr h h' (ρ a) j (.int x)) (X : RelC Z W ρ h mi ml mr a (1, u, n)) : RelC Z W ρ h' (up mi a j x) ml mr a (1, u, n) := by
  obtain ⟨-, x1, -⟩ := X
  refine ⟨fun q => (by cases q), fun q => ?_, fun q => (by cases q), fun q => (by cases q)⟩
  obtain ⟨cell, e1, e2, e3⟩ := x1 q
  refine ⟨_, e1.same w, (sz_set _ _ _).trans e2, fun k hk => ?_⟩
  rw [get_set e2 hk]
  by_cases e : j = k
  · subst e; simp [up]
  · rw [if_neg e, e3 k hk]; simp [up, Ne.symm e]
theorem RelC.st3 {n : Nat} {u : String} {j : Nat} {x : Int32} (w : Wr h h' (ρ a) j (.int x)) (X : RelC Z W ρ h mi ml mr a (3, u, n)) : RelC Z W ρ h' (up mi a j x) ml mr a (3, u, n) := by
  obtain ⟨-, -, -, x1⟩ := X
  refine ⟨fun q => (by cases q), fun q => (by cases q), fun q => (by cases q), fun q => ?_⟩
  obtain ⟨cell, e1, e2, e3⟩ := x1 q
  refine ⟨_, e1.same w, (sz_set _ _ _).trans e2, fun k hk => ?_⟩
  rw [get_set e2 hk]
  by_cases e : j = k
  · subst e; simp [up]
  · rw [if_neg e, e3 k hk]; simp [up, Ne.symm e]
theorem RelC.st2 {n : Nat} {u : String} {j : Nat} {x : Int64} (w : Wr h h' (ρ a) j (.long x)) (X : RelC Z W ρ h mi ml mr a (2, u, n)) : RelC Z W ρ h' mi (up ml a j x) mr a (2, u, n) := by
  obtain ⟨-, -, x1, -⟩ := X
  refine ⟨fun q => (by cases q), fun q => (by cases q), fun q => ?_, fun q => (by cases q)⟩
  obtain ⟨cell, e1, e2, e3⟩ := x1 q
  refine ⟨_, e1.same w, (sz_set _ _ _).trans e2, fun k hk => ?_⟩
  rw [get_set e2 hk]
  by_cases e : j = k
  · subst e; simp [up]
  · rw [if_neg e, e3 k hk]; simp [up, Ne.symm e]
/-- one cell is written, the others stay -/
theorem Rel.write {ro n0 : Nat} {L : ELay} {sl : Nat} {v : Value} (hρ : ∀ a b, ρ a = ρ b → a = b) (w : Wr h h' (ρ a) sl v) (hc : L[a]? = some c)
    (hi : ∀ x, x ≠ a → ∀ k, mi' x k = mi x k) (hl : ∀ x, x ≠ a → ∀ k, ml' x k = ml x k) (hr : ∀ x, x ≠ a → ∀ k, mr' x k = mr x k)
    (self : RelC Z W ρ h mi ml mr a c → RelC Z W ρ h' mi' ml' mr' a c) (X : Rel Z W ρ ro n0 h (L, mi, ml, mr)) : Rel Z W ρ ro n0 h' (L, mi', ml', mr') := by
  obtain ⟨x1, x2, x3, x4⟩ := X
  have hlt : a < L.length := (List.getElem?_eq_some_iff.mp hc).1
  refine ⟨by rw [w.size]; exact x1, x2, fun b cb hb => ?_, fun b hb k => ?_⟩
  · by_cases e : b = a
    · subst e
      cases hc.symm.trans hb
      exact self (x3 _ _ hc)
    · exact (x3 b cb hb).other w (fun q => e (hρ _ _ q)) (hi b e) (hl b e) (hr b e)
  · have e : b ≠ a := fun q => by
      have hb' : L.length ≤ b := hb
      omega
    obtain ⟨y1, y2, y3⟩ := x4 b hb k
    exact ⟨(hi b e k).trans y1, (hl b e k).trans y2, (hr b e k).trans y3⟩
/-- one cell more -/
theorem Rel.push {ro n0 : Nat} {L : ELay} (E : Ext h h') (hsz : h'.size = h.size + 1) (new : RelC Z W ρ h' mi ml mr L.length c) (X : Rel Z W ρ ro n0 h (L, mi, ml, mr)) : Rel Z W ρ ro n0 h' (L ++ [c], mi, ml, mr) := by
  obtain ⟨x1, x2, x3, x4⟩ := X
  have x2' : ro ≤ L.length := x2
  have x1' : h.size = n0 + (L.length - ro) := x1
  refine ⟨?_, ?_, fun b cb hb => ?_, fun b hb k => ?_⟩
  · show h'.size = n0 + ((L ++ [c]).length - ro)
    rw [hsz, x1', List.length_append]
    simp; omega
  · show ro ≤ (L ++ [c]).length
    rw [List.length_append]; omega
  · have hb' : (L ++ [c])[b]? = some cb := hb
    by_cases e : b < L.length
    · rw [List.getElem?_append_left e] at hb'
      exact (x3 b cb hb').ext E
    · have hlt := (List.getElem?_eq_some_iff.mp hb').1
      rw [List.length_append] at hlt
      have : b = L.length := by simp at hlt; omega
      subst this
      simp at hb'
      subst hb'
      exact new
  · have hb' : (L ++ [c]).length ≤ b := hb
    rw [List.length_append] at hb'
    exact x4 b (by show L.length ≤ b; omega) k
end R
end Jvm.OwnEv
namespace Jvm.OwnEv
open Sem ClassFile Op Lib Jvm.Stand Jvm.Free Jvm.LawKit Jvm.RoadKit
/-! PART 4: the evaluator's plain steps are steps of the model -/
def Here (p : Program) (l : Launch) (e : Env) (R : Room) (s : State) (m : MethodId) (args : Array Value) (below : List Frame) (meth : Method) (c : Code) (Z : State) (W : List Jvm.Cond) (ρ : Nat → Addr) (ro n0 : Nat) (L0 : ELay) (T : State) (M : EMem) : Prop :=
  ∃ locs, Stand p l e R s m args below meth c T locs (M.1.length - L0.length) (szL M.1 - szL L0) ∧ Fr n0 locs ∧ Rel Z W ρ ro n0 T.heap M
theorem objInitAt_spec {W : List Jvm.Cond} {own : String} {idx : Nat} (h : objInitAt W own idx = true) : Jvm.Cond.methodLink own idx Lib.objectInit ∈ W ∧ Jvm.Cond.instanceMethod Lib.objectInit ∈ W ∧ Jvm.Cond.code Lib.objectInit ⟨#[0xb1]⟩ 1 none ∈ W := by
  unfold objInitAt at h
  split at h
  · rename_i z b n r h1 h2
    simp only [Bool.and_eq_true, decide_eq_true_eq] at h
    obtain ⟨⟨⟨⟨rfl, h3⟩, rfl⟩, rfl⟩, rfl⟩ := h
    exact ⟨methodLk_mem h1, hasInst_mem h3, codeLk_mem h2⟩
  · cases h
section S
variable {p : Program} {l : Launch} {e : Env} {R : Room} {s : State} {m : MethodId} {args : Array Value} {below : List Frame} {meth : Method} {c : Code} {Z : State} {a0 : Array Value} {W : List Jvm.Cond} {ρ : Nat → Addr} {ro n0 : Nat} {L0 : ELay} {y : MethodName} {T : State} {M : EMem}
set_option maxRecDepth 65536 in
set_option maxHeartbeats 40000000 in
theorem execP_sound (H : Here p l e R s m args below meth c Z W ρ ro n0 L0 T M) (hx : p.tables.exec = Jvm.exec) (hZ : Z.Warmed39 s.vm) (hw : ∀ d ∈ W, d.before a0 Z = true) (hown : s.vm.findClass y.cls = some m.cls) {F Lb : Nat} (hF : F ≤ R.frames) (hLb : Lb ≤ R.locals)
    {ls ls' : List Slot} {st st' : List Value} {ins : Instr} {pc pc' len : Nat} (hsz : ls.length = c.maxLocals) (hd : decode c.code pc = .ok (ins, len)) (hl : lenOk len ins = true) (h : execP W F Lb y ins pc len ls st M = some (pc', ls', st')) :
    ls'.length = ls.length ∧ ∃ T', Here p l e R s m args below meth c Z W ρ ro n0 L0 T' M ∧ ∀ target, Steps p.tables e below (T'.setTop (mkF m pc' (cl ρ ls') (cs ρ st'))) target → Steps p.tables e below (T.setTop (mkF m pc (cl ρ ls) (cs ρ st))) target := by
  obtain ⟨locs, X, N, Rl⟩ := H
  have A := X.here
  unfold execP at h
  split at h
  · rename_i k
    obtain rfl : len = 2 := by simpa [lenOk] using hl
    split at h
    · rename_i a ha; cases h; exact ⟨rfl, T, ⟨locs, X, N, Rl⟩, fun t k => XS.aload A hx rfl hd (get_cl ha) rfl k⟩
    · rename_i ha; cases h; exact ⟨rfl, T, ⟨locs, X, N, Rl⟩, fun t k => XS.aload A hx rfl hd (get_cl ha) rfl k⟩
    · cases h
  · rename_i k
    obtain rfl : len = 1 := by simpa [lenOk] using hl
    split at h
    · rename_i a ha; cases h; exact ⟨rfl, T, ⟨locs, X, N, Rl⟩, fun t k => XS.aloadN A hx rfl hd (get_cl ha) rfl k⟩
    · rename_i ha; cases h; exact ⟨rfl, T, ⟨locs, X, N, Rl⟩, fun t k => XS.aloadN A hx rfl hd (get_cl ha) rfl k⟩
    · cases h
  · rename_i k
    obtain rfl : len = 2 := by simpa [lenOk] using hl
    split at h
    · rename_i a ha; cases h; exact ⟨rfl, T, ⟨locs, X, N, Rl⟩, fun t k => XS.iload A hx rfl hd (get_cl ha) k⟩
    · cases h
  · rename_i k
    obtain rfl : len = 1 := by simpa [lenOk] using hl
    split at h
    · rename_i a ha; cases h; exact ⟨rfl, T, ⟨locs, X, N, Rl⟩, fun t k => XS.iloadN A hx rfl hd (get_cl ha) k⟩
    · cases h
  · rename_i k
    obtain rfl : len = 2 := by simpa [lenOk] using hl
    split at h
    · rename_i a ha; cases h; exact ⟨rfl, T, ⟨locs, X, N, Rl⟩, fun t k => XT.lload A hx rfl hd (get_cl ha) k⟩
    · cases h
  · rename_i k
    obtain rfl : len = 1 := by simpa [lenOk] using hl
    split at h
    · rename_i a ha; cases h; exact ⟨rfl, T, ⟨locs, X, N, Rl⟩, fun t k => XT.lloadN A hx rfl hd (get_cl ha) k⟩
    · cases h
  · rename_i k
    obtain rfl : len = 2 := by simpa [lenOk] using hl
    split at h
    · split at h
      · rename_i l' hs; cases h; exact ⟨storeL_len hs, T, ⟨locs, X, N, Rl⟩, fun t k => XS.istore A hx rfl hd rfl (storeL_conc (ρ := ρ) hs) k⟩
      · cases h
    · cases h
  · rename_i k
    obtain rfl : len = 1 := by simpa [lenOk] using hl
    split at h
    · split at h
      · rename_i l' hs; cases h; exact ⟨storeL_len hs, T, ⟨locs, X, N, Rl⟩, fun t k => XS.istoreN A hx rfl hd rfl (storeL_conc (ρ := ρ) hs) k⟩
      · cases h
    · cases h
  · rename_i k
    obtain rfl : len = 2 := by simpa [lenOk] using hl
    split at h
    · split at h
      · rename_i l' hs; cases h; exact ⟨storeL_len hs, T, ⟨locs, X, N, Rl⟩, fun t k => XT.lstore A hx rfl hd rfl (storeL_conc (ρ := ρ) hs) k⟩
      · cases h
    · cases h
  · rename_i k
    obtain rfl : len = 1 := by simpa [lenOk] using hl
    split at h
    · split at h
      · rename_i l' hs; cases h; exact ⟨storeL_len hs, T, ⟨locs, X, N, Rl⟩, fun t k => XT.lstoreN A hx rfl hd rfl (storeL_conc (ρ := ρ) hs) k⟩
      · cases h
    · cases h
  · rename_i k
    obtain rfl : len = 2 := by simpa [lenOk] using hl
    split at h
    · split at h
      · rename_i l' hs; cases h; exact ⟨storeL_len hs, T, ⟨locs, X, N, Rl⟩, fun t k => XS.astore A hx rfl hd rfl rfl (storeL_conc (ρ := ρ) hs) k⟩
      · cases h
    · cases h
  · rename_i k
    obtain rfl : len = 1 := by simpa [lenOk] using hl
    split at h
    · split at h
      · rename_i l' hs; cases h; exact ⟨storeL_len hs, T, ⟨locs, X, N, Rl⟩, fun t k => XS.astoreN A hx rfl hd rfl rfl (storeL_conc (ρ := ρ) hs) k⟩
      · cases h
    · cases h
  · rename_i k d
    obtain rfl : len = 3 := by simpa [lenOk] using hl
    split at h
    · rename_i v ha; split at h
      · rename_i l' hs; cases h; exact ⟨storeL_len hs, T, ⟨locs, X, N, Rl⟩, fun t k => XS.iinc A hx rfl hd (get_cl ha) (storeL_conc (ρ := ρ) hs) k⟩
      · cases h
    · cases h
  · rename_i i
    obtain rfl : len = 1 := by simpa [lenOk] using hl
    cases h; exact ⟨rfl, T, ⟨locs, X, N, Rl⟩, fun t k => XS.iconst A hx rfl hd k⟩
  · rename_i i
    obtain rfl : len = 2 := by simpa [lenOk] using hl
    cases h; exact ⟨rfl, T, ⟨locs, X, N, Rl⟩, fun t k => XS.bipush A hx rfl hd k⟩
  · rename_i i
    obtain rfl : len = 3 := by simpa [lenOk] using hl
    cases h; exact ⟨rfl, T, ⟨locs, X, N, Rl⟩, fun t k => XS.sipush A hx rfl hd k⟩
  · rename_i i
    obtain rfl : len = 1 := by simpa [lenOk] using hl
    cases h; exact ⟨rfl, T, ⟨locs, X, N, Rl⟩, fun t k => XT.lconst A hx rfl hd k⟩
  · rename_i i
    obtain rfl : len = 2 := by simpa [lenOk] using hl
    split at h
    · rename_i v hv; cases h; exact ⟨rfl, T, ⟨locs, X, N, Rl⟩, fun t k => X.ldcInt hx hown (mvT hZ (hw _ (intLk_mem hv))) (g := mkF m pc (cl ρ ls) (cs ρ st)) rfl hd t k⟩
    · cases h
  · rename_i i
    obtain rfl : len = 3 := by simpa [lenOk] using hl
    split at h
    · rename_i v hv; cases h; exact ⟨rfl, T, ⟨locs, X, N, Rl⟩, fun t k => X.ldcwInt hx hown (mvT hZ (hw _ (intLk_mem hv))) (g := mkF m pc (cl ρ ls) (cs ρ st)) rfl hd t k⟩
    · cases h
  · rename_i i
    obtain rfl : len = 3 := by simpa [lenOk] using hl
    split at h
    · rename_i v hv; cases h; exact ⟨rfl, T, ⟨locs, X, N, Rl⟩, fun t k => X.ldc2Long hx hown (mvT hZ (hw _ (longLk_mem hv))) (g := mkF m pc (cl ρ ls) (cs ρ st)) rfl hd t k⟩
    · cases h
  · obtain rfl : len = 1 := by simpa [lenOk] using hl
    split at h
    · cases h; exact ⟨rfl, T, ⟨locs, X, N, Rl⟩, fun t k => XS.iadd A hx rfl hd rfl k⟩
    · cases h
  · obtain rfl : len = 1 := by simpa [lenOk] using hl
    split at h
    · cases h; exact ⟨rfl, T, ⟨locs, X, N, Rl⟩, fun t k => XS.isub A hx rfl hd rfl k⟩
    · cases h
  · obtain rfl : len = 1 := by simpa [lenOk] using hl
    split at h
    · cases h; exact ⟨rfl, T, ⟨locs, X, N, Rl⟩, fun t k => XS.imul A hx rfl hd rfl k⟩
    · cases h
  · obtain rfl : len = 1 := by simpa [lenOk] using hl
    split at h
    · cases h; exact ⟨rfl, T, ⟨locs, X, N, Rl⟩, fun t k => XS.iand A hx rfl hd rfl k⟩
    · cases h
  · obtain rfl : len = 1 := by simpa [lenOk] using hl
    split at h
    · cases h; exact ⟨rfl, T, ⟨locs, X, N, Rl⟩, fun t k => XT.ior A hx rfl hd rfl k⟩
    · cases h
  · obtain rfl : len = 1 := by simpa [lenOk] using hl
    split at h
    · cases h; exact ⟨rfl, T, ⟨locs, X, N, Rl⟩, fun t k => XT.ixor A hx rfl hd rfl k⟩
    · cases h
  · obtain rfl : len = 1 := by simpa [lenOk] using hl
    split at h
    · cases h; exact ⟨rfl, T, ⟨locs, X, N, Rl⟩, fun t k => XT.ishl A hx rfl hd rfl k⟩
    · cases h
  · obtain rfl : len = 1 := by simpa [lenOk] using hl
    split at h
    · cases h; exact ⟨rfl, T, ⟨locs, X, N, Rl⟩, fun t k => XT.ishr A hx rfl hd rfl k⟩
    · cases h
  · obtain rfl : len = 1 := by simpa [lenOk] using hl
    split at h
    · cases h; exact ⟨rfl, T, ⟨locs, X, N, Rl⟩, fun t k => XT.iushr A hx rfl hd rfl k⟩
    · cases h
  · obtain rfl : len = 1 := by simpa [lenOk] using hl
    split at h
    · split at h
      · cases h
      · rename_i hb; cases h; exact ⟨rfl, T, ⟨locs, X, N, Rl⟩, fun t k => XS.idiv A hx rfl hd rfl hb k⟩
    · cases h
  · obtain rfl : len = 1 := by simpa [lenOk] using hl
    split at h
    · split at h
      · cases h
      · rename_i hb; cases h; exact ⟨rfl, T, ⟨locs, X, N, Rl⟩, fun t k => XS.irem A hx rfl hd rfl hb k⟩
    · cases h
  · obtain rfl : len = 1 := by simpa [lenOk] using hl
    split at h
    · cases h; exact ⟨rfl, T, ⟨locs, X, N, Rl⟩, fun t k => XS.ineg A hx rfl hd rfl k⟩
    · cases h
  · obtain rfl : len = 1 := by simpa [lenOk] using hl
    split at h
    · cases h; exact ⟨rfl, T, ⟨locs, X, N, Rl⟩, fun t k => XT.ladd A hx rfl hd rfl k⟩
    · cases h
  · obtain rfl : len = 1 := by simpa [lenOk] using hl
    split at h
    · cases h; exact ⟨rfl, T, ⟨locs, X, N, Rl⟩, fun t k => XT.lsub A hx rfl hd rfl k⟩
    · cases h
  · obtain rfl : len = 1 := by simpa [lenOk] using hl
    split at h
    · cases h; exact ⟨rfl, T, ⟨locs, X, N, Rl⟩, fun t k => XT.lmul A hx rfl hd rfl k⟩
    · cases h
  · obtain rfl : len = 1 := by simpa [lenOk] using hl
    split at h
    · cases h; exact ⟨rfl, T, ⟨locs, X, N, Rl⟩, fun t k => XT.land A hx rfl hd rfl k⟩
    · cases h
  · obtain rfl : len = 1 := by simpa [lenOk] using hl
    split at h
    · cases h; exact ⟨rfl, T, ⟨locs, X, N, Rl⟩, fun t k => XT.lor A hx rfl hd rfl k⟩
    · cases h
  · obtain rfl : len = 1 := by simpa [lenOk] using hl
    split at h
    · cases h; exact ⟨rfl, T, ⟨locs, X, N, Rl⟩, fun t k => XT.lxor A hx rfl hd rfl k⟩
    · cases h
  · obtain rfl : len = 1 := by simpa [lenOk] using hl
    split at h
    · cases h; exact ⟨rfl, T, ⟨locs, X, N, Rl⟩, fun t k => XT.lshl A hx rfl hd rfl k⟩
    · cases h
  · obtain rfl : len = 1 := by simpa [lenOk] using hl
    split at h
    · cases h; exact ⟨rfl, T, ⟨locs, X, N, Rl⟩, fun t k => XT.lshr A hx rfl hd rfl k⟩
    · cases h
  · obtain rfl : len = 1 := by simpa [lenOk] using hl
    split at h
    · cases h; exact ⟨rfl, T, ⟨locs, X, N, Rl⟩, fun t k => XT.lushr A hx rfl hd rfl k⟩
    · cases h
  · obtain rfl : len = 1 := by simpa [lenOk] using hl
    split at h
    · split at h
      · cases h
      · rename_i hb; cases h; exact ⟨rfl, T, ⟨locs, X, N, Rl⟩, fun t k => XT.ldiv A hx rfl hd rfl hb k⟩
    · cases h
  · obtain rfl : len = 1 := by simpa [lenOk] using hl
    split at h
    · split at h
      · cases h
      · rename_i hb; cases h; exact ⟨rfl, T, ⟨locs, X, N, Rl⟩, fun t k => XT.lrem A hx rfl hd rfl hb k⟩
    · cases h
  · obtain rfl : len = 1 := by simpa [lenOk] using hl
    split at h
    · cases h; exact ⟨rfl, T, ⟨locs, X, N, Rl⟩, fun t k => XT.lneg A hx rfl hd rfl k⟩
    · cases h
  · obtain rfl : len = 1 := by simpa [lenOk] using hl
    split at h
    · cases h; exact ⟨rfl, T, ⟨locs, X, N, Rl⟩, fun t k => XT.lcmp A hx rfl hd rfl k⟩
    · cases h
  · obtain rfl : len = 1 := by simpa [lenOk] using hl
    split at h
    · cases h; exact ⟨rfl, T, ⟨locs, X, N, Rl⟩, fun t k => XT.i2l A hx rfl hd rfl k⟩
    · cases h
  · obtain rfl : len = 1 := by simpa [lenOk] using hl
    split at h
    · cases h; exact ⟨rfl, T, ⟨locs, X, N, Rl⟩, fun t k => XT.l2i A hx rfl hd rfl k⟩
    · cases h
  · obtain rfl : len = 1 := by simpa [lenOk] using hl
    split at h
    · cases h; exact ⟨rfl, T, ⟨locs, X, N, Rl⟩, fun t k => XT.i2s A hx rfl hd rfl k⟩
    · cases h
  · obtain rfl : len = 1 := by simpa [lenOk] using hl
    split at h
    · cases h; exact ⟨rfl, T, ⟨locs, X, N, Rl⟩, fun t k => XS.dup A hx rfl hd rfl rfl k⟩
    · cases h; exact ⟨rfl, T, ⟨locs, X, N, Rl⟩, fun t k => XS.dup A hx rfl hd rfl rfl k⟩
    · cases h
  · obtain rfl : len = 1 := by simpa [lenOk] using hl
    split at h
    · cases h; exact ⟨rfl, T, ⟨locs, X, N, Rl⟩, fun t k => XT.dup2 A hx rfl hd rfl rfl rfl k⟩
    · cases h; exact ⟨rfl, T, ⟨locs, X, N, Rl⟩, fun t k => XT.dup2 A hx rfl hd rfl rfl rfl k⟩
    · cases h; exact ⟨rfl, T, ⟨locs, X, N, Rl⟩, fun t k => XT.dup2L A hx rfl hd rfl k⟩
    · cases h
  · obtain rfl : len = 1 := by simpa [lenOk] using hl
    split at h
    · cases h; exact ⟨rfl, T, ⟨locs, X, N, Rl⟩, fun t k => XT.dupX1 A hx rfl hd rfl rfl rfl k⟩
    · cases h
  · obtain rfl : len = 1 := by simpa [lenOk] using hl
    split at h
    · cases h; exact ⟨rfl, T, ⟨locs, X, N, Rl⟩, fun t k => XT.pop A hx rfl hd rfl rfl k⟩
    · cases h; exact ⟨rfl, T, ⟨locs, X, N, Rl⟩, fun t k => XT.pop A hx rfl hd rfl rfl k⟩
    · cases h
  · rename_i o
    obtain rfl : len = 3 := by simpa [lenOk] using hl
    split at h
    · rename_i t ht; cases h; obtain ⟨j1, j2⟩ := jump_spec ht
      exact ⟨rfl, T, ⟨locs, X, N, Rl⟩, fun t k => XS.goto A hx rfl rfl hd j1 j2 k⟩
    · cases h
  · rename_i cd o
    obtain rfl : len = 3 := by simpa [lenOk] using hl
    split at h
    · rename_i a r
      split at h
      · rename_i t ht; cases h; obtain ⟨j1, j2⟩ := jump_spec ht
        refine ⟨rfl, T, ⟨locs, X, N, Rl⟩, fun t k => ?_⟩
        cases hb : ifCond.holds cd a with
        | true => rw [hb, if_pos rfl] at k; exact XS.ifYes A hx rfl rfl hd rfl hb j1 j2 k
        | false => rw [hb, if_neg Bool.false_ne_true] at k; exact XS.ifNo A hx rfl hd rfl hb k
      · cases h
    · cases h
  · rename_i cd o
    obtain rfl : len = 3 := by simpa [lenOk] using hl
    split at h
    · rename_i b a r
      split at h
      · rename_i t ht; cases h; obtain ⟨j1, j2⟩ := jump_spec ht
        refine ⟨rfl, T, ⟨locs, X, N, Rl⟩, fun t k => ?_⟩
        cases hb : if_icmp.holds cd a b with
        | true => rw [hb, if_pos rfl] at k; exact XS.icmpYes A hx rfl rfl hd rfl hb j1 j2 k
        | false => rw [hb, if_neg Bool.false_ne_true] at k; exact XS.icmpNo A hx rfl hd rfl hb k
      · cases h
    · cases h
  · rename_i o
    obtain rfl : len = 3 := by simpa [lenOk] using hl
    split at h
    · split at h
      · rename_i t ht; cases h; obtain ⟨j1, j2⟩ := jump_spec ht
        exact ⟨rfl, T, ⟨locs, X, N, Rl⟩, fun t k => XS.ifnullYes A hx rfl rfl hd rfl j1 j2 k⟩
      · cases h
    · cases h; exact ⟨rfl, T, ⟨locs, X, N, Rl⟩, fun t k => XS.ifnullNo A hx rfl hd rfl k⟩
    · cases h
  · rename_i o
    obtain rfl : len = 3 := by simpa [lenOk] using hl
    split at h
    · split at h
      · rename_i t ht; cases h; obtain ⟨j1, j2⟩ := jump_spec ht
        exact ⟨rfl, T, ⟨locs, X, N, Rl⟩, fun t k => XT.ifnonnullYes A hx rfl rfl hd rfl j1 j2 k⟩
      · cases h
    · cases h; exact ⟨rfl, T, ⟨locs, X, N, Rl⟩, fun t k => XT.ifnonnullNo A hx rfl hd rfl k⟩
    · cases h
  · rename_i dflt low high offs
    split at h
    · split at h
      · rename_i hout; split at h
        · rename_i t ht; cases h; obtain ⟨j1, j2⟩ := jump_spec ht
          exact ⟨rfl, T, ⟨locs, X, N, Rl⟩, fun t k => XS.tswOut A hx rfl rfl hd rfl hout j1 j2 k⟩
        · cases h
      · rename_i hin; split at h
        · cases h
        · rename_i off hoff; split at h
          · rename_i t ht; cases h; obtain ⟨j1, j2⟩ := jump_spec ht
            exact ⟨rfl, T, ⟨locs, X, N, Rl⟩, fun t k => XS.tswIn A hx rfl rfl hd rfl hin hoff j1 j2 k⟩
          · cases h
    · cases h
  · rename_i idx
    obtain rfl : len = 3 := by simpa [lenOk] using hl
    split at h
    · rename_i a r; split at h
      · rename_i C k kd fin C' u hf hc
        split at h
        · rename_i hC
          cases h
          subst hC
          obtain ⟨n, d, q1, q2, rfl, q4⟩ := fieldAt_spec hf
          have Fd := ((Rl.2.2.1 _ _ hc).1 rfl).2 _ _ _ _ q2 q4
          obtain ⟨T', X', e', st'⟩ := getF X hx hZ hown (host := "") (Or.inl (hw _ q1)) Via.refl rfl Fd (g := mkF m pc (cl ρ ls) (cs ρ (.ref a :: r))) rfl rfl hd
          exact ⟨rfl, T', ⟨locs, X', N, by rw [e']; exact Rl⟩, fun t k => st' t k⟩
        · cases h
      · cases h
    · cases h
  · obtain rfl : len = 1 := by simpa [lenOk] using hl
    split at h
    · rename_i a r; split at h
      · rename_i u n hc
        cases h
        obtain ⟨cell, Ar, hs, -⟩ := (Rl.2.2.1 _ _ hc).2.1 rfl
        have hs' : cell.slots.size = n := hs
        refine ⟨rfl, T, ⟨locs, X, N, Rl⟩, fun t k => X.arraylength hx Ar.1 (State.isArrayOf_alike hZ.alike Ar.2.1) (g := mkF m pc (cl ρ ls) (cs ρ (.ref a :: r))) rfl rfl hd t ?_⟩
        rw [hs']; exact k
      · rename_i u n hc
        cases h
        obtain ⟨cell, Ar, hs, -⟩ := (Rl.2.2.1 _ _ hc).2.2.1 rfl
        have hs' : cell.slots.size = n := hs
        refine ⟨rfl, T, ⟨locs, X, N, Rl⟩, fun t k => X.arraylength hx Ar.1 (State.isArrayOf_alike hZ.alike Ar.2.1) (g := mkF m pc (cl ρ ls) (cs ρ (.ref a :: r))) rfl rfl hd t ?_⟩
        rw [hs']; exact k
      · rename_i u n hc
        cases h
        obtain ⟨cell, Ar, hs, -⟩ := (Rl.2.2.1 _ _ hc).2.2.2 rfl
        have hs' : cell.slots.size = n := hs
        refine ⟨rfl, T, ⟨locs, X, N, Rl⟩, fun t k => X.arraylength hx Ar.1 (State.isArrayOf_alike hZ.alike Ar.2.1) (g := mkF m pc (cl ρ ls) (cs ρ (.ref a :: r))) rfl rfl hd t ?_⟩
        rw [hs']; exact k
      · cases h
    · cases h
  · obtain rfl : len = 1 := by simpa [lenOk] using hl
    split at h
    · rename_i j a r; split at h
      · rename_i u n hc
        split at h
        · rename_i hj
          cases h
          obtain ⟨cell, Ar, hs, hv⟩ := (Rl.2.2.1 _ _ hc).2.1 rfl
          have hs' : cell.slots.size = n := hs
          have hj' := inb_spec hj
          have hlt : j.toNatClampNeg < n := by
            have := fun q => hj' (Or.inr q)
            omega
          exact ⟨rfl, T, ⟨locs, X, N, Rl⟩, fun t k => X.iaload hx Ar.1 (State.isArrayOf_alike hZ.alike Ar.2.1) Ar.2.2 (by rw [hs']; exact hj') (hv _ hlt) (g := mkF m pc (cl ρ ls) (cs ρ (.int j :: .ref a :: r))) rfl rfl hd t k⟩
        · cases h
      · cases h
    · cases h
  · obtain rfl : len = 1 := by simpa [lenOk] using hl
    split at h
    · rename_i j a r; split at h
      · rename_i u n hc
        split at h
        · rename_i hj
          cases h
          obtain ⟨cell, Ar, hs, hv⟩ := (Rl.2.2.1 _ _ hc).2.2.2 rfl
          have hs' : cell.slots.size = n := hs
          have hj' := inb_spec hj
          have hlt : j.toNatClampNeg < n := by
            have := fun q => hj' (Or.inr q)
            omega
          exact ⟨rfl, T, ⟨locs, X, N, Rl⟩, fun t k => X.baloadBooleans hx Ar.1 (State.isArrayOf_alike hZ.alike Ar.2.1) Ar.2.2 (by rw [hs']; exact hj') (hv _ hlt) (g := mkF m pc (cl ρ ls) (cs ρ (.int j :: .ref a :: r))) rfl rfl hd t k⟩
        · cases h
      · cases h
    · cases h
  · obtain rfl : len = 1 := by simpa [lenOk] using hl
    split at h
    · rename_i j a r; split at h
      · rename_i u n hc
        split at h
        · rename_i hj
          cases h
          obtain ⟨cell, Ar, hs, hv⟩ := (Rl.2.2.1 _ _ hc).2.2.1 rfl
          have hs' : cell.slots.size = n := hs
          have hj' := inb_spec hj
          have hlt : j.toNatClampNeg < n := by
            have := fun q => hj' (Or.inr q)
            omega
          exact ⟨rfl, T, ⟨locs, X, N, Rl⟩, fun t k => X.laload hx Ar.1 (State.isArrayOf_alike hZ.alike Ar.2.1) Ar.2.2 (by rw [hs']; exact hj') (hv _ hlt) (g := mkF m pc (cl ρ ls) (cs ρ (.int j :: .ref a :: r))) rfl rfl hd t k⟩
        · cases h
      · cases h
    · cases h
  · rename_i idx
    obtain rfl : len = 3 := by simpa [lenOk] using hl
    split at h
    · rename_i a r; split at h
      · rename_i hc
        cases h
        obtain ⟨c1, c2, c3⟩ := hc
        obtain ⟨w1, w2, w3⟩ := objInitAt_spec c1
        obtain ⟨T', X', e', stp⟩ := initO X hx hZ hown (hw _ w1) (hw _ w2) (hw _ w3) rfl (g := mkF m pc (cl ρ ls) (cs ρ (.ref a :: st'))) rfl (by simp [hsz]) rfl hd (by omega) (W := wt st') (by show 2 * 0 + ((st'.map (conc ρ)).map fun v => v.category).sum ≤ _; rw [wt_conc]; omega) (by omega)
        exact ⟨rfl, T', ⟨locs, X', N, by rw [e']; exact Rl⟩, fun t k => stp t k⟩
      · cases h
    · cases h
  · cases h
theorem execM_ext {ins : Instr} {st st' : List Value} {M M' : EMem} (h : execM W ro y ins st M = some (st', M')) : M.1.length ≤ M'.1.length ∧ szL M.1 ≤ szL M'.1 := by
  have push : ∀ (L : ELay) (x : Nat × String × Nat), L.length ≤ (L ++ [x]).length ∧ szL L ≤ szL (L ++ [x]) := fun L x => by simp [szL]
  unfold execM at h
  split at h
  · split at h
    · split at h
      · split at h
        · split at h <;> first | (cases h; exact ⟨Nat.le_refl _, Nat.le_refl _⟩) | cases h
        · cases h
      · cases h
    · cases h
  all_goals first
    | (split at h
       · split at h
         · split at h
           · cases h; exact ⟨Nat.le_refl _, Nat.le_refl _⟩
           · cases h
         · cases h
       · cases h)
    | (split at h
       · cases h; exact push _ _
       · cases h)
    | (split at h
       · split at h
         · cases h; exact push _ _
         · cases h
       · cases h)
    | cases h
theorem szL_push (L : ELay) (x : Nat × String × Nat) : szL (L ++ [x]) = szL L + x.2.2 := by simp [szL]
set_option maxRecDepth 65536 in
set_option maxHeartbeats 40000000 in
theorem execM_sound (H : Here p l e R s m args below meth c Z W ρ ro n0 L0 T M) (hx : p.tables.exec = Jvm.exec) (hZ : Z.Warmed39 s.vm) (hw : ∀ d ∈ W, d.before a0 Z = true) (hown : s.vm.findClass y.cls = some m.cls) (hnm : meth.name = y.name)
    (hρ : ∀ a b, ρ a = ρ b → a = b) (hρn : ∀ a, ro ≤ a → ρ a = n0 + (a - ro)) (hL : L0.length ≤ M.1.length) (hS : szL L0 ≤ szL M.1) (hs0 : s.heap.size = n0 + (L0.length - ro)) (hro : ro ≤ L0.length)
    {ls : List Slot} {st st' : List Value} {M' : EMem} {ins : Instr} {pc len : Nat} (hd : decode c.code pc = .ok (ins, len)) (hl : lenOk len ins = true) (hRc : M'.1.length - L0.length ≤ R.cells) (hRs : szL M'.1 - szL L0 ≤ R.slots) (h : execM W ro y ins st M = some (st', M')) :
    ∃ T', Here p l e R s m args below meth c Z W ρ ro n0 L0 T' M' ∧ ∀ target, Steps p.tables e below (T'.setTop (mkF m (pc + len) (cl ρ ls) (cs ρ st'))) target → Steps p.tables e below (T.setTop (mkF m pc (cl ρ ls) (cs ρ st))) target := by
  obtain ⟨locs, X, N, Rl⟩ := H
  obtain ⟨L, mi, ml, mr⟩ := M
  have hL' : L0.length ≤ L.length := hL
  have hS' : szL L0 ≤ szL L := hS
  have hsize : T.heap.size = n0 + (L.length - ro) := Rl.1
  have hnew : T.heap.size = ρ L.length := by rw [hρn _ (Nat.le_trans hro hL'), hsize]
  unfold execM at h
  split at h
  · rename_i idx
    obtain rfl : len = 3 := by simpa [lenOk] using hl
    split at h
    · rename_i v a r
      split at h
      · rename_i C k kd fin C' u hf hc
        split at h
        · rename_i hC
          obtain ⟨rfl, hra, hfin, hinst⟩ := hC
          obtain ⟨n, d, q1, q2, rfl, q4⟩ := fieldAt_spec hf
          obtain ⟨ni, hni⟩ := Option.isSome_iff_exists.mp hinst
          have hcell : L[a]? = some (0, C', u) := hc
          obtain ⟨Ex, Fs⟩ := (Rl.2.2.1 _ _ hc).1 rfl
          have Fd := Fs _ _ _ _ q2 q4
          have hge : n0 ≤ ρ a := by rw [hρn a hra]; omega
          have Lw : (Jvm.Cond.lays C' C' n d).before a0 Z = true ∨ ((Jvm.Cond.laysFinal C' C' n d).before a0 Z = true ∧ y.cls = C' ∧ meth.name = "<init>") := by
            have e := hw _ (List.mem_of_getElem? (layAt_spec q2))
            cases fin with
            | false => exact Or.inl e
            | true =>
              rcases hfin with z | ⟨z1, z2⟩
              · cases z
              · exact Or.inr ⟨e, z1, hnm.trans z2⟩
          split at h
          · rename_i x hk
            cases h
            obtain ⟨T', h', X', e', w, stp⟩ := putFN X hx hZ hown (hw _ q1) Via.refl rfl Fd Ex Lw (hw _ (instLk_mem hni)) (ty := .int) (v' := .int x) (kindD_1 hk) rfl rfl (g := mkF m pc (cl ρ ls) (cs ρ (.int x :: .ref a :: st'))) rfl rfl hd
            refine ⟨T', ⟨_, X', Fr.snoc X' N hge, ?_⟩, fun t k => stp t k⟩
            rw [e']
            exact Rel.write hρ w hcell (fun x hx k => up_ne hx k) (fun _ _ _ => rfl) (fun _ _ _ => rfl) (RelC.put hw q2 q4 w (by rw [hk, up_eq]; rfl) (fun j hj => up_ne' hj a) (fun _ _ => rfl) (fun _ _ => rfl)) Rl
          · rename_i x hk
            cases h
            obtain ⟨T', h', X', e', w, stp⟩ := putFN X hx hZ hown (hw _ q1) Via.refl rfl Fd Ex Lw (hw _ (instLk_mem hni)) (ty := .boolean) (v' := .int (x &&& 1)) (kindD_2 hk) rfl (fits_nar_bool x) (g := mkF m pc (cl ρ ls) (cs ρ (.int x :: .ref a :: st'))) rfl rfl hd
            refine ⟨T', ⟨_, X', Fr.snoc X' N hge, ?_⟩, fun t k => stp t k⟩
            rw [e']
            exact Rel.write hρ w hcell (fun x hx k => up_ne hx k) (fun _ _ _ => rfl) (fun _ _ _ => rfl) (RelC.put hw q2 q4 w (by rw [hk, up_eq]; rfl) (fun j hj => up_ne' hj a) (fun _ _ => rfl) (fun _ _ => rfl)) Rl
          · rename_i x hk
            cases h
            obtain ⟨T', h', X', e', w, stp⟩ := putFN X hx hZ hown (hw _ q1) Via.refl rfl Fd Ex Lw (hw _ (instLk_mem hni)) (ty := .long) (v' := .long x) (kindD_3 hk) rfl rfl (g := mkF m pc (cl ρ ls) (cs ρ (.long x :: .ref a :: st'))) rfl rfl hd
            refine ⟨T', ⟨_, X', Fr.snoc X' N hge, ?_⟩, fun t k => stp t k⟩
            rw [e']
            exact Rel.write hρ w hcell (fun _ _ _ => rfl) (fun x hx k => up_ne hx k) (fun _ _ _ => rfl) (RelC.put hw q2 q4 w (by rw [hk, up_eq]; rfl) (fun _ _ => rfl) (fun j hj => up_ne' hj a) (fun _ _ => rfl)) Rl
          · rename_i b hk
            cases h
            obtain ⟨ty, t1, t2, t3, -⟩ := kindD_4 hk
            obtain ⟨T', h', X', e', w, stp⟩ := putFN X hx hZ hown (hw _ q1) Via.refl rfl Fd Ex Lw (hw _ (instLk_mem hni)) (ty := ty) (v' := .ref (ρ b)) t1 (t2 _) (t3 _) (g := mkF m pc (cl ρ ls) (cs ρ (.ref b :: .ref a :: st'))) rfl rfl hd
            refine ⟨T', ⟨_, X', Fr.snoc X' N hge, ?_⟩, fun t k => stp t k⟩
            rw [e']
            exact Rel.write hρ w hcell (fun _ _ _ => rfl) (fun _ _ _ => rfl) (fun x hx k => up_ne hx k) (RelC.put hw q2 q4 w (by rw [hk, up_eq]; rfl) (fun _ _ => rfl) (fun _ _ => rfl) (fun j hj => up_ne' hj a)) Rl
          · cases h
        · cases h
      · cases h
    · cases h
  · obtain rfl : len = 1 := by simpa [lenOk] using hl
    split at h
    · rename_i x j a r
      split at h
      · rename_i u n hc
        split at h
        · rename_i hj
          obtain ⟨hj, hra⟩ := hj
          cases h
          have hcell : L[a]? = some (_, u, n) := hc
          obtain ⟨cell, Ar, hs, hv⟩ := (Rl.2.2.1 _ _ hc).2.1 rfl
          have hs' : cell.slots.size = n := hs
          have hge : n0 ≤ ρ a := by rw [hρn a hra]; omega
          obtain ⟨T', h', X', e', w, stp⟩ := stI X hx hZ rfl Ar (by rw [hs']; exact inb_spec hj) (g := mkF m pc (cl ρ ls) (cs ρ (.int x :: .int j :: .ref a :: st'))) rfl rfl hd
          refine ⟨T', ⟨_, X', Fr.snoc X' N hge, ?_⟩, fun t k => stp t k⟩
          rw [e']
          exact Rel.write hρ w hcell (fun x hx k => up_ne hx k) (fun _ _ _ => rfl) (fun _ _ _ => rfl) (RelC.st1 w) Rl
        · cases h
      · cases h
    · cases h
  · obtain rfl : len = 1 := by simpa [lenOk] using hl
    split at h
    · rename_i x j a r
      split at h
      · rename_i u n hc
        split at h
        · rename_i hj
          obtain ⟨hj, hra⟩ := hj
          cases h
          have hcell : L[a]? = some (_, u, n) := hc
          obtain ⟨cell, Ar, hs, hv⟩ := (Rl.2.2.1 _ _ hc).2.2.2 rfl
          have hs' : cell.slots.size = n := hs
          have hge : n0 ≤ ρ a := by rw [hρn a hra]; omega
          obtain ⟨T', h', X', e', w, stp⟩ := stZ X hx hZ rfl Ar (by rw [hs']; exact inb_spec hj) (g := mkF m pc (cl ρ ls) (cs ρ (.int x :: .int j :: .ref a :: st'))) rfl rfl hd
          refine ⟨T', ⟨_, X', Fr.snoc X' N hge, ?_⟩, fun t k => stp t k⟩
          rw [e']
          exact Rel.write hρ w hcell (fun x hx k => up_ne hx k) (fun _ _ _ => rfl) (fun _ _ _ => rfl) (RelC.st3 w) Rl
        · cases h
      · cases h
    · cases h
  · obtain rfl : len = 1 := by simpa [lenOk] using hl
    split at h
    · rename_i x j a r
      split at h
      · rename_i u n hc
        split at h
        · rename_i hj
          obtain ⟨hj, hra⟩ := hj
          cases h
          have hcell : L[a]? = some (_, u, n) := hc
          obtain ⟨cell, Ar, hs, hv⟩ := (Rl.2.2.1 _ _ hc).2.2.1 rfl
          have hs' : cell.slots.size = n := hs
          have hge : n0 ≤ ρ a := by rw [hρn a hra]; omega
          obtain ⟨T', h', X', e', w, stp⟩ := stJ X hx hZ rfl Ar (by rw [hs']; exact inb_spec hj) (g := mkF m pc (cl ρ ls) (cs ρ (.long x :: .int j :: .ref a :: st'))) rfl rfl hd
          refine ⟨T', ⟨_, X', Fr.snoc X' N hge, ?_⟩, fun t k => stp t k⟩
          rw [e']
          exact Rel.write hρ w hcell (fun _ _ _ => rfl) (fun x hx k => up_ne hx k) (fun _ _ _ => rfl) (RelC.st2 w) Rl
        · cases h
      · cases h
    · cases h
  · rename_i idx
    obtain rfl : len = 3 := by simpa [lenOk] using hl
    split at h
    · rename_i C n hn
      cases h
      obtain ⟨w1, w2, w3⟩ : Jvm.Cond.classLink y.cls idx C ∈ W ∧ Jvm.Cond.instantiable C n ∈ W ∧ Jvm.Cond.initialized C ∈ W := by
        unfold newAt at hn
        split at hn
        · cases hn
        · rename_i C' h1
          split at hn
          · cases hn
          · rename_i n' h2
            split at hn
            · rename_i h3
              cases hn
              exact ⟨classLk_mem h1, instLk_mem h2, hasInit_mem h3⟩
            · cases hn
      have c1 : (L ++ [((0 : Nat), C, n)]).length - L0.length = L.length - L0.length + 1 := by rw [List.length_append]; simp; omega
      have c2 : szL (L ++ [((0 : Nat), C, n)]) - szL L0 = szL L - szL L0 + n := by rw [szL_push]; simp only; omega
      have hRc' : (L ++ [((0 : Nat), C, n)]).length - L0.length ≤ R.cells := hRc
      have hRs' : szL (L ++ [((0 : Nat), C, n)]) - szL L0 ≤ R.slots := hRs
      obtain ⟨T', h', X', e', E, Ex, D, -, st'⟩ := newO X hx hZ hown (hw _ w1) (hw _ w2) (hw _ w3) rfl (g := mkF m pc (cl ρ ls) (cs ρ st)) rfl hd (by show L.length - L0.length + 1 ≤ _; omega) (by show szL L - szL L0 + n ≤ _; omega)
      have hup : T'.heap.size ≤ s.heap.size + (L.length - L0.length + 1) := X'.heapSize
      have hlo : T.heap.size < h'.size := Ex.lt
      refine ⟨T', ⟨locs, by rw [← c1, ← c2] at X'; exact X', N, ?_⟩, fun t k => st' t ?_⟩
      · rw [e']
        rw [e'] at hup
        refine Rel.push E (by omega) ⟨fun _ => ⟨by rw [← hnew]; exact Ex, fun nm k d fin q1 q2 => ?_⟩, fun q => (by cases q), fun q => (by cases q), fun q => (by cases q)⟩ Rl
        obtain ⟨z1, z2, z3⟩ := Rl.2.2.2 L.length (Nat.le_refl _) k
        have z1' : mi L.length k = 0 := z1
        have z2' : ml L.length k = 0 := z2
        have z3' : mr L.length k = .null := z3
        dsimp only
        rw [z1', z2', z3', ← hnew]
        have Lw := layAt_laid hw q1
        rcases kindD_lt d with z | z | z | z | z
        · exact absurd z q2
        · rw [z]; exact D Lw (kindD_1 z)
        · rw [z]; exact D Lw (kindD_2 z)
        · rw [z]; exact D Lw (kindD_3 z)
        · obtain ⟨ty, t1, -, -, t4⟩ := kindD_4 z
          have q := D Lw t1
          rw [t4] at q
          rw [z]; exact q
      · rw [hnew]; exact k
    · cases h
  · obtain rfl : len = 2 := by simpa [lenOk] using hl
    split at h
    · rename_i n r
      split at h
      · rename_i hc
        obtain ⟨hn, hb, ha⟩ := hc
        cases h
        have c1 : (L ++ [((1 : Nat), "", n.toNatClampNeg)]).length - L0.length = L.length - L0.length + 1 := by rw [List.length_append]; simp; omega
        have c2 : szL (L ++ [((1 : Nat), "", n.toNatClampNeg)]) - szL L0 = szL L - szL L0 + n.toNatClampNeg := by rw [szL_push]; simp only; omega
        have hRc' : (L ++ [((1 : Nat), "", n.toNatClampNeg)]).length - L0.length ≤ R.cells := hRc
        have hRs' : szL (L ++ [((1 : Nat), "", n.toNatClampNeg)]) - szL L0 ≤ R.slots := hRs
        obtain ⟨T', h', cA, X', e', E, Ar, st'⟩ := newP X hx hZ (aty := .int) (hw _ (hasArr_mem ha)) rfl (g := mkF m pc (cl ρ ls) (cs ρ (.int n :: r))) rfl hd rfl hn (cap := n.toNatClampNeg) (Nat.le_refl _) hb (by show L.length - L0.length + 1 ≤ _; omega) (by show szL L - szL L0 + n.toNatClampNeg ≤ _; omega)
        have hup : T'.heap.size ≤ s.heap.size + (L.length - L0.length + 1) := X'.heapSize
        have hlo : T.heap.size < h'.size := Ar.lt
        refine ⟨T', ⟨locs, by rw [← c1, ← c2] at X'; exact X', N, ?_⟩, fun t k => st' t ?_⟩
        · rw [e']
          rw [e'] at hup
          refine Rel.push E (by omega) ⟨fun q => (by cases q), fun _ => ?_, fun q => (by cases q), fun q => (by cases q)⟩ Rl
          refine ⟨_, by rw [← hnew]; exact Ar, sz_new _ _ _, fun k hk => ?_⟩
          have hk' : k < n.toNatClampNeg := hk
          have z1 : mi L.length k = 0 := (Rl.2.2.2 L.length (Nat.le_refl _) k).1
          dsimp only
          rw [z1]
          simp [newA, hk']
          rfl
        · rw [hnew]; exact k
      · cases h
    · cases h
  · obtain rfl : len = 2 := by simpa [lenOk] using hl
    split at h
    · rename_i n r
      split at h
      · rename_i hc
        obtain ⟨hn, hb, ha⟩ := hc
        cases h
        have c1 : (L ++ [((2 : Nat), "", n.toNatClampNeg)]).length - L0.length = L.length - L0.length + 1 := by rw [List.length_append]; simp; omega
        have c2 : szL (L ++ [((2 : Nat), "", n.toNatClampNeg)]) - szL L0 = szL L - szL L0 + n.toNatClampNeg := by rw [szL_push]; simp only; omega
        have hRc' : (L ++ [((2 : Nat), "", n.toNatClampNeg)]).length - L0.length ≤ R.cells := hRc
        have hRs' : szL (L ++ [((2 : Nat), "", n.toNatClampNeg)]) - szL L0 ≤ R.slots := hRs
        obtain ⟨T', h', cA, X', e', E, Ar, st'⟩ := newP X hx hZ (aty := .long) (hw _ (hasArr_mem ha)) rfl (g := mkF m pc (cl ρ ls) (cs ρ (.int n :: r))) rfl hd rfl hn (cap := n.toNatClampNeg) (Nat.le_refl _) hb (by show L.length - L0.length + 1 ≤ _; omega) (by show szL L - szL L0 + n.toNatClampNeg ≤ _; omega)
        have hup : T'.heap.size ≤ s.heap.size + (L.length - L0.length + 1) := X'.heapSize
        have hlo : T.heap.size < h'.size := Ar.lt
        refine ⟨T', ⟨locs, by rw [← c1, ← c2] at X'; exact X', N, ?_⟩, fun t k => st' t ?_⟩
        · rw [e']
          rw [e'] at hup
          refine Rel.push E (by omega) ⟨fun q => (by cases q), fun q => (by cases q), fun _ => ?_, fun q => (by cases q)⟩ Rl
          refine ⟨_, by rw [← hnew]; exact Ar, sz_new _ _ _, fun k hk => ?_⟩
          have hk' : k < n.toNatClampNeg := hk
          have z1 : ml L.length k = 0 := (Rl.2.2.2 L.length (Nat.le_refl _) k).2.1
          dsimp only
          rw [z1]
          simp [newA, hk']
          rfl
        · rw [hnew]; exact k
      · cases h
    · cases h
  · obtain rfl : len = 2 := by simpa [lenOk] using hl
    split at h
    · rename_i n r
      split at h
      · rename_i hc
        obtain ⟨hn, hb, ha⟩ := hc
        cases h
        have c1 : (L ++ [((3 : Nat), "", n.toNatClampNeg)]).length - L0.length = L.length - L0.length + 1 := by rw [List.length_append]; simp; omega
        have c2 : szL (L ++ [((3 : Nat), "", n.toNatClampNeg)]) - szL L0 = szL L - szL L0 + n.toNatClampNeg := by rw [szL_push]; simp only; omega
        have hRc' : (L ++ [((3 : Nat), "", n.toNatClampNeg)]).length - L0.length ≤ R.cells := hRc
        have hRs' : szL (L ++ [((3 : Nat), "", n.toNatClampNeg)]) - szL L0 ≤ R.slots := hRs
        obtain ⟨T', h', cA, X', e', E, Ar, st'⟩ := newP X hx hZ (aty := .boolean) (hw _ (hasArr_mem ha)) rfl (g := mkF m pc (cl ρ ls) (cs ρ (.int n :: r))) rfl hd rfl hn (cap := n.toNatClampNeg) (Nat.le_refl _) hb (by show L.length - L0.length + 1 ≤ _; omega) (by show szL L - szL L0 + n.toNatClampNeg ≤ _; omega)
        have hup : T'.heap.size ≤ s.heap.size + (L.length - L0.length + 1) := X'.heapSize
        have hlo : T.heap.size < h'.size := Ar.lt
        refine ⟨T', ⟨locs, by rw [← c1, ← c2] at X'; exact X', N, ?_⟩, fun t k => st' t ?_⟩
        · rw [e']
          rw [e'] at hup
          refine Rel.push E (by omega) ⟨fun q => (by cases q), fun q => (by cases q), fun q => (by cases q), fun _ => ?_⟩ Rl
          refine ⟨_, by rw [← hnew]; exact Ar, sz_new _ _ _, fun k hk => ?_⟩
          have hk' : k < n.toNatClampNeg := hk
          have z1 : mi L.length k = 0 := (Rl.2.2.2 L.length (Nat.le_refl _) k).1
          dsimp only
          rw [z1]
          simp [newA, hk']
          rfl
        · rw [hnew]; exact k
      · cases h
    · cases h
  · cases h
end S
end Jvm.OwnEv
namespace Jvm.OwnEv
open Sem ClassFile Op Lib Jvm.Stand Jvm.Free Jvm.LawKit Jvm.RoadKit
/-! PART 5: what the evaluator answers, the model does -/
theorem run_ext {W : List Jvm.Cond} {ro : Nat} : ∀ (n : Nat) {F Lb : Nat} {y : MethodName} {code : ByteArray} {ret : Option FieldType} {pc : Nat} {ls : List Slot} {st : List Value} {M M' : EMem} {v : Option Value},
    run W ro n F Lb y code ret pc ls st M = some (v, M') → M.1.length ≤ M'.1.length ∧ szL M.1 ≤ szL M'.1
  | 0, _, _, _, _, _, _, _, _, _, _, _, h => by simp [run] at h
  | n + 1, F, Lb, y, code, ret, pc, ls, st, M, M', v, h => by
    unfold run at h
    split at h
    · split at h
      · exact run_ext n h
      · split at h
        · rename_i he
          split at he
          · have q1 := execM_ext he
            have q2 := run_ext n h
            exact ⟨Nat.le_trans q1.1 q2.1, Nat.le_trans q1.2 q2.2⟩
          · cases he
        · split at h
          · cases h; exact ⟨Nat.le_refl _, Nat.le_refl _⟩
          · split at h
            · split at h
              · split at h
                · rename_i hr
                  have q1 := run_ext n hr
                  have q2 := run_ext n h
                  exact ⟨Nat.le_trans q1.1 q2.1, Nat.le_trans q1.2 q2.2⟩
                · cases h
              · cases h
            · cases h
    · cases h
theorem callAt_spec {W : List Jvm.Cond} {own : String} {idx kd : Nat} {z : MethodName} {na : Nat} {b : ByteArray} {mx : Nat} {r : Option FieldType} (h : callAt W own idx kd = some (z, na, b, mx, r)) :
    Jvm.Cond.methodLink own idx z ∈ W ∧ Jvm.Cond.code z b mx r ∈ W ∧ Jvm.Cond.initialized z.cls ∈ W ∧ plainName z.cls = true ∧ (z.cls ≠ "java/lang/invoke/MethodHandle" ∧ z.cls ≠ "java/lang/invoke/VarHandle") ∧ (∀ sig, parseMethodDescriptor z.desc = some sig → na = sig.parameters.length) ∧
    ((kd = 0 ∧ hasDecl z W = true ∧ hasSel z W = true ∧ hasInst z W = true) ∨ (kd = 1 ∧ hasPriv z W = true ∧ hasInst z W = true ∧ (instLk z.cls W).isSome = true) ∨ (kd = 2 ∧ z.name = "<init>" ∧ hasInst z W = true ∧ r = none) ∨ (kd = 3 ∧ hasStat z W = true)) := by
  unfold callAt at h
  split at h
  · cases h
  · rename_i z' h1
    split at h
    · rename_i b' n' r' sig h2 h3
      split at h
      · rename_i hc
        cases h
        obtain ⟨c2, c3, c4, c5, c6⟩ := hc
        exact ⟨methodLk_mem h1, codeLk_mem h2, hasInit_mem c2, c3, ⟨c4, c5⟩, fun sig' q => by rw [h3] at q; cases q; rfl, c6⟩
      · cases h
    · cases h
section S
variable {l : Launch} {Z : State} {a0 : Array Value} {W : List Jvm.Cond} {ρ : Nat → Addr} {ro n0 : Nat}
/-- what a run of n steps promises -/
def Good (l : Launch) (Z : State) (W : List Jvm.Cond) (ρ : Nat → Addr) (ro n0 : Nat) (n : Nat) : Prop :=
  ∀ ⦃F Lb : Nat⦄ ⦃y : MethodName⦄ ⦃code : ByteArray⦄ ⦃ret : Option FieldType⦄ ⦃pc : Nat⦄ ⦃ls : List Slot⦄ ⦃st : List Value⦄ ⦃M M' : EMem⦄ ⦃v : Option Value⦄, run W ro n F Lb y code ret pc ls st M = some (v, M') →
    ∀ ⦃p : Program⦄ ⦃e : Env⦄ ⦃R : Room⦄ ⦃s : State⦄ ⦃m : MethodId⦄ ⦃args : Array Value⦄ ⦃below : List Frame⦄ ⦃meth : Method⦄ ⦃c : Code⦄ ⦃L0 : ELay⦄ ⦃T : State⦄, p.tables.exec = Jvm.exec → Z.Warmed39 s.vm → s.vm.findClass y.cls = some m.cls → meth.name = y.name → c.code = code → meth.sig.returnType = ret → meth.locks = false → ls.length = c.maxLocals →
      F ≤ R.frames → Lb ≤ R.locals → M'.1.length - L0.length ≤ R.cells → szL M'.1 - szL L0 ≤ R.slots → L0.length ≤ M.1.length → szL L0 ≤ szL M.1 → s.heap.size = n0 + (L0.length - ro) → ro ≤ L0.length → Here p l e R s m args below meth c Z W ρ ro n0 L0 T M →
      ∃ (s₂ : State) (L : List Loc), Steps p.tables e below (T.setTop (mkF m pc (cl ρ ls) (cs ρ st))) s₂ ∧ s₂.status = .running ∧ Ended s₂ below (.returned (v.map (conc ρ))) ∧ Rel Z W ρ ro n0 s₂.heap M' ∧ Fr n0 L ∧ s.WarmedH s₂.vm ∧
        s.sameButNew ({ s₂ with vm := s.vm } : State) L (M'.1.length - L0.length) (szL M'.1 - szL L0)
theorem met_of {n : Nat} (G : Good l Z W ρ ro n0 n) {F Lb : Nat} {z : MethodName} {b : ByteArray} {r : Option FieldType} {as : List Value} {mx : Nat} {M M' : EMem} {v : Option Value} (h : run W ro n F Lb z b r 0 (entryL as mx) [] M = some (v, M'))
    (hfl : (fillL as).length ≤ mx) (hp : plainName z.cls = true) {h0 : Heap} (Rl : Rel Z W ρ ro n0 h0 M) {R : Room} (hF : F ≤ R.frames) (hLb : Lb ≤ R.locals) (hRc : M'.1.length - M.1.length ≤ R.cells) (hRs : szL M'.1 - szL M.1 ≤ R.slots) (ws : List Jvm.Cond) :
    MetFree l z (head1 (Jvm.Cond.code z b mx r :: ws) R) (fun a U => a = (as.map (conc ρ)).toArray ∧ Z.Warmed39 U.vm ∧ U.heap = h0) (fun _ _ _ _ _ => True)
      (fun _ U o U' => ∃ v' L, o = .returned v' ∧ (v' = v.map (conc ρ) ∧ Rel Z W ρ ro n0 U'.heap M' ∧ Fr n0 L) ∧ FrameEnd U o U' L (M'.1.length - M.1.length) (szL M'.1 - szL M.1)) := by
  refine MetFree.of_bodySF (plainFor_of_name hp) hisR ?_
  intro p e s m args below meth c s₁ Bd hml0 hP hK
  obtain ⟨rfl, hZ, hh⟩ := hP
  have hown : s.vm.findClass z.cls = some m.cls := findClass_of_methodNamed Bd.named
  have hnm := (name_of_methodNamed Bd.named Bd.method).1
  have X0 : Stand p l e R s m (as.map (conc ρ)).toArray below meth c s₁ [] 0 0 := Stand.of_body Bd
  have e0 : s₁.heap = h0 := by rw [← hh, Bd.state]; rfl
  have hH : Here p l e R s m (as.map (conc ρ)).toArray below meth c Z W ρ ro n0 M.1 s₁ M := ⟨[], by rw [Nat.sub_self, Nat.sub_self]; exact X0, Fr.nil n0, by rw [e0]; exact Rl⟩
  obtain ⟨s₂, L, q1, q2, q3, q4, q5, q6, q7⟩ := G h (p := p) (e := e) (R := R) (s := s) (m := m) (below := below) (L0 := M.1) (T := s₁) Bd.exec hZ hown hnm Bd.bytes Bd.returns Bd.notSynchronized (by rw [entryL_len hfl, hml0]) hF hLb hRc hRs (Nat.le_refl _) (Nat.le_refl _) (by rw [hh]; exact Rl.1) Rl.2.1 hH
  refine ⟨s₂, _, castTop ?_ q1, q2, q3, _, L, rfl, ⟨rfl, q4, q5⟩, ⟨_, rfl⟩, q6, q7⟩
  show ({ method := m, pc := 0, locals := argsToLocals (as.map (conc ρ)).toArray mx, stack := [], locked := none } : JFrame) = _
  rw [args_conc]
  rfl
theorem toL_conc (v : Option Value) (rest : List Value) : (v.map (conc ρ)).toList ++ cs ρ rest = cs ρ (v.toList ++ rest) := by cases v <;> simp
theorem split_st {st rest : List Value} {na : Nat} {x : Value} (h : st.drop na = x :: rest) : cs ρ st = ((st.take na).reverse.map (conc ρ)).reverse ++ conc ρ x :: cs ρ rest := by
  have e : st = st.take na ++ (x :: rest) := by rw [← h]; exact (List.take_append_drop na st).symm
  rw [← List.map_reverse, List.reverse_reverse]
  conv => lhs; rw [e]
  simp [cs]
theorem split_st0 {st : List Value} {na : Nat} : cs ρ st = ((st.take na).reverse.map (conc ρ)).reverse ++ cs ρ (st.drop na) := by
  rw [← List.map_reverse, List.reverse_reverse]
  conv => lhs; rw [← List.take_append_drop na st]
  simp [cs]
set_option maxRecDepth 65536 in
set_option maxHeartbeats 40000000 in
/-- a call by the callee's own run -/
theorem call_sound {n : Nat} (G : Good l Z W ρ ro n0 n) (hw : ∀ d ∈ W, d.before a0 Z = true) {p : Program} {e : Env} {R : Room} {s : State} {m : MethodId} {args : Array Value} {below : List Frame} {meth : Method} {c : Code} {L0 : ELay} {T : State} {M M' : EMem} {y : MethodName}
    (H : Here p l e R s m args below meth c Z W ρ ro n0 L0 T M) (hx : p.tables.exec = Jvm.exec) (hZ : Z.Warmed39 s.vm) (hown : s.vm.findClass y.cls = some m.cls) {F Lb : Nat} (hF : F ≤ R.frames) (hLb : Lb ≤ R.locals)
    {ls : List Slot} {st : List Value} {ins : Instr} {pc len : Nat} (hsz : ls.length = c.maxLocals) (hd : decode c.code pc = .ok (ins, len)) {z : MethodName} {as rest : List Value} {b : ByteArray} {mx : Nat} {r : Option FieldType} {v : Option Value}
    (hc : callOf W y ins len st M = some (z, as, rest, b, mx, r)) (h1 : 1 ≤ F) (h2 : wt rest + (mx + 11) ≤ Lb) (h3 : (fillL as).length ≤ mx) (hr : run W ro n (F - 1) (Lb - (wt rest + (mx + 11))) z b r 0 (entryL as mx) [] M = some (v, M'))
    (hL : L0.length ≤ M.1.length) (hS : szL L0 ≤ szL M.1) (hRc : M'.1.length - L0.length ≤ R.cells) (hRs : szL M'.1 - szL L0 ≤ R.slots) :
    ∃ T', Here p l e R s m args below meth c Z W ρ ro n0 L0 T' M' ∧ Steps p.tables e below (T.setTop (mkF m pc (cl ρ ls) (cs ρ st))) (T'.setTop (mkF m (pc + 3) (cl ρ ls) (cs ρ (v.toList ++ rest)))) := by
  obtain ⟨locs, X, N, Rl⟩ := H
  have hext := run_ext n hr
  have hsize : (mkF m pc (cl ρ ls) (cs ρ st)).locals.size = c.maxLocals := by simp [hsz]
  have hW : ∀ q : List Value, q = rest → 2 * (mkF m pc (cl ρ ls) (cs ρ st)).monitorRoom + ((cs ρ q).map fun v => v.category).sum ≤ wt rest := fun q e => by
    subst e
    show 2 * 0 + ((q.map (conc ρ)).map fun v => v.category).sum ≤ _
    rw [wt_conc]; omega
  unfold callOf at hc
  split at hc
  · rename_i hlen
    subst hlen
    split at hc
    · rename_i idx
      split at hc
      · rename_i z' na b' n' r' hca
        split at hc
        · rename_i a rest' hdrop
          split at hc
          · rename_i C u hcell
            split at hc
            · rename_i hcond
              cases hc
              obtain ⟨rfl, hna⟩ := hcond
              obtain ⟨k1, k2, k3, k4, k5, k6, k7⟩ := callAt_spec hca
              rcases k7 with ⟨q, -⟩ | ⟨-, g1, g2, g3⟩ | ⟨q, -⟩ | ⟨q, -⟩
              · cases q
              · obtain ⟨ni, hni⟩ := Option.isSome_iff_exists.mp g3
                have E := ((Rl.2.2.1 _ _ hcell).1 rfl).1
                obtain ⟨cq, q1, q2⟩ := E.cell
                have hpriv : s.PrivateAt z := Cond.privateMethod_at (mvP hZ (hw _ (hasPriv_mem g1)) (args := #[]))
                obtain ⟨ci, ki, i1, i2, i3, i4, -⟩ := Cond.instantiable_spec (mvT (args := args) hZ (hw _ (instLk_mem hni)))
                have hsel : (Jvm.Cond.selects z.cls z z).before args s = true := selects_self_of_private i1 i2 (by simp only [Bool.or_eq_false_iff] at i4; exact i4.1) hpriv (mvT hZ (hw _ (hasInst_mem g2))) k5
                have back := backOf (R := R) (p := p) (e := e) (below := below) (s := s) (args := args) (len := 3) (W := wt rest) (rm := { frames := F - 1, cells := M'.1.length - M.1.length, slots := szL M'.1 - szL M.1, locals := Lb - (wt rest + (mx + 11)) }) (Q := fun v' h' L => v' = v.map (conc ρ) ∧ Rel Z W ρ ro n0 h' M' ∧ Fr n0 L) (met_of G hr h3 k4 Rl (R := { frames := F - 1, cells := M'.1.length - M.1.length, slots := szL M'.1 - szL M.1, locals := Lb - (wt rest + (mx + 11)) }) (Nat.le_refl _) (Nat.le_refl _) (Nat.le_refl _) (Nat.le_refl _) []) hZ (hw _ k2) (hw _ k3) (by show F - 1 + 1 ≤ _; omega) (by show wt rest + (mx + 11) + (Lb - (wt rest + (mx + 11))) ≤ _; omega)
                obtain ⟨v', vm₁, ⟨T', Lq, cq', nq⟩, hW₁, X', ⟨L', ⟨rfl, hR', hN'⟩, l', y', z'⟩, st'⟩ := X.privateBack hx (y := z) hown (mvT hZ (hw _ k1)) (mvT hZ (hw _ (hasInst_mem g2))) hsel hpriv (mvT hZ (hw _ k2)) k5 back (g := mkF m pc (cl ρ ls) (cs ρ st)) rfl hsize (Steps.refl _) (a := ρ a) q1 q2 (argsL := (st.take na).reverse.map (conc ρ)) (rest := cs ρ rest)
                  (fun sig hs => by rw [← k6 sig hs]; simpa using hna) (split_st hdrop) (hW _ rfl) hd (fun _ _ => ⟨by simp [conc], rfl, by show M.1.length - L0.length + (M'.1.length - M.1.length) ≤ _; omega, by show szL M.1 - szL L0 + (szL M'.1 - szL M.1) ≤ _; omega⟩)
                dsimp only [Pt.U, Pt.locs, Pt.cells, Pt.slots] at X' l' y' z' st' hR'
                subst l' y' z'
                refine ⟨T', ⟨_, ?_, Fr.app N hN', hR'⟩, ?_⟩
                · have c1 : M'.1.length - L0.length = M.1.length - L0.length + (M'.1.length - M.1.length) := by omega
                  have c2 : szL M'.1 - szL L0 = szL M.1 - szL L0 + (szL M'.1 - szL M.1) := by omega
                  rw [c1, c2]; exact X'
                · rw [← toL_conc]; exact st'
              · cases q
              · cases q
            · cases hc
          · cases hc
        · cases hc
      · split at hc
        · rename_i z' na b' n' r' hca
          split at hc
          · rename_i a rest' hdrop
            split at hc
            · rename_i C u hcell
              split at hc
              · rename_i hcond
                cases hc
                obtain ⟨rfl, hna⟩ := hcond
                obtain ⟨k1, k2, k3, k4, k5, k6, k7⟩ := callAt_spec hca
                rcases k7 with ⟨-, g1, g2, g3⟩ | ⟨q, -⟩ | ⟨q, -⟩ | ⟨q, -⟩
                · have E := ((Rl.2.2.1 _ _ hcell).1 rfl).1
                  obtain ⟨cB, kB, q1, q2, q3⟩ := isOf (T := T) hZ rfl E
                  have back := backOf (R := R) (p := p) (e := e) (below := below) (s := s) (args := args) (len := 3) (W := wt rest) (rm := { frames := F - 1, cells := M'.1.length - M.1.length, slots := szL M'.1 - szL M.1, locals := Lb - (wt rest + (mx + 11)) }) (Q := fun v' h' L => v' = v.map (conc ρ) ∧ Rel Z W ρ ro n0 h' M' ∧ Fr n0 L) (met_of G hr h3 k4 Rl (R := { frames := F - 1, cells := M'.1.length - M.1.length, slots := szL M'.1 - szL M.1, locals := Lb - (wt rest + (mx + 11)) }) (Nat.le_refl _) (Nat.le_refl _) (Nat.le_refl _) (Nat.le_refl _) []) hZ (hw _ k2) (hw _ k3) (by show F - 1 + 1 ≤ _; omega) (by show wt rest + (mx + 11) + (Lb - (wt rest + (mx + 11))) ≤ _; omega)
                  have hsel : (Jvm.Cond.selects z.cls z z).before args s = true := mvT hZ (hw _ (hasSel_mem g2))
                  obtain ⟨v', vm₁, ⟨T', Lq, cq', nq⟩, hW₁, X', ⟨L', ⟨rfl, hR', hN'⟩, l', y', z'⟩, st'⟩ := X.virtualBack hx (y := z) (z := z) hown (mvT hZ (hw _ k1)) (mvT hZ (hw _ (hasDecl_mem g1))) (notFace_of_selects hsel) hsel (mvT hZ (hw _ (hasInst_mem g3))) k5 back q1 q3 (g := mkF m pc (cl ρ ls) (cs ρ st)) rfl hsize (Steps.refl _) (argsL := (st.take na).reverse.map (conc ρ)) (rest := cs ρ rest)
                    (fun sig hs => by rw [← k6 sig hs]; simpa using hna) (split_st hdrop) (hW _ rfl) hd (fun _ _ => ⟨by simp [conc], rfl, by show M.1.length - L0.length + (M'.1.length - M.1.length) ≤ _; omega, by show szL M.1 - szL L0 + (szL M'.1 - szL M.1) ≤ _; omega⟩)
                  dsimp only [Pt.U, Pt.locs, Pt.cells, Pt.slots] at X' l' y' z' st' hR'
                  subst l' y' z'
                  refine ⟨T', ⟨_, ?_, Fr.app N hN', hR'⟩, ?_⟩
                  · have c1 : M'.1.length - L0.length = M.1.length - L0.length + (M'.1.length - M.1.length) := by omega
                    have c2 : szL M'.1 - szL L0 = szL M.1 - szL L0 + (szL M'.1 - szL M.1) := by omega
                    rw [c1, c2]; exact X'
                  · rw [← toL_conc]; exact st'
                · cases q
                · cases q
                · cases q
              · cases hc
            · cases hc
          · cases hc
        · cases hc
    · rename_i idx
      split at hc
      · rename_i z' na b' n' r' hca
        split at hc
        · rename_i a rest' hdrop
          split at hc
          · rename_i hna
            cases hc
            obtain ⟨k1, k2, k3, k4, k5, k6, k7⟩ := callAt_spec hca
            rcases k7 with ⟨q, -⟩ | ⟨q, -⟩ | ⟨-, g1, g2, g3⟩ | ⟨q, -⟩
            · cases q
            · cases q
            · subst g3
              have back := backOf (R := R) (p := p) (e := e) (below := below) (s := s) (args := args) (len := 3) (W := wt rest) (rm := { frames := F - 1, cells := M'.1.length - M.1.length, slots := szL M'.1 - szL M.1, locals := Lb - (wt rest + (mx + 11)) }) (Q := fun v' h' L => v' = v.map (conc ρ) ∧ Rel Z W ρ ro n0 h' M' ∧ Fr n0 L) (met_of G hr h3 k4 Rl (R := { frames := F - 1, cells := M'.1.length - M.1.length, slots := szL M'.1 - szL M.1, locals := Lb - (wt rest + (mx + 11)) }) (Nat.le_refl _) (Nat.le_refl _) (Nat.le_refl _) (Nat.le_refl _) []) hZ (hw _ k2) (hw _ k3) (by show F - 1 + 1 ≤ _; omega) (by show wt rest + (mx + 11) + (Lb - (wt rest + (mx + 11))) ≤ _; omega)
              obtain ⟨v', vm₁, ⟨T', Lq, cq', nq⟩, hW₁, X', ⟨L', ⟨rfl, hR', hN'⟩, l', y', z'⟩, st'⟩ := X.specialBack hx (y := z) g1 hown (mvT hZ (hw _ k1)) (mvT hZ (hw _ (hasInst_mem g2))) (mvT hZ (hw _ k2)) k5 back (g := mkF m pc (cl ρ ls) (cs ρ st)) rfl hsize (Steps.refl _) (a := ρ a) (argsL := (st.take na).reverse.map (conc ρ)) (rest := cs ρ rest)
                (fun sig hs => by rw [← k6 sig hs]; simpa using hna) (split_st hdrop) (hW _ rfl) hd (fun _ _ => ⟨by simp [conc], rfl, by show M.1.length - L0.length + (M'.1.length - M.1.length) ≤ _; omega, by show szL M.1 - szL L0 + (szL M'.1 - szL M.1) ≤ _; omega⟩)
              dsimp only [Pt.U, Pt.locs, Pt.cells, Pt.slots] at X' l' y' z' st' hR'
              subst l' y' z'
              refine ⟨T', ⟨_, ?_, Fr.app N hN', hR'⟩, ?_⟩
              · have c1 : M'.1.length - L0.length = M.1.length - L0.length + (M'.1.length - M.1.length) := by omega
                have c2 : szL M'.1 - szL L0 = szL M.1 - szL L0 + (szL M'.1 - szL M.1) := by omega
                rw [c1, c2]; exact X'
              · rw [← toL_conc]; exact st'
            · cases q
          · cases hc
        · cases hc
      · cases hc
    · rename_i idx
      split at hc
      · rename_i z' na b' n' r' hca
        split at hc
        · rename_i hna
          cases hc
          obtain ⟨k1, k2, k3, k4, k5, k6, k7⟩ := callAt_spec hca
          rcases k7 with ⟨q, -⟩ | ⟨q, -⟩ | ⟨q, -⟩ | ⟨-, g1⟩
          · cases q
          · cases q
          · cases q
          · have back := backOf (R := R) (p := p) (e := e) (below := below) (s := s) (args := args) (len := 3) (W := wt (st.drop na)) (rm := { frames := F - 1, cells := M'.1.length - M.1.length, slots := szL M'.1 - szL M.1, locals := Lb - (wt (st.drop na) + (mx + 11)) }) (Q := fun v' h' L => v' = v.map (conc ρ) ∧ Rel Z W ρ ro n0 h' M' ∧ Fr n0 L) (met_of G hr h3 k4 Rl (R := { frames := F - 1, cells := M'.1.length - M.1.length, slots := szL M'.1 - szL M.1, locals := Lb - (wt (st.drop na) + (mx + 11)) }) (Nat.le_refl _) (Nat.le_refl _) (Nat.le_refl _) (Nat.le_refl _) []) hZ (hw _ k2) (hw _ k3) (by show F - 1 + 1 ≤ _; omega) (by show wt (st.drop na) + (mx + 11) + (Lb - (wt (st.drop na) + (mx + 11))) ≤ _; omega)
            obtain ⟨v', vm₁, ⟨T', Lq, cq', nq⟩, hW₁, X', ⟨L', ⟨rfl, hR', hN'⟩, l', y', z'⟩, st'⟩ := Jvm.LawKit.callS X hx (y := z) hown (mvT hZ (hw _ k1)) (mvT hZ (hw _ (hasStat_mem g1))) (mvT hZ (hw _ k3)) (mvT hZ (hw _ k2)) k5 back (g := mkF m pc (cl ρ ls) (cs ρ st)) rfl hsize (argsL := (st.take na).reverse.map (conc ρ)) (rest := cs ρ (st.drop na))
              (fun sig hs => by rw [← k6 sig hs]; simpa using hna) split_st0 (hW _ rfl) hd (fun _ _ => ⟨rfl, rfl, by show M.1.length - L0.length + (M'.1.length - M.1.length) ≤ _; omega, by show szL M.1 - szL L0 + (szL M'.1 - szL M.1) ≤ _; omega⟩)
            dsimp only [Pt.U, Pt.locs, Pt.cells, Pt.slots] at X' l' y' z' st' hR'
            subst l' y' z'
            refine ⟨T', ⟨_, ?_, Fr.app N hN', hR'⟩, ?_⟩
            · have c1 : M'.1.length - L0.length = M.1.length - L0.length + (M'.1.length - M.1.length) := by omega
              have c2 : szL M'.1 - szL L0 = szL M.1 - szL L0 + (szL M'.1 - szL M.1) := by omega
              rw [c1, c2]; exact X'
            · rw [← toL_conc]; exact st' _ (Steps.refl _)
        · cases hc
      · cases hc
    · cases hc
  · cases hc
set_option maxRecDepth 65536 in
set_option maxHeartbeats 40000000 in
theorem run_good (hw : ∀ d ∈ W, d.before a0 Z = true) (hρ : ∀ a b, ρ a = ρ b → a = b) (hρn : ∀ a, ro ≤ a → ρ a = n0 + (a - ro)) : ∀ n, Good l Z W ρ ro n0 n
  | 0 => fun F Lb y code ret pc ls st M M' v h => by simp [run] at h
  | n + 1 => by
    have G := run_good hw hρ hρn n
    intro F Lb y code ret pc ls st M M' v h p e R s m args below meth c L0 T hx hZ hown hnm hby hret hlocks hsz hF hLb hRc hRs hL hS hs0 hro H
    unfold run at h
    split at h
    · rename_i ins len hdec
      have hd : decode c.code pc = .ok (ins, len) := by rw [hby]; exact hdec
      split at h
      · rename_i pc' ls' st' hP
        split at hP
        · rename_i hlo
          obtain ⟨g1, T', H', g2⟩ := execP_sound H hx hZ hw hown hF hLb hsz hd hlo hP
          obtain ⟨s₂, L, q1, q⟩ := G h hx hZ hown hnm hby hret hlocks (g1.trans hsz) hF hLb hRc hRs hL hS hs0 hro H'
          exact ⟨s₂, L, g2 _ q1, q⟩
        · cases hP
      · split at h
        · rename_i st' M'' hM
          split at hM
          · rename_i hlo
            have q1 := execM_ext hM
            have q2 := run_ext n h
            obtain ⟨T', H', g2⟩ := execM_sound H hx hZ hw hown hnm hρ hρn hL hS hs0 hro (ls := ls) hd hlo (by omega) (by omega) hM
            obtain ⟨s₂, L, q1, q⟩ := G h hx hZ hown hnm hby hret hlocks hsz hF hLb hRc hRs (by omega) (by omega) hs0 hro H'
            exact ⟨s₂, L, g2 _ q1, q⟩
          · cases hM
        · split at h
          · rename_i v' hv
            cases h
            obtain ⟨locs, X, N, Rl⟩ := H
            unfold retOf at hv
            split at hv
            · rename_i hlen
              subst hlen
              split at hv
              · cases hv
                obtain ⟨fs, hr, hrun, hended, hWm, hsame⟩ := X.leave (v := none) (fun _ => rfl) hlocks
                exact ⟨_, locs, X.returnOut hx hret hd hr, hrun, hended, Rl, N, hWm, hsame⟩
              · rename_i zz _ _
                cases hv
                obtain ⟨fs, hr, hrun, hended, hWm, hsame⟩ := X.leave (v := some (.int zz)) (fun q => by rw [hret] at q; cases q) hlocks
                exact ⟨_, locs, X.ireturnOut hx hret rfl (Or.inl rfl) hd hr, hrun, hended, Rl, N, hWm, hsame⟩
              · rename_i zz _ _
                cases hv
                obtain ⟨fs, hr, hrun, hended, hWm, hsame⟩ := X.leave (v := some (.int (zz &&& 1))) (fun q => by rw [hret] at q; cases q) hlocks
                exact ⟨_, locs, retN X hx (t := .boolean) hret (Or.inl rfl) hd hr, hrun, hended, Rl, N, hWm, hsame⟩
              · rename_i zz _ _
                cases hv
                obtain ⟨fs, hr, hrun, hended, hWm, hsame⟩ := X.leave (v := some (.long zz)) (fun q => by rw [hret] at q; cases q) hlocks
                exact ⟨_, locs, X.lreturnOut hx hret hd hr, hrun, hended, Rl, N, hWm, hsame⟩
              · cases hv
            · cases hv
          · split at h
            · rename_i z as rest b mx r hc
              split at h
              · rename_i hcond
                obtain ⟨h1, h2, h3⟩ := hcond
                split at h
                · rename_i v'' M'' hr
                  have q1 := run_ext n hr
                  have q2 := run_ext n h
                  obtain ⟨T', H', g2⟩ := call_sound G hw H hx hZ hown hF hLb hsz hd hc h1 h2 h3 hr hL hS (by omega) (by omega)
                  obtain ⟨s₂, L, q1, q⟩ := G h hx hZ hown hnm hby hret hlocks hsz hF hLb hRc hRs (by omega) (by omega) hs0 hro H'
                  exact ⟨s₂, L, g2.trans q1, q⟩
                · cases h
              · cases h
            · cases h
    · cases h
end S
end Jvm.OwnEv
namespace Jvm.OwnEv
open Sem ClassFile Op Lib Jvm.Stand Jvm.Free Jvm.LawKit Jvm.RoadKit
/-! PART 6: the run comes to an end that Q says: the rules -/
theorem execP_special {W : List Jvm.Cond} {F Lb : Nat} {y : MethodName} {pc len idx : Nat} {ls : List Slot} {st : List Value} {M : EMem} : execP W F Lb y (.invokespecial idx) pc len ls st M = match st with
    | .ref _ :: r => if objInitAt W y.cls idx = true ∧ 1 ≤ F ∧ wt r + 12 ≤ Lb then some (pc + 3, ls, r) else none
    | _ => none := rfl
theorem objInit_no {W : List Jvm.Cond} {own : String} {idx kd : Nat} {z : MethodName} {na : Nat} {b : ByteArray} {mx : Nat} {r : Option FieldType} (h : callAt W own idx kd = some (z, na, b, mx, r)) : objInitAt W own idx = false := by
  cases q : objInitAt W own idx with
  | false => rfl
  | true =>
    have hm : methodLk own idx W = some Lib.objectInit := by
      unfold objInitAt at q
      split at q
      · rename_i z' b' n' r' h1 h2
        simp only [Bool.and_eq_true, decide_eq_true_eq] at q
        rw [h1, q.1.1.1.1]
      · cases q
    have hpn : plainName Lib.objectInit.cls = false := by decide
    unfold callAt at h
    rw [hm] at h
    simp only at h
    split at h
    · split at h
      · rename_i hc
        rw [hpn] at hc
        simp at hc
      · cases h
    · cases h
theorem run_succ {W : List Jvm.Cond} {ro : Nat} : ∀ (n : Nat) {F Lb : Nat} {y : MethodName} {code : ByteArray} {ret : Option FieldType} {pc : Nat} {ls : List Slot} {st : List Value} {M : EMem} {x : Option Value × EMem} {F' Lb' : Nat}, F ≤ F' → Lb ≤ Lb' →
    run W ro n F Lb y code ret pc ls st M = some x → run W ro (n + 1) F' Lb' y code ret pc ls st M = some x
  | 0, _, _, _, _, _, _, _, _, _, _, _, _, _, _, h => by simp [run] at h
  | n + 1, F, Lb, y, code, ret, pc, ls, st, M, x, F', Lb', hF, hL, h => by
    unfold run at h
    unfold run
    split at h
    · rename_i ins len hd
      split at h
      · rename_i pc' ls' st' hP
        have hP' : (if lenOk len ins = true then execP W F' Lb' y ins pc len ls st M else none) = some (pc', ls', st') := by
          split at hP
          · rename_i hl
            rw [if_pos hl]
            by_cases hi : ∃ idx, ins = .invokespecial idx
            · obtain ⟨idx, rfl⟩ := hi
              rw [execP_special] at hP ⊢
              split at hP
              · split at hP
                · rename_i hc
                  rw [if_pos ⟨hc.1, Nat.le_trans hc.2.1 hF, Nat.le_trans hc.2.2 hL⟩]
                  exact hP
                · cases hP
              · cases hP
            · have e : execP W F' Lb' y ins pc len ls st M = execP W F Lb y ins pc len ls st M := by
                cases ins <;> first | rfl | (exact absurd ⟨_, rfl⟩ hi)
              rw [e]; exact hP
          · cases hP
        rw [hP']
        exact run_succ n hF hL h
      · rename_i hP
        split at h
        · rename_i st' M' hM
          have hP' : (if lenOk len ins = true then execP W F' Lb' y ins pc len ls st M else none) = none := by
            split at hP
            · rename_i hl
              rw [if_pos hl]
              rw [if_pos hl] at hM
              cases ins <;> first | exact hP | (simp [execM] at hM)
            · rename_i hl
              rw [if_neg hl]
          rw [hP']
          exact run_succ n hF hL h
        · rename_i hM
          split at h
          · rename_i v hv
            have hP' : (if lenOk len ins = true then execP W F' Lb' y ins pc len ls st M else none) = none := by
              split at hP
              · rename_i hl
                rw [if_pos hl]
                cases ins <;> first | exact hP | (simp [retOf] at hv)
              · rename_i hl
                rw [if_neg hl]
            rw [hP']
            exact h
          · rename_i hv
            split at h
            · rename_i z as rest b mx r hc
              split at h
              · rename_i hcond
                obtain ⟨h1, h2, h3⟩ := hcond
                split at h
                · rename_i v M' hr
                  have hP' : (if lenOk len ins = true then execP W F' Lb' y ins pc len ls st M else none) = none := by
                    split at hP
                    · rename_i hl
                      rw [if_pos hl]
                      by_cases hi : ∃ idx, ins = .invokespecial idx
                      · obtain ⟨idx, rfl⟩ := hi
                        rw [execP_special]
                        split
                        · rw [if_neg]
                          intro q
                          have hcc : ∃ u, callAt W y.cls idx 2 = some u := by
                            cases hcq : callAt W y.cls idx 2 with
                            | some u => exact ⟨u, rfl⟩
                            | none =>
                              have e : ∀ s' : List Value, callOf W y (.invokespecial idx) len s' M = none := fun s' => by
                                unfold callOf
                                split
                                · simp only [hcq]
                                · rfl
                              rw [e] at hc; cases hc
                          obtain ⟨⟨u1, u2, u3, u4, u5⟩, hu⟩ := hcc
                          have q1 := q.1
                          rw [objInit_no hu] at q1
                          cases q1
                        · rfl
                      · have e : execP W F' Lb' y ins pc len ls st M = execP W F Lb y ins pc len ls st M := by
                          cases ins <;> first | rfl | (exact absurd ⟨_, rfl⟩ hi)
                        rw [e]; exact hP
                    · rename_i hl
                      rw [if_neg hl]
                  rw [hP']
                  simp only
                  rw [if_pos ⟨Nat.le_trans h1 hF, Nat.le_trans h2 hL, h3⟩, run_succ n (by omega) (by omega) hr]
                  exact run_succ n hF hL h
                · cases h
              · cases h
            · cases h
    · cases h
theorem run_mono {W : List Jvm.Cond} {ro n n' F Lb : Nat} {y : MethodName} {code : ByteArray} {ret : Option FieldType} {pc : Nat} {ls : List Slot} {st : List Value} {M : EMem} {x : Option Value × EMem} {F' Lb' : Nat} (hn : n < n') (hF : F ≤ F') (hL : Lb ≤ Lb')
    (h : run W ro n F Lb y code ret pc ls st M = some x) : run W ro n' F' Lb' y code ret pc ls st M = some x := by
  have : ∀ k, run W ro (n + 1 + k) F' Lb' y code ret pc ls st M = some x := fun k => by
    induction k with
    | zero => exact run_succ n hF hL h
    | succ k ih => exact run_succ _ (Nat.le_refl _) (Nat.le_refl _) ih
  have e : n' = n + 1 + (n' - (n + 1)) := by omega
  rw [e]; exact this _
def Wp (W : List Jvm.Cond) (ro F Lb : Nat) (y : MethodName) (code : ByteArray) (ret : Option FieldType) (pc : Nat) (ls : List Slot) (st : List Value) (M : EMem) (Q : Option Value → EMem → Prop) : Prop :=
  ∃ n v M', run W ro n F Lb y code ret pc ls st M = some (v, M') ∧ Q v M'
section Rules
variable {W : List Jvm.Cond} {ro F Lb : Nat} {y : MethodName} {code : ByteArray} {ret : Option FieldType} {pc : Nat} {ls : List Slot} {st : List Value} {M : EMem} {Q : Option Value → EMem → Prop}
theorem Wp.mono {Q' : Option Value → EMem → Prop} (h : Wp W ro F Lb y code ret pc ls st M Q) (q : ∀ v M', Q v M' → Q' v M') : Wp W ro F Lb y code ret pc ls st M Q' := by
  obtain ⟨n, v, M', h1, h2⟩ := h; exact ⟨n, v, M', h1, q _ _ h2⟩
theorem Wp.room {F' Lb' : Nat} (hF : F ≤ F') (hL : Lb ≤ Lb') (h : Wp W ro F Lb y code ret pc ls st M Q) : Wp W ro F' Lb' y code ret pc ls st M Q := by
  obtain ⟨n, v, M', h1, h2⟩ := h; exact ⟨n + 1, v, M', run_succ n hF hL h1, h2⟩
theorem Wp.p {ins : Instr} {len pc' : Nat} {ls' : List Slot} {st' : List Value} (hd : decode code pc = .ok (ins, len)) (hl : lenOk len ins = true) (he : execP W F Lb y ins pc len ls st M = some (pc', ls', st')) (k : Wp W ro F Lb y code ret pc' ls' st' M Q) : Wp W ro F Lb y code ret pc ls st M Q := by
  obtain ⟨n, v, M', h1, h2⟩ := k
  refine ⟨n + 1, v, M', ?_, h2⟩
  unfold run
  rw [hd]
  simp only
  rw [if_pos hl, he]
  exact h1
theorem Wp.m {ins : Instr} {len : Nat} {st' : List Value} {M1 : EMem} (hd : decode code pc = .ok (ins, len)) (hl : lenOk len ins = true) (hp : execP W F Lb y ins pc len ls st M = none) (he : execM W ro y ins st M = some (st', M1)) (k : Wp W ro F Lb y code ret (pc + len) ls st' M1 Q) : Wp W ro F Lb y code ret pc ls st M Q := by
  obtain ⟨n, v, M', h1, h2⟩ := k
  refine ⟨n + 1, v, M', ?_, h2⟩
  unfold run
  rw [hd]
  simp only
  rw [if_pos hl, hp]
  simp only
  rw [if_pos hl, he]
  exact h1
theorem Wp.r {ins : Instr} {len : Nat} {v : Option Value} (hd : decode code pc = .ok (ins, len)) (hp : execP W F Lb y ins pc len ls st M = none) (hm : execM W ro y ins st M = none) (hr : retOf ins len ret st = some v) (q : Q v M) : Wp W ro F Lb y code ret pc ls st M Q := by
  refine ⟨1, v, M, ?_, q⟩
  unfold run
  rw [hd]
  simp only
  rw [hp, ite_self, hm, ite_self]
  simp only
  rw [hr]
theorem Wp.c {ins : Instr} {len : Nat} {z : MethodName} {as rest : List Value} {b : ByteArray} {mx : Nat} {r : Option FieldType} {F' Lb' w : Nat} (hd : decode code pc = .ok (ins, len)) (hp : execP W F Lb y ins pc len ls st M = none) (hm : execM W ro y ins st M = none) (hr : retOf ins len ret st = none)
    (hc : callOf W y ins len st M = some (z, as, rest, b, mx, r)) (hw : wt rest = w) (h1 : F' + 1 ≤ F) (h2 : w + (mx + 11) + Lb' ≤ Lb) (h3 : (fillL as).length ≤ mx) (k : Wp W ro F' Lb' z b r 0 (entryL as mx) [] M fun v M' => Wp W ro F Lb y code ret (pc + 3) ls (v.toList ++ rest) M' Q) : Wp W ro F Lb y code ret pc ls st M Q := by
  obtain ⟨n1, v1, M1, k1, n2, v2, M2, k2, hq⟩ := k
  subst hw
  refine ⟨n1 + n2 + 3, v2, M2, ?_, hq⟩
  unfold run
  rw [hd]
  simp only
  rw [hp, ite_self, hm, ite_self]
  simp only
  rw [hr, hc]
  simp only
  rw [if_pos ⟨by omega, by omega, h3⟩, run_mono (n' := n1 + n2 + 2) (by omega) (by omega) (by omega) k1]
  exact run_mono (by omega) (Nat.le_refl _) (Nat.le_refl _) k2
theorem Wp.icmp {cd : ClassFile.Cond} {o : Int} {t : Nat} {a b : Int32} {r : List Value} (hd : decode code pc = .ok (.if_icmp cd o, 3)) (hj : jump pc o = some t) (k1 : if_icmp.holds cd a b = true → Wp W ro F Lb y code ret t ls r M Q) (k2 : if_icmp.holds cd a b = false → Wp W ro F Lb y code ret (pc + 3) ls r M Q) : Wp W ro F Lb y code ret pc ls (.int b :: .int a :: r) M Q := by
  have he : execP W F Lb y (.if_icmp cd o) pc 3 ls (.int b :: .int a :: r) M = some (if if_icmp.holds cd a b = true then t else pc + 3, ls, r) := by simp only [execP, hj]
  refine Wp.p hd rfl he ?_
  cases h : if_icmp.holds cd a b with
  | true => rw [if_pos rfl]; exact k1 h
  | false => rw [if_neg Bool.false_ne_true]; exact k2 h
theorem Wp.if0 {cd : ClassFile.Cond} {o : Int} {t : Nat} {a : Int32} {r : List Value} (hd : decode code pc = .ok (.ifCond cd o, 3)) (hj : jump pc o = some t) (k1 : if_icmp.holds cd a 0 = true → Wp W ro F Lb y code ret t ls r M Q) (k2 : if_icmp.holds cd a 0 = false → Wp W ro F Lb y code ret (pc + 3) ls r M Q) : Wp W ro F Lb y code ret pc ls (.int a :: r) M Q := by
  have he : execP W F Lb y (.ifCond cd o) pc 3 ls (.int a :: r) M = some (if ifCond.holds cd a = true then t else pc + 3, ls, r) := by simp only [execP, hj]
  refine Wp.p hd rfl he ?_
  rw [RoadKit.if0]
  cases h : if_icmp.holds cd a 0 with
  | true => rw [if_pos rfl]; exact k1 h
  | false => rw [if_neg Bool.false_ne_true]; exact k2 h
theorem Wp.icmp_lt {o : Int} {t : Nat} {a b : Int32} {r : List Value} (hd : decode code pc = .ok (.if_icmp .lt o, 3)) (hj : jump pc o = some t) (k1 : a < b → Wp W ro F Lb y code ret t ls r M Q) (k2 : ¬ a < b → Wp W ro F Lb y code ret (pc + 3) ls r M Q) : Wp W ro F Lb y code ret pc ls (.int b :: .int a :: r) M Q :=
  Wp.icmp hd hj (fun h => k1 (Classical.byContradiction fun q => by rw [(flt (x := a) (y := b) (by exact q)).1] at h; cases h)) (fun h => k2 (Classical.byContradiction fun q => by rw [(tlt (x := a) (y := b) (by simpa using q)).1] at h; cases h))
theorem Wp.if_lt {o : Int} {t : Nat} {a : Int32} {r : List Value} (hd : decode code pc = .ok (.ifCond .lt o, 3)) (hj : jump pc o = some t) (k1 : a < 0 → Wp W ro F Lb y code ret t ls r M Q) (k2 : ¬ a < 0 → Wp W ro F Lb y code ret (pc + 3) ls r M Q) : Wp W ro F Lb y code ret pc ls (.int a :: r) M Q :=
  Wp.if0 hd hj (fun h => k1 (Classical.byContradiction fun q => by rw [(flt (x := a) (y := 0) (by exact q)).1] at h; cases h)) (fun h => k2 (Classical.byContradiction fun q => by rw [(tlt (x := a) (y := 0) (by simpa using q)).1] at h; cases h))
theorem Wp.icmp_ge {o : Int} {t : Nat} {a b : Int32} {r : List Value} (hd : decode code pc = .ok (.if_icmp .ge o, 3)) (hj : jump pc o = some t) (k1 : ¬ a < b → Wp W ro F Lb y code ret t ls r M Q) (k2 : a < b → Wp W ro F Lb y code ret (pc + 3) ls r M Q) : Wp W ro F Lb y code ret pc ls (.int b :: .int a :: r) M Q :=
  Wp.icmp hd hj (fun h => k1 (Classical.byContradiction fun q => by rw [(tlt (x := a) (y := b) (by simpa using q)).2.1] at h; cases h)) (fun h => k2 (Classical.byContradiction fun q => by rw [(flt (x := a) (y := b) (by exact q)).2.1] at h; cases h))
theorem Wp.if_ge {o : Int} {t : Nat} {a : Int32} {r : List Value} (hd : decode code pc = .ok (.ifCond .ge o, 3)) (hj : jump pc o = some t) (k1 : ¬ a < 0 → Wp W ro F Lb y code ret t ls r M Q) (k2 : a < 0 → Wp W ro F Lb y code ret (pc + 3) ls r M Q) : Wp W ro F Lb y code ret pc ls (.int a :: r) M Q :=
  Wp.if0 hd hj (fun h => k1 (Classical.byContradiction fun q => by rw [(tlt (x := a) (y := 0) (by simpa using q)).2.1] at h; cases h)) (fun h => k2 (Classical.byContradiction fun q => by rw [(flt (x := a) (y := 0) (by exact q)).2.1] at h; cases h))
theorem Wp.icmp_gt {o : Int} {t : Nat} {a b : Int32} {r : List Value} (hd : decode code pc = .ok (.if_icmp .gt o, 3)) (hj : jump pc o = some t) (k1 : b < a → Wp W ro F Lb y code ret t ls r M Q) (k2 : ¬ b < a → Wp W ro F Lb y code ret (pc + 3) ls r M Q) : Wp W ro F Lb y code ret pc ls (.int b :: .int a :: r) M Q :=
  Wp.icmp hd hj (fun h => k1 (Classical.byContradiction fun q => by rw [(flt (x := b) (y := a) (by exact q)).2.2.1] at h; cases h)) (fun h => k2 (Classical.byContradiction fun q => by rw [(tlt (x := b) (y := a) (by simpa using q)).2.2.1] at h; cases h))
theorem Wp.if_gt {o : Int} {t : Nat} {a : Int32} {r : List Value} (hd : decode code pc = .ok (.ifCond .gt o, 3)) (hj : jump pc o = some t) (k1 : 0 < a → Wp W ro F Lb y code ret t ls r M Q) (k2 : ¬ 0 < a → Wp W ro F Lb y code ret (pc + 3) ls r M Q) : Wp W ro F Lb y code ret pc ls (.int a :: r) M Q :=
  Wp.if0 hd hj (fun h => k1 (Classical.byContradiction fun q => by rw [(flt (x := 0) (y := a) (by exact q)).2.2.1] at h; cases h)) (fun h => k2 (Classical.byContradiction fun q => by rw [(tlt (x := 0) (y := a) (by simpa using q)).2.2.1] at h; cases h))
theorem Wp.icmp_le {o : Int} {t : Nat} {a b : Int32} {r : List Value} (hd : decode code pc = .ok (.if_icmp .le o, 3)) (hj : jump pc o = some t) (k1 : ¬ b < a → Wp W ro F Lb y code ret t ls r M Q) (k2 : b < a → Wp W ro F Lb y code ret (pc + 3) ls r M Q) : Wp W ro F Lb y code ret pc ls (.int b :: .int a :: r) M Q :=
  Wp.icmp hd hj (fun h => k1 (Classical.byContradiction fun q => by rw [(tlt (x := b) (y := a) (by simpa using q)).2.2.2] at h; cases h)) (fun h => k2 (Classical.byContradiction fun q => by rw [(flt (x := b) (y := a) (by exact q)).2.2.2] at h; cases h))
theorem Wp.if_le {o : Int} {t : Nat} {a : Int32} {r : List Value} (hd : decode code pc = .ok (.ifCond .le o, 3)) (hj : jump pc o = some t) (k1 : ¬ 0 < a → Wp W ro F Lb y code ret t ls r M Q) (k2 : 0 < a → Wp W ro F Lb y code ret (pc + 3) ls r M Q) : Wp W ro F Lb y code ret pc ls (.int a :: r) M Q :=
  Wp.if0 hd hj (fun h => k1 (Classical.byContradiction fun q => by rw [(tlt (x := 0) (y := a) (by simpa using q)).2.2.2] at h; cases h)) (fun h => k2 (Classical.byContradiction fun q => by rw [(flt (x := 0) (y := a) (by exact q)).2.2.2] at h; cases h))
theorem Wp.icmp_eq {o : Int} {t : Nat} {a b : Int32} {r : List Value} (hd : decode code pc = .ok (.if_icmp .eq o, 3)) (hj : jump pc o = some t) (k1 : a = b → Wp W ro F Lb y code ret t ls r M Q) (k2 : ¬ a = b → Wp W ro F Lb y code ret (pc + 3) ls r M Q) : Wp W ro F Lb y code ret pc ls (.int b :: .int a :: r) M Q :=
  Wp.icmp hd hj (fun h => k1 (Classical.byContradiction fun q => by rw [(feq (x := a) (y := b) (by exact q)).1] at h; cases h)) (fun h => k2 (Classical.byContradiction fun q => by rw [(teq (x := a) (y := b) (by simpa using q)).1] at h; cases h))
theorem Wp.if_eq {o : Int} {t : Nat} {a : Int32} {r : List Value} (hd : decode code pc = .ok (.ifCond .eq o, 3)) (hj : jump pc o = some t) (k1 : a = 0 → Wp W ro F Lb y code ret t ls r M Q) (k2 : ¬ a = 0 → Wp W ro F Lb y code ret (pc + 3) ls r M Q) : Wp W ro F Lb y code ret pc ls (.int a :: r) M Q :=
  Wp.if0 hd hj (fun h => k1 (Classical.byContradiction fun q => by rw [(feq (x := a) (y := 0) (by exact q)).1] at h; cases h)) (fun h => k2 (Classical.byContradiction fun q => by rw [(teq (x := a) (y := 0) (by simpa using q)).1] at h; cases h))
theorem Wp.icmp_ne {o : Int} {t : Nat} {a b : Int32} {r : List Value} (hd : decode code pc = .ok (.if_icmp .ne o, 3)) (hj : jump pc o = some t) (k1 : ¬ a = b → Wp W ro F Lb y code ret t ls r M Q) (k2 : a = b → Wp W ro F Lb y code ret (pc + 3) ls r M Q) : Wp W ro F Lb y code ret pc ls (.int b :: .int a :: r) M Q :=
  Wp.icmp hd hj (fun h => k1 (Classical.byContradiction fun q => by rw [(teq (x := a) (y := b) (by simpa using q)).2] at h; cases h)) (fun h => k2 (Classical.byContradiction fun q => by rw [(feq (x := a) (y := b) (by exact q)).2] at h; cases h))
theorem Wp.if_ne {o : Int} {t : Nat} {a : Int32} {r : List Value} (hd : decode code pc = .ok (.ifCond .ne o, 3)) (hj : jump pc o = some t) (k1 : ¬ a = 0 → Wp W ro F Lb y code ret t ls r M Q) (k2 : a = 0 → Wp W ro F Lb y code ret (pc + 3) ls r M Q) : Wp W ro F Lb y code ret pc ls (.int a :: r) M Q :=
  Wp.if0 hd hj (fun h => k1 (Classical.byContradiction fun q => by rw [(teq (x := a) (y := 0) (by simpa using q)).2] at h; cases h)) (fun h => k2 (Classical.byContradiction fun q => by rw [(feq (x := a) (y := 0) (by exact q)).2] at h; cases h))
variable {L : ELay} {mi : Nat → Nat → Int32} {ml : Nat → Nat → Int64} {mr : Nat → Nat → Value}
theorem Wp.iconst {i : Int} {r : List Value} (v : Int32) (hd : decode code pc = .ok (.iconst i, 1)) (hv : Int32.ofInt i = v) (k : Wp W ro F Lb y code ret (pc + 1) ls (.int v :: r) M Q) : Wp W ro F Lb y code ret pc ls r M Q := by
  subst hv; exact Wp.p hd rfl rfl k
theorem Wp.bipush {i : Int} {r : List Value} (v : Int32) (hd : decode code pc = .ok (.bipush i, 2)) (hv : (Int8.ofInt i).toInt32 = v) (k : Wp W ro F Lb y code ret (pc + 2) ls (.int v :: r) M Q) : Wp W ro F Lb y code ret pc ls r M Q := by
  subst hv; exact Wp.p hd rfl rfl k
theorem Wp.sipush {i : Int} {r : List Value} (v : Int32) (hd : decode code pc = .ok (.sipush i, 3)) (hv : (Int16.ofInt i).toInt32 = v) (k : Wp W ro F Lb y code ret (pc + 3) ls (.int v :: r) M Q) : Wp W ro F Lb y code ret pc ls r M Q := by
  subst hv; exact Wp.p hd rfl rfl k
theorem Wp.lconst {i : Fin 2} {r : List Value} (v : Int64) (hd : decode code pc = .ok (.lconst i, 1)) (hv : Int64.ofNat i = v) (k : Wp W ro F Lb y code ret (pc + 1) ls (.long v :: r) M Q) : Wp W ro F Lb y code ret pc ls r M Q := by
  subst hv; exact Wp.p hd rfl rfl k
theorem Wp.iinc {i : Nat} {d : Int} {x : Int32} {l' : List Slot} (v : Int32) (hd : decode code pc = .ok (.iinc i d, 3)) (hv : Int32.ofInt d = v) (hl : ls[i]? = some (.val (.int x))) (hs : storeL ls i (.int (x + v)) = some l') (k : Wp W ro F Lb y code ret (pc + 3) l' st M Q) : Wp W ro F Lb y code ret pc ls st M Q := by
  subst hv
  exact Wp.p hd rfl (by simp only [execP, hl, hs]) k
theorem Wp.ldc {i : Nat} {r : List Value} {v : Int32} (hd : decode code pc = .ok (.ldc i, 2)) (hv : intLk y.cls i W = some v) (k : Wp W ro F Lb y code ret (pc + 2) ls (.int v :: r) M Q) : Wp W ro F Lb y code ret pc ls r M Q :=
  Wp.p hd rfl (by simp only [execP, hv]) k
theorem Wp.ldcw {i : Nat} {r : List Value} {v : Int32} (hd : decode code pc = .ok (.ldc_w i, 3)) (hv : intLk y.cls i W = some v) (k : Wp W ro F Lb y code ret (pc + 3) ls (.int v :: r) M Q) : Wp W ro F Lb y code ret pc ls r M Q :=
  Wp.p hd rfl (by simp only [execP, hv]) k
theorem Wp.ldc2 {i : Nat} {r : List Value} {v : Int64} (hd : decode code pc = .ok (.ldc2_w i, 3)) (hv : longLk y.cls i W = some v) (k : Wp W ro F Lb y code ret (pc + 3) ls (.long v :: r) M Q) : Wp W ro F Lb y code ret pc ls r M Q :=
  Wp.p hd rfl (by simp only [execP, hv]) k
theorem Wp.getI {i a k n : Nat} {C : String} {fin : Bool} {r : List Value} (v : Int32) (hd : decode code pc = .ok (.getfield i, 3)) (hf : fieldAt W y.cls i = some (C, k, 1, fin)) (hc : L[a]? = some (0, C, n)) (hv : mi a k = v) (q : Wp W ro F Lb y code ret (pc + 3) ls (.int v :: r) (L, mi, ml, mr) Q) : Wp W ro F Lb y code ret pc ls (.ref a :: r) (L, mi, ml, mr) Q := by
  subst hv
  exact Wp.p hd rfl (by simp only [execP, hf, hc, getV, if_true]) q
theorem Wp.getZ {i a k n : Nat} {C : String} {fin : Bool} {r : List Value} (v : Int32) (hd : decode code pc = .ok (.getfield i, 3)) (hf : fieldAt W y.cls i = some (C, k, 2, fin)) (hc : L[a]? = some (0, C, n)) (hv : mi a k = v) (q : Wp W ro F Lb y code ret (pc + 3) ls (.int v :: r) (L, mi, ml, mr) Q) : Wp W ro F Lb y code ret pc ls (.ref a :: r) (L, mi, ml, mr) Q := by
  subst hv
  exact Wp.p hd rfl (by simp only [execP, hf, hc, getV, if_true]) q
theorem Wp.getJ {i a k n : Nat} {C : String} {fin : Bool} {r : List Value} (v : Int64) (hd : decode code pc = .ok (.getfield i, 3)) (hf : fieldAt W y.cls i = some (C, k, 3, fin)) (hc : L[a]? = some (0, C, n)) (hv : ml a k = v) (q : Wp W ro F Lb y code ret (pc + 3) ls (.long v :: r) (L, mi, ml, mr) Q) : Wp W ro F Lb y code ret pc ls (.ref a :: r) (L, mi, ml, mr) Q := by
  subst hv
  exact Wp.p hd rfl (by simp only [execP, hf, hc, getV, if_true]) q
theorem Wp.getR {i a k n b : Nat} {C : String} {fin : Bool} {r : List Value} (hd : decode code pc = .ok (.getfield i, 3)) (hf : fieldAt W y.cls i = some (C, k, 4, fin)) (hc : L[a]? = some (0, C, n)) (hr : mr a k = .ref b) (q : Wp W ro F Lb y code ret (pc + 3) ls (.ref b :: r) (L, mi, ml, mr) Q) : Wp W ro F Lb y code ret pc ls (.ref a :: r) (L, mi, ml, mr) Q :=
  Wp.p hd rfl (by simp only [execP, hf, hc, getV, if_true, hr]) q
theorem Wp.len {a n kd : Nat} {u : String} {r : List Value} (hd : decode code pc = .ok (.arraylength, 1)) (hc : L[a]? = some (kd, u, n)) (hk : kd = 1 ∨ kd = 2 ∨ kd = 3) (q : Wp W ro F Lb y code ret (pc + 1) ls (.int n.toInt32 :: r) (L, mi, ml, mr) Q) : Wp W ro F Lb y code ret pc ls (.ref a :: r) (L, mi, ml, mr) Q := by
  rcases hk with rfl | rfl | rfl <;> exact Wp.p hd rfl (by simp only [execP, hc]) q
theorem Wp.iaload {a n k : Nat} {u : String} {j : Int32} {r : List Value} (v : Int32) (hd : decode code pc = .ok (.iaload, 1)) (hc : L[a]? = some (1, u, n)) (hk : j.toNatClampNeg = k) (hj : inb j n = true) (hv : mi a k = v) (q : Wp W ro F Lb y code ret (pc + 1) ls (.int v :: r) (L, mi, ml, mr) Q) : Wp W ro F Lb y code ret pc ls (.int j :: .ref a :: r) (L, mi, ml, mr) Q := by
  subst hk hv
  exact Wp.p hd rfl (by simp only [execP, hc, hj, if_true]) q
theorem Wp.baload {a n k : Nat} {u : String} {j : Int32} {r : List Value} (v : Int32) (hd : decode code pc = .ok (.baload, 1)) (hc : L[a]? = some (3, u, n)) (hk : j.toNatClampNeg = k) (hj : inb j n = true) (hv : mi a k = v) (q : Wp W ro F Lb y code ret (pc + 1) ls (.int v :: r) (L, mi, ml, mr) Q) : Wp W ro F Lb y code ret pc ls (.int j :: .ref a :: r) (L, mi, ml, mr) Q := by
  subst hk hv
  exact Wp.p hd rfl (by simp only [execP, hc, hj, if_true]) q
theorem Wp.laload {a n k : Nat} {u : String} {j : Int32} {r : List Value} (v : Int64) (hd : decode code pc = .ok (.laload, 1)) (hc : L[a]? = some (2, u, n)) (hk : j.toNatClampNeg = k) (hj : inb j n = true) (hv : ml a k = v) (q : Wp W ro F Lb y code ret (pc + 1) ls (.long v :: r) (L, mi, ml, mr) Q) : Wp W ro F Lb y code ret pc ls (.int j :: .ref a :: r) (L, mi, ml, mr) Q := by
  subst hk hv
  exact Wp.p hd rfl (by simp only [execP, hc, hj, if_true]) q
theorem Wp.iastore {a n k : Nat} {u : String} {j x : Int32} {r : List Value} (hd : decode code pc = .ok (.iastore, 1)) (hc : L[a]? = some (1, u, n)) (hk : j.toNatClampNeg = k) (hj : inb j n = true) (ha : ro ≤ a) (q : Wp W ro F Lb y code ret (pc + 1) ls r (L, up mi a k x, ml, mr) Q) : Wp W ro F Lb y code ret pc ls (.int x :: .int j :: .ref a :: r) (L, mi, ml, mr) Q := by
  subst hk
  exact Wp.m hd rfl rfl (by simp only [execM, hc]; rw [if_pos ⟨hj, ha⟩]) q
theorem Wp.bastore {a n k : Nat} {u : String} {j x : Int32} {r : List Value} (v : Int32) (hd : decode code pc = .ok (.bastore, 1)) (hc : L[a]? = some (3, u, n)) (hk : j.toNatClampNeg = k) (hj : inb j n = true) (ha : ro ≤ a) (hv : x &&& 1 = v) (q : Wp W ro F Lb y code ret (pc + 1) ls r (L, up mi a k v, ml, mr) Q) : Wp W ro F Lb y code ret pc ls (.int x :: .int j :: .ref a :: r) (L, mi, ml, mr) Q := by
  subst hk hv
  exact Wp.m hd rfl rfl (by simp only [execM, hc]; rw [if_pos ⟨hj, ha⟩]) q
theorem Wp.lastore {a n k : Nat} {u : String} {j : Int32} {x : Int64} {r : List Value} (hd : decode code pc = .ok (.lastore, 1)) (hc : L[a]? = some (2, u, n)) (hk : j.toNatClampNeg = k) (hj : inb j n = true) (ha : ro ≤ a) (q : Wp W ro F Lb y code ret (pc + 1) ls r (L, mi, up ml a k x, mr) Q) : Wp W ro F Lb y code ret pc ls (.long x :: .int j :: .ref a :: r) (L, mi, ml, mr) Q := by
  subst hk
  exact Wp.m hd rfl rfl (by simp only [execM, hc]; rw [if_pos ⟨hj, ha⟩]) q
theorem Wp.putI {i a k n u : Nat} {C : String} {fin : Bool} {x : Int32} {r : List Value} (hd : decode code pc = .ok (.putfield i, 3)) (hf : fieldAt W y.cls i = some (C, k, 1, fin)) (hc : L[a]? = some (0, C, n)) (ha : ro ≤ a) (hi : instLk C W = some u) (hfin : fin = false ∨ (y.cls = C ∧ y.name = "<init>")) (q : Wp W ro F Lb y code ret (pc + 3) ls r (L, up mi a k x, ml, mr) Q) : Wp W ro F Lb y code ret pc ls (.int x :: .ref a :: r) (L, mi, ml, mr) Q :=
  Wp.m hd rfl rfl (by simp only [execM, hf, hc]; rw [if_pos ⟨trivial, ha, hfin, by rw [hi]; rfl⟩]) q
theorem Wp.putZ {i a k n u : Nat} {C : String} {fin : Bool} {x : Int32} {r : List Value} (v : Int32) (hd : decode code pc = .ok (.putfield i, 3)) (hf : fieldAt W y.cls i = some (C, k, 2, fin)) (hc : L[a]? = some (0, C, n)) (ha : ro ≤ a) (hi : instLk C W = some u) (hfin : fin = false ∨ (y.cls = C ∧ y.name = "<init>")) (hv : x &&& 1 = v) (q : Wp W ro F Lb y code ret (pc + 3) ls r (L, up mi a k v, ml, mr) Q) : Wp W ro F Lb y code ret pc ls (.int x :: .ref a :: r) (L, mi, ml, mr) Q := by
  subst hv
  exact Wp.m hd rfl rfl (by simp only [execM, hf, hc]; rw [if_pos ⟨trivial, ha, hfin, by rw [hi]; rfl⟩]) q
theorem Wp.putJ {i a k n u : Nat} {C : String} {fin : Bool} {x : Int64} {r : List Value} (hd : decode code pc = .ok (.putfield i, 3)) (hf : fieldAt W y.cls i = some (C, k, 3, fin)) (hc : L[a]? = some (0, C, n)) (ha : ro ≤ a) (hi : instLk C W = some u) (hfin : fin = false ∨ (y.cls = C ∧ y.name = "<init>")) (q : Wp W ro F Lb y code ret (pc + 3) ls r (L, mi, up ml a k x, mr) Q) : Wp W ro F Lb y code ret pc ls (.long x :: .ref a :: r) (L, mi, ml, mr) Q :=
  Wp.m hd rfl rfl (by simp only [execM, hf, hc]; rw [if_pos ⟨trivial, ha, hfin, by rw [hi]; rfl⟩]) q
theorem Wp.putR {i a k n u b : Nat} {C : String} {fin : Bool} {r : List Value} (hd : decode code pc = .ok (.putfield i, 3)) (hf : fieldAt W y.cls i = some (C, k, 4, fin)) (hc : L[a]? = some (0, C, n)) (ha : ro ≤ a) (hi : instLk C W = some u) (hfin : fin = false ∨ (y.cls = C ∧ y.name = "<init>")) (q : Wp W ro F Lb y code ret (pc + 3) ls r (L, mi, ml, up mr a k (.ref b)) Q) : Wp W ro F Lb y code ret pc ls (.ref b :: .ref a :: r) (L, mi, ml, mr) Q :=
  Wp.m hd rfl rfl (by simp only [execM, hf, hc]; rw [if_pos ⟨trivial, ha, hfin, by rw [hi]; rfl⟩]) q
theorem Wp.new {i n a : Nat} {L' : ELay} {C : String} {r : List Value} (hd : decode code pc = .ok (.new i, 3)) (hn : newAt W y.cls i = some (C, n)) (ha : L.length = a) (hL : L ++ [(0, C, n)] = L') (q : Wp W ro F Lb y code ret (pc + 3) ls (.ref a :: r) (L', mi, ml, mr) Q) : Wp W ro F Lb y code ret pc ls r (L, mi, ml, mr) Q := by
  subst ha hL
  exact Wp.m hd rfl rfl (by simp only [execM, hn]) q
theorem Wp.new_int {n : Int32} {a z : Nat} {L' : ELay} {r : List Value} (hd : decode code pc = .ok (.newarray .int, 2)) (ha : hasArr .int W = true) (hn : ¬ n < 0 ∧ n.toNatClampNeg * 8 ≤ 536870912) (hz : n.toNatClampNeg = z) (he : L.length = a) (hL : L ++ [(1, "", z)] = L') (q : Wp W ro F Lb y code ret (pc + 2) ls (.ref a :: r) (L', mi, ml, mr) Q) : Wp W ro F Lb y code ret pc ls (.int n :: r) (L, mi, ml, mr) Q := by
  subst hz he hL
  exact Wp.m hd rfl rfl (by simp only [execM]; rw [if_pos ⟨hn.1, hn.2, ha⟩]) q
theorem Wp.new_long {n : Int32} {a z : Nat} {L' : ELay} {r : List Value} (hd : decode code pc = .ok (.newarray .long, 2)) (ha : hasArr .long W = true) (hn : ¬ n < 0 ∧ n.toNatClampNeg * 8 ≤ 536870912) (hz : n.toNatClampNeg = z) (he : L.length = a) (hL : L ++ [(2, "", z)] = L') (q : Wp W ro F Lb y code ret (pc + 2) ls (.ref a :: r) (L', mi, ml, mr) Q) : Wp W ro F Lb y code ret pc ls (.int n :: r) (L, mi, ml, mr) Q := by
  subst hz he hL
  exact Wp.m hd rfl rfl (by simp only [execM]; rw [if_pos ⟨hn.1, hn.2, ha⟩]) q
theorem Wp.new_boolean {n : Int32} {a z : Nat} {L' : ELay} {r : List Value} (hd : decode code pc = .ok (.newarray .boolean, 2)) (ha : hasArr .boolean W = true) (hn : ¬ n < 0 ∧ n.toNatClampNeg * 8 ≤ 536870912) (hz : n.toNatClampNeg = z) (he : L.length = a) (hL : L ++ [(3, "", z)] = L') (q : Wp W ro F Lb y code ret (pc + 2) ls (.ref a :: r) (L', mi, ml, mr) Q) : Wp W ro F Lb y code ret pc ls (.int n :: r) (L, mi, ml, mr) Q := by
  subst hz he hL
  exact Wp.m hd rfl rfl (by simp only [execM]; rw [if_pos ⟨hn.1, hn.2, ha⟩]) q
theorem Wp.objInit {i a w : Nat} {r : List Value} (hd : decode code pc = .ok (.invokespecial i, 3)) (ho : objInitAt W y.cls i = true) (hw : wt r = w) (h1 : 1 ≤ F) (h2 : w + 12 ≤ Lb) (q : Wp W ro F Lb y code ret (pc + 3) ls r M Q) : Wp W ro F Lb y code ret pc ls (.ref a :: r) M Q :=
  Wp.p hd rfl (by simp only [execP]; rw [if_pos ⟨ho, h1, by rw [hw]; exact h2⟩]) q
/-- a private method -/
theorem Wp.callP {i na mx a n F' Lb' w : Nat} {z : MethodName} {b : ByteArray} {rt : Option FieldType} {as rest : List Value} (hd : decode code pc = .ok (.invokevirtual i, 3)) (hc : callAt W y.cls i 1 = some (z, na, b, mx, rt)) (hl : L[a]? = some (0, z.cls, n)) (hs : st = as.reverse ++ .ref a :: rest) (hna : as.length = na) (hw : wt rest = w) (h1 : F' + 1 ≤ F) (h2 : w + (mx + 11) + Lb' ≤ Lb) (h3 : (fillL (.ref a :: as)).length ≤ mx)
    (k : Wp W ro F' Lb' z b rt 0 (entryL (.ref a :: as) mx) [] (L, mi, ml, mr) fun v M' => Wp W ro F Lb y code ret (pc + 3) ls (v.toList ++ rest) M' Q) : Wp W ro F Lb y code ret pc ls st (L, mi, ml, mr) Q := by
  subst hs hna
  refine Wp.c hd rfl rfl rfl ?_ hw h1 h2 h3 k
  have e1 : (as.reverse ++ Value.ref a :: rest).drop as.length = .ref a :: rest := by rw [← List.length_reverse (as := as), List.drop_left]
  have e2 : (as.reverse ++ Value.ref a :: rest).take as.length = as.reverse := by rw [← List.length_reverse (as := as), List.take_left]
  simp only [callOf, if_true, hc, e1, e2, hl, List.length_reverse, and_self, List.reverse_reverse]
theorem Wp.callV {i na mx a n F' Lb' w : Nat} {z : MethodName} {b : ByteArray} {rt : Option FieldType} {as rest : List Value} (hd : decode code pc = .ok (.invokevirtual i, 3)) (hc0 : callAt W y.cls i 1 = none) (hc : callAt W y.cls i 0 = some (z, na, b, mx, rt)) (hl : L[a]? = some (0, z.cls, n)) (hs : st = as.reverse ++ .ref a :: rest) (hna : as.length = na) (hw : wt rest = w) (h1 : F' + 1 ≤ F) (h2 : w + (mx + 11) + Lb' ≤ Lb) (h3 : (fillL (.ref a :: as)).length ≤ mx)
    (k : Wp W ro F' Lb' z b rt 0 (entryL (.ref a :: as) mx) [] (L, mi, ml, mr) fun v M' => Wp W ro F Lb y code ret (pc + 3) ls (v.toList ++ rest) M' Q) : Wp W ro F Lb y code ret pc ls st (L, mi, ml, mr) Q := by
  subst hs hna
  refine Wp.c hd rfl rfl rfl ?_ hw h1 h2 h3 k
  have e1 : (as.reverse ++ Value.ref a :: rest).drop as.length = .ref a :: rest := by rw [← List.length_reverse (as := as), List.drop_left]
  have e2 : (as.reverse ++ Value.ref a :: rest).take as.length = as.reverse := by rw [← List.length_reverse (as := as), List.take_left]
  simp only [callOf, if_true, hc0, hc, e1, e2, hl, List.length_reverse, and_self, List.reverse_reverse]
theorem Wp.callI {i na mx a F' Lb' w : Nat} {z : MethodName} {b : ByteArray} {rt : Option FieldType} {as rest : List Value} (hd : decode code pc = .ok (.invokespecial i, 3)) (ho : objInitAt W y.cls i = false) (hc : callAt W y.cls i 2 = some (z, na, b, mx, rt)) (hs : st = as.reverse ++ .ref a :: rest) (hna : as.length = na) (hw : wt rest = w) (h1 : F' + 1 ≤ F) (h2 : w + (mx + 11) + Lb' ≤ Lb) (h3 : (fillL (.ref a :: as)).length ≤ mx)
    (k : Wp W ro F' Lb' z b rt 0 (entryL (.ref a :: as) mx) [] M fun v M' => Wp W ro F Lb y code ret (pc + 3) ls (v.toList ++ rest) M' Q) : Wp W ro F Lb y code ret pc ls st M Q := by
  subst hs hna
  refine Wp.c hd ?_ rfl rfl ?_ hw h1 h2 h3 k
  · have e : ∀ s' : List Value, execP W F Lb y (.invokespecial i) pc 3 ls s' M = none := fun s' => by
      simp only [execP, ho]
      split
      · rw [if_neg]; intro q; cases q.1
      · rfl
    exact e _
  have e1 : (as.reverse ++ Value.ref a :: rest).drop as.length = .ref a :: rest := by rw [← List.length_reverse (as := as), List.drop_left]
  have e2 : (as.reverse ++ Value.ref a :: rest).take as.length = as.reverse := by rw [← List.length_reverse (as := as), List.take_left]
  simp only [callOf, if_true, hc, e1, e2, List.length_reverse, List.reverse_reverse]
theorem Wp.callS {i na mx F' Lb' w : Nat} {z : MethodName} {b : ByteArray} {rt : Option FieldType} {as rest : List Value} (hd : decode code pc = .ok (.invokestatic i, 3)) (hc : callAt W y.cls i 3 = some (z, na, b, mx, rt)) (hs : st = as.reverse ++ rest) (hna : as.length = na) (hw : wt rest = w) (h1 : F' + 1 ≤ F) (h2 : w + (mx + 11) + Lb' ≤ Lb) (h3 : (fillL as).length ≤ mx)
    (k : Wp W ro F' Lb' z b rt 0 (entryL as mx) [] M fun v M' => Wp W ro F Lb y code ret (pc + 3) ls (v.toList ++ rest) M' Q) : Wp W ro F Lb y code ret pc ls st M Q := by
  subst hs hna
  refine Wp.c hd rfl rfl rfl ?_ hw h1 h2 h3 k
  have e1 : (as.reverse ++ rest).drop as.length = rest := by rw [← List.length_reverse (as := as), List.drop_left]
  have e2 : (as.reverse ++ rest).take as.length = as.reverse := by rw [← List.length_reverse (as := as), List.take_left]
  simp only [callOf, if_true, hc, e1, e2, List.length_reverse, List.reverse_reverse]
theorem Wp.top {a : Int32} {r : List Value} (v : Int32) (h : a = v) (k : Wp W ro F Lb y code ret pc ls (.int v :: r) M Q) : Wp W ro F Lb y code ret pc ls (.int a :: r) M Q := by subst h; exact k
theorem Wp.topJ {a : Int64} {r : List Value} (v : Int64) (h : a = v) (k : Wp W ro F Lb y code ret pc ls (.long v :: r) M Q) : Wp W ro F Lb y code ret pc ls (.long a :: r) M Q := by subst h; exact k
theorem Wp.icmpT {cd : ClassFile.Cond} {o : Int} {t : Nat} {a b : Int32} {r : List Value} (hd : decode code pc = .ok (.if_icmp cd o, 3)) (hj : jump pc o = some t) (h : if_icmp.holds cd a b = true) (k : Wp W ro F Lb y code ret t ls r M Q) : Wp W ro F Lb y code ret pc ls (.int b :: .int a :: r) M Q :=
  Wp.icmp hd hj (fun _ => k) (fun q => by rw [h] at q; cases q)
theorem Wp.icmpF {cd : ClassFile.Cond} {o : Int} {t : Nat} {a b : Int32} {r : List Value} (hd : decode code pc = .ok (.if_icmp cd o, 3)) (hj : jump pc o = some t) (h : if_icmp.holds cd a b = false) (k : Wp W ro F Lb y code ret (pc + 3) ls r M Q) : Wp W ro F Lb y code ret pc ls (.int b :: .int a :: r) M Q :=
  Wp.icmp hd hj (fun q => by rw [h] at q; cases q) (fun _ => k)
theorem Wp.ifT {cd : ClassFile.Cond} {o : Int} {t : Nat} {a : Int32} {r : List Value} (hd : decode code pc = .ok (.ifCond cd o, 3)) (hj : jump pc o = some t) (h : if_icmp.holds cd a 0 = true) (k : Wp W ro F Lb y code ret t ls r M Q) : Wp W ro F Lb y code ret pc ls (.int a :: r) M Q :=
  Wp.if0 hd hj (fun _ => k) (fun q => by rw [h] at q; cases q)
theorem Wp.ifF {cd : ClassFile.Cond} {o : Int} {t : Nat} {a : Int32} {r : List Value} (hd : decode code pc = .ok (.ifCond cd o, 3)) (hj : jump pc o = some t) (h : if_icmp.holds cd a 0 = false) (k : Wp W ro F Lb y code ret (pc + 3) ls r M Q) : Wp W ro F Lb y code ret pc ls (.int a :: r) M Q :=
  Wp.if0 hd hj (fun q => by rw [h] at q; cases q) (fun _ => k)
theorem Wp.idiv {a b : Int32} {r : List Value} (hd : decode code pc = .ok (.idiv, 1)) (hb : ¬ b = 0) (k : Wp W ro F Lb y code ret (pc + 1) ls (.int (a / b) :: r) M Q) : Wp W ro F Lb y code ret pc ls (.int b :: .int a :: r) M Q :=
  Wp.p hd rfl (by simp only [execP]; rw [if_neg hb]) k
theorem Wp.irem {a b : Int32} {r : List Value} (hd : decode code pc = .ok (.irem, 1)) (hb : ¬ b = 0) (k : Wp W ro F Lb y code ret (pc + 1) ls (.int (a - (a / b) * b) :: r) M Q) : Wp W ro F Lb y code ret pc ls (.int b :: .int a :: r) M Q :=
  Wp.p hd rfl (by simp only [execP]; rw [if_neg hb]) k
theorem Wp.ldiv {a b : Int64} {r : List Value} (hd : decode code pc = .ok (.ldiv, 1)) (hb : ¬ b = 0) (k : Wp W ro F Lb y code ret (pc + 1) ls (.long (a / b) :: r) M Q) : Wp W ro F Lb y code ret pc ls (.long b :: .long a :: r) M Q :=
  Wp.p hd rfl (by simp only [execP]; rw [if_neg hb]) k
theorem Wp.lrem {a b : Int64} {r : List Value} (hd : decode code pc = .ok (.lrem, 1)) (hb : ¬ b = 0) (k : Wp W ro F Lb y code ret (pc + 1) ls (.long (a - (a / b) * b) :: r) M Q) : Wp W ro F Lb y code ret pc ls (.long b :: .long a :: r) M Q :=
  Wp.p hd rfl (by simp only [execP]; rw [if_neg hb]) k
theorem storeL_one {l l' : List Slot} {i : Nat} {o : Slot} {v : Value} (h : l[i]? = some o) (ho : One o) (hv : v.category = 1) (hs : setL l i (.val v) = some l') : storeL l i v = some l' := by
  unfold storeL
  rw [h]
  have e : storeSelfL l i v = some l' := by
    unfold storeSelfL
    rw [hs]
    simp [hv]
  rcases ho with rfl | ⟨w, rfl, hw⟩
  · exact e
  · simp [hw, e]
theorem Wp.istoreO {ins : Instr} {i len : Nat} {o : Slot} {x : Int32} {l' : List Slot} {r : List Value} (hd : decode code pc = .ok (ins, len)) (hi : (ins = .istore i ∧ len = 2) ∨ (∃ n : Fin 4, ins = .istore_n n ∧ n.val = i ∧ len = 1)) (h : ls[i]? = some o) (ho : One o) (hs : setL ls i (.val (.int x)) = some l') (k : Wp W ro F Lb y code ret (pc + len) l' r M Q) : Wp W ro F Lb y code ret pc ls (.int x :: r) M Q := by
  rcases hi with ⟨rfl, rfl⟩ | ⟨n, rfl, rfl, rfl⟩
  · exact Wp.p hd rfl (by simp only [execP, storeL_one h ho (v := .int x) rfl hs]) k
  · exact Wp.p hd rfl (by simp only [execP, storeL_one h ho (v := .int x) rfl hs]) k
def OneJ (a b : Slot) : Prop := (a = .unset ∧ b = .unset) ∨ (∃ w, a = .val (.long w) ∧ b = .second)
theorem storeL_oneJ {l l1 l2 : List Slot} {i : Nat} {a b : Slot} {x : Int64} (h : l[i]? = some a) (h' : l[i + 1]? = some b) (ho : OneJ a b) (h1 : setL l i (.val (.long x)) = some l1) (h2 : setL l1 (i + 1) .second = some l2) : storeL l i (.long x) = some l2 := by
  obtain ⟨hi, rfl⟩ := setL_some h1
  obtain ⟨hi2, rfl⟩ := setL_some h2
  have hlen : i + 1 < l.length := by simpa using hi2
  have set_ok : ∀ (l : List Slot) (j : Nat) (y : Slot), j < l.length → setL l j y = some (l.set j y) := fun l => by
    induction l with
    | nil => intro j y hj; simp at hj
    | cons q t ih =>
      intro j y hj
      cases j with
      | zero => rfl
      | succ j => simp only [setL, ih j y (by simpa using hj), List.set_cons_succ]
  rcases ho with ⟨rfl, rfl⟩ | ⟨w, rfl, rfl⟩
  · have e : (l.set i (.val (.long x)))[i + 1]? = some .unset := by rw [List.getElem?_set_ne (by omega)]; exact h'
    simp only [storeL, h, storeSelfL, h1, Value.category, if_true, e]
    exact h2
  · have e0 : setL l (i + 1) .unset = some (l.set (i + 1) .unset) := set_ok _ _ _ hlen
    have e1 : setL (l.set (i + 1) .unset) i (.val (.long x)) = some ((l.set (i + 1) .unset).set i (.val (.long x))) := set_ok _ _ _ (by simpa using hi)
    have e2 : ((l.set (i + 1) .unset).set i (.val (.long x)))[i + 1]? = some .unset := by rw [List.getElem?_set_ne (by omega)]; simp [hlen]
    have e3 : setL ((l.set (i + 1) .unset).set i (.val (.long x))) (i + 1) .second = some (((l.set (i + 1) .unset).set i (.val (.long x))).set (i + 1) .second) := set_ok _ _ _ (by simpa using hlen)
    simp only [storeL, h, storeSelfL, Value.category, if_true, e0, e1, e2, e3]
    congr 1
    apply List.ext_getElem?
    intro j
    by_cases q1 : j = i + 1
    · subst q1; simp [hlen]
    · by_cases q2 : j = i
      · subst q2
        have z1 : (((l.set (j + 1) Slot.unset).set j (.val (.long x))).set (j + 1) .second)[j]? = some (.val (.long x)) := by
          rw [List.getElem?_set_ne (by omega)]; exact List.getElem?_set_self (by simpa using hi)
        have z2 : ((l.set j (Slot.val (.long x))).set (j + 1) .second)[j]? = some (.val (.long x)) := by
          rw [List.getElem?_set_ne (by omega)]; exact List.getElem?_set_self hi
        rw [z1, z2]
      · rw [List.getElem?_set_ne (by omega), List.getElem?_set_ne (by omega), List.getElem?_set_ne (by omega), List.getElem?_set_ne (by omega), List.getElem?_set_ne (by omega)]
theorem Wp.lstoreO {ins : Instr} {i len : Nat} {a b : Slot} {x : Int64} {l1 l2 : List Slot} {r : List Value} (hd : decode code pc = .ok (ins, len)) (hi : (ins = .lstore i ∧ len = 2) ∨ (∃ n : Fin 4, ins = .lstore_n n ∧ n.val = i ∧ len = 1)) (h : ls[i]? = some a) (h' : ls[i + 1]? = some b) (ho : OneJ a b) (h1 : setL ls i (.val (.long x)) = some l1) (h2 : setL l1 (i + 1) .second = some l2) (k : Wp W ro F Lb y code ret (pc + len) l2 r M Q) : Wp W ro F Lb y code ret pc ls (.long x :: r) M Q := by
  rcases hi with ⟨rfl, rfl⟩ | ⟨n, rfl, rfl, rfl⟩
  · exact Wp.p hd rfl (by simp only [execP, storeL_oneJ h h' ho h1 h2]) k
  · exact Wp.p hd rfl (by simp only [execP, storeL_oneJ h h' ho h1 h2]) k
theorem Wp.tswD {dflt low high : Int} {offs : Array Int} {len t : Nat} {i : Int32} {r : List Value} (hd : decode code pc = .ok (.tableswitch dflt low high offs, len)) (hout : i.toInt < low ∨ i.toInt > high) (hj : jump pc dflt = some t) (k : Wp W ro F Lb y code ret t ls r M Q) : Wp W ro F Lb y code ret pc ls (.int i :: r) M Q :=
  Wp.p hd rfl (by simp only [execP]; rw [if_pos hout, hj]) k
theorem Wp.retV (hd : decode code pc = .ok (.return_, 1)) (q : Q none M) : Wp W ro F Lb y code none pc ls [] M Q := Wp.r hd rfl rfl rfl q
theorem Wp.retI {x : Int32} (hd : decode code pc = .ok (.ireturn, 1)) (q : Q (some (.int x)) M) : Wp W ro F Lb y code (some .int) pc ls [.int x] M Q := Wp.r hd rfl rfl rfl q
theorem Wp.retJ {x : Int64} (hd : decode code pc = .ok (.lreturn, 1)) (q : Q (some (.long x)) M) : Wp W ro F Lb y code (some .long) pc ls [.long x] M Q := Wp.r hd rfl rfl rfl q
theorem Wp.retZ {x : Int32} (v : Int32) (hd : decode code pc = .ok (.ireturn, 1)) (hv : x &&& 1 = v) (q : Q (some (.int v)) M) : Wp W ro F Lb y code (some .boolean) pc ls [.int x] M Q := by
  subst hv; exact Wp.r hd rfl rfl rfl q
end Rules
end Jvm.OwnEv
namespace Jvm.OwnEv
open Sem ClassFile Op Lib Jvm.Stand Jvm.Free Jvm.LawKit Jvm.RoadKit
/-! PART 7: from a law's run to its claim -/
theorem law_run {l : Launch} {W : List Jvm.Cond} {x : MethodName} {code : ByteArray} {maxL : Nat} {ret : Option FieldType} {R : Room} {as : List Value} {s : State} {a0 : Array Value} (hw : ∀ d ∈ W, d.before a0 s = true) {ro : Nat} {M0 : EMem} {ρ : Nat → Addr} (hρ : ∀ a b, ρ a = ρ b → a = b) (hρn : ∀ a, ro ≤ a → ρ a = s.heap.size + (a - ro))
    (Rl : Rel s W ρ ro s.heap.size s.heap M0) (hp : plainName x.cls = true) (hfl : (fillL as).length ≤ maxL)
    (h : Wp W ro R.frames R.locals x code ret 0 (entryL as maxL) [] M0 fun v M' => v = some (.int 1) ∧ M'.1.length - M0.1.length ≤ R.cells ∧ szL M'.1 - szL M0.1 ≤ R.slots) (ws : List Jvm.Cond) :
    MetFree l x (head1 (Jvm.Cond.code x code maxL ret :: ws) R) (fun a U => a = (as.map (conc ρ)).toArray ∧ s.Warmed39 U.vm ∧ U.heap = s.heap) (fun _ _ _ _ _ => True)
      (fun _ U o U' => ∃ v' L, o = .returned v' ∧ (v' = some (.int 1) ∧ Fr s.heap.size L) ∧ FrameEnd U o U' L R.cells R.slots) := by
  obtain ⟨n, v, M', h1, rfl, h3, h4⟩ := h
  have M1 := met_of (run_good (l := l) hw hρ hρn n) h1 hfl hp Rl (R := R) (Nat.le_refl _) (Nat.le_refl _) h3 h4 ws
  intro p e ha hc hk s' m args below hf happ hP hK
  obtain ⟨n', o, q1, q2, q3, v', L, q4, ⟨q5, q6, q7⟩, q8⟩ := M1 p e ha hc hk s' m args below hf happ hP hK
  exact ⟨n', o, q1, q2, q3, v', L, q4, ⟨q5, q7⟩, q8.1, q8.2.1, q8.2.2.mono h3 h4⟩
/-- the memory ahead of a law of ints -/
abbrev mem0 : EMem := ([], fun _ _ => 0, fun _ _ => 0, fun _ _ => .null)
theorem rel0 (s : State) (W : List Jvm.Cond) : Rel s W (fun a => s.heap.size + a) 0 s.heap.size s.heap mem0 :=
  ⟨rfl, Nat.le_refl _, fun a c h => by simp at h, fun _ _ _ => ⟨rfl, rfl, rfl⟩⟩
/-- the memory ahead of a law that is handed an array of ints -/
abbrev mem1 (n : Nat) (f : Nat → Int32) : EMem := ([(1, "", n)], fun a k => if a = 0 then f k else 0, fun _ _ => 0, fun _ _ => .null)
def rho1 (sa n0 : Nat) : Nat → Nat := fun a => if a = 0 then sa else n0 + (a - 1)
theorem rho1_inj {sa n0 : Nat} (h : sa < n0) (a b : Nat) (e : rho1 sa n0 a = rho1 sa n0 b) : a = b := by
  unfold rho1 at e
  split at e <;> split at e <;> omega
theorem rho1_n {sa n0 : Nat} (a : Nat) (h : 1 ≤ a) : rho1 sa n0 a = n0 + (a - 1) := by
  unfold rho1
  rw [if_neg (by omega)]
theorem rel1 {s : State} (W : List Jvm.Cond) {sa : Addr} {c : Cell} {f : Nat → Int32} (A : Arr s s.heap sa c .int) (hf : ∀ k, k < c.slots.size → c.slots[k]? = some (.int (f k))) : Rel s W (rho1 sa s.heap.size) 1 s.heap.size s.heap (mem1 c.slots.size f) := by
  refine ⟨rfl, Nat.le_refl _, fun a cc h => ?_, fun a h k => ⟨?_, rfl, rfl⟩⟩
  · cases a with
    | zero =>
      simp at h
      subst h
      exact ⟨fun q => (by cases q), fun _ => ⟨c, A, rfl, fun k hk => by simpa using hf k hk⟩, fun q => (by cases q), fun q => (by cases q)⟩
    | succ a => simp at h
  · have h' : 1 ≤ a := h
    exact if_neg (by omega)
theorem script_start {s : State} {a : Addr} {c : Cell} (hf : Fit s) (A : Arr s s.heap a c .int) (hn : c.slots.size < 2 ^ 31) : ∃ f : Nat → Int32, ∀ k, k < c.slots.size → c.slots[k]? = some (.int (f k)) := by
  refine ⟨fun k => atv c k.toInt32, fun k hk => ?_⟩
  obtain ⟨n, -, S⟩ := Scr.start hf A hn
  have h1 := idx_in hk hn
  have e : k.toInt32.toNatClampNeg = k := by
    have q : k.toInt32.toInt = k := len_toInt (by omega)
    simp only [Int32.toNatClampNeg, q]; rfl
  have h2 := S.2.2.2 k.toInt32 h1
  rw [e] at h2
  exact h2
theorem script_len {s : State} {a : Addr} {c : Cell} (A : Arr s s.heap a c .int) (h : (Jvm.Cond.le (Term.length (Term.arg 0)) (Term.int 260)).value #[Value.ref a] s none s [] = some true) : c.slots.size ≤ 260 := by
  have e := A.fin (Vm.Alike.refl _)
  by_cases hn : c.slots.size < 2 ^ 31
  · have el : (Term.length (Term.arg 0)).eval #[Value.ref a] s none [] s = some (.int c.slots.size.toInt32) := by
      simp [Term.eval, e, hn]
    have q := gotT (Cond.le_ints el (Term.int_eval 260)) h
    rw [Int32.le_iff_toInt_le, len_toInt hn] at q
    simp at q
    omega
  · have el : (Term.length (Term.arg 0)).eval #[Value.ref a] s none [] s = none := by
      simp [Term.eval, e, hn]
    simp [Cond.value, el] at h
end Jvm.OwnEv
namespace Jvm.OwnEv
open Sem ClassFile Op Lib Jvm.Stand Jvm.Free Jvm.LawKit Jvm.RoadKit
/-! PART 8: small facts on words and ints -/
theorem codeLk_at {y : MethodName} {b : ByteArray} {n : Nat} {r : Option FieldType} : ∀ {W : List Jvm.Cond} {i : Nat}, W[i]? = some (.code y b n r) → codeLk y (W.take i) = none → codeLk y W = some (b, n, r)
  | [], i, h, _ => by simp at h
  | w :: t, 0, h, _ => by
    simp at h
    subst h
    have : meq y y = true := by simp [meq]
    simp [codeLk, this]
  | w :: t, i + 1, h, h2 => by
    rw [List.getElem?_cons_succ] at h
    rw [List.take_succ_cons] at h2
    have key : codeLk y (t.take i) = none ∧ codeLk y (w :: t) = codeLk y t := by
      unfold codeLk at h2
      split at h2
      · rename_i heq; cases heq
      · rename_i heq
        cases heq
        split at h2
        · cases h2
        · rename_i hm
          exact ⟨h2, by rw [codeLk, if_neg hm]⟩
      · rename_i hno heq
        cases heq
        refine ⟨h2, ?_⟩
        rw [codeLk]
        exact hno
    rw [key.2]
    exact codeLk_at h key.1
theorem callAt_of {W : List Jvm.Cond} {own : String} {idx kd : Nat} {z : MethodName} {b : ByteArray} {n na : Nat} {r : Option FieldType} {sig : MethodDescriptor} (hm : methodLk own idx W = some z) (hc : codeLk z W = some (b, n, r)) (hp : parseMethodDescriptor z.desc = some sig)
    (h : hasInit z.cls W = true ∧ plainName z.cls = true ∧ z.cls ≠ "java/lang/invoke/MethodHandle" ∧ z.cls ≠ "java/lang/invoke/VarHandle" ∧ ((kd = 0 ∧ hasDecl z W = true ∧ hasSel z W = true ∧ hasInst z W = true) ∨ (kd = 1 ∧ hasPriv z W = true ∧ hasInst z W = true ∧ (instLk z.cls W).isSome = true) ∨ (kd = 2 ∧ z.name = "<init>" ∧ hasInst z W = true ∧ r = none) ∨ (kd = 3 ∧ hasStat z W = true)))
    (hn : sig.parameters.length = na) : callAt W own idx kd = some (z, na, b, n, r) := by
  subst hn
  unfold callAt
  rw [hm]
  simp only
  rw [hc, hp]
  simp only
  rw [if_pos h]
theorem callAt_pub {W : List Jvm.Cond} {own : String} {idx : Nat} {z : MethodName} (hm : methodLk own idx W = some z) (hp : hasPriv z W = false) : callAt W own idx 1 = none := by
  unfold callAt
  rw [hm]
  simp only
  split
  · rw [if_neg]
    rintro ⟨-, -, -, -, h⟩
    rcases h with h | h | h | h
    · cases h.1
    · rw [hp] at h; cases h.2.1
    · cases h.1
    · cases h.1
  · rfl
theorem inb_iff {j : Int32} {n : Nat} : inb j n = true ↔ 0 ≤ j.toInt ∧ j.toInt < n := by
  simp only [inb, Bool.and_eq_true, decide_eq_true_eq, Int32.lt_iff_toInt_lt, Int32.toNatClampNeg, Int32.reduceToInt]
  omega
theorem inb_of {j : Int32} {n : Nat} (h : 0 ≤ j.toInt ∧ j.toInt < n) : inb j n = true := inb_iff.mpr h
theorem inb_lt {j : Int32} {n : Nat} (m : Int32) (h1 : ¬ j < 0) (h2 : j < m) (hm : m.toInt = n) : inb j n = true := by
  rw [inb_iff]
  rw [Int32.lt_iff_toInt_lt] at h1 h2
  simp at h1
  omega
theorem clamp_inj {a b : Int32} (ha : ¬ a < 0) (hb : ¬ b < 0) (h : a.toNatClampNeg = b.toNatClampNeg) : a = b := by
  rw [Int32.lt_iff_toInt_lt] at ha hb
  simp at ha hb
  simp only [Int32.toNatClampNeg] at h
  apply Int32.toInt_inj.mp
  omega
theorem clamp_lt {j : Int32} {n : Nat} (m : Int32) (h1 : ¬ j < 0) (h2 : j < m) (hm : m.toInt = n) : j.toNatClampNeg < n := by
  rw [Int32.lt_iff_toInt_lt] at h1 h2
  simp at h1
  simp only [Int32.toNatClampNeg]
  omega
theorem up_at {α : Type} (f : Nat → Nat → α) (a k : Nat) (v : α) (x y : Nat) : up f a k v x y = if x = a ∧ y = k then v else f x y := rfl
theorem succ_int {x n : Int32} (h : x < n) : (x + 1).toInt = x.toInt + 1 := by
  rw [Int32.lt_iff_toInt_lt] at h
  have h1 := c_iadd x 1
  have h2 := rng32 (x + 1)
  have h3 := rng32 x
  have h4 := rng32 n
  have h5 : (1 : Int32).toInt = 1 := by decide
  omega
theorem succ_nn {x n : Int32} (hx : ¬ x < 0) (h : x < n) : ¬ x + 1 < 0 := by
  have hs := succ_int h
  rw [Int32.lt_iff_toInt_lt] at hx ⊢
  have z : (0 : Int32).toInt = 0 := by decide
  rw [z] at hx ⊢
  omega
theorem succ_dec {x n : Int32} (h : x < n) : (n.toInt - (x + 1).toInt).toNat < (n.toInt - x.toInt).toNat := by
  have hs := succ_int h
  rw [Int32.lt_iff_toInt_lt] at h
  omega
theorem lt_of_succ {a x n : Int32} (h : x < n) (h2 : a < x + 1) (q : ¬ a = x) : a < x := by
  have hs := succ_int h
  rw [Int32.lt_iff_toInt_lt] at h2 ⊢
  have : a.toInt ≠ x.toInt := fun z => q (Int32.toInt_inj.mp z)
  omega
theorem pred_int {x : Int32} (hx : ¬ x < 0) : (x + -1).toInt = x.toInt - 1 := by
  have h1 := c_iadd x (-1)
  have h2 := rng32 (x + -1)
  have h3 := rng32 x
  have h5 : (-1 : Int32).toInt = -1 := by decide
  have z : (0 : Int32).toInt = 0 := by decide
  rw [Int32.lt_iff_toInt_lt, z] at hx
  omega
theorem mul_int {a b : Int32} (h1 : -2147483648 ≤ a.toInt * b.toInt) (h2 : a.toInt * b.toInt < 2147483648) : (a * b).toInt = a.toInt * b.toInt := by
  have h3 := c_imul a b
  have h4 := rng32 (a * b)
  generalize a.toInt * b.toInt = p at *
  omega
theorem add_int {a b : Int32} (h1 : -2147483648 ≤ a.toInt + b.toInt) (h2 : a.toInt + b.toInt < 2147483648) : (a + b).toInt = a.toInt + b.toInt := by
  have h3 := c_iadd a b
  have h4 := rng32 (a + b)
  omega
theorem sub_int {a b : Int32} (h1 : -2147483648 ≤ a.toInt - b.toInt) (h2 : a.toInt - b.toInt < 2147483648) : (a - b).toInt = a.toInt - b.toInt := by
  have h3 := c_isub a b
  have h4 := rng32 (a - b)
  omega
theorem nn_int {a : Int32} (h : ¬ a < 0) : 0 ≤ a.toInt := by
  rw [Int32.lt_iff_toInt_lt] at h
  have z : (0 : Int32).toInt = 0 := by decide
  rw [z] at h; omega
theorem lt_int {a b : Int32} (h : a < b) : a.toInt < b.toInt := Int32.lt_iff_toInt_lt.mp h
theorem ge_int {a b : Int32} (h : ¬ a < b) : b.toInt ≤ a.toInt := by rw [Int32.lt_iff_toInt_lt] at h; omega
/-- a place of a table of rows -/
theorem idx2 {x y w h : Int32} (hx : ¬ x < 0) (hxw : x < w) (hy : ¬ y < 0) (hyh : y < h) (hw : ¬ 16 < w) (hh : ¬ 16 < h) : (y * w + x).toInt = y.toInt * w.toInt + x.toInt ∧ 0 ≤ y.toInt * w.toInt + x.toInt ∧ y.toInt * w.toInt + x.toInt < 256 ∧ y.toInt * w.toInt + x.toInt < h.toInt * w.toInt := by
  have a1 := nn_int hx
  have a2 := nn_int hy
  have a3 := lt_int hxw
  have a4 := lt_int hyh
  have a5 := ge_int hw
  have a6 := ge_int hh
  have c16 : (16 : Int32).toInt = 16 := by decide
  rw [c16] at a5 a6
  have m1 : 0 ≤ y.toInt * w.toInt := Int.mul_nonneg a2 (by omega)
  have m2 : (y.toInt + 1) * w.toInt ≤ h.toInt * w.toInt := Int.mul_le_mul_of_nonneg_right (by omega) (by omega)
  have m3 : h.toInt * w.toInt ≤ 16 * w.toInt := Int.mul_le_mul_of_nonneg_right (by omega) (by omega)
  rw [Int.add_mul] at m2
  have e1 : (y * w).toInt = y.toInt * w.toInt := mul_int (by omega) (by omega)
  have e2 : (y * w + x).toInt = (y * w).toInt + x.toInt := add_int (by rw [e1]; omega) (by rw [e1]; omega)
  rw [e2, e1]
  exact ⟨rfl, by omega, by omega, by omega⟩
theorem and1 {z : Int32} (h : z = 0 ∨ z = 1) : z &&& 1 = z := by rcases h with rfl | rfl <;> decide
theorem set_same {l : List Slot} {i : Nat} {x : Slot} (h : l[i]? = some x) : l.set i x = l := by
  apply List.ext_getElem?
  intro j
  rw [List.getElem?_set]
  by_cases q : i = j
  · subst q
    have : i < l.length := by
      rcases Nat.lt_or_ge i l.length with w | w
      · exact w
      · rw [List.getElem?_eq_none w] at h; cases h
    rw [if_pos rfl, if_pos this, h]
  · rw [if_neg q]
theorem storeL_J1 {l l1 l2 : List Slot} {i : Nat} {a b : Slot} {v : Value} (h : l[i]? = some a) (h' : l[i + 1]? = some b) (ho : OneJ a b) (hv : v.category = 1) (h1 : setL l (i + 1) .unset = some l1) (h2 : setL l1 i (.val v) = some l2) : storeL l i v = some l2 := by
  have e : ∀ m, setL m i (.val v) = some l2 → storeSelfL m i v = some l2 := fun m hm => by
    unfold storeSelfL
    rw [hm]
    simp [hv]
  unfold storeL
  rw [h]
  rcases ho with ⟨rfl, rfl⟩ | ⟨w, rfl, rfl⟩
  · have q := (setL_some h1).2
    rw [set_same h'] at q
    subst q
    exact e _ h2
  · have c : (Value.long w).category = 2 := rfl
    simp only [c, if_true, h1]
    exact e _ h2
theorem storeL_J2 {l l1 l2 : List Slot} {i : Nat} {a b : Slot} {v : Value} (h : l[i]? = some a) (h' : l[i + 1]? = some b) (ho : OneJ a b) (hv : v.category = 1) (h1 : setL l i .unset = some l1) (h2 : setL l1 (i + 1) (.val v) = some l2) : storeL l (i + 1) v = some l2 := by
  have e : ∀ m, setL m (i + 1) (.val v) = some l2 → storeSelfL m (i + 1) v = some l2 := fun m hm => by
    unfold storeSelfL
    rw [hm]
    simp [hv]
  unfold storeL
  rw [h']
  rcases ho with ⟨rfl, rfl⟩ | ⟨w, rfl, rfl⟩
  · have q := (setL_some h1).2
    rw [set_same h] at q
    subst q
    exact e _ h2
  · simp only [Nat.add_sub_cancel, h1]
    exact e _ h2
theorem Wp.istoreJ1 {W : List Jvm.Cond} {ro F Lb : Nat} {y : MethodName} {code : ByteArray} {ret : Option FieldType} {pc : Nat} {ls : List Slot} {M : EMem} {Q : Option Value → EMem → Prop} {ins : Instr} {i len : Nat} {a b : Slot} {x : Int32} {l1 l2 : List Slot} {r : List Value} (hd : decode code pc = .ok (ins, len)) (hi : (ins = .istore i ∧ len = 2) ∨ (∃ n : Fin 4, ins = .istore_n n ∧ n.val = i ∧ len = 1)) (h : ls[i]? = some a) (h' : ls[i + 1]? = some b) (ho : OneJ a b) (h1 : setL ls (i + 1) .unset = some l1) (h2 : setL l1 i (.val (.int x)) = some l2)
    (k : Wp W ro F Lb y code ret (pc + len) l2 r M Q) : Wp W ro F Lb y code ret pc ls (.int x :: r) M Q := by
  rcases hi with ⟨rfl, rfl⟩ | ⟨n, rfl, rfl, rfl⟩
  · exact Wp.p hd rfl (by simp only [execP, storeL_J1 h h' ho (v := .int x) rfl h1 h2]) k
  · exact Wp.p hd rfl (by simp only [execP, storeL_J1 h h' ho (v := .int x) rfl h1 h2]) k
theorem Wp.istoreJ2 {W : List Jvm.Cond} {ro F Lb : Nat} {y : MethodName} {code : ByteArray} {ret : Option FieldType} {pc : Nat} {ls : List Slot} {M : EMem} {Q : Option Value → EMem → Prop} {ins : Instr} {i len : Nat} {a b : Slot} {x : Int32} {l1 l2 : List Slot} {r : List Value} (hd : decode code pc = .ok (ins, len)) (hi : (ins = .istore (i + 1) ∧ len = 2) ∨ (∃ n : Fin 4, ins = .istore_n n ∧ n.val = i + 1 ∧ len = 1)) (h : ls[i]? = some a) (h' : ls[i + 1]? = some b) (ho : OneJ a b) (h1 : setL ls i .unset = some l1) (h2 : setL l1 (i + 1) (.val (.int x)) = some l2)
    (k : Wp W ro F Lb y code ret (pc + len) l2 r M Q) : Wp W ro F Lb y code ret pc ls (.int x :: r) M Q := by
  rcases hi with ⟨rfl, rfl⟩ | ⟨n, rfl, e, rfl⟩
  · exact Wp.p hd rfl (by simp only [execP, storeL_J2 h h' ho (v := .int x) rfl h1 h2]) k
  · exact Wp.p hd rfl (by simp only [execP, e, storeL_J2 h h' ho (v := .int x) rfl h1 h2]) k
theorem storeL_one2 {l l1 l2 : List Slot} {i : Nat} {a b : Slot} {x : Int64} (h : l[i]? = some a) (h' : l[i + 1]? = some b) (ha : One a) (hb : One b) (h1 : setL l i (.val (.long x)) = some l1) (h2 : setL l1 (i + 1) .second = some l2) : storeL l i (.long x) = some l2 := by
  have e : storeSelfL l i (.long x) = some l2 := by
    unfold storeSelfL
    rw [h1]
    have q := (setL_some h1).2
    have e1 : l1[i + 1]? = some b := by rw [q, List.getElem?_set_ne (by omega)]; exact h'
    have c : (Value.long x).category = 2 := rfl
    simp only [c, if_true, e1]
    rcases hb with rfl | ⟨w, rfl, hw⟩
    · exact h2
    · simp only [hw]
      exact h2
  unfold storeL
  rw [h]
  rcases ha with rfl | ⟨w, rfl, hw⟩
  · exact e
  · simp only [hw]
    exact e
theorem Wp.lstoreO2 {W : List Jvm.Cond} {ro F Lb : Nat} {y : MethodName} {code : ByteArray} {ret : Option FieldType} {pc : Nat} {ls : List Slot} {M : EMem} {Q : Option Value → EMem → Prop} {ins : Instr} {i len : Nat} {a b : Slot} {x : Int64} {l1 l2 : List Slot} {r : List Value} (hd : decode code pc = .ok (ins, len)) (hi : (ins = .lstore i ∧ len = 2) ∨ (∃ n : Fin 4, ins = .lstore_n n ∧ n.val = i ∧ len = 1)) (h : ls[i]? = some a) (h' : ls[i + 1]? = some b) (ha : One a) (hb : One b) (h1 : setL ls i (.val (.long x)) = some l1) (h2 : setL l1 (i + 1) .second = some l2)
    (k : Wp W ro F Lb y code ret (pc + len) l2 r M Q) : Wp W ro F Lb y code ret pc ls (.long x :: r) M Q := by
  rcases hi with ⟨rfl, rfl⟩ | ⟨n, rfl, rfl, rfl⟩
  · exact Wp.p hd rfl (by simp only [execP, storeL_one2 h h' ha hb h1 h2]) k
  · exact Wp.p hd rfl (by simp only [execP, storeL_one2 h h' ha hb h1 h2]) k
end Jvm.OwnEv
namespace Jvm.Pilot.@@N@@
open Jvm Jvm.ClassFile Sem Op Lib Jvm.Free Jvm.Stand Jvm.LawKit Jvm.RoadKit Jvm.OwnEv Bundle Jvm.Pilot.@@N@@.Jvm.D
abbrev RR1 : Nat → Nat → Value := (up (up (up (up (up (up (up (up (up (up (up (fun _ _ => Value.null) 0 39 (.ref 1)) 0 41 (.ref 2)) 0 43 (.ref 3)) 0 45 (.ref 4)) 0 47 (.ref 5)) 0 50 (.ref 6)) 0 52 (.ref 7)) 0 54 (.ref 8)) 0 56 (.ref 9)) 0 58 (.ref 10)) 0 60 (.ref 11))
abbrev LL1 : ELay := [(0, "LinearHashLog", 46), (1, "", 64), (1, "", 64), (1, "", 64), (1, "", 256), (1, "", 256), (3, "", 32), (3, "", 32), (1, "", 1024), (1, "", 48), (1, "", 48), (1, "", 48)]
abbrev QL : Option Value → EMem → Prop := fun v M' => v = some (.int 1) ∧ M'.1.length - 0 ≤ room_1.cells ∧ szL M'.1 - 0 ≤ room_1.slots
theorem ql1 {mi : Nat → Nat → Int32} {ml : Nat → Nat → Int64} {v : Int32} (h : v = 1) : QL (some (.int v)) (LL1, mi, ml, RR1) := ⟨by rw [h], by show LL1.length - 0 ≤ room_1.cells; decide, by show szL LL1 - 0 ≤ room_1.slots; decide⟩
theorem d_clamp_0 : decode prog_1_method_18_code 0 = .ok (.iload_n 1, 1) := by decide +kernel
theorem d_clamp_1 : decode prog_1_method_18_code 1 = .ok (.iload_n 2, 1) := by decide +kernel
theorem d_clamp_2 : decode prog_1_method_18_code 2 = .ok (.if_icmp .ge 5, 3) := by decide +kernel
theorem d_clamp_7 : decode prog_1_method_18_code 7 = .ok (.iload_n 1, 1) := by decide +kernel
theorem d_clamp_8 : decode prog_1_method_18_code 8 = .ok (.iload_n 3, 1) := by decide +kernel
theorem d_clamp_14 : decode prog_1_method_18_code 14 = .ok (.iload_n 1, 1) := by decide +kernel
theorem d_clamp_15 : decode prog_1_method_18_code 15 = .ok (.ireturn, 1) := by decide +kernel
theorem d_clamp_12 : decode prog_1_method_18_code 12 = .ok (.iload_n 3, 1) := by decide +kernel
theorem d_clamp_13 : decode prog_1_method_18_code 13 = .ok (.ireturn, 1) := by decide +kernel
theorem d_clamp_9 : decode prog_1_method_18_code 9 = .ok (.if_icmp .le 5, 3) := by decide +kernel
theorem d_clamp_5 : decode prog_1_method_18_code 5 = .ok (.iload_n 2, 1) := by decide +kernel
theorem d_clamp_6 : decode prog_1_method_18_code 6 = .ok (.ireturn, 1) := by decide +kernel
abbrev W_clamp (pc : Nat) (ls : List Slot) (st : List Value) (M : EMem) (Q : Option Value → EMem → Prop) : Prop := Wp tables_1 0 0 0 (⟨"LinearHashLog", "clamp", "(III)I"⟩ : MethodName) prog_1_method_18_code (some .int) pc ls st M Q
theorem d_bucketCount_0 : decode prog_1_method_12_code 0 = .ok (.aload_n 0, 1) := by decide +kernel
theorem d_bucketCount_1 : decode prog_1_method_12_code 1 = .ok (.getfield 103, 3) := by decide +kernel
theorem fa_c103 : fieldAt tables_1 "LinearHashLog" 103 = some ("LinearHashLog", 88, 1, false) := by decide +kernel
theorem d_bucketCount_4 : decode prog_1_method_12_code 4 = .ok (.iconst 2, 1) := by decide +kernel
theorem d_bucketCount_5 : decode prog_1_method_12_code 5 = .ok (.if_icmp .ne 5, 3) := by decide +kernel
theorem d_bucketCount_10 : decode prog_1_method_12_code 10 = .ok (.aload_n 0, 1) := by decide +kernel
theorem d_bucketCount_11 : decode prog_1_method_12_code 11 = .ok (.getfield 221, 3) := by decide +kernel
theorem fa_c221 : fieldAt tables_1 "LinearHashLog" 221 = some ("LinearHashLog", 114, 1, false) := by decide +kernel
theorem d_bucketCount_14 : decode prog_1_method_12_code 14 = .ok (.ireturn, 1) := by decide +kernel
theorem d_bucketCount_8 : decode prog_1_method_12_code 8 = .ok (.iconst (-1), 1) := by decide +kernel
theorem d_bucketCount_9 : decode prog_1_method_12_code 9 = .ok (.ireturn, 1) := by decide +kernel
abbrev W_bucketCount (pc : Nat) (ls : List Slot) (st : List Value) (M : EMem) (Q : Option Value → EMem → Prop) : Prop := Wp tables_1 0 0 0 (⟨"LinearHashLog", "bucketCount", "()I"⟩ : MethodName) prog_1_method_12_code (some .int) pc ls st M Q
theorem d_size_0 : decode prog_1_method_11_code 0 = .ok (.aload_n 0, 1) := by decide +kernel
theorem d_size_1 : decode prog_1_method_11_code 1 = .ok (.getfield 103, 3) := by decide +kernel
theorem d_size_4 : decode prog_1_method_11_code 4 = .ok (.iconst 2, 1) := by decide +kernel
theorem d_size_5 : decode prog_1_method_11_code 5 = .ok (.if_icmp .ne 5, 3) := by decide +kernel
theorem d_size_10 : decode prog_1_method_11_code 10 = .ok (.aload_n 0, 1) := by decide +kernel
theorem d_size_11 : decode prog_1_method_11_code 11 = .ok (.getfield 141, 3) := by decide +kernel
theorem fa_c141 : fieldAt tables_1 "LinearHashLog" 141 = some ("LinearHashLog", 154, 1, false) := by decide +kernel
theorem d_size_14 : decode prog_1_method_11_code 14 = .ok (.ireturn, 1) := by decide +kernel
theorem d_size_8 : decode prog_1_method_11_code 8 = .ok (.iconst (-1), 1) := by decide +kernel
theorem d_size_9 : decode prog_1_method_11_code 9 = .ok (.ireturn, 1) := by decide +kernel
abbrev W_size (pc : Nat) (ls : List Slot) (st : List Value) (M : EMem) (Q : Option Value → EMem → Prop) : Prop := Wp tables_1 0 0 0 (⟨"LinearHashLog", "size", "()I"⟩ : MethodName) prog_1_method_11_code (some .int) pc ls st M Q
theorem d_writesUsed_0 : decode prog_1_method_17_code 0 = .ok (.aload_n 0, 1) := by decide +kernel
theorem d_writesUsed_1 : decode prog_1_method_17_code 1 = .ok (.getfield 103, 3) := by decide +kernel
theorem d_writesUsed_4 : decode prog_1_method_17_code 4 = .ok (.iconst 1, 1) := by decide +kernel
theorem d_writesUsed_5 : decode prog_1_method_17_code 5 = .ok (.if_icmp .eq 5, 3) := by decide +kernel
theorem d_writesUsed_10 : decode prog_1_method_17_code 10 = .ok (.aload_n 0, 1) := by decide +kernel
theorem d_writesUsed_11 : decode prog_1_method_17_code 11 = .ok (.getfield 113, 3) := by decide +kernel
theorem fa_c113 : fieldAt tables_1 "LinearHashLog" 113 = some ("LinearHashLog", 94, 1, false) := by decide +kernel
theorem d_writesUsed_14 : decode prog_1_method_17_code 14 = .ok (.ireturn, 1) := by decide +kernel
theorem d_writesUsed_8 : decode prog_1_method_17_code 8 = .ok (.iconst 0, 1) := by decide +kernel
theorem d_writesUsed_9 : decode prog_1_method_17_code 9 = .ok (.ireturn, 1) := by decide +kernel
abbrev W_writesUsed (pc : Nat) (ls : List Slot) (st : List Value) (M : EMem) (Q : Option Value → EMem → Prop) : Prop := Wp tables_1 0 0 0 (⟨"LinearHashLog", "writesUsed", "()I"⟩ : MethodName) prog_1_method_17_code (some .int) pc ls st M Q
theorem d_clearImage_0 : decode prog_1_method_47_code 0 = .ok (.iload_n 1, 1) := by decide +kernel
theorem d_clearImage_1 : decode prog_1_method_47_code 1 = .ok (.ifCond .lt 9, 3) := by decide +kernel
theorem d_clearImage_10 : decode prog_1_method_47_code 10 = .ok (.return_, 1) := by decide +kernel
theorem d_clearImage_4 : decode prog_1_method_47_code 4 = .ok (.iload_n 1, 1) := by decide +kernel
theorem d_clearImage_5 : decode prog_1_method_47_code 5 = .ok (.bipush 64, 2) := by decide +kernel
theorem d_clearImage_7 : decode prog_1_method_47_code 7 = .ok (.if_icmp .lt 4, 3) := by decide +kernel
theorem d_clearImage_11 : decode prog_1_method_47_code 11 = .ok (.aload_n 0, 1) := by decide +kernel
theorem d_clearImage_12 : decode prog_1_method_47_code 12 = .ok (.getfield 52, 3) := by decide +kernel
theorem fa_c52 : fieldAt tables_1 "LinearHashLog" 52 = some ("LinearHashLog", 39, 4, true) := by decide +kernel
theorem d_clearImage_15 : decode prog_1_method_47_code 15 = .ok (.iload_n 1, 1) := by decide +kernel
theorem d_clearImage_16 : decode prog_1_method_47_code 16 = .ok (.iconst 0, 1) := by decide +kernel
theorem d_clearImage_17 : decode prog_1_method_47_code 17 = .ok (.iastore, 1) := by decide +kernel
theorem d_clearImage_18 : decode prog_1_method_47_code 18 = .ok (.aload_n 0, 1) := by decide +kernel
theorem d_clearImage_19 : decode prog_1_method_47_code 19 = .ok (.getfield 56, 3) := by decide +kernel
theorem fa_c56 : fieldAt tables_1 "LinearHashLog" 56 = some ("LinearHashLog", 41, 4, true) := by decide +kernel
theorem d_clearImage_22 : decode prog_1_method_47_code 22 = .ok (.iload_n 1, 1) := by decide +kernel
theorem d_clearImage_23 : decode prog_1_method_47_code 23 = .ok (.iconst (-1), 1) := by decide +kernel
theorem d_clearImage_24 : decode prog_1_method_47_code 24 = .ok (.iastore, 1) := by decide +kernel
theorem d_clearImage_25 : decode prog_1_method_47_code 25 = .ok (.aload_n 0, 1) := by decide +kernel
theorem d_clearImage_26 : decode prog_1_method_47_code 26 = .ok (.getfield 59, 3) := by decide +kernel
theorem fa_c59 : fieldAt tables_1 "LinearHashLog" 59 = some ("LinearHashLog", 43, 4, true) := by decide +kernel
theorem d_clearImage_29 : decode prog_1_method_47_code 29 = .ok (.iload_n 1, 1) := by decide +kernel
theorem d_clearImage_30 : decode prog_1_method_47_code 30 = .ok (.iconst 0, 1) := by decide +kernel
theorem d_clearImage_31 : decode prog_1_method_47_code 31 = .ok (.iastore, 1) := by decide +kernel
theorem d_clearImage_32 : decode prog_1_method_47_code 32 = .ok (.iconst 0, 1) := by decide +kernel
theorem d_clearImage_33 : decode prog_1_method_47_code 33 = .ok (.istore_n 2, 1) := by decide +kernel
abbrev W_clearImage (pc : Nat) (ls : List Slot) (st : List Value) (M : EMem) (Q : Option Value → EMem → Prop) : Prop := Wp tables_1 0 0 0 (⟨"LinearHashLog", "clearImage", "(I)V"⟩ : MethodName) prog_1_method_47_code none pc ls st M Q
theorem d_clearImage_34 : decode prog_1_method_47_code 34 = .ok (.iload_n 2, 1) := by decide +kernel
theorem d_clearImage_35 : decode prog_1_method_47_code 35 = .ok (.iconst 4, 1) := by decide +kernel
theorem d_clearImage_36 : decode prog_1_method_47_code 36 = .ok (.if_icmp .ge 31, 3) := by decide +kernel
theorem d_clearImage_39 : decode prog_1_method_47_code 39 = .ok (.aload_n 0, 1) := by decide +kernel
theorem d_clearImage_40 : decode prog_1_method_47_code 40 = .ok (.getfield 62, 3) := by decide +kernel
theorem fa_c62 : fieldAt tables_1 "LinearHashLog" 62 = some ("LinearHashLog", 45, 4, true) := by decide +kernel
theorem d_clearImage_43 : decode prog_1_method_47_code 43 = .ok (.iload_n 1, 1) := by decide +kernel
theorem d_clearImage_44 : decode prog_1_method_47_code 44 = .ok (.iconst 4, 1) := by decide +kernel
theorem d_clearImage_45 : decode prog_1_method_47_code 45 = .ok (.imul, 1) := by decide +kernel
theorem d_clearImage_46 : decode prog_1_method_47_code 46 = .ok (.iload_n 2, 1) := by decide +kernel
theorem d_clearImage_47 : decode prog_1_method_47_code 47 = .ok (.iadd, 1) := by decide +kernel
theorem d_clearImage_48 : decode prog_1_method_47_code 48 = .ok (.iconst 0, 1) := by decide +kernel
theorem d_clearImage_67 : decode prog_1_method_47_code 67 = .ok (.return_, 1) := by decide +kernel
theorem d_clearImage_49 : decode prog_1_method_47_code 49 = .ok (.iastore, 1) := by decide +kernel
theorem d_clearImage_50 : decode prog_1_method_47_code 50 = .ok (.aload_n 0, 1) := by decide +kernel
theorem d_clearImage_51 : decode prog_1_method_47_code 51 = .ok (.getfield 65, 3) := by decide +kernel
theorem fa_c65 : fieldAt tables_1 "LinearHashLog" 65 = some ("LinearHashLog", 47, 4, true) := by decide +kernel
theorem d_clearImage_54 : decode prog_1_method_47_code 54 = .ok (.iload_n 1, 1) := by decide +kernel
theorem d_clearImage_55 : decode prog_1_method_47_code 55 = .ok (.iconst 4, 1) := by decide +kernel
theorem d_clearImage_56 : decode prog_1_method_47_code 56 = .ok (.imul, 1) := by decide +kernel
theorem d_clearImage_57 : decode prog_1_method_47_code 57 = .ok (.iload_n 2, 1) := by decide +kernel
theorem d_clearImage_58 : decode prog_1_method_47_code 58 = .ok (.iadd, 1) := by decide +kernel
theorem d_clearImage_59 : decode prog_1_method_47_code 59 = .ok (.iconst 0, 1) := by decide +kernel
theorem d_clearImage_60 : decode prog_1_method_47_code 60 = .ok (.iastore, 1) := by decide +kernel
theorem d_clearImage_61 : decode prog_1_method_47_code 61 = .ok (.iinc 2 1, 3) := by decide +kernel
theorem d_clearImage_64 : decode prog_1_method_47_code 64 = .ok (.goto (-30), 3) := by decide +kernel
theorem d_formatDisk_0 : decode prog_1_method_49_code 0 = .ok (.iconst 0, 1) := by decide +kernel
theorem d_formatDisk_1 : decode prog_1_method_49_code 1 = .ok (.istore_n 1, 1) := by decide +kernel
abbrev W_formatDisk (pc : Nat) (ls : List Slot) (st : List Value) (M : EMem) (Q : Option Value → EMem → Prop) : Prop := Wp tables_1 0 1 14 (⟨"LinearHashLog", "formatDisk", "()V"⟩ : MethodName) prog_1_method_49_code none pc ls st M Q
theorem d_formatDisk_2 : decode prog_1_method_49_code 2 = .ok (.iload_n 1, 1) := by decide +kernel
theorem d_formatDisk_3 : decode prog_1_method_49_code 3 = .ok (.bipush 64, 2) := by decide +kernel
theorem d_formatDisk_5 : decode prog_1_method_49_code 5 = .ok (.if_icmp .ge 14, 3) := by decide +kernel
theorem d_formatDisk_8 : decode prog_1_method_49_code 8 = .ok (.aload_n 0, 1) := by decide +kernel
theorem d_formatDisk_9 : decode prog_1_method_49_code 9 = .ok (.iload_n 1, 1) := by decide +kernel
theorem d_formatDisk_19 : decode prog_1_method_49_code 19 = .ok (.aload_n 0, 1) := by decide +kernel
theorem d_formatDisk_20 : decode prog_1_method_49_code 20 = .ok (.aload_n 0, 1) := by decide +kernel
theorem d_formatDisk_21 : decode prog_1_method_49_code 21 = .ok (.getfield 91, 3) := by decide +kernel
theorem fa_c91 : fieldAt tables_1 "LinearHashLog" 91 = some ("LinearHashLog", 66, 1, false) := by decide +kernel
theorem d_formatDisk_24 : decode prog_1_method_49_code 24 = .ok (.putfield 292, 3) := by decide +kernel
theorem fa_c292 : fieldAt tables_1 "LinearHashLog" 292 = some ("LinearHashLog", 80, 1, false) := by decide +kernel
theorem in_LinearHashLog : instLk "LinearHashLog" tables_1 = some 46 := by decide +kernel
theorem d_formatDisk_27 : decode prog_1_method_49_code 27 = .ok (.aload_n 0, 1) := by decide +kernel
theorem d_formatDisk_28 : decode prog_1_method_49_code 28 = .ok (.iconst 0, 1) := by decide +kernel
theorem d_formatDisk_29 : decode prog_1_method_49_code 29 = .ok (.putfield 189, 3) := by decide +kernel
theorem fa_c189 : fieldAt tables_1 "LinearHashLog" 189 = some ("LinearHashLog", 82, 1, false) := by decide +kernel
theorem d_formatDisk_32 : decode prog_1_method_49_code 32 = .ok (.aload_n 0, 1) := by decide +kernel
theorem d_formatDisk_33 : decode prog_1_method_49_code 33 = .ok (.iconst 1, 1) := by decide +kernel
theorem d_formatDisk_34 : decode prog_1_method_49_code 34 = .ok (.putfield 209, 3) := by decide +kernel
theorem fa_c209 : fieldAt tables_1 "LinearHashLog" 209 = some ("LinearHashLog", 84, 1, false) := by decide +kernel
theorem d_formatDisk_37 : decode prog_1_method_49_code 37 = .ok (.aload_n 0, 1) := by decide +kernel
theorem d_formatDisk_38 : decode prog_1_method_49_code 38 = .ok (.iconst 1, 1) := by decide +kernel
theorem d_formatDisk_39 : decode prog_1_method_49_code 39 = .ok (.putfield 195, 3) := by decide +kernel
theorem fa_c195 : fieldAt tables_1 "LinearHashLog" 195 = some ("LinearHashLog", 86, 1, false) := by decide +kernel
theorem d_formatDisk_42 : decode prog_1_method_49_code 42 = .ok (.return_, 1) := by decide +kernel
theorem d_formatDisk_10 : decode prog_1_method_49_code 10 = .ok (.invokevirtual 258, 3) := by decide +kernel
theorem ml_c258 : methodLk "LinearHashLog" 258 tables_1 = some (⟨"LinearHashLog", "clearImage", "(I)V"⟩ : MethodName) := by decide +kernel
theorem cl_clearImage : codeLk (⟨"LinearHashLog", "clearImage", "(I)V"⟩ : MethodName) tables_1 = some (prog_1_method_47_code, 3, none) := codeLk_at (i := 78) rfl (by decide +kernel)
theorem pd_clearImage : parseMethodDescriptor "(I)V" = some ⟨[.int], none⟩ := by decide +kernel
theorem cc_clearImage_1 : hasInit (⟨"LinearHashLog", "clearImage", "(I)V"⟩ : MethodName).cls tables_1 = true ∧ plainName (⟨"LinearHashLog", "clearImage", "(I)V"⟩ : MethodName).cls = true ∧ (⟨"LinearHashLog", "clearImage", "(I)V"⟩ : MethodName).cls ≠ "java/lang/invoke/MethodHandle" ∧ (⟨"LinearHashLog", "clearImage", "(I)V"⟩ : MethodName).cls ≠ "java/lang/invoke/VarHandle" ∧ (((1 : Nat) = 0 ∧ hasDecl (⟨"LinearHashLog", "clearImage", "(I)V"⟩ : MethodName) tables_1 = true ∧ hasSel (⟨"LinearHashLog", "clearImage", "(I)V"⟩ : MethodName) tables_1 = true ∧ hasInst (⟨"LinearHashLog", "clearImage", "(I)V"⟩ : MethodName) tables_1 = true) ∨ ((1 : Nat) = 1 ∧ hasPriv (⟨"LinearHashLog", "clearImage", "(I)V"⟩ : MethodName) tables_1 = true ∧ hasInst (⟨"LinearHashLog", "clearImage", "(I)V"⟩ : MethodName) tables_1 = true ∧ (instLk (⟨"LinearHashLog", "clearImage", "(I)V"⟩ : MethodName).cls tables_1).isSome = true) ∨ ((1 : Nat) = 2 ∧ (⟨"LinearHashLog", "clearImage", "(I)V"⟩ : MethodName).name = "<init>" ∧ hasInst (⟨"LinearHashLog", "clearImage", "(I)V"⟩ : MethodName) tables_1 = true ∧ (none : Option FieldType) = none) ∨ ((1 : Nat) = 3 ∧ hasStat (⟨"LinearHashLog", "clearImage", "(I)V"⟩ : MethodName) tables_1 = true)) := by decide +kernel
theorem ca_c258_1 : callAt tables_1 "LinearHashLog" 258 1 = some ((⟨"LinearHashLog", "clearImage", "(I)V"⟩ : MethodName), 1, prog_1_method_47_code, 3, none) := callAt_of ml_c258 cl_clearImage pd_clearImage cc_clearImage_1 rfl
theorem d_formatDisk_13 : decode prog_1_method_49_code 13 = .ok (.iinc 1 1, 3) := by decide +kernel
theorem d_formatDisk_16 : decode prog_1_method_49_code 16 = .ok (.goto (-14), 3) := by decide +kernel
theorem d_copyPage_0 : decode prog_1_method_48_code 0 = .ok (.iload_n 1, 1) := by decide +kernel
theorem d_copyPage_1 : decode prog_1_method_48_code 1 = .ok (.ifCond .lt 19, 3) := by decide +kernel
theorem d_copyPage_20 : decode prog_1_method_48_code 20 = .ok (.return_, 1) := by decide +kernel
theorem d_copyPage_4 : decode prog_1_method_48_code 4 = .ok (.iload_n 1, 1) := by decide +kernel
theorem d_copyPage_5 : decode prog_1_method_48_code 5 = .ok (.bipush 64, 2) := by decide +kernel
theorem d_copyPage_7 : decode prog_1_method_48_code 7 = .ok (.if_icmp .ge 13, 3) := by decide +kernel
theorem d_copyPage_10 : decode prog_1_method_48_code 10 = .ok (.iload_n 2, 1) := by decide +kernel
theorem d_copyPage_11 : decode prog_1_method_48_code 11 = .ok (.ifCond .lt 9, 3) := by decide +kernel
theorem d_copyPage_14 : decode prog_1_method_48_code 14 = .ok (.iload_n 2, 1) := by decide +kernel
theorem d_copyPage_15 : decode prog_1_method_48_code 15 = .ok (.bipush 64, 2) := by decide +kernel
theorem d_copyPage_17 : decode prog_1_method_48_code 17 = .ok (.if_icmp .lt 4, 3) := by decide +kernel
theorem d_copyPage_21 : decode prog_1_method_48_code 21 = .ok (.aload_n 0, 1) := by decide +kernel
theorem d_copyPage_22 : decode prog_1_method_48_code 22 = .ok (.getfield 52, 3) := by decide +kernel
theorem d_copyPage_25 : decode prog_1_method_48_code 25 = .ok (.iload_n 2, 1) := by decide +kernel
theorem d_copyPage_26 : decode prog_1_method_48_code 26 = .ok (.aload_n 0, 1) := by decide +kernel
theorem d_copyPage_27 : decode prog_1_method_48_code 27 = .ok (.getfield 52, 3) := by decide +kernel
theorem d_copyPage_30 : decode prog_1_method_48_code 30 = .ok (.iload_n 1, 1) := by decide +kernel
theorem d_copyPage_31 : decode prog_1_method_48_code 31 = .ok (.iaload, 1) := by decide +kernel
theorem d_copyPage_32 : decode prog_1_method_48_code 32 = .ok (.iastore, 1) := by decide +kernel
theorem d_copyPage_33 : decode prog_1_method_48_code 33 = .ok (.aload_n 0, 1) := by decide +kernel
theorem d_copyPage_34 : decode prog_1_method_48_code 34 = .ok (.getfield 56, 3) := by decide +kernel
theorem d_copyPage_37 : decode prog_1_method_48_code 37 = .ok (.iload_n 2, 1) := by decide +kernel
theorem d_copyPage_38 : decode prog_1_method_48_code 38 = .ok (.aload_n 0, 1) := by decide +kernel
theorem d_copyPage_39 : decode prog_1_method_48_code 39 = .ok (.getfield 56, 3) := by decide +kernel
theorem d_copyPage_42 : decode prog_1_method_48_code 42 = .ok (.iload_n 1, 1) := by decide +kernel
theorem d_copyPage_43 : decode prog_1_method_48_code 43 = .ok (.iaload, 1) := by decide +kernel
theorem d_copyPage_44 : decode prog_1_method_48_code 44 = .ok (.iastore, 1) := by decide +kernel
theorem d_copyPage_45 : decode prog_1_method_48_code 45 = .ok (.aload_n 0, 1) := by decide +kernel
theorem d_copyPage_46 : decode prog_1_method_48_code 46 = .ok (.getfield 59, 3) := by decide +kernel
theorem d_copyPage_49 : decode prog_1_method_48_code 49 = .ok (.iload_n 2, 1) := by decide +kernel
theorem d_copyPage_50 : decode prog_1_method_48_code 50 = .ok (.aload_n 0, 1) := by decide +kernel
theorem d_copyPage_51 : decode prog_1_method_48_code 51 = .ok (.getfield 59, 3) := by decide +kernel
theorem d_copyPage_54 : decode prog_1_method_48_code 54 = .ok (.iload_n 1, 1) := by decide +kernel
theorem d_copyPage_55 : decode prog_1_method_48_code 55 = .ok (.iaload, 1) := by decide +kernel
theorem d_copyPage_56 : decode prog_1_method_48_code 56 = .ok (.iastore, 1) := by decide +kernel
theorem d_copyPage_57 : decode prog_1_method_48_code 57 = .ok (.iconst 0, 1) := by decide +kernel
theorem d_copyPage_58 : decode prog_1_method_48_code 58 = .ok (.istore_n 3, 1) := by decide +kernel
abbrev W_copyPage (pc : Nat) (ls : List Slot) (st : List Value) (M : EMem) (Q : Option Value → EMem → Prop) : Prop := Wp tables_1 0 0 0 (⟨"LinearHashLog", "copyPage", "(II)V"⟩ : MethodName) prog_1_method_48_code none pc ls st M Q
theorem d_copyPage_59 : decode prog_1_method_48_code 59 = .ok (.iload_n 3, 1) := by decide +kernel
theorem d_copyPage_60 : decode prog_1_method_48_code 60 = .ok (.iconst 4, 1) := by decide +kernel
theorem d_copyPage_61 : decode prog_1_method_48_code 61 = .ok (.if_icmp .ge 49, 3) := by decide +kernel
theorem d_copyPage_64 : decode prog_1_method_48_code 64 = .ok (.aload_n 0, 1) := by decide +kernel
theorem d_copyPage_65 : decode prog_1_method_48_code 65 = .ok (.getfield 62, 3) := by decide +kernel
theorem d_copyPage_68 : decode prog_1_method_48_code 68 = .ok (.iload_n 2, 1) := by decide +kernel
theorem d_copyPage_69 : decode prog_1_method_48_code 69 = .ok (.iconst 4, 1) := by decide +kernel
theorem d_copyPage_70 : decode prog_1_method_48_code 70 = .ok (.imul, 1) := by decide +kernel
theorem d_copyPage_71 : decode prog_1_method_48_code 71 = .ok (.iload_n 3, 1) := by decide +kernel
theorem d_copyPage_72 : decode prog_1_method_48_code 72 = .ok (.iadd, 1) := by decide +kernel
theorem d_copyPage_73 : decode prog_1_method_48_code 73 = .ok (.aload_n 0, 1) := by decide +kernel
theorem d_copyPage_74 : decode prog_1_method_48_code 74 = .ok (.getfield 62, 3) := by decide +kernel
theorem d_copyPage_77 : decode prog_1_method_48_code 77 = .ok (.iload_n 1, 1) := by decide +kernel
theorem d_copyPage_78 : decode prog_1_method_48_code 78 = .ok (.iconst 4, 1) := by decide +kernel
theorem d_copyPage_79 : decode prog_1_method_48_code 79 = .ok (.imul, 1) := by decide +kernel
theorem d_copyPage_80 : decode prog_1_method_48_code 80 = .ok (.iload_n 3, 1) := by decide +kernel
theorem d_copyPage_81 : decode prog_1_method_48_code 81 = .ok (.iadd, 1) := by decide +kernel
theorem d_copyPage_82 : decode prog_1_method_48_code 82 = .ok (.iaload, 1) := by decide +kernel
theorem d_copyPage_110 : decode prog_1_method_48_code 110 = .ok (.return_, 1) := by decide +kernel
theorem d_copyPage_83 : decode prog_1_method_48_code 83 = .ok (.iastore, 1) := by decide +kernel
theorem d_copyPage_84 : decode prog_1_method_48_code 84 = .ok (.aload_n 0, 1) := by decide +kernel
theorem d_copyPage_85 : decode prog_1_method_48_code 85 = .ok (.getfield 65, 3) := by decide +kernel
theorem d_copyPage_88 : decode prog_1_method_48_code 88 = .ok (.iload_n 2, 1) := by decide +kernel
theorem d_copyPage_89 : decode prog_1_method_48_code 89 = .ok (.iconst 4, 1) := by decide +kernel
theorem d_copyPage_90 : decode prog_1_method_48_code 90 = .ok (.imul, 1) := by decide +kernel
theorem d_copyPage_91 : decode prog_1_method_48_code 91 = .ok (.iload_n 3, 1) := by decide +kernel
theorem d_copyPage_92 : decode prog_1_method_48_code 92 = .ok (.iadd, 1) := by decide +kernel
theorem d_copyPage_93 : decode prog_1_method_48_code 93 = .ok (.aload_n 0, 1) := by decide +kernel
theorem d_copyPage_94 : decode prog_1_method_48_code 94 = .ok (.getfield 65, 3) := by decide +kernel
theorem d_copyPage_97 : decode prog_1_method_48_code 97 = .ok (.iload_n 1, 1) := by decide +kernel
theorem d_copyPage_98 : decode prog_1_method_48_code 98 = .ok (.iconst 4, 1) := by decide +kernel
theorem d_copyPage_99 : decode prog_1_method_48_code 99 = .ok (.imul, 1) := by decide +kernel
theorem d_copyPage_100 : decode prog_1_method_48_code 100 = .ok (.iload_n 3, 1) := by decide +kernel
theorem d_copyPage_101 : decode prog_1_method_48_code 101 = .ok (.iadd, 1) := by decide +kernel
theorem d_copyPage_102 : decode prog_1_method_48_code 102 = .ok (.iaload, 1) := by decide +kernel
theorem d_copyPage_103 : decode prog_1_method_48_code 103 = .ok (.iastore, 1) := by decide +kernel
theorem d_copyPage_104 : decode prog_1_method_48_code 104 = .ok (.iinc 3 1, 3) := by decide +kernel
theorem d_copyPage_107 : decode prog_1_method_48_code 107 = .ok (.goto (-48), 3) := by decide +kernel
theorem d_scanLog_0 : decode prog_1_method_69_code 0 = .ok (.iconst 0, 1) := by decide +kernel
theorem d_scanLog_1 : decode prog_1_method_69_code 1 = .ok (.istore_n 1, 1) := by decide +kernel
theorem d_scanLog_2 : decode prog_1_method_69_code 2 = .ok (.aload_n 0, 1) := by decide +kernel
theorem d_scanLog_3 : decode prog_1_method_69_code 3 = .ok (.getfield 209, 3) := by decide +kernel
theorem d_scanLog_6 : decode prog_1_method_69_code 6 = .ok (.istore_n 2, 1) := by decide +kernel
theorem d_scanLog_7 : decode prog_1_method_69_code 7 = .ok (.iconst 0, 1) := by decide +kernel
theorem d_scanLog_8 : decode prog_1_method_69_code 8 = .ok (.istore_n 3, 1) := by decide +kernel
theorem d_scanLog_9 : decode prog_1_method_69_code 9 = .ok (.aload_n 0, 1) := by decide +kernel
theorem d_scanLog_10 : decode prog_1_method_69_code 10 = .ok (.iconst 0, 1) := by decide +kernel
theorem d_scanLog_11 : decode prog_1_method_69_code 11 = .ok (.putfield 186, 3) := by decide +kernel
theorem fa_c186 : fieldAt tables_1 "LinearHashLog" 186 = some ("LinearHashLog", 120, 1, false) := by decide +kernel
theorem d_scanLog_14 : decode prog_1_method_69_code 14 = .ok (.aload_n 0, 1) := by decide +kernel
theorem d_scanLog_15 : decode prog_1_method_69_code 15 = .ok (.aload_n 0, 1) := by decide +kernel
theorem d_scanLog_16 : decode prog_1_method_69_code 16 = .ok (.getfield 209, 3) := by decide +kernel
theorem d_scanLog_19 : decode prog_1_method_69_code 19 = .ok (.putfield 192, 3) := by decide +kernel
theorem fa_c192 : fieldAt tables_1 "LinearHashLog" 192 = some ("LinearHashLog", 122, 1, false) := by decide +kernel
theorem d_scanLog_22 : decode prog_1_method_69_code 22 = .ok (.aload_n 0, 1) := by decide +kernel
theorem d_scanLog_23 : decode prog_1_method_69_code 23 = .ok (.iconst 0, 1) := by decide +kernel
theorem d_scanLog_24 : decode prog_1_method_69_code 24 = .ok (.putfield 198, 3) := by decide +kernel
theorem fa_c198 : fieldAt tables_1 "LinearHashLog" 198 = some ("LinearHashLog", 124, 1, false) := by decide +kernel
theorem d_scanLog_27 : decode prog_1_method_69_code 27 = .ok (.iconst 0, 1) := by decide +kernel
theorem d_scanLog_28 : decode prog_1_method_69_code 28 = .ok (.istore 4, 2) := by decide +kernel
abbrev W_scanLog (pc : Nat) (ls : List Slot) (st : List Value) (M : EMem) (Q : Option Value → EMem → Prop) : Prop := Wp tables_1 0 0 0 (⟨"LinearHashLog", "scanLog", "()V"⟩ : MethodName) prog_1_method_69_code none pc ls st M Q
theorem d_scanLog_30 : decode prog_1_method_69_code 30 = .ok (.iload 4, 2) := by decide +kernel
theorem d_scanLog_32 : decode prog_1_method_69_code 32 = .ok (.sipush 1024, 3) := by decide +kernel
theorem d_scanLog_35 : decode prog_1_method_69_code 35 = .ok (.if_icmp .ge 90, 3) := by decide +kernel
theorem d_scanLog_125 : decode prog_1_method_69_code 125 = .ok (.return_, 1) := by decide +kernel
theorem d_scanLog_38 : decode prog_1_method_69_code 38 = .ok (.iload_n 1, 1) := by decide +kernel
theorem d_scanLog_39 : decode prog_1_method_69_code 39 = .ok (.aload_n 0, 1) := by decide +kernel
theorem d_scanLog_40 : decode prog_1_method_69_code 40 = .ok (.getfield 189, 3) := by decide +kernel
theorem d_scanLog_43 : decode prog_1_method_69_code 43 = .ok (.if_icmp .ge 82, 3) := by decide +kernel
theorem d_scanLog_46 : decode prog_1_method_69_code 46 = .ok (.aload_n 0, 1) := by decide +kernel
theorem d_scanLog_47 : decode prog_1_method_69_code 47 = .ok (.iload_n 1, 1) := by decide +kernel
theorem d_scanLog_48 : decode prog_1_method_69_code 48 = .ok (.aload_n 0, 1) := by decide +kernel
theorem d_scanLog_49 : decode prog_1_method_69_code 49 = .ok (.getfield 189, 3) := by decide +kernel
theorem d_redo_0 : decode prog_1_method_70_code 0 = .ok (.iconst 0, 1) := by decide +kernel
theorem d_redo_1 : decode prog_1_method_70_code 1 = .ok (.istore_n 3, 1) := by decide +kernel
theorem d_redo_2 : decode prog_1_method_70_code 2 = .ok (.iconst 0, 1) := by decide +kernel
theorem d_redo_3 : decode prog_1_method_70_code 3 = .ok (.istore 4, 2) := by decide +kernel
abbrev W_redo (pc : Nat) (ls : List Slot) (st : List Value) (M : EMem) (Q : Option Value → EMem → Prop) : Prop := Wp tables_1 0 0 0 (⟨"LinearHashLog", "redo", "(IZ)Z"⟩ : MethodName) prog_1_method_70_code (some .boolean) pc ls st M Q
theorem d_redo_5 : decode prog_1_method_70_code 5 = .ok (.iload 4, 2) := by decide +kernel
theorem d_redo_7 : decode prog_1_method_70_code 7 = .ok (.sipush 1024, 3) := by decide +kernel
theorem d_redo_10 : decode prog_1_method_70_code 10 = .ok (.if_icmp .ge 63, 3) := by decide +kernel
theorem d_redo_73 : decode prog_1_method_70_code 73 = .ok (.iconst 1, 1) := by decide +kernel
theorem d_redo_74 : decode prog_1_method_70_code 74 = .ok (.ireturn, 1) := by decide +kernel
theorem d_redo_13 : decode prog_1_method_70_code 13 = .ok (.iload_n 3, 1) := by decide +kernel
theorem d_redo_14 : decode prog_1_method_70_code 14 = .ok (.iload_n 1, 1) := by decide +kernel
theorem d_redo_18 : decode prog_1_method_70_code 18 = .ok (.aload_n 0, 1) := by decide +kernel
theorem d_redo_19 : decode prog_1_method_70_code 19 = .ok (.iload_n 3, 1) := by decide +kernel
theorem d_redo_20 : decode prog_1_method_70_code 20 = .ok (.iload_n 1, 1) := by decide +kernel
theorem d_redo_15 : decode prog_1_method_70_code 15 = .ok (.if_icmp .ge 58, 3) := by decide +kernel
theorem d_nextPage_0 : decode prog_1_method_26_code 0 = .ok (.iload_n 1, 1) := by decide +kernel
theorem d_nextPage_1 : decode prog_1_method_26_code 1 = .ok (.ifCond .lt 9, 3) := by decide +kernel
theorem d_nextPage_10 : decode prog_1_method_26_code 10 = .ok (.iconst (-1), 1) := by decide +kernel
theorem d_nextPage_11 : decode prog_1_method_26_code 11 = .ok (.ireturn, 1) := by decide +kernel
theorem d_nextPage_4 : decode prog_1_method_26_code 4 = .ok (.iload_n 1, 1) := by decide +kernel
theorem d_nextPage_5 : decode prog_1_method_26_code 5 = .ok (.bipush 32, 2) := by decide +kernel
theorem d_nextPage_12 : decode prog_1_method_26_code 12 = .ok (.aload_n 0, 1) := by decide +kernel
theorem d_nextPage_13 : decode prog_1_method_26_code 13 = .ok (.getfield 56, 3) := by decide +kernel
theorem d_nextPage_16 : decode prog_1_method_26_code 16 = .ok (.iload_n 1, 1) := by decide +kernel
theorem d_nextPage_17 : decode prog_1_method_26_code 17 = .ok (.iaload, 1) := by decide +kernel
theorem d_nextPage_18 : decode prog_1_method_26_code 18 = .ok (.istore_n 2, 1) := by decide +kernel
theorem d_nextPage_19 : decode prog_1_method_26_code 19 = .ok (.iload_n 2, 1) := by decide +kernel
theorem d_nextPage_20 : decode prog_1_method_26_code 20 = .ok (.bipush 16, 2) := by decide +kernel
theorem d_nextPage_31 : decode prog_1_method_26_code 31 = .ok (.iconst (-1), 1) := by decide +kernel
theorem d_nextPage_32 : decode prog_1_method_26_code 32 = .ok (.ireturn, 1) := by decide +kernel
theorem d_nextPage_25 : decode prog_1_method_26_code 25 = .ok (.iload_n 2, 1) := by decide +kernel
theorem d_nextPage_26 : decode prog_1_method_26_code 26 = .ok (.bipush 32, 2) := by decide +kernel
theorem d_nextPage_33 : decode prog_1_method_26_code 33 = .ok (.iload_n 2, 1) := by decide +kernel
theorem d_nextPage_34 : decode prog_1_method_26_code 34 = .ok (.ireturn, 1) := by decide +kernel
theorem d_nextPage_28 : decode prog_1_method_26_code 28 = .ok (.if_icmp .lt 5, 3) := by decide +kernel
theorem d_nextPage_22 : decode prog_1_method_26_code 22 = .ok (.if_icmp .lt 9, 3) := by decide +kernel
theorem d_nextPage_7 : decode prog_1_method_26_code 7 = .ok (.if_icmp .lt 5, 3) := by decide +kernel
abbrev W_nextPage (pc : Nat) (ls : List Slot) (st : List Value) (M : EMem) (Q : Option Value → EMem → Prop) : Prop := Wp tables_1 0 0 0 (⟨"LinearHashLog", "nextPage", "(I)I"⟩ : MethodName) prog_1_method_26_code (some .int) pc ls st M Q
theorem d_entries_0 : decode prog_1_method_25_code 0 = .ok (.iload_n 1, 1) := by decide +kernel
theorem d_entries_1 : decode prog_1_method_25_code 1 = .ok (.ifCond .lt 9, 3) := by decide +kernel
theorem d_entries_10 : decode prog_1_method_25_code 10 = .ok (.iconst 0, 1) := by decide +kernel
theorem d_entries_11 : decode prog_1_method_25_code 11 = .ok (.ireturn, 1) := by decide +kernel
theorem d_entries_4 : decode prog_1_method_25_code 4 = .ok (.iload_n 1, 1) := by decide +kernel
theorem d_entries_5 : decode prog_1_method_25_code 5 = .ok (.bipush 64, 2) := by decide +kernel
theorem d_entries_12 : decode prog_1_method_25_code 12 = .ok (.aload_n 0, 1) := by decide +kernel
theorem d_entries_13 : decode prog_1_method_25_code 13 = .ok (.getfield 52, 3) := by decide +kernel
theorem d_entries_16 : decode prog_1_method_25_code 16 = .ok (.iload_n 1, 1) := by decide +kernel
theorem d_entries_17 : decode prog_1_method_25_code 17 = .ok (.iaload, 1) := by decide +kernel
theorem d_entries_18 : decode prog_1_method_25_code 18 = .ok (.istore_n 2, 1) := by decide +kernel
theorem d_entries_19 : decode prog_1_method_25_code 19 = .ok (.iload_n 2, 1) := by decide +kernel
theorem d_entries_25 : decode prog_1_method_25_code 25 = .ok (.iload_n 2, 1) := by decide +kernel
theorem d_entries_26 : decode prog_1_method_25_code 26 = .ok (.iconst 4, 1) := by decide +kernel
theorem d_entries_32 : decode prog_1_method_25_code 32 = .ok (.iload_n 2, 1) := by decide +kernel
theorem d_entries_33 : decode prog_1_method_25_code 33 = .ok (.ireturn, 1) := by decide +kernel
theorem d_entries_30 : decode prog_1_method_25_code 30 = .ok (.iconst 4, 1) := by decide +kernel
theorem d_entries_31 : decode prog_1_method_25_code 31 = .ok (.ireturn, 1) := by decide +kernel
theorem d_entries_27 : decode prog_1_method_25_code 27 = .ok (.if_icmp .le 5, 3) := by decide +kernel
theorem d_entries_23 : decode prog_1_method_25_code 23 = .ok (.iconst 0, 1) := by decide +kernel
theorem d_entries_24 : decode prog_1_method_25_code 24 = .ok (.ireturn, 1) := by decide +kernel
theorem d_entries_20 : decode prog_1_method_25_code 20 = .ok (.ifCond .ge 5, 3) := by decide +kernel
theorem d_entries_7 : decode prog_1_method_25_code 7 = .ok (.if_icmp .lt 5, 3) := by decide +kernel
abbrev W_entries (pc : Nat) (ls : List Slot) (st : List Value) (M : EMem) (Q : Option Value → EMem → Prop) : Prop := Wp tables_1 0 0 0 (⟨"LinearHashLog", "entries", "(I)I"⟩ : MethodName) prog_1_method_25_code (some .int) pc ls st M Q
theorem d_markChain_0 : decode prog_1_method_52_code 0 = .ok (.aload_n 0, 1) := by decide +kernel
theorem d_markChain_1 : decode prog_1_method_52_code 1 = .ok (.iload_n 1, 1) := by decide +kernel
theorem d_markChain_2 : decode prog_1_method_52_code 2 = .ok (.invokevirtual 243, 3) := by decide +kernel
theorem ml_c243 : methodLk "LinearHashLog" 243 tables_1 = some (⟨"LinearHashLog", "nextPage", "(I)I"⟩ : MethodName) := by decide +kernel
theorem cl_nextPage : codeLk (⟨"LinearHashLog", "nextPage", "(I)I"⟩ : MethodName) tables_1 = some (prog_1_method_26_code, 3, (some .int)) := codeLk_at (i := 140) rfl (by decide +kernel)
theorem pd_nextPage : parseMethodDescriptor "(I)I" = some ⟨[.int], some .int⟩ := by decide +kernel
theorem cc_nextPage_1 : hasInit (⟨"LinearHashLog", "nextPage", "(I)I"⟩ : MethodName).cls tables_1 = true ∧ plainName (⟨"LinearHashLog", "nextPage", "(I)I"⟩ : MethodName).cls = true ∧ (⟨"LinearHashLog", "nextPage", "(I)I"⟩ : MethodName).cls ≠ "java/lang/invoke/MethodHandle" ∧ (⟨"LinearHashLog", "nextPage", "(I)I"⟩ : MethodName).cls ≠ "java/lang/invoke/VarHandle" ∧ (((1 : Nat) = 0 ∧ hasDecl (⟨"LinearHashLog", "nextPage", "(I)I"⟩ : MethodName) tables_1 = true ∧ hasSel (⟨"LinearHashLog", "nextPage", "(I)I"⟩ : MethodName) tables_1 = true ∧ hasInst (⟨"LinearHashLog", "nextPage", "(I)I"⟩ : MethodName) tables_1 = true) ∨ ((1 : Nat) = 1 ∧ hasPriv (⟨"LinearHashLog", "nextPage", "(I)I"⟩ : MethodName) tables_1 = true ∧ hasInst (⟨"LinearHashLog", "nextPage", "(I)I"⟩ : MethodName) tables_1 = true ∧ (instLk (⟨"LinearHashLog", "nextPage", "(I)I"⟩ : MethodName).cls tables_1).isSome = true) ∨ ((1 : Nat) = 2 ∧ (⟨"LinearHashLog", "nextPage", "(I)I"⟩ : MethodName).name = "<init>" ∧ hasInst (⟨"LinearHashLog", "nextPage", "(I)I"⟩ : MethodName) tables_1 = true ∧ ((some .int) : Option FieldType) = none) ∨ ((1 : Nat) = 3 ∧ hasStat (⟨"LinearHashLog", "nextPage", "(I)I"⟩ : MethodName) tables_1 = true)) := by decide +kernel
theorem ca_c243_1 : callAt tables_1 "LinearHashLog" 243 1 = some ((⟨"LinearHashLog", "nextPage", "(I)I"⟩ : MethodName), 1, prog_1_method_26_code, 3, (some .int)) := callAt_of ml_c243 cl_nextPage pd_nextPage cc_nextPage_1 rfl
abbrev W_markChain (pc : Nat) (ls : List Slot) (st : List Value) (M : EMem) (Q : Option Value → EMem → Prop) : Prop := Wp tables_1 0 1 14 (⟨"LinearHashLog", "markChain", "(I)V"⟩ : MethodName) prog_1_method_52_code none pc ls st M Q
theorem d_markChain_5 : decode prog_1_method_52_code 5 = .ok (.istore_n 2, 1) := by decide +kernel
theorem d_markChain_6 : decode prog_1_method_52_code 6 = .ok (.iconst 0, 1) := by decide +kernel
theorem d_markChain_7 : decode prog_1_method_52_code 7 = .ok (.istore_n 3, 1) := by decide +kernel
theorem d_markChain_8 : decode prog_1_method_52_code 8 = .ok (.iload_n 3, 1) := by decide +kernel
theorem d_markChain_9 : decode prog_1_method_52_code 9 = .ok (.bipush 32, 2) := by decide +kernel
theorem d_markChain_11 : decode prog_1_method_52_code 11 = .ok (.if_icmp .ge 26, 3) := by decide +kernel
theorem d_markChain_14 : decode prog_1_method_52_code 14 = .ok (.iload_n 2, 1) := by decide +kernel
theorem d_markChain_18 : decode prog_1_method_52_code 18 = .ok (.aload_n 0, 1) := by decide +kernel
theorem d_markChain_19 : decode prog_1_method_52_code 19 = .ok (.getfield 68, 3) := by decide +kernel
theorem fa_c68 : fieldAt tables_1 "LinearHashLog" 68 = some ("LinearHashLog", 50, 4, true) := by decide +kernel
theorem d_markChain_22 : decode prog_1_method_52_code 22 = .ok (.iload_n 2, 1) := by decide +kernel
theorem d_markChain_23 : decode prog_1_method_52_code 23 = .ok (.iconst 1, 1) := by decide +kernel
theorem d_markChain_37 : decode prog_1_method_52_code 37 = .ok (.return_, 1) := by decide +kernel
theorem d_markChain_15 : decode prog_1_method_52_code 15 = .ok (.ifCond .lt 22, 3) := by decide +kernel
theorem d_markChain_24 : decode prog_1_method_52_code 24 = .ok (.bastore, 1) := by decide +kernel
theorem d_markChain_25 : decode prog_1_method_52_code 25 = .ok (.aload_n 0, 1) := by decide +kernel
theorem d_markChain_26 : decode prog_1_method_52_code 26 = .ok (.iload_n 2, 1) := by decide +kernel
theorem d_markChain_27 : decode prog_1_method_52_code 27 = .ok (.invokevirtual 243, 3) := by decide +kernel
theorem d_markChain_30 : decode prog_1_method_52_code 30 = .ok (.istore_n 2, 1) := by decide +kernel
theorem d_markChain_31 : decode prog_1_method_52_code 31 = .ok (.iinc 3 1, 3) := by decide +kernel
theorem d_markChain_34 : decode prog_1_method_52_code 34 = .ok (.goto (-26), 3) := by decide +kernel
theorem d_rebuildUsed_0 : decode prog_1_method_51_code 0 = .ok (.iconst 0, 1) := by decide +kernel
theorem d_rebuildUsed_1 : decode prog_1_method_51_code 1 = .ok (.istore_n 1, 1) := by decide +kernel
abbrev W_rebuildUsed (pc : Nat) (ls : List Slot) (st : List Value) (M : EMem) (Q : Option Value → EMem → Prop) : Prop := Wp tables_1 0 2 29 (⟨"LinearHashLog", "rebuildUsed", "()V"⟩ : MethodName) prog_1_method_51_code none pc ls st M Q
theorem d_rebuildUsed_2 : decode prog_1_method_51_code 2 = .ok (.iload_n 1, 1) := by decide +kernel
theorem d_rebuildUsed_3 : decode prog_1_method_51_code 3 = .ok (.bipush 32, 2) := by decide +kernel
theorem d_rebuildUsed_5 : decode prog_1_method_51_code 5 = .ok (.if_icmp .ge 26, 3) := by decide +kernel
theorem d_rebuildUsed_8 : decode prog_1_method_51_code 8 = .ok (.aload_n 0, 1) := by decide +kernel
theorem d_rebuildUsed_9 : decode prog_1_method_51_code 9 = .ok (.getfield 68, 3) := by decide +kernel
theorem d_rebuildUsed_12 : decode prog_1_method_51_code 12 = .ok (.iload_n 1, 1) := by decide +kernel
theorem d_rebuildUsed_13 : decode prog_1_method_51_code 13 = .ok (.iload_n 1, 1) := by decide +kernel
theorem d_rebuildUsed_14 : decode prog_1_method_51_code 14 = .ok (.bipush 16, 2) := by decide +kernel
theorem d_rebuildUsed_23 : decode prog_1_method_51_code 23 = .ok (.iconst 0, 1) := by decide +kernel
theorem d_rebuildUsed_31 : decode prog_1_method_51_code 31 = .ok (.iconst 0, 1) := by decide +kernel
theorem d_rebuildUsed_32 : decode prog_1_method_51_code 32 = .ok (.istore_n 1, 1) := by decide +kernel
theorem d_rebuildUsed_16 : decode prog_1_method_51_code 16 = .ok (.if_icmp .ge 7, 3) := by decide +kernel
theorem d_rebuildUsed_19 : decode prog_1_method_51_code 19 = .ok (.iconst 1, 1) := by decide +kernel
theorem d_rebuildUsed_20 : decode prog_1_method_51_code 20 = .ok (.goto 4, 3) := by decide +kernel
theorem d_rebuildUsed_24 : decode prog_1_method_51_code 24 = .ok (.bastore, 1) := by decide +kernel
theorem d_rebuildUsed_25 : decode prog_1_method_51_code 25 = .ok (.iinc 1 1, 3) := by decide +kernel
theorem d_rebuildUsed_28 : decode prog_1_method_51_code 28 = .ok (.goto (-26), 3) := by decide +kernel
theorem d_rebuildUsed_33 : decode prog_1_method_51_code 33 = .ok (.iload_n 1, 1) := by decide +kernel
theorem d_rebuildUsed_34 : decode prog_1_method_51_code 34 = .ok (.aload_n 0, 1) := by decide +kernel
theorem d_rebuildUsed_35 : decode prog_1_method_51_code 35 = .ok (.getfield 221, 3) := by decide +kernel
theorem d_rebuildUsed_38 : decode prog_1_method_51_code 38 = .ok (.if_icmp .ge 20, 3) := by decide +kernel
theorem d_rebuildUsed_41 : decode prog_1_method_51_code 41 = .ok (.iload_n 1, 1) := by decide +kernel
theorem d_rebuildUsed_42 : decode prog_1_method_51_code 42 = .ok (.bipush 16, 2) := by decide +kernel
theorem d_rebuildUsed_47 : decode prog_1_method_51_code 47 = .ok (.aload_n 0, 1) := by decide +kernel
theorem d_rebuildUsed_48 : decode prog_1_method_51_code 48 = .ok (.iload_n 1, 1) := by decide +kernel
theorem d_rebuildUsed_58 : decode prog_1_method_51_code 58 = .ok (.return_, 1) := by decide +kernel
theorem d_rebuildUsed_44 : decode prog_1_method_51_code 44 = .ok (.if_icmp .ge 14, 3) := by decide +kernel
theorem d_rebuildUsed_49 : decode prog_1_method_51_code 49 = .ok (.invokevirtual 304, 3) := by decide +kernel
theorem ml_c304 : methodLk "LinearHashLog" 304 tables_1 = some (⟨"LinearHashLog", "markChain", "(I)V"⟩ : MethodName) := by decide +kernel
theorem cl_markChain : codeLk (⟨"LinearHashLog", "markChain", "(I)V"⟩ : MethodName) tables_1 = some (prog_1_method_52_code, 4, none) := codeLk_at (i := 136) rfl (by decide +kernel)
theorem pd_markChain : parseMethodDescriptor "(I)V" = some ⟨[.int], none⟩ := by decide +kernel
theorem cc_markChain_1 : hasInit (⟨"LinearHashLog", "markChain", "(I)V"⟩ : MethodName).cls tables_1 = true ∧ plainName (⟨"LinearHashLog", "markChain", "(I)V"⟩ : MethodName).cls = true ∧ (⟨"LinearHashLog", "markChain", "(I)V"⟩ : MethodName).cls ≠ "java/lang/invoke/MethodHandle" ∧ (⟨"LinearHashLog", "markChain", "(I)V"⟩ : MethodName).cls ≠ "java/lang/invoke/VarHandle" ∧ (((1 : Nat) = 0 ∧ hasDecl (⟨"LinearHashLog", "markChain", "(I)V"⟩ : MethodName) tables_1 = true ∧ hasSel (⟨"LinearHashLog", "markChain", "(I)V"⟩ : MethodName) tables_1 = true ∧ hasInst (⟨"LinearHashLog", "markChain", "(I)V"⟩ : MethodName) tables_1 = true) ∨ ((1 : Nat) = 1 ∧ hasPriv (⟨"LinearHashLog", "markChain", "(I)V"⟩ : MethodName) tables_1 = true ∧ hasInst (⟨"LinearHashLog", "markChain", "(I)V"⟩ : MethodName) tables_1 = true ∧ (instLk (⟨"LinearHashLog", "markChain", "(I)V"⟩ : MethodName).cls tables_1).isSome = true) ∨ ((1 : Nat) = 2 ∧ (⟨"LinearHashLog", "markChain", "(I)V"⟩ : MethodName).name = "<init>" ∧ hasInst (⟨"LinearHashLog", "markChain", "(I)V"⟩ : MethodName) tables_1 = true ∧ (none : Option FieldType) = none) ∨ ((1 : Nat) = 3 ∧ hasStat (⟨"LinearHashLog", "markChain", "(I)V"⟩ : MethodName) tables_1 = true)) := by decide +kernel
theorem ca_c304_1 : callAt tables_1 "LinearHashLog" 304 1 = some ((⟨"LinearHashLog", "markChain", "(I)V"⟩ : MethodName), 1, prog_1_method_52_code, 4, none) := callAt_of ml_c304 cl_markChain pd_markChain cc_markChain_1 rfl
theorem d_rebuildUsed_52 : decode prog_1_method_51_code 52 = .ok (.iinc 1 1, 3) := by decide +kernel
theorem d_rebuildUsed_55 : decode prog_1_method_51_code 55 = .ok (.goto (-22), 3) := by decide +kernel
theorem d_chainLen_0 : decode prog_1_method_29_code 0 = .ok (.iconst 0, 1) := by decide +kernel
theorem d_chainLen_1 : decode prog_1_method_29_code 1 = .ok (.istore_n 2, 1) := by decide +kernel
theorem d_chainLen_2 : decode prog_1_method_29_code 2 = .ok (.iload_n 1, 1) := by decide +kernel
theorem d_chainLen_3 : decode prog_1_method_29_code 3 = .ok (.istore_n 3, 1) := by decide +kernel
theorem d_chainLen_4 : decode prog_1_method_29_code 4 = .ok (.iconst 0, 1) := by decide +kernel
theorem d_chainLen_5 : decode prog_1_method_29_code 5 = .ok (.istore 4, 2) := by decide +kernel
abbrev W_chainLen (pc : Nat) (ls : List Slot) (st : List Value) (M : EMem) (Q : Option Value → EMem → Prop) : Prop := Wp tables_1 0 1 15 (⟨"LinearHashLog", "chainLen", "(I)I"⟩ : MethodName) prog_1_method_29_code (some .int) pc ls st M Q
theorem d_chainLen_7 : decode prog_1_method_29_code 7 = .ok (.iload 4, 2) := by decide +kernel
theorem d_chainLen_9 : decode prog_1_method_29_code 9 = .ok (.bipush 32, 2) := by decide +kernel
theorem d_chainLen_11 : decode prog_1_method_29_code 11 = .ok (.if_icmp .ge 27, 3) := by decide +kernel
theorem d_chainLen_14 : decode prog_1_method_29_code 14 = .ok (.iload_n 3, 1) := by decide +kernel
theorem d_chainLen_18 : decode prog_1_method_29_code 18 = .ok (.iload_n 2, 1) := by decide +kernel
theorem d_chainLen_19 : decode prog_1_method_29_code 19 = .ok (.aload_n 0, 1) := by decide +kernel
theorem d_chainLen_20 : decode prog_1_method_29_code 20 = .ok (.iload_n 3, 1) := by decide +kernel
theorem d_chainLen_38 : decode prog_1_method_29_code 38 = .ok (.iload_n 2, 1) := by decide +kernel
theorem d_chainLen_39 : decode prog_1_method_29_code 39 = .ok (.ireturn, 1) := by decide +kernel
theorem d_chainLen_15 : decode prog_1_method_29_code 15 = .ok (.ifCond .lt 23, 3) := by decide +kernel
theorem d_chainLen_21 : decode prog_1_method_29_code 21 = .ok (.invokevirtual 246, 3) := by decide +kernel
theorem ml_c246 : methodLk "LinearHashLog" 246 tables_1 = some (⟨"LinearHashLog", "entries", "(I)I"⟩ : MethodName) := by decide +kernel
theorem cl_entries : codeLk (⟨"LinearHashLog", "entries", "(I)I"⟩ : MethodName) tables_1 = some (prog_1_method_25_code, 3, (some .int)) := codeLk_at (i := 152) rfl (by decide +kernel)
theorem pd_entries : parseMethodDescriptor "(I)I" = some ⟨[.int], some .int⟩ := by decide +kernel
theorem cc_entries_1 : hasInit (⟨"LinearHashLog", "entries", "(I)I"⟩ : MethodName).cls tables_1 = true ∧ plainName (⟨"LinearHashLog", "entries", "(I)I"⟩ : MethodName).cls = true ∧ (⟨"LinearHashLog", "entries", "(I)I"⟩ : MethodName).cls ≠ "java/lang/invoke/MethodHandle" ∧ (⟨"LinearHashLog", "entries", "(I)I"⟩ : MethodName).cls ≠ "java/lang/invoke/VarHandle" ∧ (((1 : Nat) = 0 ∧ hasDecl (⟨"LinearHashLog", "entries", "(I)I"⟩ : MethodName) tables_1 = true ∧ hasSel (⟨"LinearHashLog", "entries", "(I)I"⟩ : MethodName) tables_1 = true ∧ hasInst (⟨"LinearHashLog", "entries", "(I)I"⟩ : MethodName) tables_1 = true) ∨ ((1 : Nat) = 1 ∧ hasPriv (⟨"LinearHashLog", "entries", "(I)I"⟩ : MethodName) tables_1 = true ∧ hasInst (⟨"LinearHashLog", "entries", "(I)I"⟩ : MethodName) tables_1 = true ∧ (instLk (⟨"LinearHashLog", "entries", "(I)I"⟩ : MethodName).cls tables_1).isSome = true) ∨ ((1 : Nat) = 2 ∧ (⟨"LinearHashLog", "entries", "(I)I"⟩ : MethodName).name = "<init>" ∧ hasInst (⟨"LinearHashLog", "entries", "(I)I"⟩ : MethodName) tables_1 = true ∧ ((some .int) : Option FieldType) = none) ∨ ((1 : Nat) = 3 ∧ hasStat (⟨"LinearHashLog", "entries", "(I)I"⟩ : MethodName) tables_1 = true)) := by decide +kernel
theorem ca_c246_1 : callAt tables_1 "LinearHashLog" 246 1 = some ((⟨"LinearHashLog", "entries", "(I)I"⟩ : MethodName), 1, prog_1_method_25_code, 3, (some .int)) := callAt_of ml_c246 cl_entries pd_entries cc_entries_1 rfl
theorem d_chainLen_24 : decode prog_1_method_29_code 24 = .ok (.iadd, 1) := by decide +kernel
theorem d_chainLen_25 : decode prog_1_method_29_code 25 = .ok (.istore_n 2, 1) := by decide +kernel
theorem d_chainLen_26 : decode prog_1_method_29_code 26 = .ok (.aload_n 0, 1) := by decide +kernel
theorem d_chainLen_27 : decode prog_1_method_29_code 27 = .ok (.iload_n 3, 1) := by decide +kernel
theorem d_chainLen_28 : decode prog_1_method_29_code 28 = .ok (.invokevirtual 243, 3) := by decide +kernel
theorem d_chainLen_31 : decode prog_1_method_29_code 31 = .ok (.istore_n 3, 1) := by decide +kernel
theorem d_chainLen_32 : decode prog_1_method_29_code 32 = .ok (.iinc 4 1, 3) := by decide +kernel
theorem d_chainLen_35 : decode prog_1_method_29_code 35 = .ok (.goto (-28), 3) := by decide +kernel
theorem d_countAll_0 : decode prog_1_method_30_code 0 = .ok (.iconst 0, 1) := by decide +kernel
theorem d_countAll_1 : decode prog_1_method_30_code 1 = .ok (.istore_n 1, 1) := by decide +kernel
theorem d_countAll_2 : decode prog_1_method_30_code 2 = .ok (.iconst 0, 1) := by decide +kernel
theorem d_countAll_3 : decode prog_1_method_30_code 3 = .ok (.istore_n 2, 1) := by decide +kernel
abbrev W_countAll (pc : Nat) (ls : List Slot) (st : List Value) (M : EMem) (Q : Option Value → EMem → Prop) : Prop := Wp tables_1 0 2 32 (⟨"LinearHashLog", "countAll", "()I"⟩ : MethodName) prog_1_method_30_code (some .int) pc ls st M Q
theorem d_countAll_4 : decode prog_1_method_30_code 4 = .ok (.iload_n 2, 1) := by decide +kernel
theorem d_countAll_5 : decode prog_1_method_30_code 5 = .ok (.aload_n 0, 1) := by decide +kernel
theorem d_countAll_6 : decode prog_1_method_30_code 6 = .ok (.getfield 221, 3) := by decide +kernel
theorem d_countAll_9 : decode prog_1_method_30_code 9 = .ok (.if_icmp .ge 23, 3) := by decide +kernel
theorem d_countAll_12 : decode prog_1_method_30_code 12 = .ok (.iload_n 2, 1) := by decide +kernel
theorem d_countAll_13 : decode prog_1_method_30_code 13 = .ok (.bipush 16, 2) := by decide +kernel
theorem d_countAll_18 : decode prog_1_method_30_code 18 = .ok (.iload_n 1, 1) := by decide +kernel
theorem d_countAll_19 : decode prog_1_method_30_code 19 = .ok (.aload_n 0, 1) := by decide +kernel
theorem d_countAll_20 : decode prog_1_method_30_code 20 = .ok (.iload_n 2, 1) := by decide +kernel
theorem d_countAll_32 : decode prog_1_method_30_code 32 = .ok (.iload_n 1, 1) := by decide +kernel
theorem d_countAll_33 : decode prog_1_method_30_code 33 = .ok (.ireturn, 1) := by decide +kernel
theorem d_countAll_15 : decode prog_1_method_30_code 15 = .ok (.if_icmp .ge 17, 3) := by decide +kernel
theorem d_countAll_21 : decode prog_1_method_30_code 21 = .ok (.invokevirtual 227, 3) := by decide +kernel
theorem ml_c227 : methodLk "LinearHashLog" 227 tables_1 = some (⟨"LinearHashLog", "chainLen", "(I)I"⟩ : MethodName) := by decide +kernel
theorem cl_chainLen : codeLk (⟨"LinearHashLog", "chainLen", "(I)I"⟩ : MethodName) tables_1 = some (prog_1_method_29_code, 5, (some .int)) := codeLk_at (i := 148) rfl (by decide +kernel)
theorem pd_chainLen : parseMethodDescriptor "(I)I" = some ⟨[.int], some .int⟩ := by decide +kernel
theorem cc_chainLen_1 : hasInit (⟨"LinearHashLog", "chainLen", "(I)I"⟩ : MethodName).cls tables_1 = true ∧ plainName (⟨"LinearHashLog", "chainLen", "(I)I"⟩ : MethodName).cls = true ∧ (⟨"LinearHashLog", "chainLen", "(I)I"⟩ : MethodName).cls ≠ "java/lang/invoke/MethodHandle" ∧ (⟨"LinearHashLog", "chainLen", "(I)I"⟩ : MethodName).cls ≠ "java/lang/invoke/VarHandle" ∧ (((1 : Nat) = 0 ∧ hasDecl (⟨"LinearHashLog", "chainLen", "(I)I"⟩ : MethodName) tables_1 = true ∧ hasSel (⟨"LinearHashLog", "chainLen", "(I)I"⟩ : MethodName) tables_1 = true ∧ hasInst (⟨"LinearHashLog", "chainLen", "(I)I"⟩ : MethodName) tables_1 = true) ∨ ((1 : Nat) = 1 ∧ hasPriv (⟨"LinearHashLog", "chainLen", "(I)I"⟩ : MethodName) tables_1 = true ∧ hasInst (⟨"LinearHashLog", "chainLen", "(I)I"⟩ : MethodName) tables_1 = true ∧ (instLk (⟨"LinearHashLog", "chainLen", "(I)I"⟩ : MethodName).cls tables_1).isSome = true) ∨ ((1 : Nat) = 2 ∧ (⟨"LinearHashLog", "chainLen", "(I)I"⟩ : MethodName).name = "<init>" ∧ hasInst (⟨"LinearHashLog", "chainLen", "(I)I"⟩ : MethodName) tables_1 = true ∧ ((some .int) : Option FieldType) = none) ∨ ((1 : Nat) = 3 ∧ hasStat (⟨"LinearHashLog", "chainLen", "(I)I"⟩ : MethodName) tables_1 = true)) := by decide +kernel
theorem ca_c227_1 : callAt tables_1 "LinearHashLog" 227 1 = some ((⟨"LinearHashLog", "chainLen", "(I)I"⟩ : MethodName), 1, prog_1_method_29_code, 5, (some .int)) := callAt_of ml_c227 cl_chainLen pd_chainLen cc_chainLen_1 rfl
theorem d_countAll_24 : decode prog_1_method_30_code 24 = .ok (.iadd, 1) := by decide +kernel
theorem d_countAll_25 : decode prog_1_method_30_code 25 = .ok (.istore_n 1, 1) := by decide +kernel
theorem d_countAll_26 : decode prog_1_method_30_code 26 = .ok (.iinc 2 1, 3) := by decide +kernel
theorem d_countAll_29 : decode prog_1_method_30_code 29 = .ok (.goto (-25), 3) := by decide +kernel
theorem d_clearDirty_0 : decode prog_1_method_53_code 0 = .ok (.iconst 0, 1) := by decide +kernel
theorem d_clearDirty_1 : decode prog_1_method_53_code 1 = .ok (.istore_n 1, 1) := by decide +kernel
abbrev W_clearDirty (pc : Nat) (ls : List Slot) (st : List Value) (M : EMem) (Q : Option Value → EMem → Prop) : Prop := Wp tables_1 0 0 0 (⟨"LinearHashLog", "clearDirty", "()V"⟩ : MethodName) prog_1_method_53_code none pc ls st M Q
theorem d_clearDirty_2 : decode prog_1_method_53_code 2 = .ok (.iload_n 1, 1) := by decide +kernel
theorem d_clearDirty_3 : decode prog_1_method_53_code 3 = .ok (.bipush 32, 2) := by decide +kernel
theorem d_clearDirty_5 : decode prog_1_method_53_code 5 = .ok (.if_icmp .ge 16, 3) := by decide +kernel
theorem d_clearDirty_8 : decode prog_1_method_53_code 8 = .ok (.aload_n 0, 1) := by decide +kernel
theorem d_clearDirty_9 : decode prog_1_method_53_code 9 = .ok (.getfield 72, 3) := by decide +kernel
theorem fa_c72 : fieldAt tables_1 "LinearHashLog" 72 = some ("LinearHashLog", 52, 4, true) := by decide +kernel
theorem d_clearDirty_12 : decode prog_1_method_53_code 12 = .ok (.iload_n 1, 1) := by decide +kernel
theorem d_clearDirty_13 : decode prog_1_method_53_code 13 = .ok (.iconst 0, 1) := by decide +kernel
theorem d_clearDirty_21 : decode prog_1_method_53_code 21 = .ok (.return_, 1) := by decide +kernel
theorem d_clearDirty_14 : decode prog_1_method_53_code 14 = .ok (.bastore, 1) := by decide +kernel
theorem d_clearDirty_15 : decode prog_1_method_53_code 15 = .ok (.iinc 1 1, 3) := by decide +kernel
theorem d_clearDirty_18 : decode prog_1_method_53_code 18 = .ok (.goto (-16), 3) := by decide +kernel
theorem d_loadMemory_0 : decode prog_1_method_50_code 0 = .ok (.iconst 0, 1) := by decide +kernel
theorem d_loadMemory_1 : decode prog_1_method_50_code 1 = .ok (.istore_n 1, 1) := by decide +kernel
abbrev W_loadMemory (pc : Nat) (ls : List Slot) (st : List Value) (M : EMem) (Q : Option Value → EMem → Prop) : Prop := Wp tables_1 0 3 47 (⟨"LinearHashLog", "loadMemory", "()V"⟩ : MethodName) prog_1_method_50_code none pc ls st M Q
theorem d_loadMemory_2 : decode prog_1_method_50_code 2 = .ok (.iload_n 1, 1) := by decide +kernel
theorem d_loadMemory_3 : decode prog_1_method_50_code 3 = .ok (.bipush 32, 2) := by decide +kernel
theorem d_loadMemory_5 : decode prog_1_method_50_code 5 = .ok (.if_icmp .ge 18, 3) := by decide +kernel
theorem d_loadMemory_8 : decode prog_1_method_50_code 8 = .ok (.aload_n 0, 1) := by decide +kernel
theorem d_loadMemory_9 : decode prog_1_method_50_code 9 = .ok (.iload_n 1, 1) := by decide +kernel
theorem d_loadMemory_10 : decode prog_1_method_50_code 10 = .ok (.bipush 32, 2) := by decide +kernel
theorem d_loadMemory_12 : decode prog_1_method_50_code 12 = .ok (.iadd, 1) := by decide +kernel
theorem d_loadMemory_13 : decode prog_1_method_50_code 13 = .ok (.iload_n 1, 1) := by decide +kernel
theorem d_loadMemory_23 : decode prog_1_method_50_code 23 = .ok (.aload_n 0, 1) := by decide +kernel
theorem d_loadMemory_24 : decode prog_1_method_50_code 24 = .ok (.aload_n 0, 1) := by decide +kernel
theorem d_loadMemory_25 : decode prog_1_method_50_code 25 = .ok (.getfield 292, 3) := by decide +kernel
theorem d_loadMemory_28 : decode prog_1_method_50_code 28 = .ok (.putfield 221, 3) := by decide +kernel
theorem d_loadMemory_31 : decode prog_1_method_50_code 31 = .ok (.aload_n 0, 1) := by decide +kernel
theorem d_loadMemory_32 : decode prog_1_method_50_code 32 = .ok (.invokevirtual 183, 3) := by decide +kernel
theorem ml_c183 : methodLk "LinearHashLog" 183 tables_1 = some (⟨"LinearHashLog", "scanLog", "()V"⟩ : MethodName) := by decide +kernel
theorem cl_scanLog : codeLk (⟨"LinearHashLog", "scanLog", "()V"⟩ : MethodName) tables_1 = some (prog_1_method_69_code, 6, none) := codeLk_at (i := 118) rfl (by decide +kernel)
theorem pd_scanLog : parseMethodDescriptor "()V" = some ⟨[], none⟩ := by decide +kernel
theorem cc_scanLog_1 : hasInit (⟨"LinearHashLog", "scanLog", "()V"⟩ : MethodName).cls tables_1 = true ∧ plainName (⟨"LinearHashLog", "scanLog", "()V"⟩ : MethodName).cls = true ∧ (⟨"LinearHashLog", "scanLog", "()V"⟩ : MethodName).cls ≠ "java/lang/invoke/MethodHandle" ∧ (⟨"LinearHashLog", "scanLog", "()V"⟩ : MethodName).cls ≠ "java/lang/invoke/VarHandle" ∧ (((1 : Nat) = 0 ∧ hasDecl (⟨"LinearHashLog", "scanLog", "()V"⟩ : MethodName) tables_1 = true ∧ hasSel (⟨"LinearHashLog", "scanLog", "()V"⟩ : MethodName) tables_1 = true ∧ hasInst (⟨"LinearHashLog", "scanLog", "()V"⟩ : MethodName) tables_1 = true) ∨ ((1 : Nat) = 1 ∧ hasPriv (⟨"LinearHashLog", "scanLog", "()V"⟩ : MethodName) tables_1 = true ∧ hasInst (⟨"LinearHashLog", "scanLog", "()V"⟩ : MethodName) tables_1 = true ∧ (instLk (⟨"LinearHashLog", "scanLog", "()V"⟩ : MethodName).cls tables_1).isSome = true) ∨ ((1 : Nat) = 2 ∧ (⟨"LinearHashLog", "scanLog", "()V"⟩ : MethodName).name = "<init>" ∧ hasInst (⟨"LinearHashLog", "scanLog", "()V"⟩ : MethodName) tables_1 = true ∧ (none : Option FieldType) = none) ∨ ((1 : Nat) = 3 ∧ hasStat (⟨"LinearHashLog", "scanLog", "()V"⟩ : MethodName) tables_1 = true)) := by decide +kernel
theorem ca_c183_1 : callAt tables_1 "LinearHashLog" 183 1 = some ((⟨"LinearHashLog", "scanLog", "()V"⟩ : MethodName), 0, prog_1_method_69_code, 6, none) := callAt_of ml_c183 cl_scanLog pd_scanLog cc_scanLog_1 rfl
theorem d_loadMemory_14 : decode prog_1_method_50_code 14 = .ok (.invokevirtual 295, 3) := by decide +kernel
theorem ml_c295 : methodLk "LinearHashLog" 295 tables_1 = some (⟨"LinearHashLog", "copyPage", "(II)V"⟩ : MethodName) := by decide +kernel
theorem cl_copyPage : codeLk (⟨"LinearHashLog", "copyPage", "(II)V"⟩ : MethodName) tables_1 = some (prog_1_method_48_code, 4, none) := codeLk_at (i := 112) rfl (by decide +kernel)
theorem pd_copyPage : parseMethodDescriptor "(II)V" = some ⟨[.int, .int], none⟩ := by decide +kernel
theorem cc_copyPage_1 : hasInit (⟨"LinearHashLog", "copyPage", "(II)V"⟩ : MethodName).cls tables_1 = true ∧ plainName (⟨"LinearHashLog", "copyPage", "(II)V"⟩ : MethodName).cls = true ∧ (⟨"LinearHashLog", "copyPage", "(II)V"⟩ : MethodName).cls ≠ "java/lang/invoke/MethodHandle" ∧ (⟨"LinearHashLog", "copyPage", "(II)V"⟩ : MethodName).cls ≠ "java/lang/invoke/VarHandle" ∧ (((1 : Nat) = 0 ∧ hasDecl (⟨"LinearHashLog", "copyPage", "(II)V"⟩ : MethodName) tables_1 = true ∧ hasSel (⟨"LinearHashLog", "copyPage", "(II)V"⟩ : MethodName) tables_1 = true ∧ hasInst (⟨"LinearHashLog", "copyPage", "(II)V"⟩ : MethodName) tables_1 = true) ∨ ((1 : Nat) = 1 ∧ hasPriv (⟨"LinearHashLog", "copyPage", "(II)V"⟩ : MethodName) tables_1 = true ∧ hasInst (⟨"LinearHashLog", "copyPage", "(II)V"⟩ : MethodName) tables_1 = true ∧ (instLk (⟨"LinearHashLog", "copyPage", "(II)V"⟩ : MethodName).cls tables_1).isSome = true) ∨ ((1 : Nat) = 2 ∧ (⟨"LinearHashLog", "copyPage", "(II)V"⟩ : MethodName).name = "<init>" ∧ hasInst (⟨"LinearHashLog", "copyPage", "(II)V"⟩ : MethodName) tables_1 = true ∧ (none : Option FieldType) = none) ∨ ((1 : Nat) = 3 ∧ hasStat (⟨"LinearHashLog", "copyPage", "(II)V"⟩ : MethodName) tables_1 = true)) := by decide +kernel
theorem ca_c295_1 : callAt tables_1 "LinearHashLog" 295 1 = some ((⟨"LinearHashLog", "copyPage", "(II)V"⟩ : MethodName), 2, prog_1_method_48_code, 4, none) := callAt_of ml_c295 cl_copyPage pd_copyPage cc_copyPage_1 rfl
theorem d_loadMemory_17 : decode prog_1_method_50_code 17 = .ok (.iinc 1 1, 3) := by decide +kernel
theorem d_loadMemory_20 : decode prog_1_method_50_code 20 = .ok (.goto (-18), 3) := by decide +kernel
theorem d_loadMemory_35 : decode prog_1_method_50_code 35 = .ok (.aload_n 0, 1) := by decide +kernel
theorem d_loadMemory_36 : decode prog_1_method_50_code 36 = .ok (.getfield 186, 3) := by decide +kernel
theorem d_loadMemory_39 : decode prog_1_method_50_code 39 = .ok (.istore_n 1, 1) := by decide +kernel
theorem d_loadMemory_40 : decode prog_1_method_50_code 40 = .ok (.aload_n 0, 1) := by decide +kernel
theorem d_loadMemory_41 : decode prog_1_method_50_code 41 = .ok (.iload_n 1, 1) := by decide +kernel
theorem d_loadMemory_42 : decode prog_1_method_50_code 42 = .ok (.iconst 0, 1) := by decide +kernel
theorem d_loadMemory_43 : decode prog_1_method_50_code 43 = .ok (.invokevirtual 205, 3) := by decide +kernel
theorem ml_c205 : methodLk "LinearHashLog" 205 tables_1 = some (⟨"LinearHashLog", "redo", "(IZ)Z"⟩ : MethodName) := by decide +kernel
theorem cl_redo : codeLk (⟨"LinearHashLog", "redo", "(IZ)Z"⟩ : MethodName) tables_1 = some (prog_1_method_70_code, 6, (some .boolean)) := codeLk_at (i := 128) rfl (by decide +kernel)
theorem pd_redo : parseMethodDescriptor "(IZ)Z" = some ⟨[.int, .boolean], some .boolean⟩ := by decide +kernel
theorem cc_redo_1 : hasInit (⟨"LinearHashLog", "redo", "(IZ)Z"⟩ : MethodName).cls tables_1 = true ∧ plainName (⟨"LinearHashLog", "redo", "(IZ)Z"⟩ : MethodName).cls = true ∧ (⟨"LinearHashLog", "redo", "(IZ)Z"⟩ : MethodName).cls ≠ "java/lang/invoke/MethodHandle" ∧ (⟨"LinearHashLog", "redo", "(IZ)Z"⟩ : MethodName).cls ≠ "java/lang/invoke/VarHandle" ∧ (((1 : Nat) = 0 ∧ hasDecl (⟨"LinearHashLog", "redo", "(IZ)Z"⟩ : MethodName) tables_1 = true ∧ hasSel (⟨"LinearHashLog", "redo", "(IZ)Z"⟩ : MethodName) tables_1 = true ∧ hasInst (⟨"LinearHashLog", "redo", "(IZ)Z"⟩ : MethodName) tables_1 = true) ∨ ((1 : Nat) = 1 ∧ hasPriv (⟨"LinearHashLog", "redo", "(IZ)Z"⟩ : MethodName) tables_1 = true ∧ hasInst (⟨"LinearHashLog", "redo", "(IZ)Z"⟩ : MethodName) tables_1 = true ∧ (instLk (⟨"LinearHashLog", "redo", "(IZ)Z"⟩ : MethodName).cls tables_1).isSome = true) ∨ ((1 : Nat) = 2 ∧ (⟨"LinearHashLog", "redo", "(IZ)Z"⟩ : MethodName).name = "<init>" ∧ hasInst (⟨"LinearHashLog", "redo", "(IZ)Z"⟩ : MethodName) tables_1 = true ∧ ((some .boolean) : Option FieldType) = none) ∨ ((1 : Nat) = 3 ∧ hasStat (⟨"LinearHashLog", "redo", "(IZ)Z"⟩ : MethodName) tables_1 = true)) := by decide +kernel
theorem ca_c205_1 : callAt tables_1 "LinearHashLog" 205 1 = some ((⟨"LinearHashLog", "redo", "(IZ)Z"⟩ : MethodName), 2, prog_1_method_70_code, 6, (some .boolean)) := callAt_of ml_c205 cl_redo pd_redo cc_redo_1 rfl
theorem d_loadMemory_46 : decode prog_1_method_50_code 46 = .ok (.pop, 1) := by decide +kernel
theorem d_loadMemory_47 : decode prog_1_method_50_code 47 = .ok (.aload_n 0, 1) := by decide +kernel
theorem d_loadMemory_48 : decode prog_1_method_50_code 48 = .ok (.invokevirtual 298, 3) := by decide +kernel
theorem ml_c298 : methodLk "LinearHashLog" 298 tables_1 = some (⟨"LinearHashLog", "rebuildUsed", "()V"⟩ : MethodName) := by decide +kernel
theorem cl_rebuildUsed : codeLk (⟨"LinearHashLog", "rebuildUsed", "()V"⟩ : MethodName) tables_1 = some (prog_1_method_51_code, 2, none) := codeLk_at (i := 132) rfl (by decide +kernel)
theorem pd_rebuildUsed : parseMethodDescriptor "()V" = some ⟨[], none⟩ := by decide +kernel
theorem cc_rebuildUsed_1 : hasInit (⟨"LinearHashLog", "rebuildUsed", "()V"⟩ : MethodName).cls tables_1 = true ∧ plainName (⟨"LinearHashLog", "rebuildUsed", "()V"⟩ : MethodName).cls = true ∧ (⟨"LinearHashLog", "rebuildUsed", "()V"⟩ : MethodName).cls ≠ "java/lang/invoke/MethodHandle" ∧ (⟨"LinearHashLog", "rebuildUsed", "()V"⟩ : MethodName).cls ≠ "java/lang/invoke/VarHandle" ∧ (((1 : Nat) = 0 ∧ hasDecl (⟨"LinearHashLog", "rebuildUsed", "()V"⟩ : MethodName) tables_1 = true ∧ hasSel (⟨"LinearHashLog", "rebuildUsed", "()V"⟩ : MethodName) tables_1 = true ∧ hasInst (⟨"LinearHashLog", "rebuildUsed", "()V"⟩ : MethodName) tables_1 = true) ∨ ((1 : Nat) = 1 ∧ hasPriv (⟨"LinearHashLog", "rebuildUsed", "()V"⟩ : MethodName) tables_1 = true ∧ hasInst (⟨"LinearHashLog", "rebuildUsed", "()V"⟩ : MethodName) tables_1 = true ∧ (instLk (⟨"LinearHashLog", "rebuildUsed", "()V"⟩ : MethodName).cls tables_1).isSome = true) ∨ ((1 : Nat) = 2 ∧ (⟨"LinearHashLog", "rebuildUsed", "()V"⟩ : MethodName).name = "<init>" ∧ hasInst (⟨"LinearHashLog", "rebuildUsed", "()V"⟩ : MethodName) tables_1 = true ∧ (none : Option FieldType) = none) ∨ ((1 : Nat) = 3 ∧ hasStat (⟨"LinearHashLog", "rebuildUsed", "()V"⟩ : MethodName) tables_1 = true)) := by decide +kernel
theorem ca_c298_1 : callAt tables_1 "LinearHashLog" 298 1 = some ((⟨"LinearHashLog", "rebuildUsed", "()V"⟩ : MethodName), 0, prog_1_method_51_code, 2, none) := callAt_of ml_c298 cl_rebuildUsed pd_rebuildUsed cc_rebuildUsed_1 rfl
theorem d_loadMemory_51 : decode prog_1_method_50_code 51 = .ok (.aload_n 0, 1) := by decide +kernel
theorem d_loadMemory_52 : decode prog_1_method_50_code 52 = .ok (.aload_n 0, 1) := by decide +kernel
theorem d_loadMemory_53 : decode prog_1_method_50_code 53 = .ok (.invokevirtual 301, 3) := by decide +kernel
theorem ml_c301 : methodLk "LinearHashLog" 301 tables_1 = some (⟨"LinearHashLog", "countAll", "()I"⟩ : MethodName) := by decide +kernel
theorem cl_countAll : codeLk (⟨"LinearHashLog", "countAll", "()I"⟩ : MethodName) tables_1 = some (prog_1_method_30_code, 3, (some .int)) := codeLk_at (i := 144) rfl (by decide +kernel)
theorem pd_countAll : parseMethodDescriptor "()I" = some ⟨[], some .int⟩ := by decide +kernel
theorem cc_countAll_1 : hasInit (⟨"LinearHashLog", "countAll", "()I"⟩ : MethodName).cls tables_1 = true ∧ plainName (⟨"LinearHashLog", "countAll", "()I"⟩ : MethodName).cls = true ∧ (⟨"LinearHashLog", "countAll", "()I"⟩ : MethodName).cls ≠ "java/lang/invoke/MethodHandle" ∧ (⟨"LinearHashLog", "countAll", "()I"⟩ : MethodName).cls ≠ "java/lang/invoke/VarHandle" ∧ (((1 : Nat) = 0 ∧ hasDecl (⟨"LinearHashLog", "countAll", "()I"⟩ : MethodName) tables_1 = true ∧ hasSel (⟨"LinearHashLog", "countAll", "()I"⟩ : MethodName) tables_1 = true ∧ hasInst (⟨"LinearHashLog", "countAll", "()I"⟩ : MethodName) tables_1 = true) ∨ ((1 : Nat) = 1 ∧ hasPriv (⟨"LinearHashLog", "countAll", "()I"⟩ : MethodName) tables_1 = true ∧ hasInst (⟨"LinearHashLog", "countAll", "()I"⟩ : MethodName) tables_1 = true ∧ (instLk (⟨"LinearHashLog", "countAll", "()I"⟩ : MethodName).cls tables_1).isSome = true) ∨ ((1 : Nat) = 2 ∧ (⟨"LinearHashLog", "countAll", "()I"⟩ : MethodName).name = "<init>" ∧ hasInst (⟨"LinearHashLog", "countAll", "()I"⟩ : MethodName) tables_1 = true ∧ ((some .int) : Option FieldType) = none) ∨ ((1 : Nat) = 3 ∧ hasStat (⟨"LinearHashLog", "countAll", "()I"⟩ : MethodName) tables_1 = true)) := by decide +kernel
theorem ca_c301_1 : callAt tables_1 "LinearHashLog" 301 1 = some ((⟨"LinearHashLog", "countAll", "()I"⟩ : MethodName), 0, prog_1_method_30_code, 3, (some .int)) := callAt_of ml_c301 cl_countAll pd_countAll cc_countAll_1 rfl
theorem d_loadMemory_56 : decode prog_1_method_50_code 56 = .ok (.putfield 141, 3) := by decide +kernel
theorem d_loadMemory_59 : decode prog_1_method_50_code 59 = .ok (.aload_n 0, 1) := by decide +kernel
theorem d_loadMemory_60 : decode prog_1_method_50_code 60 = .ok (.invokevirtual 134, 3) := by decide +kernel
theorem ml_c134 : methodLk "LinearHashLog" 134 tables_1 = some (⟨"LinearHashLog", "clearDirty", "()V"⟩ : MethodName) := by decide +kernel
theorem cl_clearDirty : codeLk (⟨"LinearHashLog", "clearDirty", "()V"⟩ : MethodName) tables_1 = some (prog_1_method_53_code, 2, none) := codeLk_at (i := 158) rfl (by decide +kernel)
theorem pd_clearDirty : parseMethodDescriptor "()V" = some ⟨[], none⟩ := by decide +kernel
theorem cc_clearDirty_1 : hasInit (⟨"LinearHashLog", "clearDirty", "()V"⟩ : MethodName).cls tables_1 = true ∧ plainName (⟨"LinearHashLog", "clearDirty", "()V"⟩ : MethodName).cls = true ∧ (⟨"LinearHashLog", "clearDirty", "()V"⟩ : MethodName).cls ≠ "java/lang/invoke/MethodHandle" ∧ (⟨"LinearHashLog", "clearDirty", "()V"⟩ : MethodName).cls ≠ "java/lang/invoke/VarHandle" ∧ (((1 : Nat) = 0 ∧ hasDecl (⟨"LinearHashLog", "clearDirty", "()V"⟩ : MethodName) tables_1 = true ∧ hasSel (⟨"LinearHashLog", "clearDirty", "()V"⟩ : MethodName) tables_1 = true ∧ hasInst (⟨"LinearHashLog", "clearDirty", "()V"⟩ : MethodName) tables_1 = true) ∨ ((1 : Nat) = 1 ∧ hasPriv (⟨"LinearHashLog", "clearDirty", "()V"⟩ : MethodName) tables_1 = true ∧ hasInst (⟨"LinearHashLog", "clearDirty", "()V"⟩ : MethodName) tables_1 = true ∧ (instLk (⟨"LinearHashLog", "clearDirty", "()V"⟩ : MethodName).cls tables_1).isSome = true) ∨ ((1 : Nat) = 2 ∧ (⟨"LinearHashLog", "clearDirty", "()V"⟩ : MethodName).name = "<init>" ∧ hasInst (⟨"LinearHashLog", "clearDirty", "()V"⟩ : MethodName) tables_1 = true ∧ (none : Option FieldType) = none) ∨ ((1 : Nat) = 3 ∧ hasStat (⟨"LinearHashLog", "clearDirty", "()V"⟩ : MethodName) tables_1 = true)) := by decide +kernel
theorem ca_c134_1 : callAt tables_1 "LinearHashLog" 134 1 = some ((⟨"LinearHashLog", "clearDirty", "()V"⟩ : MethodName), 0, prog_1_method_53_code, 2, none) := callAt_of ml_c134 cl_clearDirty pd_clearDirty cc_clearDirty_1 rfl
theorem d_loadMemory_63 : decode prog_1_method_50_code 63 = .ok (.aload_n 0, 1) := by decide +kernel
theorem d_loadMemory_64 : decode prog_1_method_50_code 64 = .ok (.iconst 0, 1) := by decide +kernel
theorem d_loadMemory_65 : decode prog_1_method_50_code 65 = .ok (.putfield 128, 3) := by decide +kernel
theorem fa_c128 : fieldAt tables_1 "LinearHashLog" 128 = some ("LinearHashLog", 104, 2, false) := by decide +kernel
theorem d_loadMemory_68 : decode prog_1_method_50_code 68 = .ok (.return_, 1) := by decide +kernel
theorem d_init_0 : decode prog_1_method_1_code 0 = .ok (.aload_n 0, 1) := by decide +kernel
theorem d_init_1 : decode prog_1_method_1_code 1 = .ok (.invokespecial 1, 3) := by decide +kernel
theorem oi_c1 : objInitAt tables_1 "LinearHashLog" 1 = true := by decide +kernel
theorem d_init_4 : decode prog_1_method_1_code 4 = .ok (.aload_n 0, 1) := by decide +kernel
theorem d_init_5 : decode prog_1_method_1_code 5 = .ok (.iconst 4, 1) := by decide +kernel
theorem d_init_6 : decode prog_1_method_1_code 6 = .ok (.putfield 7, 3) := by decide +kernel
theorem fa_c7 : fieldAt tables_1 "LinearHashLog" 7 = some ("LinearHashLog", 10, 1, true) := by decide +kernel
theorem d_init_9 : decode prog_1_method_1_code 9 = .ok (.aload_n 0, 1) := by decide +kernel
theorem d_init_10 : decode prog_1_method_1_code 10 = .ok (.bipush 32, 2) := by decide +kernel
theorem d_init_12 : decode prog_1_method_1_code 12 = .ok (.putfield 13, 3) := by decide +kernel
theorem fa_c13 : fieldAt tables_1 "LinearHashLog" 13 = some ("LinearHashLog", 12, 1, true) := by decide +kernel
theorem d_init_15 : decode prog_1_method_1_code 15 = .ok (.aload_n 0, 1) := by decide +kernel
theorem d_init_16 : decode prog_1_method_1_code 16 = .ok (.bipush 16, 2) := by decide +kernel
theorem d_init_18 : decode prog_1_method_1_code 18 = .ok (.putfield 16, 3) := by decide +kernel
theorem fa_c16 : fieldAt tables_1 "LinearHashLog" 16 = some ("LinearHashLog", 14, 1, true) := by decide +kernel
theorem d_init_21 : decode prog_1_method_1_code 21 = .ok (.aload_n 0, 1) := by decide +kernel
theorem d_init_22 : decode prog_1_method_1_code 22 = .ok (.bipush 32, 2) := by decide +kernel
theorem d_init_24 : decode prog_1_method_1_code 24 = .ok (.putfield 19, 3) := by decide +kernel
theorem fa_c19 : fieldAt tables_1 "LinearHashLog" 19 = some ("LinearHashLog", 16, 1, true) := by decide +kernel
theorem d_init_27 : decode prog_1_method_1_code 27 = .ok (.aload_n 0, 1) := by decide +kernel
theorem d_init_28 : decode prog_1_method_1_code 28 = .ok (.bipush 48, 2) := by decide +kernel
theorem d_init_30 : decode prog_1_method_1_code 30 = .ok (.putfield 22, 3) := by decide +kernel
theorem fa_c22 : fieldAt tables_1 "LinearHashLog" 22 = some ("LinearHashLog", 18, 1, true) := by decide +kernel
theorem d_init_33 : decode prog_1_method_1_code 33 = .ok (.aload_n 0, 1) := by decide +kernel
theorem d_init_34 : decode prog_1_method_1_code 34 = .ok (.sipush 1024, 3) := by decide +kernel
theorem d_init_37 : decode prog_1_method_1_code 37 = .ok (.putfield 25, 3) := by decide +kernel
theorem fa_c25 : fieldAt tables_1 "LinearHashLog" 25 = some ("LinearHashLog", 20, 1, true) := by decide +kernel
theorem d_init_40 : decode prog_1_method_1_code 40 = .ok (.aload_n 0, 1) := by decide +kernel
theorem d_init_41 : decode prog_1_method_1_code 41 = .ok (.iconst 1, 1) := by decide +kernel
theorem d_init_42 : decode prog_1_method_1_code 42 = .ok (.putfield 28, 3) := by decide +kernel
theorem fa_c28 : fieldAt tables_1 "LinearHashLog" 28 = some ("LinearHashLog", 22, 1, true) := by decide +kernel
theorem d_init_45 : decode prog_1_method_1_code 45 = .ok (.aload_n 0, 1) := by decide +kernel
theorem d_init_46 : decode prog_1_method_1_code 46 = .ok (.iconst 2, 1) := by decide +kernel
theorem d_init_47 : decode prog_1_method_1_code 47 = .ok (.putfield 31, 3) := by decide +kernel
theorem fa_c31 : fieldAt tables_1 "LinearHashLog" 31 = some ("LinearHashLog", 24, 1, true) := by decide +kernel
theorem d_init_50 : decode prog_1_method_1_code 50 = .ok (.aload_n 0, 1) := by decide +kernel
theorem d_init_51 : decode prog_1_method_1_code 51 = .ok (.iconst 3, 1) := by decide +kernel
theorem d_init_52 : decode prog_1_method_1_code 52 = .ok (.putfield 34, 3) := by decide +kernel
theorem fa_c34 : fieldAt tables_1 "LinearHashLog" 34 = some ("LinearHashLog", 26, 1, true) := by decide +kernel
theorem d_init_55 : decode prog_1_method_1_code 55 = .ok (.aload_n 0, 1) := by decide +kernel
theorem d_init_56 : decode prog_1_method_1_code 56 = .ok (.bipush 14, 2) := by decide +kernel
theorem d_init_58 : decode prog_1_method_1_code 58 = .ok (.putfield 37, 3) := by decide +kernel
theorem fa_c37 : fieldAt tables_1 "LinearHashLog" 37 = some ("LinearHashLog", 28, 1, true) := by decide +kernel
theorem d_init_61 : decode prog_1_method_1_code 61 = .ok (.aload_n 0, 1) := by decide +kernel
theorem d_init_62 : decode prog_1_method_1_code 62 = .ok (.iconst 4, 1) := by decide +kernel
theorem d_init_63 : decode prog_1_method_1_code 63 = .ok (.putfield 40, 3) := by decide +kernel
theorem fa_c40 : fieldAt tables_1 "LinearHashLog" 40 = some ("LinearHashLog", 30, 1, true) := by decide +kernel
theorem d_init_66 : decode prog_1_method_1_code 66 = .ok (.aload_n 0, 1) := by decide +kernel
theorem d_init_67 : decode prog_1_method_1_code 67 = .ok (.iconst 0, 1) := by decide +kernel
theorem d_init_68 : decode prog_1_method_1_code 68 = .ok (.putfield 43, 3) := by decide +kernel
theorem fa_c43 : fieldAt tables_1 "LinearHashLog" 43 = some ("LinearHashLog", 32, 1, true) := by decide +kernel
theorem d_init_71 : decode prog_1_method_1_code 71 = .ok (.aload_n 0, 1) := by decide +kernel
theorem d_init_72 : decode prog_1_method_1_code 72 = .ok (.iconst 1, 1) := by decide +kernel
theorem d_init_73 : decode prog_1_method_1_code 73 = .ok (.putfield 46, 3) := by decide +kernel
theorem fa_c46 : fieldAt tables_1 "LinearHashLog" 46 = some ("LinearHashLog", 34, 1, true) := by decide +kernel
theorem d_init_76 : decode prog_1_method_1_code 76 = .ok (.aload_n 0, 1) := by decide +kernel
theorem d_init_77 : decode prog_1_method_1_code 77 = .ok (.iconst 2, 1) := by decide +kernel
theorem d_init_78 : decode prog_1_method_1_code 78 = .ok (.putfield 49, 3) := by decide +kernel
theorem fa_c49 : fieldAt tables_1 "LinearHashLog" 49 = some ("LinearHashLog", 36, 1, true) := by decide +kernel
theorem d_init_81 : decode prog_1_method_1_code 81 = .ok (.aload_n 0, 1) := by decide +kernel
theorem d_init_82 : decode prog_1_method_1_code 82 = .ok (.bipush 64, 2) := by decide +kernel
theorem d_init_84 : decode prog_1_method_1_code 84 = .ok (.newarray .int, 2) := by decide +kernel
theorem ar_int : hasArr .int tables_1 = true := by decide +kernel
theorem d_init_86 : decode prog_1_method_1_code 86 = .ok (.putfield 52, 3) := by decide +kernel
theorem d_init_89 : decode prog_1_method_1_code 89 = .ok (.aload_n 0, 1) := by decide +kernel
theorem d_init_90 : decode prog_1_method_1_code 90 = .ok (.bipush 64, 2) := by decide +kernel
theorem d_init_92 : decode prog_1_method_1_code 92 = .ok (.newarray .int, 2) := by decide +kernel
theorem d_init_94 : decode prog_1_method_1_code 94 = .ok (.putfield 56, 3) := by decide +kernel
theorem d_init_97 : decode prog_1_method_1_code 97 = .ok (.aload_n 0, 1) := by decide +kernel
theorem d_init_98 : decode prog_1_method_1_code 98 = .ok (.bipush 64, 2) := by decide +kernel
theorem d_init_100 : decode prog_1_method_1_code 100 = .ok (.newarray .int, 2) := by decide +kernel
theorem d_init_102 : decode prog_1_method_1_code 102 = .ok (.putfield 59, 3) := by decide +kernel
theorem d_init_105 : decode prog_1_method_1_code 105 = .ok (.aload_n 0, 1) := by decide +kernel
theorem d_init_106 : decode prog_1_method_1_code 106 = .ok (.sipush 256, 3) := by decide +kernel
theorem d_init_109 : decode prog_1_method_1_code 109 = .ok (.newarray .int, 2) := by decide +kernel
theorem d_init_111 : decode prog_1_method_1_code 111 = .ok (.putfield 62, 3) := by decide +kernel
theorem d_init_114 : decode prog_1_method_1_code 114 = .ok (.aload_n 0, 1) := by decide +kernel
theorem d_init_115 : decode prog_1_method_1_code 115 = .ok (.sipush 256, 3) := by decide +kernel
theorem d_init_118 : decode prog_1_method_1_code 118 = .ok (.newarray .int, 2) := by decide +kernel
theorem d_init_120 : decode prog_1_method_1_code 120 = .ok (.putfield 65, 3) := by decide +kernel
theorem d_init_123 : decode prog_1_method_1_code 123 = .ok (.aload_n 0, 1) := by decide +kernel
theorem d_init_124 : decode prog_1_method_1_code 124 = .ok (.bipush 32, 2) := by decide +kernel
theorem d_init_126 : decode prog_1_method_1_code 126 = .ok (.newarray .boolean, 2) := by decide +kernel
theorem ar_boolean : hasArr .boolean tables_1 = true := by decide +kernel
theorem d_init_128 : decode prog_1_method_1_code 128 = .ok (.putfield 68, 3) := by decide +kernel
theorem d_init_131 : decode prog_1_method_1_code 131 = .ok (.aload_n 0, 1) := by decide +kernel
theorem d_init_132 : decode prog_1_method_1_code 132 = .ok (.bipush 32, 2) := by decide +kernel
theorem d_init_134 : decode prog_1_method_1_code 134 = .ok (.newarray .boolean, 2) := by decide +kernel
theorem d_init_136 : decode prog_1_method_1_code 136 = .ok (.putfield 72, 3) := by decide +kernel
theorem d_init_139 : decode prog_1_method_1_code 139 = .ok (.aload_n 0, 1) := by decide +kernel
theorem d_init_140 : decode prog_1_method_1_code 140 = .ok (.sipush 1024, 3) := by decide +kernel
theorem d_init_143 : decode prog_1_method_1_code 143 = .ok (.newarray .int, 2) := by decide +kernel
theorem d_init_145 : decode prog_1_method_1_code 145 = .ok (.putfield 75, 3) := by decide +kernel
theorem fa_c75 : fieldAt tables_1 "LinearHashLog" 75 = some ("LinearHashLog", 54, 4, true) := by decide +kernel
theorem d_init_148 : decode prog_1_method_1_code 148 = .ok (.aload_n 0, 1) := by decide +kernel
theorem d_init_149 : decode prog_1_method_1_code 149 = .ok (.bipush 48, 2) := by decide +kernel
theorem d_init_151 : decode prog_1_method_1_code 151 = .ok (.newarray .int, 2) := by decide +kernel
theorem d_init_153 : decode prog_1_method_1_code 153 = .ok (.putfield 78, 3) := by decide +kernel
theorem fa_c78 : fieldAt tables_1 "LinearHashLog" 78 = some ("LinearHashLog", 56, 4, true) := by decide +kernel
theorem d_init_156 : decode prog_1_method_1_code 156 = .ok (.aload_n 0, 1) := by decide +kernel
theorem d_init_157 : decode prog_1_method_1_code 157 = .ok (.bipush 48, 2) := by decide +kernel
theorem d_init_159 : decode prog_1_method_1_code 159 = .ok (.newarray .int, 2) := by decide +kernel
theorem d_init_161 : decode prog_1_method_1_code 161 = .ok (.putfield 81, 3) := by decide +kernel
theorem fa_c81 : fieldAt tables_1 "LinearHashLog" 81 = some ("LinearHashLog", 58, 4, true) := by decide +kernel
theorem d_init_164 : decode prog_1_method_1_code 164 = .ok (.aload_n 0, 1) := by decide +kernel
theorem d_init_165 : decode prog_1_method_1_code 165 = .ok (.bipush 48, 2) := by decide +kernel
theorem d_init_167 : decode prog_1_method_1_code 167 = .ok (.newarray .int, 2) := by decide +kernel
theorem d_init_169 : decode prog_1_method_1_code 169 = .ok (.putfield 84, 3) := by decide +kernel
theorem fa_c84 : fieldAt tables_1 "LinearHashLog" 84 = some ("LinearHashLog", 60, 4, true) := by decide +kernel
theorem d_init_172 : decode prog_1_method_1_code 172 = .ok (.aload_n 0, 1) := by decide +kernel
theorem d_init_173 : decode prog_1_method_1_code 173 = .ok (.aload_n 0, 1) := by decide +kernel
theorem d_init_174 : decode prog_1_method_1_code 174 = .ok (.iload_n 1, 1) := by decide +kernel
theorem d_init_175 : decode prog_1_method_1_code 175 = .ok (.iconst 1, 1) := by decide +kernel
theorem d_init_176 : decode prog_1_method_1_code 176 = .ok (.iconst 4, 1) := by decide +kernel
theorem d_init_177 : decode prog_1_method_1_code 177 = .ok (.invokevirtual 87, 3) := by decide +kernel
theorem ml_c87 : methodLk "LinearHashLog" 87 tables_1 = some (⟨"LinearHashLog", "clamp", "(III)I"⟩ : MethodName) := by decide +kernel
theorem cl_clamp : codeLk (⟨"LinearHashLog", "clamp", "(III)I"⟩ : MethodName) tables_1 = some (prog_1_method_18_code, 4, (some .int)) := codeLk_at (i := 64) rfl (by decide +kernel)
theorem pd_clamp : parseMethodDescriptor "(III)I" = some ⟨[.int, .int, .int], some .int⟩ := by decide +kernel
theorem cc_clamp_1 : hasInit (⟨"LinearHashLog", "clamp", "(III)I"⟩ : MethodName).cls tables_1 = true ∧ plainName (⟨"LinearHashLog", "clamp", "(III)I"⟩ : MethodName).cls = true ∧ (⟨"LinearHashLog", "clamp", "(III)I"⟩ : MethodName).cls ≠ "java/lang/invoke/MethodHandle" ∧ (⟨"LinearHashLog", "clamp", "(III)I"⟩ : MethodName).cls ≠ "java/lang/invoke/VarHandle" ∧ (((1 : Nat) = 0 ∧ hasDecl (⟨"LinearHashLog", "clamp", "(III)I"⟩ : MethodName) tables_1 = true ∧ hasSel (⟨"LinearHashLog", "clamp", "(III)I"⟩ : MethodName) tables_1 = true ∧ hasInst (⟨"LinearHashLog", "clamp", "(III)I"⟩ : MethodName) tables_1 = true) ∨ ((1 : Nat) = 1 ∧ hasPriv (⟨"LinearHashLog", "clamp", "(III)I"⟩ : MethodName) tables_1 = true ∧ hasInst (⟨"LinearHashLog", "clamp", "(III)I"⟩ : MethodName) tables_1 = true ∧ (instLk (⟨"LinearHashLog", "clamp", "(III)I"⟩ : MethodName).cls tables_1).isSome = true) ∨ ((1 : Nat) = 2 ∧ (⟨"LinearHashLog", "clamp", "(III)I"⟩ : MethodName).name = "<init>" ∧ hasInst (⟨"LinearHashLog", "clamp", "(III)I"⟩ : MethodName) tables_1 = true ∧ ((some .int) : Option FieldType) = none) ∨ ((1 : Nat) = 3 ∧ hasStat (⟨"LinearHashLog", "clamp", "(III)I"⟩ : MethodName) tables_1 = true)) := by decide +kernel
theorem ca_c87_1 : callAt tables_1 "LinearHashLog" 87 1 = some ((⟨"LinearHashLog", "clamp", "(III)I"⟩ : MethodName), 3, prog_1_method_18_code, 4, (some .int)) := callAt_of ml_c87 cl_clamp pd_clamp cc_clamp_1 rfl
abbrev W_init (pc : Nat) (ls : List Slot) (st : List Value) (M : EMem) (Q : Option Value → EMem → Prop) : Prop := Wp tables_1 0 4 60 (⟨"LinearHashLog", "<init>", "(III)V"⟩ : MethodName) prog_1_method_1_code none pc ls st M Q
theorem d_init_180 : decode prog_1_method_1_code 180 = .ok (.putfield 91, 3) := by decide +kernel
theorem d_init_183 : decode prog_1_method_1_code 183 = .ok (.aload_n 0, 1) := by decide +kernel
theorem d_init_184 : decode prog_1_method_1_code 184 = .ok (.aload_n 0, 1) := by decide +kernel
theorem d_init_185 : decode prog_1_method_1_code 185 = .ok (.iload_n 2, 1) := by decide +kernel
theorem d_init_186 : decode prog_1_method_1_code 186 = .ok (.iconst 4, 1) := by decide +kernel
theorem d_init_187 : decode prog_1_method_1_code 187 = .ok (.bipush 48, 2) := by decide +kernel
theorem d_init_189 : decode prog_1_method_1_code 189 = .ok (.invokevirtual 87, 3) := by decide +kernel
theorem d_init_192 : decode prog_1_method_1_code 192 = .ok (.putfield 94, 3) := by decide +kernel
theorem fa_c94 : fieldAt tables_1 "LinearHashLog" 94 = some ("LinearHashLog", 68, 1, false) := by decide +kernel
theorem d_init_195 : decode prog_1_method_1_code 195 = .ok (.aload_n 0, 1) := by decide +kernel
theorem d_init_196 : decode prog_1_method_1_code 196 = .ok (.aload_n 0, 1) := by decide +kernel
theorem d_init_197 : decode prog_1_method_1_code 197 = .ok (.iload_n 3, 1) := by decide +kernel
theorem d_init_198 : decode prog_1_method_1_code 198 = .ok (.iconst 1, 1) := by decide +kernel
theorem d_init_199 : decode prog_1_method_1_code 199 = .ok (.bipush 8, 2) := by decide +kernel
theorem d_init_201 : decode prog_1_method_1_code 201 = .ok (.invokevirtual 87, 3) := by decide +kernel
theorem d_init_204 : decode prog_1_method_1_code 204 = .ok (.putfield 97, 3) := by decide +kernel
theorem fa_c97 : fieldAt tables_1 "LinearHashLog" 97 = some ("LinearHashLog", 70, 1, false) := by decide +kernel
theorem d_init_207 : decode prog_1_method_1_code 207 = .ok (.aload_n 0, 1) := by decide +kernel
theorem d_init_208 : decode prog_1_method_1_code 208 = .ok (.invokevirtual 100, 3) := by decide +kernel
theorem ml_c100 : methodLk "LinearHashLog" 100 tables_1 = some (⟨"LinearHashLog", "formatDisk", "()V"⟩ : MethodName) := by decide +kernel
theorem cl_formatDisk : codeLk (⟨"LinearHashLog", "formatDisk", "()V"⟩ : MethodName) tables_1 = some (prog_1_method_49_code, 2, none) := codeLk_at (i := 74) rfl (by decide +kernel)
theorem pd_formatDisk : parseMethodDescriptor "()V" = some ⟨[], none⟩ := by decide +kernel
theorem cc_formatDisk_1 : hasInit (⟨"LinearHashLog", "formatDisk", "()V"⟩ : MethodName).cls tables_1 = true ∧ plainName (⟨"LinearHashLog", "formatDisk", "()V"⟩ : MethodName).cls = true ∧ (⟨"LinearHashLog", "formatDisk", "()V"⟩ : MethodName).cls ≠ "java/lang/invoke/MethodHandle" ∧ (⟨"LinearHashLog", "formatDisk", "()V"⟩ : MethodName).cls ≠ "java/lang/invoke/VarHandle" ∧ (((1 : Nat) = 0 ∧ hasDecl (⟨"LinearHashLog", "formatDisk", "()V"⟩ : MethodName) tables_1 = true ∧ hasSel (⟨"LinearHashLog", "formatDisk", "()V"⟩ : MethodName) tables_1 = true ∧ hasInst (⟨"LinearHashLog", "formatDisk", "()V"⟩ : MethodName) tables_1 = true) ∨ ((1 : Nat) = 1 ∧ hasPriv (⟨"LinearHashLog", "formatDisk", "()V"⟩ : MethodName) tables_1 = true ∧ hasInst (⟨"LinearHashLog", "formatDisk", "()V"⟩ : MethodName) tables_1 = true ∧ (instLk (⟨"LinearHashLog", "formatDisk", "()V"⟩ : MethodName).cls tables_1).isSome = true) ∨ ((1 : Nat) = 2 ∧ (⟨"LinearHashLog", "formatDisk", "()V"⟩ : MethodName).name = "<init>" ∧ hasInst (⟨"LinearHashLog", "formatDisk", "()V"⟩ : MethodName) tables_1 = true ∧ (none : Option FieldType) = none) ∨ ((1 : Nat) = 3 ∧ hasStat (⟨"LinearHashLog", "formatDisk", "()V"⟩ : MethodName) tables_1 = true)) := by decide +kernel
theorem ca_c100_1 : callAt tables_1 "LinearHashLog" 100 1 = some ((⟨"LinearHashLog", "formatDisk", "()V"⟩ : MethodName), 0, prog_1_method_49_code, 2, none) := callAt_of ml_c100 cl_formatDisk pd_formatDisk cc_formatDisk_1 rfl
theorem d_init_211 : decode prog_1_method_1_code 211 = .ok (.aload_n 0, 1) := by decide +kernel
theorem d_init_212 : decode prog_1_method_1_code 212 = .ok (.iconst 0, 1) := by decide +kernel
theorem d_init_213 : decode prog_1_method_1_code 213 = .ok (.putfield 103, 3) := by decide +kernel
theorem d_init_216 : decode prog_1_method_1_code 216 = .ok (.aload_n 0, 1) := by decide +kernel
theorem d_init_217 : decode prog_1_method_1_code 217 = .ok (.iconst 0, 1) := by decide +kernel
theorem d_init_218 : decode prog_1_method_1_code 218 = .ok (.putfield 106, 3) := by decide +kernel
theorem fa_c106 : fieldAt tables_1 "LinearHashLog" 106 = some ("LinearHashLog", 90, 2, false) := by decide +kernel
theorem d_init_221 : decode prog_1_method_1_code 221 = .ok (.aload_n 0, 1) := by decide +kernel
theorem d_init_222 : decode prog_1_method_1_code 222 = .ok (.iconst 0, 1) := by decide +kernel
theorem d_init_223 : decode prog_1_method_1_code 223 = .ok (.putfield 110, 3) := by decide +kernel
theorem fa_c110 : fieldAt tables_1 "LinearHashLog" 110 = some ("LinearHashLog", 92, 1, false) := by decide +kernel
theorem d_init_226 : decode prog_1_method_1_code 226 = .ok (.aload_n 0, 1) := by decide +kernel
theorem d_init_227 : decode prog_1_method_1_code 227 = .ok (.iconst 0, 1) := by decide +kernel
theorem d_init_228 : decode prog_1_method_1_code 228 = .ok (.putfield 113, 3) := by decide +kernel
theorem d_init_231 : decode prog_1_method_1_code 231 = .ok (.aload_n 0, 1) := by decide +kernel
theorem d_init_232 : decode prog_1_method_1_code 232 = .ok (.iconst 0, 1) := by decide +kernel
theorem d_init_233 : decode prog_1_method_1_code 233 = .ok (.putfield 116, 3) := by decide +kernel
theorem fa_c116 : fieldAt tables_1 "LinearHashLog" 116 = some ("LinearHashLog", 96, 1, false) := by decide +kernel
theorem d_init_236 : decode prog_1_method_1_code 236 = .ok (.aload_n 0, 1) := by decide +kernel
theorem d_init_237 : decode prog_1_method_1_code 237 = .ok (.iconst 0, 1) := by decide +kernel
theorem d_init_238 : decode prog_1_method_1_code 238 = .ok (.putfield 119, 3) := by decide +kernel
theorem fa_c119 : fieldAt tables_1 "LinearHashLog" 119 = some ("LinearHashLog", 98, 2, false) := by decide +kernel
theorem d_init_241 : decode prog_1_method_1_code 241 = .ok (.aload_n 0, 1) := by decide +kernel
theorem d_init_242 : decode prog_1_method_1_code 242 = .ok (.iconst 0, 1) := by decide +kernel
theorem d_init_243 : decode prog_1_method_1_code 243 = .ok (.putfield 122, 3) := by decide +kernel
theorem fa_c122 : fieldAt tables_1 "LinearHashLog" 122 = some ("LinearHashLog", 100, 1, false) := by decide +kernel
theorem d_init_246 : decode prog_1_method_1_code 246 = .ok (.aload_n 0, 1) := by decide +kernel
theorem d_init_247 : decode prog_1_method_1_code 247 = .ok (.iconst 0, 1) := by decide +kernel
theorem d_init_248 : decode prog_1_method_1_code 248 = .ok (.putfield 125, 3) := by decide +kernel
theorem fa_c125 : fieldAt tables_1 "LinearHashLog" 125 = some ("LinearHashLog", 102, 1, false) := by decide +kernel
theorem d_init_251 : decode prog_1_method_1_code 251 = .ok (.aload_n 0, 1) := by decide +kernel
theorem d_init_252 : decode prog_1_method_1_code 252 = .ok (.iconst 0, 1) := by decide +kernel
theorem d_init_253 : decode prog_1_method_1_code 253 = .ok (.putfield 128, 3) := by decide +kernel
theorem d_init_256 : decode prog_1_method_1_code 256 = .ok (.aload_n 0, 1) := by decide +kernel
theorem d_init_257 : decode prog_1_method_1_code 257 = .ok (.invokevirtual 131, 3) := by decide +kernel
theorem ml_c131 : methodLk "LinearHashLog" 131 tables_1 = some (⟨"LinearHashLog", "loadMemory", "()V"⟩ : MethodName) := by decide +kernel
theorem cl_loadMemory : codeLk (⟨"LinearHashLog", "loadMemory", "()V"⟩ : MethodName) tables_1 = some (prog_1_method_50_code, 2, none) := codeLk_at (i := 108) rfl (by decide +kernel)
theorem pd_loadMemory : parseMethodDescriptor "()V" = some ⟨[], none⟩ := by decide +kernel
theorem cc_loadMemory_1 : hasInit (⟨"LinearHashLog", "loadMemory", "()V"⟩ : MethodName).cls tables_1 = true ∧ plainName (⟨"LinearHashLog", "loadMemory", "()V"⟩ : MethodName).cls = true ∧ (⟨"LinearHashLog", "loadMemory", "()V"⟩ : MethodName).cls ≠ "java/lang/invoke/MethodHandle" ∧ (⟨"LinearHashLog", "loadMemory", "()V"⟩ : MethodName).cls ≠ "java/lang/invoke/VarHandle" ∧ (((1 : Nat) = 0 ∧ hasDecl (⟨"LinearHashLog", "loadMemory", "()V"⟩ : MethodName) tables_1 = true ∧ hasSel (⟨"LinearHashLog", "loadMemory", "()V"⟩ : MethodName) tables_1 = true ∧ hasInst (⟨"LinearHashLog", "loadMemory", "()V"⟩ : MethodName) tables_1 = true) ∨ ((1 : Nat) = 1 ∧ hasPriv (⟨"LinearHashLog", "loadMemory", "()V"⟩ : MethodName) tables_1 = true ∧ hasInst (⟨"LinearHashLog", "loadMemory", "()V"⟩ : MethodName) tables_1 = true ∧ (instLk (⟨"LinearHashLog", "loadMemory", "()V"⟩ : MethodName).cls tables_1).isSome = true) ∨ ((1 : Nat) = 2 ∧ (⟨"LinearHashLog", "loadMemory", "()V"⟩ : MethodName).name = "<init>" ∧ hasInst (⟨"LinearHashLog", "loadMemory", "()V"⟩ : MethodName) tables_1 = true ∧ (none : Option FieldType) = none) ∨ ((1 : Nat) = 3 ∧ hasStat (⟨"LinearHashLog", "loadMemory", "()V"⟩ : MethodName) tables_1 = true)) := by decide +kernel
theorem ca_c131_1 : callAt tables_1 "LinearHashLog" 131 1 = some ((⟨"LinearHashLog", "loadMemory", "()V"⟩ : MethodName), 0, prog_1_method_50_code, 2, none) := callAt_of ml_c131 cl_loadMemory pd_loadMemory cc_loadMemory_1 rfl
theorem d_init_260 : decode prog_1_method_1_code 260 = .ok (.return_, 1) := by decide +kernel
theorem d_status_0 : decode prog_1_method_16_code 0 = .ok (.iconst 0, 1) := by decide +kernel
theorem d_status_1 : decode prog_1_method_16_code 1 = .ok (.istore_n 1, 1) := by decide +kernel
theorem d_status_2 : decode prog_1_method_16_code 2 = .ok (.aload_n 0, 1) := by decide +kernel
theorem d_status_3 : decode prog_1_method_16_code 3 = .ok (.getfield 103, 3) := by decide +kernel
theorem d_status_6 : decode prog_1_method_16_code 6 = .ok (.iconst 2, 1) := by decide +kernel
theorem d_status_7 : decode prog_1_method_16_code 7 = .ok (.if_icmp .ne 8, 3) := by decide +kernel
theorem d_status_15 : decode prog_1_method_16_code 15 = .ok (.aload_n 0, 1) := by decide +kernel
theorem d_status_16 : decode prog_1_method_16_code 16 = .ok (.getfield 103, 3) := by decide +kernel
theorem d_status_19 : decode prog_1_method_16_code 19 = .ok (.iconst 1, 1) := by decide +kernel
theorem d_status_23 : decode prog_1_method_16_code 23 = .ok (.iconst 1, 1) := by decide +kernel
theorem d_status_24 : decode prog_1_method_16_code 24 = .ok (.istore_n 1, 1) := by decide +kernel
theorem d_status_20 : decode prog_1_method_16_code 20 = .ok (.if_icmp .ne 5, 3) := by decide +kernel
theorem d_status_10 : decode prog_1_method_16_code 10 = .ok (.iconst 2, 1) := by decide +kernel
theorem d_status_11 : decode prog_1_method_16_code 11 = .ok (.istore_n 1, 1) := by decide +kernel
theorem d_status_12 : decode prog_1_method_16_code 12 = .ok (.goto 13, 3) := by decide +kernel
abbrev W_status (pc : Nat) (ls : List Slot) (st : List Value) (M : EMem) (Q : Option Value → EMem → Prop) : Prop := Wp tables_1 0 0 0 (⟨"LinearHashLog", "status", "()I"⟩ : MethodName) prog_1_method_16_code (some .int) pc ls st M Q
theorem d_status_25 : decode prog_1_method_16_code 25 = .ok (.aload_n 0, 1) := by decide +kernel
theorem d_status_26 : decode prog_1_method_16_code 26 = .ok (.getfield 106, 3) := by decide +kernel
theorem d_status_29 : decode prog_1_method_16_code 29 = .ok (.ifCond .eq 7, 3) := by decide +kernel
theorem d_status_32 : decode prog_1_method_16_code 32 = .ok (.iload_n 1, 1) := by decide +kernel
theorem d_status_33 : decode prog_1_method_16_code 33 = .ok (.iconst 4, 1) := by decide +kernel
theorem d_status_34 : decode prog_1_method_16_code 34 = .ok (.iadd, 1) := by decide +kernel
theorem d_status_35 : decode prog_1_method_16_code 35 = .ok (.istore_n 1, 1) := by decide +kernel
theorem d_status_36 : decode prog_1_method_16_code 36 = .ok (.iload_n 1, 1) := by decide +kernel
theorem d_status_37 : decode prog_1_method_16_code 37 = .ok (.ireturn, 1) := by decide +kernel
theorem d_begin_0 : decode prog_1_method_2_code 0 = .ok (.aload_n 0, 1) := by decide +kernel
theorem d_begin_1 : decode prog_1_method_2_code 1 = .ok (.getfield 103, 3) := by decide +kernel
theorem d_begin_4 : decode prog_1_method_2_code 4 = .ok (.iconst 2, 1) := by decide +kernel
theorem d_begin_5 : decode prog_1_method_2_code 5 = .ok (.if_icmp .ne 5, 3) := by decide +kernel
theorem d_begin_10 : decode prog_1_method_2_code 10 = .ok (.aload_n 0, 1) := by decide +kernel
theorem d_begin_11 : decode prog_1_method_2_code 11 = .ok (.getfield 103, 3) := by decide +kernel
theorem d_begin_14 : decode prog_1_method_2_code 14 = .ok (.iconst 1, 1) := by decide +kernel
theorem d_begin_21 : decode prog_1_method_2_code 21 = .ok (.aload_n 0, 1) := by decide +kernel
theorem d_begin_22 : decode prog_1_method_2_code 22 = .ok (.iconst 1, 1) := by decide +kernel
theorem d_begin_15 : decode prog_1_method_2_code 15 = .ok (.if_icmp .ne 6, 3) := by decide +kernel
theorem d_begin_23 : decode prog_1_method_2_code 23 = .ok (.putfield 103, 3) := by decide +kernel
theorem d_begin_26 : decode prog_1_method_2_code 26 = .ok (.aload_n 0, 1) := by decide +kernel
theorem d_begin_27 : decode prog_1_method_2_code 27 = .ok (.iconst 0, 1) := by decide +kernel
theorem d_begin_28 : decode prog_1_method_2_code 28 = .ok (.putfield 113, 3) := by decide +kernel
theorem d_begin_31 : decode prog_1_method_2_code 31 = .ok (.aload_n 0, 1) := by decide +kernel
theorem d_begin_32 : decode prog_1_method_2_code 32 = .ok (.invokevirtual 134, 3) := by decide +kernel
theorem d_begin_18 : decode prog_1_method_2_code 18 = .ok (.bipush (-3), 2) := by decide +kernel
theorem d_begin_20 : decode prog_1_method_2_code 20 = .ok (.ireturn, 1) := by decide +kernel
theorem d_begin_8 : decode prog_1_method_2_code 8 = .ok (.iconst (-1), 1) := by decide +kernel
theorem d_begin_9 : decode prog_1_method_2_code 9 = .ok (.ireturn, 1) := by decide +kernel
abbrev W_begin (pc : Nat) (ls : List Slot) (st : List Value) (M : EMem) (Q : Option Value → EMem → Prop) : Prop := Wp tables_1 0 1 13 (⟨"LinearHashLog", "begin", "()I"⟩ : MethodName) prog_1_method_2_code (some .int) pc ls st M Q
theorem d_begin_35 : decode prog_1_method_2_code 35 = .ok (.iconst 0, 1) := by decide +kernel
theorem d_begin_36 : decode prog_1_method_2_code 36 = .ok (.ireturn, 1) := by decide +kernel
theorem d_hash_0 : decode prog_1_method_22_code 0 = .ok (.iload_n 1, 1) := by decide +kernel
theorem d_hash_1 : decode prog_1_method_22_code 1 = .ok (.ldc 236, 2) := by decide +kernel
theorem ik_c236 : intLk "LinearHashLog" 236 tables_1 = some (-1640531535 : Int32) := by decide +kernel
theorem d_hash_3 : decode prog_1_method_22_code 3 = .ok (.imul, 1) := by decide +kernel
theorem d_hash_4 : decode prog_1_method_22_code 4 = .ok (.bipush 8, 2) := by decide +kernel
theorem d_hash_6 : decode prog_1_method_22_code 6 = .ok (.iushr, 1) := by decide +kernel
theorem d_hash_7 : decode prog_1_method_22_code 7 = .ok (.ireturn, 1) := by decide +kernel
abbrev W_hash (pc : Nat) (ls : List Slot) (st : List Value) (M : EMem) (Q : Option Value → EMem → Prop) : Prop := Wp tables_1 0 0 0 (⟨"LinearHashLog", "hash", "(I)I"⟩ : MethodName) prog_1_method_22_code (some .int) pc ls st M Q
theorem d_levelBase_0 : decode prog_1_method_23_code 0 = .ok (.aload_n 0, 1) := by decide +kernel
theorem d_levelBase_1 : decode prog_1_method_23_code 1 = .ok (.getfield 91, 3) := by decide +kernel
theorem d_levelBase_4 : decode prog_1_method_23_code 4 = .ok (.istore_n 2, 1) := by decide +kernel
theorem d_levelBase_5 : decode prog_1_method_23_code 5 = .ok (.iconst 0, 1) := by decide +kernel
theorem d_levelBase_6 : decode prog_1_method_23_code 6 = .ok (.istore_n 3, 1) := by decide +kernel
abbrev W_levelBase (pc : Nat) (ls : List Slot) (st : List Value) (M : EMem) (Q : Option Value → EMem → Prop) : Prop := Wp tables_1 0 0 0 (⟨"LinearHashLog", "levelBase", "(I)I"⟩ : MethodName) prog_1_method_23_code (some .int) pc ls st M Q
theorem d_levelBase_7 : decode prog_1_method_23_code 7 = .ok (.iload_n 3, 1) := by decide +kernel
theorem d_levelBase_8 : decode prog_1_method_23_code 8 = .ok (.iconst 5, 1) := by decide +kernel
theorem d_levelBase_9 : decode prog_1_method_23_code 9 = .ok (.if_icmp .ge 22, 3) := by decide +kernel
theorem d_levelBase_31 : decode prog_1_method_23_code 31 = .ok (.iload_n 2, 1) := by decide +kernel
theorem d_levelBase_32 : decode prog_1_method_23_code 32 = .ok (.ireturn, 1) := by decide +kernel
theorem d_levelBase_12 : decode prog_1_method_23_code 12 = .ok (.iload_n 2, 1) := by decide +kernel
theorem d_levelBase_13 : decode prog_1_method_23_code 13 = .ok (.iconst 1, 1) := by decide +kernel
theorem d_levelBase_14 : decode prog_1_method_23_code 14 = .ok (.ishl, 1) := by decide +kernel
theorem d_levelBase_15 : decode prog_1_method_23_code 15 = .ok (.iload_n 1, 1) := by decide +kernel
theorem d_levelBase_21 : decode prog_1_method_23_code 21 = .ok (.iload_n 2, 1) := by decide +kernel
theorem d_levelBase_22 : decode prog_1_method_23_code 22 = .ok (.iconst 1, 1) := by decide +kernel
theorem d_levelBase_23 : decode prog_1_method_23_code 23 = .ok (.ishl, 1) := by decide +kernel
theorem d_levelBase_24 : decode prog_1_method_23_code 24 = .ok (.istore_n 2, 1) := by decide +kernel
theorem d_levelBase_25 : decode prog_1_method_23_code 25 = .ok (.iinc 3 1, 3) := by decide +kernel
theorem d_levelBase_28 : decode prog_1_method_23_code 28 = .ok (.goto (-21), 3) := by decide +kernel
theorem d_levelBase_16 : decode prog_1_method_23_code 16 = .ok (.if_icmp .le 5, 3) := by decide +kernel
theorem d_levelBase_19 : decode prog_1_method_23_code 19 = .ok (.iload_n 2, 1) := by decide +kernel
theorem d_levelBase_20 : decode prog_1_method_23_code 20 = .ok (.ireturn, 1) := by decide +kernel
theorem d_designated_0 : decode prog_1_method_24_code 0 = .ok (.aload_n 0, 1) := by decide +kernel
theorem d_designated_1 : decode prog_1_method_24_code 1 = .ok (.iload_n 2, 1) := by decide +kernel
theorem d_designated_2 : decode prog_1_method_24_code 2 = .ok (.invokevirtual 237, 3) := by decide +kernel
theorem ml_c237 : methodLk "LinearHashLog" 237 tables_1 = some (⟨"LinearHashLog", "levelBase", "(I)I"⟩ : MethodName) := by decide +kernel
theorem cl_levelBase : codeLk (⟨"LinearHashLog", "levelBase", "(I)I"⟩ : MethodName) tables_1 = some (prog_1_method_23_code, 4, (some .int)) := codeLk_at (i := 180) rfl (by decide +kernel)
theorem pd_levelBase : parseMethodDescriptor "(I)I" = some ⟨[.int], some .int⟩ := by decide +kernel
theorem cc_levelBase_1 : hasInit (⟨"LinearHashLog", "levelBase", "(I)I"⟩ : MethodName).cls tables_1 = true ∧ plainName (⟨"LinearHashLog", "levelBase", "(I)I"⟩ : MethodName).cls = true ∧ (⟨"LinearHashLog", "levelBase", "(I)I"⟩ : MethodName).cls ≠ "java/lang/invoke/MethodHandle" ∧ (⟨"LinearHashLog", "levelBase", "(I)I"⟩ : MethodName).cls ≠ "java/lang/invoke/VarHandle" ∧ (((1 : Nat) = 0 ∧ hasDecl (⟨"LinearHashLog", "levelBase", "(I)I"⟩ : MethodName) tables_1 = true ∧ hasSel (⟨"LinearHashLog", "levelBase", "(I)I"⟩ : MethodName) tables_1 = true ∧ hasInst (⟨"LinearHashLog", "levelBase", "(I)I"⟩ : MethodName) tables_1 = true) ∨ ((1 : Nat) = 1 ∧ hasPriv (⟨"LinearHashLog", "levelBase", "(I)I"⟩ : MethodName) tables_1 = true ∧ hasInst (⟨"LinearHashLog", "levelBase", "(I)I"⟩ : MethodName) tables_1 = true ∧ (instLk (⟨"LinearHashLog", "levelBase", "(I)I"⟩ : MethodName).cls tables_1).isSome = true) ∨ ((1 : Nat) = 2 ∧ (⟨"LinearHashLog", "levelBase", "(I)I"⟩ : MethodName).name = "<init>" ∧ hasInst (⟨"LinearHashLog", "levelBase", "(I)I"⟩ : MethodName) tables_1 = true ∧ ((some .int) : Option FieldType) = none) ∨ ((1 : Nat) = 3 ∧ hasStat (⟨"LinearHashLog", "levelBase", "(I)I"⟩ : MethodName) tables_1 = true)) := by decide +kernel
theorem ca_c237_1 : callAt tables_1 "LinearHashLog" 237 1 = some ((⟨"LinearHashLog", "levelBase", "(I)I"⟩ : MethodName), 1, prog_1_method_23_code, 4, (some .int)) := callAt_of ml_c237 cl_levelBase pd_levelBase cc_levelBase_1 rfl
abbrev W_designated (pc : Nat) (ls : List Slot) (st : List Value) (M : EMem) (Q : Option Value → EMem → Prop) : Prop := Wp tables_1 0 1 15 (⟨"LinearHashLog", "designated", "(II)I"⟩ : MethodName) prog_1_method_24_code (some .int) pc ls st M Q
theorem d_designated_5 : decode prog_1_method_24_code 5 = .ok (.istore_n 3, 1) := by decide +kernel
theorem d_designated_6 : decode prog_1_method_24_code 6 = .ok (.aload_n 0, 1) := by decide +kernel
theorem d_designated_7 : decode prog_1_method_24_code 7 = .ok (.iload_n 1, 1) := by decide +kernel
theorem d_designated_8 : decode prog_1_method_24_code 8 = .ok (.invokevirtual 240, 3) := by decide +kernel
theorem ml_c240 : methodLk "LinearHashLog" 240 tables_1 = some (⟨"LinearHashLog", "hash", "(I)I"⟩ : MethodName) := by decide +kernel
theorem cl_hash : codeLk (⟨"LinearHashLog", "hash", "(I)I"⟩ : MethodName) tables_1 = some (prog_1_method_22_code, 2, (some .int)) := codeLk_at (i := 184) rfl (by decide +kernel)
theorem pd_hash : parseMethodDescriptor "(I)I" = some ⟨[.int], some .int⟩ := by decide +kernel
theorem cc_hash_1 : hasInit (⟨"LinearHashLog", "hash", "(I)I"⟩ : MethodName).cls tables_1 = true ∧ plainName (⟨"LinearHashLog", "hash", "(I)I"⟩ : MethodName).cls = true ∧ (⟨"LinearHashLog", "hash", "(I)I"⟩ : MethodName).cls ≠ "java/lang/invoke/MethodHandle" ∧ (⟨"LinearHashLog", "hash", "(I)I"⟩ : MethodName).cls ≠ "java/lang/invoke/VarHandle" ∧ (((1 : Nat) = 0 ∧ hasDecl (⟨"LinearHashLog", "hash", "(I)I"⟩ : MethodName) tables_1 = true ∧ hasSel (⟨"LinearHashLog", "hash", "(I)I"⟩ : MethodName) tables_1 = true ∧ hasInst (⟨"LinearHashLog", "hash", "(I)I"⟩ : MethodName) tables_1 = true) ∨ ((1 : Nat) = 1 ∧ hasPriv (⟨"LinearHashLog", "hash", "(I)I"⟩ : MethodName) tables_1 = true ∧ hasInst (⟨"LinearHashLog", "hash", "(I)I"⟩ : MethodName) tables_1 = true ∧ (instLk (⟨"LinearHashLog", "hash", "(I)I"⟩ : MethodName).cls tables_1).isSome = true) ∨ ((1 : Nat) = 2 ∧ (⟨"LinearHashLog", "hash", "(I)I"⟩ : MethodName).name = "<init>" ∧ hasInst (⟨"LinearHashLog", "hash", "(I)I"⟩ : MethodName) tables_1 = true ∧ ((some .int) : Option FieldType) = none) ∨ ((1 : Nat) = 3 ∧ hasStat (⟨"LinearHashLog", "hash", "(I)I"⟩ : MethodName) tables_1 = true)) := by decide +kernel
theorem ca_c240_1 : callAt tables_1 "LinearHashLog" 240 1 = some ((⟨"LinearHashLog", "hash", "(I)I"⟩ : MethodName), 1, prog_1_method_22_code, 2, (some .int)) := callAt_of ml_c240 cl_hash pd_hash cc_hash_1 rfl
theorem d_designated_11 : decode prog_1_method_24_code 11 = .ok (.istore 4, 2) := by decide +kernel
theorem d_designated_13 : decode prog_1_method_24_code 13 = .ok (.iload 4, 2) := by decide +kernel
theorem d_designated_15 : decode prog_1_method_24_code 15 = .ok (.iload_n 3, 1) := by decide +kernel
theorem d_designated_16 : decode prog_1_method_24_code 16 = .ok (.irem, 1) := by decide +kernel
theorem d_designated_17 : decode prog_1_method_24_code 17 = .ok (.istore 5, 2) := by decide +kernel
theorem d_designated_19 : decode prog_1_method_24_code 19 = .ok (.iload 5, 2) := by decide +kernel
theorem d_designated_21 : decode prog_1_method_24_code 21 = .ok (.iload_n 2, 1) := by decide +kernel
theorem d_designated_22 : decode prog_1_method_24_code 22 = .ok (.iload_n 3, 1) := by decide +kernel
theorem d_designated_23 : decode prog_1_method_24_code 23 = .ok (.isub, 1) := by decide +kernel
theorem d_designated_24 : decode prog_1_method_24_code 24 = .ok (.if_icmp .ge 11, 3) := by decide +kernel
theorem d_designated_27 : decode prog_1_method_24_code 27 = .ok (.iload 4, 2) := by decide +kernel
theorem d_designated_29 : decode prog_1_method_24_code 29 = .ok (.iload_n 3, 1) := by decide +kernel
theorem d_designated_30 : decode prog_1_method_24_code 30 = .ok (.iconst 1, 1) := by decide +kernel
theorem d_designated_31 : decode prog_1_method_24_code 31 = .ok (.ishl, 1) := by decide +kernel
theorem d_designated_35 : decode prog_1_method_24_code 35 = .ok (.iload 5, 2) := by decide +kernel
theorem d_designated_37 : decode prog_1_method_24_code 37 = .ok (.ireturn, 1) := by decide +kernel
theorem d_designated_32 : decode prog_1_method_24_code 32 = .ok (.irem, 1) := by decide +kernel
theorem d_designated_33 : decode prog_1_method_24_code 33 = .ok (.istore 5, 2) := by decide +kernel
theorem d_findInPage_0 : decode prog_1_method_32_code 0 = .ok (.aload_n 0, 1) := by decide +kernel
theorem d_findInPage_1 : decode prog_1_method_32_code 1 = .ok (.iload_n 1, 1) := by decide +kernel
theorem d_findInPage_2 : decode prog_1_method_32_code 2 = .ok (.invokevirtual 246, 3) := by decide +kernel
abbrev W_findInPage (pc : Nat) (ls : List Slot) (st : List Value) (M : EMem) (Q : Option Value → EMem → Prop) : Prop := Wp tables_1 0 1 14 (⟨"LinearHashLog", "findInPage", "(II)I"⟩ : MethodName) prog_1_method_32_code (some .int) pc ls st M Q
theorem d_findInPage_5 : decode prog_1_method_32_code 5 = .ok (.istore_n 3, 1) := by decide +kernel
theorem d_findInPage_6 : decode prog_1_method_32_code 6 = .ok (.iconst 0, 1) := by decide +kernel
theorem d_findInPage_7 : decode prog_1_method_32_code 7 = .ok (.istore 4, 2) := by decide +kernel
theorem d_findInPage_9 : decode prog_1_method_32_code 9 = .ok (.iload 4, 2) := by decide +kernel
theorem d_findInPage_11 : decode prog_1_method_32_code 11 = .ok (.iload_n 3, 1) := by decide +kernel
theorem d_findInPage_12 : decode prog_1_method_32_code 12 = .ok (.if_icmp .ge 31, 3) := by decide +kernel
theorem d_findInPage_43 : decode prog_1_method_32_code 43 = .ok (.iconst (-1), 1) := by decide +kernel
theorem d_findInPage_44 : decode prog_1_method_32_code 44 = .ok (.ireturn, 1) := by decide +kernel
theorem d_findInPage_15 : decode prog_1_method_32_code 15 = .ok (.aload_n 0, 1) := by decide +kernel
theorem d_findInPage_16 : decode prog_1_method_32_code 16 = .ok (.getfield 62, 3) := by decide +kernel
theorem d_findInPage_19 : decode prog_1_method_32_code 19 = .ok (.iload_n 1, 1) := by decide +kernel
theorem d_findInPage_20 : decode prog_1_method_32_code 20 = .ok (.iconst 4, 1) := by decide +kernel
theorem d_findInPage_21 : decode prog_1_method_32_code 21 = .ok (.imul, 1) := by decide +kernel
theorem d_findInPage_22 : decode prog_1_method_32_code 22 = .ok (.iload 4, 2) := by decide +kernel
theorem d_findInPage_24 : decode prog_1_method_32_code 24 = .ok (.iadd, 1) := by decide +kernel
theorem d_findInPage_25 : decode prog_1_method_32_code 25 = .ok (.iaload, 1) := by decide +kernel
theorem d_findInPage_26 : decode prog_1_method_32_code 26 = .ok (.iload_n 2, 1) := by decide +kernel
theorem d_findInPage_37 : decode prog_1_method_32_code 37 = .ok (.iinc 4 1, 3) := by decide +kernel
theorem d_findInPage_40 : decode prog_1_method_32_code 40 = .ok (.goto (-31), 3) := by decide +kernel
theorem d_findInPage_27 : decode prog_1_method_32_code 27 = .ok (.if_icmp .ne 10, 3) := by decide +kernel
theorem d_findInPage_30 : decode prog_1_method_32_code 30 = .ok (.iload_n 1, 1) := by decide +kernel
theorem d_findInPage_31 : decode prog_1_method_32_code 31 = .ok (.iconst 4, 1) := by decide +kernel
theorem d_findInPage_32 : decode prog_1_method_32_code 32 = .ok (.imul, 1) := by decide +kernel
theorem d_findInPage_33 : decode prog_1_method_32_code 33 = .ok (.iload 4, 2) := by decide +kernel
theorem d_findInPage_35 : decode prog_1_method_32_code 35 = .ok (.iadd, 1) := by decide +kernel
theorem d_findInPage_36 : decode prog_1_method_32_code 36 = .ok (.ireturn, 1) := by decide +kernel
theorem d_findSlot_0 : decode prog_1_method_31_code 0 = .ok (.aload_n 0, 1) := by decide +kernel
theorem d_findSlot_1 : decode prog_1_method_31_code 1 = .ok (.iload_n 1, 1) := by decide +kernel
theorem d_findSlot_2 : decode prog_1_method_31_code 2 = .ok (.aload_n 0, 1) := by decide +kernel
theorem d_findSlot_3 : decode prog_1_method_31_code 3 = .ok (.getfield 221, 3) := by decide +kernel
theorem d_findSlot_6 : decode prog_1_method_31_code 6 = .ok (.invokevirtual 224, 3) := by decide +kernel
theorem ml_c224 : methodLk "LinearHashLog" 224 tables_1 = some (⟨"LinearHashLog", "designated", "(II)I"⟩ : MethodName) := by decide +kernel
theorem cl_designated : codeLk (⟨"LinearHashLog", "designated", "(II)I"⟩ : MethodName) tables_1 = some (prog_1_method_24_code, 6, (some .int)) := codeLk_at (i := 176) rfl (by decide +kernel)
theorem pd_designated : parseMethodDescriptor "(II)I" = some ⟨[.int, .int], some .int⟩ := by decide +kernel
theorem cc_designated_1 : hasInit (⟨"LinearHashLog", "designated", "(II)I"⟩ : MethodName).cls tables_1 = true ∧ plainName (⟨"LinearHashLog", "designated", "(II)I"⟩ : MethodName).cls = true ∧ (⟨"LinearHashLog", "designated", "(II)I"⟩ : MethodName).cls ≠ "java/lang/invoke/MethodHandle" ∧ (⟨"LinearHashLog", "designated", "(II)I"⟩ : MethodName).cls ≠ "java/lang/invoke/VarHandle" ∧ (((1 : Nat) = 0 ∧ hasDecl (⟨"LinearHashLog", "designated", "(II)I"⟩ : MethodName) tables_1 = true ∧ hasSel (⟨"LinearHashLog", "designated", "(II)I"⟩ : MethodName) tables_1 = true ∧ hasInst (⟨"LinearHashLog", "designated", "(II)I"⟩ : MethodName) tables_1 = true) ∨ ((1 : Nat) = 1 ∧ hasPriv (⟨"LinearHashLog", "designated", "(II)I"⟩ : MethodName) tables_1 = true ∧ hasInst (⟨"LinearHashLog", "designated", "(II)I"⟩ : MethodName) tables_1 = true ∧ (instLk (⟨"LinearHashLog", "designated", "(II)I"⟩ : MethodName).cls tables_1).isSome = true) ∨ ((1 : Nat) = 2 ∧ (⟨"LinearHashLog", "designated", "(II)I"⟩ : MethodName).name = "<init>" ∧ hasInst (⟨"LinearHashLog", "designated", "(II)I"⟩ : MethodName) tables_1 = true ∧ ((some .int) : Option FieldType) = none) ∨ ((1 : Nat) = 3 ∧ hasStat (⟨"LinearHashLog", "designated", "(II)I"⟩ : MethodName) tables_1 = true)) := by decide +kernel
theorem ca_c224_1 : callAt tables_1 "LinearHashLog" 224 1 = some ((⟨"LinearHashLog", "designated", "(II)I"⟩ : MethodName), 2, prog_1_method_24_code, 6, (some .int)) := callAt_of ml_c224 cl_designated pd_designated cc_designated_1 rfl
abbrev W_findSlot (pc : Nat) (ls : List Slot) (st : List Value) (M : EMem) (Q : Option Value → EMem → Prop) : Prop := Wp tables_1 0 2 32 (⟨"LinearHashLog", "findSlot", "(I)I"⟩ : MethodName) prog_1_method_31_code (some .int) pc ls st M Q
theorem d_findSlot_9 : decode prog_1_method_31_code 9 = .ok (.istore_n 2, 1) := by decide +kernel
theorem d_findSlot_10 : decode prog_1_method_31_code 10 = .ok (.iconst 0, 1) := by decide +kernel
theorem d_findSlot_11 : decode prog_1_method_31_code 11 = .ok (.istore_n 3, 1) := by decide +kernel
theorem d_findSlot_12 : decode prog_1_method_31_code 12 = .ok (.iload_n 3, 1) := by decide +kernel
theorem d_findSlot_13 : decode prog_1_method_31_code 13 = .ok (.bipush 32, 2) := by decide +kernel
theorem d_findSlot_15 : decode prog_1_method_31_code 15 = .ok (.if_icmp .ge 35, 3) := by decide +kernel
theorem d_findSlot_50 : decode prog_1_method_31_code 50 = .ok (.iconst (-1), 1) := by decide +kernel
theorem d_findSlot_51 : decode prog_1_method_31_code 51 = .ok (.ireturn, 1) := by decide +kernel
theorem d_findSlot_18 : decode prog_1_method_31_code 18 = .ok (.iload_n 2, 1) := by decide +kernel
theorem d_findSlot_22 : decode prog_1_method_31_code 22 = .ok (.aload_n 0, 1) := by decide +kernel
theorem d_findSlot_23 : decode prog_1_method_31_code 23 = .ok (.iload_n 2, 1) := by decide +kernel
theorem d_findSlot_24 : decode prog_1_method_31_code 24 = .ok (.iload_n 1, 1) := by decide +kernel
theorem d_findSlot_19 : decode prog_1_method_31_code 19 = .ok (.ifCond .lt 31, 3) := by decide +kernel
theorem d_findSlot_25 : decode prog_1_method_31_code 25 = .ok (.invokevirtual 249, 3) := by decide +kernel
theorem ml_c249 : methodLk "LinearHashLog" 249 tables_1 = some (⟨"LinearHashLog", "findInPage", "(II)I"⟩ : MethodName) := by decide +kernel
theorem cl_findInPage : codeLk (⟨"LinearHashLog", "findInPage", "(II)I"⟩ : MethodName) tables_1 = some (prog_1_method_32_code, 5, (some .int)) := codeLk_at (i := 189) rfl (by decide +kernel)
theorem pd_findInPage : parseMethodDescriptor "(II)I" = some ⟨[.int, .int], some .int⟩ := by decide +kernel
theorem cc_findInPage_1 : hasInit (⟨"LinearHashLog", "findInPage", "(II)I"⟩ : MethodName).cls tables_1 = true ∧ plainName (⟨"LinearHashLog", "findInPage", "(II)I"⟩ : MethodName).cls = true ∧ (⟨"LinearHashLog", "findInPage", "(II)I"⟩ : MethodName).cls ≠ "java/lang/invoke/MethodHandle" ∧ (⟨"LinearHashLog", "findInPage", "(II)I"⟩ : MethodName).cls ≠ "java/lang/invoke/VarHandle" ∧ (((1 : Nat) = 0 ∧ hasDecl (⟨"LinearHashLog", "findInPage", "(II)I"⟩ : MethodName) tables_1 = true ∧ hasSel (⟨"LinearHashLog", "findInPage", "(II)I"⟩ : MethodName) tables_1 = true ∧ hasInst (⟨"LinearHashLog", "findInPage", "(II)I"⟩ : MethodName) tables_1 = true) ∨ ((1 : Nat) = 1 ∧ hasPriv (⟨"LinearHashLog", "findInPage", "(II)I"⟩ : MethodName) tables_1 = true ∧ hasInst (⟨"LinearHashLog", "findInPage", "(II)I"⟩ : MethodName) tables_1 = true ∧ (instLk (⟨"LinearHashLog", "findInPage", "(II)I"⟩ : MethodName).cls tables_1).isSome = true) ∨ ((1 : Nat) = 2 ∧ (⟨"LinearHashLog", "findInPage", "(II)I"⟩ : MethodName).name = "<init>" ∧ hasInst (⟨"LinearHashLog", "findInPage", "(II)I"⟩ : MethodName) tables_1 = true ∧ ((some .int) : Option FieldType) = none) ∨ ((1 : Nat) = 3 ∧ hasStat (⟨"LinearHashLog", "findInPage", "(II)I"⟩ : MethodName) tables_1 = true)) := by decide +kernel
theorem ca_c249_1 : callAt tables_1 "LinearHashLog" 249 1 = some ((⟨"LinearHashLog", "findInPage", "(II)I"⟩ : MethodName), 2, prog_1_method_32_code, 5, (some .int)) := callAt_of ml_c249 cl_findInPage pd_findInPage cc_findInPage_1 rfl
theorem d_findSlot_28 : decode prog_1_method_31_code 28 = .ok (.istore 4, 2) := by decide +kernel
theorem d_findSlot_30 : decode prog_1_method_31_code 30 = .ok (.iload 4, 2) := by decide +kernel
theorem d_findSlot_32 : decode prog_1_method_31_code 32 = .ok (.ifCond .lt 6, 3) := by decide +kernel
theorem d_findSlot_38 : decode prog_1_method_31_code 38 = .ok (.aload_n 0, 1) := by decide +kernel
theorem d_findSlot_39 : decode prog_1_method_31_code 39 = .ok (.iload_n 2, 1) := by decide +kernel
theorem d_findSlot_40 : decode prog_1_method_31_code 40 = .ok (.invokevirtual 243, 3) := by decide +kernel
theorem d_findSlot_35 : decode prog_1_method_31_code 35 = .ok (.iload 4, 2) := by decide +kernel
theorem d_findSlot_37 : decode prog_1_method_31_code 37 = .ok (.ireturn, 1) := by decide +kernel
theorem d_findSlot_43 : decode prog_1_method_31_code 43 = .ok (.istore_n 2, 1) := by decide +kernel
theorem d_findSlot_44 : decode prog_1_method_31_code 44 = .ok (.iinc 3 1, 3) := by decide +kernel
theorem d_findSlot_47 : decode prog_1_method_31_code 47 = .ok (.goto (-35), 3) := by decide +kernel
theorem d_lastPage_0 : decode prog_1_method_27_code 0 = .ok (.iload_n 1, 1) := by decide +kernel
theorem d_lastPage_1 : decode prog_1_method_27_code 1 = .ok (.istore_n 2, 1) := by decide +kernel
theorem d_lastPage_2 : decode prog_1_method_27_code 2 = .ok (.iconst 0, 1) := by decide +kernel
theorem d_lastPage_3 : decode prog_1_method_27_code 3 = .ok (.istore_n 3, 1) := by decide +kernel
abbrev W_lastPage (pc : Nat) (ls : List Slot) (st : List Value) (M : EMem) (Q : Option Value → EMem → Prop) : Prop := Wp tables_1 0 1 14 (⟨"LinearHashLog", "lastPage", "(I)I"⟩ : MethodName) prog_1_method_27_code (some .int) pc ls st M Q
theorem d_lastPage_4 : decode prog_1_method_27_code 4 = .ok (.iload_n 3, 1) := by decide +kernel
theorem d_lastPage_5 : decode prog_1_method_27_code 5 = .ok (.bipush 32, 2) := by decide +kernel
theorem d_lastPage_7 : decode prog_1_method_27_code 7 = .ok (.if_icmp .ge 26, 3) := by decide +kernel
theorem d_lastPage_33 : decode prog_1_method_27_code 33 = .ok (.iload_n 2, 1) := by decide +kernel
theorem d_lastPage_34 : decode prog_1_method_27_code 34 = .ok (.ireturn, 1) := by decide +kernel
theorem d_lastPage_10 : decode prog_1_method_27_code 10 = .ok (.aload_n 0, 1) := by decide +kernel
theorem d_lastPage_11 : decode prog_1_method_27_code 11 = .ok (.iload_n 2, 1) := by decide +kernel
theorem d_lastPage_12 : decode prog_1_method_27_code 12 = .ok (.invokevirtual 243, 3) := by decide +kernel
theorem d_lastPage_15 : decode prog_1_method_27_code 15 = .ok (.istore 4, 2) := by decide +kernel
theorem d_lastPage_17 : decode prog_1_method_27_code 17 = .ok (.iload 4, 2) := by decide +kernel
theorem d_lastPage_19 : decode prog_1_method_27_code 19 = .ok (.ifCond .ge 5, 3) := by decide +kernel
theorem d_lastPage_24 : decode prog_1_method_27_code 24 = .ok (.iload 4, 2) := by decide +kernel
theorem d_lastPage_26 : decode prog_1_method_27_code 26 = .ok (.istore_n 2, 1) := by decide +kernel
theorem d_lastPage_27 : decode prog_1_method_27_code 27 = .ok (.iinc 3 1, 3) := by decide +kernel
theorem d_lastPage_30 : decode prog_1_method_27_code 30 = .ok (.goto (-26), 3) := by decide +kernel
theorem d_lastPage_22 : decode prog_1_method_27_code 22 = .ok (.iload_n 2, 1) := by decide +kernel
theorem d_lastPage_23 : decode prog_1_method_27_code 23 = .ok (.ireturn, 1) := by decide +kernel
theorem d_insertEntry_0 : decode prog_1_method_33_code 0 = .ok (.aload_n 0, 1) := by decide +kernel
theorem d_insertEntry_1 : decode prog_1_method_33_code 1 = .ok (.iload_n 1, 1) := by decide +kernel
theorem d_insertEntry_2 : decode prog_1_method_33_code 2 = .ok (.aload_n 0, 1) := by decide +kernel
theorem d_insertEntry_3 : decode prog_1_method_33_code 3 = .ok (.getfield 221, 3) := by decide +kernel
theorem d_insertEntry_6 : decode prog_1_method_33_code 6 = .ok (.invokevirtual 224, 3) := by decide +kernel
abbrev W_insertEntry (pc : Nat) (ls : List Slot) (st : List Value) (M : EMem) (Q : Option Value → EMem → Prop) : Prop := Wp tables_1 0 2 32 (⟨"LinearHashLog", "insertEntry", "(II)Z"⟩ : MethodName) prog_1_method_33_code (some .boolean) pc ls st M Q
theorem d_insertEntry_9 : decode prog_1_method_33_code 9 = .ok (.istore_n 3, 1) := by decide +kernel
theorem d_insertEntry_10 : decode prog_1_method_33_code 10 = .ok (.aload_n 0, 1) := by decide +kernel
theorem d_insertEntry_11 : decode prog_1_method_33_code 11 = .ok (.iload_n 3, 1) := by decide +kernel
theorem d_insertEntry_12 : decode prog_1_method_33_code 12 = .ok (.invokevirtual 252, 3) := by decide +kernel
theorem ml_c252 : methodLk "LinearHashLog" 252 tables_1 = some (⟨"LinearHashLog", "lastPage", "(I)I"⟩ : MethodName) := by decide +kernel
theorem cl_lastPage : codeLk (⟨"LinearHashLog", "lastPage", "(I)I"⟩ : MethodName) tables_1 = some (prog_1_method_27_code, 5, (some .int)) := codeLk_at (i := 197) rfl (by decide +kernel)
theorem pd_lastPage : parseMethodDescriptor "(I)I" = some ⟨[.int], some .int⟩ := by decide +kernel
theorem cc_lastPage_1 : hasInit (⟨"LinearHashLog", "lastPage", "(I)I"⟩ : MethodName).cls tables_1 = true ∧ plainName (⟨"LinearHashLog", "lastPage", "(I)I"⟩ : MethodName).cls = true ∧ (⟨"LinearHashLog", "lastPage", "(I)I"⟩ : MethodName).cls ≠ "java/lang/invoke/MethodHandle" ∧ (⟨"LinearHashLog", "lastPage", "(I)I"⟩ : MethodName).cls ≠ "java/lang/invoke/VarHandle" ∧ (((1 : Nat) = 0 ∧ hasDecl (⟨"LinearHashLog", "lastPage", "(I)I"⟩ : MethodName) tables_1 = true ∧ hasSel (⟨"LinearHashLog", "lastPage", "(I)I"⟩ : MethodName) tables_1 = true ∧ hasInst (⟨"LinearHashLog", "lastPage", "(I)I"⟩ : MethodName) tables_1 = true) ∨ ((1 : Nat) = 1 ∧ hasPriv (⟨"LinearHashLog", "lastPage", "(I)I"⟩ : MethodName) tables_1 = true ∧ hasInst (⟨"LinearHashLog", "lastPage", "(I)I"⟩ : MethodName) tables_1 = true ∧ (instLk (⟨"LinearHashLog", "lastPage", "(I)I"⟩ : MethodName).cls tables_1).isSome = true) ∨ ((1 : Nat) = 2 ∧ (⟨"LinearHashLog", "lastPage", "(I)I"⟩ : MethodName).name = "<init>" ∧ hasInst (⟨"LinearHashLog", "lastPage", "(I)I"⟩ : MethodName) tables_1 = true ∧ ((some .int) : Option FieldType) = none) ∨ ((1 : Nat) = 3 ∧ hasStat (⟨"LinearHashLog", "lastPage", "(I)I"⟩ : MethodName) tables_1 = true)) := by decide +kernel
theorem ca_c252_1 : callAt tables_1 "LinearHashLog" 252 1 = some ((⟨"LinearHashLog", "lastPage", "(I)I"⟩ : MethodName), 1, prog_1_method_27_code, 5, (some .int)) := callAt_of ml_c252 cl_lastPage pd_lastPage cc_lastPage_1 rfl
theorem d_insertEntry_15 : decode prog_1_method_33_code 15 = .ok (.istore 4, 2) := by decide +kernel
theorem d_insertEntry_17 : decode prog_1_method_33_code 17 = .ok (.aload_n 0, 1) := by decide +kernel
theorem d_insertEntry_18 : decode prog_1_method_33_code 18 = .ok (.iload 4, 2) := by decide +kernel
theorem d_insertEntry_20 : decode prog_1_method_33_code 20 = .ok (.invokevirtual 246, 3) := by decide +kernel
theorem d_insertEntry_23 : decode prog_1_method_33_code 23 = .ok (.istore 5, 2) := by decide +kernel
theorem d_insertEntry_25 : decode prog_1_method_33_code 25 = .ok (.iload 5, 2) := by decide +kernel
theorem d_insertEntry_27 : decode prog_1_method_33_code 27 = .ok (.iconst 4, 1) := by decide +kernel
theorem d_insertEntry_28 : decode prog_1_method_33_code 28 = .ok (.if_icmp .lt 40, 3) := by decide +kernel
theorem d_insertEntry_68 : decode prog_1_method_33_code 68 = .ok (.aload_n 0, 1) := by decide +kernel
theorem d_insertEntry_69 : decode prog_1_method_33_code 69 = .ok (.getfield 62, 3) := by decide +kernel
theorem d_insertEntry_72 : decode prog_1_method_33_code 72 = .ok (.iload 4, 2) := by decide +kernel
theorem d_insertEntry_74 : decode prog_1_method_33_code 74 = .ok (.iconst 4, 1) := by decide +kernel
theorem d_insertEntry_75 : decode prog_1_method_33_code 75 = .ok (.imul, 1) := by decide +kernel
theorem d_insertEntry_76 : decode prog_1_method_33_code 76 = .ok (.iload 5, 2) := by decide +kernel
theorem d_insertEntry_78 : decode prog_1_method_33_code 78 = .ok (.iadd, 1) := by decide +kernel
theorem d_insertEntry_79 : decode prog_1_method_33_code 79 = .ok (.iload_n 1, 1) := by decide +kernel
theorem d_insertEntry_31 : decode prog_1_method_33_code 31 = .ok (.aload_n 0, 1) := by decide +kernel
theorem d_insertEntry_80 : decode prog_1_method_33_code 80 = .ok (.iastore, 1) := by decide +kernel
theorem d_insertEntry_81 : decode prog_1_method_33_code 81 = .ok (.aload_n 0, 1) := by decide +kernel
theorem d_insertEntry_82 : decode prog_1_method_33_code 82 = .ok (.getfield 65, 3) := by decide +kernel
theorem d_insertEntry_85 : decode prog_1_method_33_code 85 = .ok (.iload 4, 2) := by decide +kernel
theorem d_insertEntry_87 : decode prog_1_method_33_code 87 = .ok (.iconst 4, 1) := by decide +kernel
theorem d_insertEntry_88 : decode prog_1_method_33_code 88 = .ok (.imul, 1) := by decide +kernel
theorem d_insertEntry_89 : decode prog_1_method_33_code 89 = .ok (.iload 5, 2) := by decide +kernel
theorem d_insertEntry_91 : decode prog_1_method_33_code 91 = .ok (.iadd, 1) := by decide +kernel
theorem d_insertEntry_92 : decode prog_1_method_33_code 92 = .ok (.iload_n 2, 1) := by decide +kernel
theorem d_insertEntry_93 : decode prog_1_method_33_code 93 = .ok (.iastore, 1) := by decide +kernel
theorem d_insertEntry_94 : decode prog_1_method_33_code 94 = .ok (.aload_n 0, 1) := by decide +kernel
theorem d_insertEntry_95 : decode prog_1_method_33_code 95 = .ok (.getfield 52, 3) := by decide +kernel
theorem d_insertEntry_98 : decode prog_1_method_33_code 98 = .ok (.iload 4, 2) := by decide +kernel
theorem d_insertEntry_100 : decode prog_1_method_33_code 100 = .ok (.iload 5, 2) := by decide +kernel
theorem d_insertEntry_102 : decode prog_1_method_33_code 102 = .ok (.iconst 1, 1) := by decide +kernel
theorem d_insertEntry_103 : decode prog_1_method_33_code 103 = .ok (.iadd, 1) := by decide +kernel
theorem d_insertEntry_104 : decode prog_1_method_33_code 104 = .ok (.iastore, 1) := by decide +kernel
theorem d_insertEntry_105 : decode prog_1_method_33_code 105 = .ok (.aload_n 0, 1) := by decide +kernel
theorem d_insertEntry_106 : decode prog_1_method_33_code 106 = .ok (.getfield 72, 3) := by decide +kernel
theorem d_insertEntry_109 : decode prog_1_method_33_code 109 = .ok (.iload 4, 2) := by decide +kernel
theorem d_insertEntry_111 : decode prog_1_method_33_code 111 = .ok (.iconst 1, 1) := by decide +kernel
theorem d_insertEntry_112 : decode prog_1_method_33_code 112 = .ok (.bastore, 1) := by decide +kernel
theorem d_insertEntry_113 : decode prog_1_method_33_code 113 = .ok (.iconst 1, 1) := by decide +kernel
theorem d_insertEntry_114 : decode prog_1_method_33_code 114 = .ok (.ireturn, 1) := by decide +kernel
theorem d_growIfNeeded_0 : decode prog_1_method_39_code 0 = .ok (.aload_n 0, 1) := by decide +kernel
theorem d_growIfNeeded_1 : decode prog_1_method_39_code 1 = .ok (.getfield 141, 3) := by decide +kernel
theorem d_growIfNeeded_4 : decode prog_1_method_39_code 4 = .ok (.iconst 3, 1) := by decide +kernel
theorem d_growIfNeeded_5 : decode prog_1_method_39_code 5 = .ok (.aload_n 0, 1) := by decide +kernel
theorem d_growIfNeeded_6 : decode prog_1_method_39_code 6 = .ok (.getfield 221, 3) := by decide +kernel
theorem d_growIfNeeded_9 : decode prog_1_method_39_code 9 = .ok (.imul, 1) := by decide +kernel
theorem d_growIfNeeded_10 : decode prog_1_method_39_code 10 = .ok (.if_icmp .le 16, 3) := by decide +kernel
theorem d_growIfNeeded_13 : decode prog_1_method_39_code 13 = .ok (.aload_n 0, 1) := by decide +kernel
theorem d_growIfNeeded_14 : decode prog_1_method_39_code 14 = .ok (.getfield 221, 3) := by decide +kernel
theorem d_growIfNeeded_17 : decode prog_1_method_39_code 17 = .ok (.bipush 16, 2) := by decide +kernel
theorem d_growIfNeeded_22 : decode prog_1_method_39_code 22 = .ok (.aload_n 0, 1) := by decide +kernel
theorem d_growIfNeeded_26 : decode prog_1_method_39_code 26 = .ok (.return_, 1) := by decide +kernel
theorem d_growIfNeeded_19 : decode prog_1_method_39_code 19 = .ok (.if_icmp .ge 7, 3) := by decide +kernel
abbrev W_growIfNeeded (pc : Nat) (ls : List Slot) (st : List Value) (M : EMem) (Q : Option Value → EMem → Prop) : Prop := Wp tables_1 0 0 0 (⟨"LinearHashLog", "growIfNeeded", "()V"⟩ : MethodName) prog_1_method_39_code none pc ls st M Q
theorem d_put_0 : decode prog_1_method_3_code 0 = .ok (.aload_n 0, 1) := by decide +kernel
theorem d_put_1 : decode prog_1_method_3_code 1 = .ok (.getfield 103, 3) := by decide +kernel
theorem d_put_4 : decode prog_1_method_3_code 4 = .ok (.iconst 2, 1) := by decide +kernel
theorem d_put_5 : decode prog_1_method_3_code 5 = .ok (.if_icmp .ne 5, 3) := by decide +kernel
theorem d_put_10 : decode prog_1_method_3_code 10 = .ok (.aload_n 0, 1) := by decide +kernel
theorem d_put_11 : decode prog_1_method_3_code 11 = .ok (.getfield 103, 3) := by decide +kernel
theorem d_put_14 : decode prog_1_method_3_code 14 = .ok (.iconst 1, 1) := by decide +kernel
theorem d_put_21 : decode prog_1_method_3_code 21 = .ok (.aload_n 0, 1) := by decide +kernel
theorem d_put_22 : decode prog_1_method_3_code 22 = .ok (.getfield 113, 3) := by decide +kernel
theorem d_put_25 : decode prog_1_method_3_code 25 = .ok (.aload_n 0, 1) := by decide +kernel
theorem d_put_26 : decode prog_1_method_3_code 26 = .ok (.getfield 97, 3) := by decide +kernel
theorem d_put_35 : decode prog_1_method_3_code 35 = .ok (.aload_n 0, 1) := by decide +kernel
theorem d_put_36 : decode prog_1_method_3_code 36 = .ok (.iload_n 1, 1) := by decide +kernel
theorem d_put_15 : decode prog_1_method_3_code 15 = .ok (.if_icmp .eq 6, 3) := by decide +kernel
theorem d_put_29 : decode prog_1_method_3_code 29 = .ok (.if_icmp .lt 6, 3) := by decide +kernel
theorem d_put_37 : decode prog_1_method_3_code 37 = .ok (.invokevirtual 137, 3) := by decide +kernel
theorem ml_c137 : methodLk "LinearHashLog" 137 tables_1 = some (⟨"LinearHashLog", "findSlot", "(I)I"⟩ : MethodName) := by decide +kernel
theorem cl_findSlot : codeLk (⟨"LinearHashLog", "findSlot", "(I)I"⟩ : MethodName) tables_1 = some (prog_1_method_31_code, 5, (some .int)) := codeLk_at (i := 172) rfl (by decide +kernel)
theorem pd_findSlot : parseMethodDescriptor "(I)I" = some ⟨[.int], some .int⟩ := by decide +kernel
theorem cc_findSlot_1 : hasInit (⟨"LinearHashLog", "findSlot", "(I)I"⟩ : MethodName).cls tables_1 = true ∧ plainName (⟨"LinearHashLog", "findSlot", "(I)I"⟩ : MethodName).cls = true ∧ (⟨"LinearHashLog", "findSlot", "(I)I"⟩ : MethodName).cls ≠ "java/lang/invoke/MethodHandle" ∧ (⟨"LinearHashLog", "findSlot", "(I)I"⟩ : MethodName).cls ≠ "java/lang/invoke/VarHandle" ∧ (((1 : Nat) = 0 ∧ hasDecl (⟨"LinearHashLog", "findSlot", "(I)I"⟩ : MethodName) tables_1 = true ∧ hasSel (⟨"LinearHashLog", "findSlot", "(I)I"⟩ : MethodName) tables_1 = true ∧ hasInst (⟨"LinearHashLog", "findSlot", "(I)I"⟩ : MethodName) tables_1 = true) ∨ ((1 : Nat) = 1 ∧ hasPriv (⟨"LinearHashLog", "findSlot", "(I)I"⟩ : MethodName) tables_1 = true ∧ hasInst (⟨"LinearHashLog", "findSlot", "(I)I"⟩ : MethodName) tables_1 = true ∧ (instLk (⟨"LinearHashLog", "findSlot", "(I)I"⟩ : MethodName).cls tables_1).isSome = true) ∨ ((1 : Nat) = 2 ∧ (⟨"LinearHashLog", "findSlot", "(I)I"⟩ : MethodName).name = "<init>" ∧ hasInst (⟨"LinearHashLog", "findSlot", "(I)I"⟩ : MethodName) tables_1 = true ∧ ((some .int) : Option FieldType) = none) ∨ ((1 : Nat) = 3 ∧ hasStat (⟨"LinearHashLog", "findSlot", "(I)I"⟩ : MethodName) tables_1 = true)) := by decide +kernel
theorem ca_c137_1 : callAt tables_1 "LinearHashLog" 137 1 = some ((⟨"LinearHashLog", "findSlot", "(I)I"⟩ : MethodName), 1, prog_1_method_31_code, 5, (some .int)) := callAt_of ml_c137 cl_findSlot pd_findSlot cc_findSlot_1 rfl
theorem d_put_32 : decode prog_1_method_3_code 32 = .ok (.bipush (-4), 2) := by decide +kernel
theorem d_put_34 : decode prog_1_method_3_code 34 = .ok (.ireturn, 1) := by decide +kernel
theorem d_put_18 : decode prog_1_method_3_code 18 = .ok (.bipush (-2), 2) := by decide +kernel
theorem d_put_20 : decode prog_1_method_3_code 20 = .ok (.ireturn, 1) := by decide +kernel
theorem d_put_8 : decode prog_1_method_3_code 8 = .ok (.iconst (-1), 1) := by decide +kernel
theorem d_put_9 : decode prog_1_method_3_code 9 = .ok (.ireturn, 1) := by decide +kernel
abbrev W_put (pc : Nat) (ls : List Slot) (st : List Value) (M : EMem) (Q : Option Value → EMem → Prop) : Prop := Wp tables_1 0 3 50 (⟨"LinearHashLog", "put", "(II)I"⟩ : MethodName) prog_1_method_3_code (some .int) pc ls st M Q
theorem d_put_40 : decode prog_1_method_3_code 40 = .ok (.istore_n 3, 1) := by decide +kernel
theorem d_put_41 : decode prog_1_method_3_code 41 = .ok (.iload_n 3, 1) := by decide +kernel
theorem d_put_42 : decode prog_1_method_3_code 42 = .ok (.ifCond .ge 17, 3) := by decide +kernel
theorem d_put_59 : decode prog_1_method_3_code 59 = .ok (.aload_n 0, 1) := by decide +kernel
theorem d_put_60 : decode prog_1_method_3_code 60 = .ok (.getfield 106, 3) := by decide +kernel
theorem d_put_71 : decode prog_1_method_3_code 71 = .ok (.aload_n 0, 1) := by decide +kernel
theorem d_put_72 : decode prog_1_method_3_code 72 = .ok (.dup, 1) := by decide +kernel
theorem d_put_73 : decode prog_1_method_3_code 73 = .ok (.getfield 113, 3) := by decide +kernel
theorem d_put_76 : decode prog_1_method_3_code 76 = .ok (.iconst 1, 1) := by decide +kernel
theorem d_put_77 : decode prog_1_method_3_code 77 = .ok (.iadd, 1) := by decide +kernel
theorem d_put_45 : decode prog_1_method_3_code 45 = .ok (.aload_n 0, 1) := by decide +kernel
theorem d_put_46 : decode prog_1_method_3_code 46 = .ok (.getfield 141, 3) := by decide +kernel
theorem d_put_49 : decode prog_1_method_3_code 49 = .ok (.aload_n 0, 1) := by decide +kernel
theorem d_put_50 : decode prog_1_method_3_code 50 = .ok (.getfield 94, 3) := by decide +kernel
theorem d_put_53 : decode prog_1_method_3_code 53 = .ok (.if_icmp .lt 6, 3) := by decide +kernel
theorem d_put_56 : decode prog_1_method_3_code 56 = .ok (.bipush (-5), 2) := by decide +kernel
theorem d_put_58 : decode prog_1_method_3_code 58 = .ok (.ireturn, 1) := by decide +kernel
theorem d_put_63 : decode prog_1_method_3_code 63 = .ok (.ifCond .eq 8, 3) := by decide +kernel
theorem d_put_78 : decode prog_1_method_3_code 78 = .ok (.putfield 113, 3) := by decide +kernel
theorem d_put_81 : decode prog_1_method_3_code 81 = .ok (.iload_n 3, 1) := by decide +kernel
theorem d_put_82 : decode prog_1_method_3_code 82 = .ok (.ifCond .lt 21, 3) := by decide +kernel
theorem d_put_103 : decode prog_1_method_3_code 103 = .ok (.aload_n 0, 1) := by decide +kernel
theorem d_put_104 : decode prog_1_method_3_code 104 = .ok (.iload_n 1, 1) := by decide +kernel
theorem d_put_105 : decode prog_1_method_3_code 105 = .ok (.iload_n 2, 1) := by decide +kernel
theorem d_put_106 : decode prog_1_method_3_code 106 = .ok (.invokevirtual 148, 3) := by decide +kernel
theorem ml_c148 : methodLk "LinearHashLog" 148 tables_1 = some (⟨"LinearHashLog", "insertEntry", "(II)Z"⟩ : MethodName) := by decide +kernel
theorem cl_insertEntry : codeLk (⟨"LinearHashLog", "insertEntry", "(II)Z"⟩ : MethodName) tables_1 = some (prog_1_method_33_code, 7, (some .boolean)) := codeLk_at (i := 193) rfl (by decide +kernel)
theorem pd_insertEntry : parseMethodDescriptor "(II)Z" = some ⟨[.int, .int], some .boolean⟩ := by decide +kernel
theorem cc_insertEntry_1 : hasInit (⟨"LinearHashLog", "insertEntry", "(II)Z"⟩ : MethodName).cls tables_1 = true ∧ plainName (⟨"LinearHashLog", "insertEntry", "(II)Z"⟩ : MethodName).cls = true ∧ (⟨"LinearHashLog", "insertEntry", "(II)Z"⟩ : MethodName).cls ≠ "java/lang/invoke/MethodHandle" ∧ (⟨"LinearHashLog", "insertEntry", "(II)Z"⟩ : MethodName).cls ≠ "java/lang/invoke/VarHandle" ∧ (((1 : Nat) = 0 ∧ hasDecl (⟨"LinearHashLog", "insertEntry", "(II)Z"⟩ : MethodName) tables_1 = true ∧ hasSel (⟨"LinearHashLog", "insertEntry", "(II)Z"⟩ : MethodName) tables_1 = true ∧ hasInst (⟨"LinearHashLog", "insertEntry", "(II)Z"⟩ : MethodName) tables_1 = true) ∨ ((1 : Nat) = 1 ∧ hasPriv (⟨"LinearHashLog", "insertEntry", "(II)Z"⟩ : MethodName) tables_1 = true ∧ hasInst (⟨"LinearHashLog", "insertEntry", "(II)Z"⟩ : MethodName) tables_1 = true ∧ (instLk (⟨"LinearHashLog", "insertEntry", "(II)Z"⟩ : MethodName).cls tables_1).isSome = true) ∨ ((1 : Nat) = 2 ∧ (⟨"LinearHashLog", "insertEntry", "(II)Z"⟩ : MethodName).name = "<init>" ∧ hasInst (⟨"LinearHashLog", "insertEntry", "(II)Z"⟩ : MethodName) tables_1 = true ∧ ((some .boolean) : Option FieldType) = none) ∨ ((1 : Nat) = 3 ∧ hasStat (⟨"LinearHashLog", "insertEntry", "(II)Z"⟩ : MethodName) tables_1 = true)) := by decide +kernel
theorem ca_c148_1 : callAt tables_1 "LinearHashLog" 148 1 = some ((⟨"LinearHashLog", "insertEntry", "(II)Z"⟩ : MethodName), 2, prog_1_method_33_code, 7, (some .boolean)) := callAt_of ml_c148 cl_insertEntry pd_insertEntry cc_insertEntry_1 rfl
theorem d_put_85 : decode prog_1_method_3_code 85 = .ok (.aload_n 0, 1) := by decide +kernel
theorem d_put_86 : decode prog_1_method_3_code 86 = .ok (.getfield 65, 3) := by decide +kernel
theorem d_put_89 : decode prog_1_method_3_code 89 = .ok (.iload_n 3, 1) := by decide +kernel
theorem d_put_90 : decode prog_1_method_3_code 90 = .ok (.iload_n 2, 1) := by decide +kernel
theorem d_put_91 : decode prog_1_method_3_code 91 = .ok (.iastore, 1) := by decide +kernel
theorem d_put_92 : decode prog_1_method_3_code 92 = .ok (.aload_n 0, 1) := by decide +kernel
theorem d_put_93 : decode prog_1_method_3_code 93 = .ok (.getfield 72, 3) := by decide +kernel
theorem d_put_96 : decode prog_1_method_3_code 96 = .ok (.iload_n 3, 1) := by decide +kernel
theorem d_put_97 : decode prog_1_method_3_code 97 = .ok (.iconst 4, 1) := by decide +kernel
theorem d_put_98 : decode prog_1_method_3_code 98 = .ok (.idiv, 1) := by decide +kernel
theorem d_put_99 : decode prog_1_method_3_code 99 = .ok (.iconst 1, 1) := by decide +kernel
theorem d_put_100 : decode prog_1_method_3_code 100 = .ok (.bastore, 1) := by decide +kernel
theorem d_put_101 : decode prog_1_method_3_code 101 = .ok (.iconst 2, 1) := by decide +kernel
theorem d_put_102 : decode prog_1_method_3_code 102 = .ok (.ireturn, 1) := by decide +kernel
theorem d_put_66 : decode prog_1_method_3_code 66 = .ok (.aload_n 0, 1) := by decide +kernel
theorem d_put_109 : decode prog_1_method_3_code 109 = .ok (.ifCond .eq 18, 3) := by decide +kernel
theorem d_put_112 : decode prog_1_method_3_code 112 = .ok (.aload_n 0, 1) := by decide +kernel
theorem d_put_113 : decode prog_1_method_3_code 113 = .ok (.dup, 1) := by decide +kernel
theorem d_put_114 : decode prog_1_method_3_code 114 = .ok (.getfield 141, 3) := by decide +kernel
theorem d_put_117 : decode prog_1_method_3_code 117 = .ok (.iconst 1, 1) := by decide +kernel
theorem d_put_118 : decode prog_1_method_3_code 118 = .ok (.iadd, 1) := by decide +kernel
theorem d_put_119 : decode prog_1_method_3_code 119 = .ok (.putfield 141, 3) := by decide +kernel
theorem d_put_122 : decode prog_1_method_3_code 122 = .ok (.aload_n 0, 1) := by decide +kernel
theorem d_put_123 : decode prog_1_method_3_code 123 = .ok (.iconst 0, 1) := by decide +kernel
theorem d_put_124 : decode prog_1_method_3_code 124 = .ok (.putfield 128, 3) := by decide +kernel
theorem d_put_127 : decode prog_1_method_3_code 127 = .ok (.aload_n 0, 1) := by decide +kernel
theorem d_put_128 : decode prog_1_method_3_code 128 = .ok (.invokevirtual 152, 3) := by decide +kernel
theorem ml_c152 : methodLk "LinearHashLog" 152 tables_1 = some (⟨"LinearHashLog", "growIfNeeded", "()V"⟩ : MethodName) := by decide +kernel
theorem cl_growIfNeeded : codeLk (⟨"LinearHashLog", "growIfNeeded", "()V"⟩ : MethodName) tables_1 = some (prog_1_method_39_code, 1, none) := codeLk_at (i := 201) rfl (by decide +kernel)
theorem pd_growIfNeeded : parseMethodDescriptor "()V" = some ⟨[], none⟩ := by decide +kernel
theorem cc_growIfNeeded_1 : hasInit (⟨"LinearHashLog", "growIfNeeded", "()V"⟩ : MethodName).cls tables_1 = true ∧ plainName (⟨"LinearHashLog", "growIfNeeded", "()V"⟩ : MethodName).cls = true ∧ (⟨"LinearHashLog", "growIfNeeded", "()V"⟩ : MethodName).cls ≠ "java/lang/invoke/MethodHandle" ∧ (⟨"LinearHashLog", "growIfNeeded", "()V"⟩ : MethodName).cls ≠ "java/lang/invoke/VarHandle" ∧ (((1 : Nat) = 0 ∧ hasDecl (⟨"LinearHashLog", "growIfNeeded", "()V"⟩ : MethodName) tables_1 = true ∧ hasSel (⟨"LinearHashLog", "growIfNeeded", "()V"⟩ : MethodName) tables_1 = true ∧ hasInst (⟨"LinearHashLog", "growIfNeeded", "()V"⟩ : MethodName) tables_1 = true) ∨ ((1 : Nat) = 1 ∧ hasPriv (⟨"LinearHashLog", "growIfNeeded", "()V"⟩ : MethodName) tables_1 = true ∧ hasInst (⟨"LinearHashLog", "growIfNeeded", "()V"⟩ : MethodName) tables_1 = true ∧ (instLk (⟨"LinearHashLog", "growIfNeeded", "()V"⟩ : MethodName).cls tables_1).isSome = true) ∨ ((1 : Nat) = 2 ∧ (⟨"LinearHashLog", "growIfNeeded", "()V"⟩ : MethodName).name = "<init>" ∧ hasInst (⟨"LinearHashLog", "growIfNeeded", "()V"⟩ : MethodName) tables_1 = true ∧ (none : Option FieldType) = none) ∨ ((1 : Nat) = 3 ∧ hasStat (⟨"LinearHashLog", "growIfNeeded", "()V"⟩ : MethodName) tables_1 = true)) := by decide +kernel
theorem ca_c152_1 : callAt tables_1 "LinearHashLog" 152 1 = some ((⟨"LinearHashLog", "growIfNeeded", "()V"⟩ : MethodName), 0, prog_1_method_39_code, 1, none) := callAt_of ml_c152 cl_growIfNeeded pd_growIfNeeded cc_growIfNeeded_1 rfl
theorem d_put_131 : decode prog_1_method_3_code 131 = .ok (.iconst 1, 1) := by decide +kernel
theorem d_put_132 : decode prog_1_method_3_code 132 = .ok (.ireturn, 1) := by decide +kernel
theorem d_get_0 : decode prog_1_method_10_code 0 = .ok (.aload_n 0, 1) := by decide +kernel
theorem d_get_1 : decode prog_1_method_10_code 1 = .ok (.getfield 103, 3) := by decide +kernel
theorem d_get_4 : decode prog_1_method_10_code 4 = .ok (.iconst 2, 1) := by decide +kernel
theorem d_get_5 : decode prog_1_method_10_code 5 = .ok (.if_icmp .ne 5, 3) := by decide +kernel
theorem d_get_10 : decode prog_1_method_10_code 10 = .ok (.aload_n 0, 1) := by decide +kernel
theorem d_get_11 : decode prog_1_method_10_code 11 = .ok (.iload_n 1, 1) := by decide +kernel
theorem d_get_12 : decode prog_1_method_10_code 12 = .ok (.invokevirtual 137, 3) := by decide +kernel
theorem d_get_8 : decode prog_1_method_10_code 8 = .ok (.iconst 0, 1) := by decide +kernel
theorem d_get_9 : decode prog_1_method_10_code 9 = .ok (.ireturn, 1) := by decide +kernel
abbrev W_get (pc : Nat) (ls : List Slot) (st : List Value) (M : EMem) (Q : Option Value → EMem → Prop) : Prop := Wp tables_1 0 3 48 (⟨"LinearHashLog", "get", "(I)I"⟩ : MethodName) prog_1_method_10_code (some .int) pc ls st M Q
theorem d_get_15 : decode prog_1_method_10_code 15 = .ok (.istore_n 2, 1) := by decide +kernel
theorem d_get_16 : decode prog_1_method_10_code 16 = .ok (.iload_n 2, 1) := by decide +kernel
theorem d_get_17 : decode prog_1_method_10_code 17 = .ok (.ifCond .ge 5, 3) := by decide +kernel
theorem d_get_22 : decode prog_1_method_10_code 22 = .ok (.aload_n 0, 1) := by decide +kernel
theorem d_get_23 : decode prog_1_method_10_code 23 = .ok (.getfield 65, 3) := by decide +kernel
theorem d_get_26 : decode prog_1_method_10_code 26 = .ok (.iload_n 2, 1) := by decide +kernel
theorem d_get_27 : decode prog_1_method_10_code 27 = .ok (.iaload, 1) := by decide +kernel
theorem d_get_28 : decode prog_1_method_10_code 28 = .ok (.ireturn, 1) := by decide +kernel
theorem d_get_20 : decode prog_1_method_10_code 20 = .ok (.iconst 0, 1) := by decide +kernel
theorem d_get_21 : decode prog_1_method_10_code 21 = .ok (.ireturn, 1) := by decide +kernel
theorem d_law_0 : decode code 0 = .ok (.new 7, 3) := by decide +kernel
theorem na_w7 : newAt tables_1 "LinearHashLogL2" 7 = some ("LinearHashLog", 46) := by decide +kernel
theorem d_law_3 : decode code 3 = .ok (.dup, 1) := by decide +kernel
theorem d_law_4 : decode code 4 = .ok (.iload_n 0, 1) := by decide +kernel
theorem d_law_5 : decode code 5 = .ok (.iconst 4, 1) := by decide +kernel
theorem d_law_6 : decode code 6 = .ok (.iload_n 1, 1) := by decide +kernel
theorem d_law_7 : decode code 7 = .ok (.invokespecial 9, 3) := by decide +kernel
theorem ml_w9 : methodLk "LinearHashLogL2" 9 tables_1 = some (⟨"LinearHashLog", "<init>", "(III)V"⟩ : MethodName) := by decide +kernel
theorem cl_init : codeLk (⟨"LinearHashLog", "<init>", "(III)V"⟩ : MethodName) tables_1 = some (prog_1_method_1_code, 4, none) := codeLk_at (i := 5) rfl (by decide +kernel)
theorem pd_init : parseMethodDescriptor "(III)V" = some ⟨[.int, .int, .int], none⟩ := by decide +kernel
theorem cc_init_2 : hasInit (⟨"LinearHashLog", "<init>", "(III)V"⟩ : MethodName).cls tables_1 = true ∧ plainName (⟨"LinearHashLog", "<init>", "(III)V"⟩ : MethodName).cls = true ∧ (⟨"LinearHashLog", "<init>", "(III)V"⟩ : MethodName).cls ≠ "java/lang/invoke/MethodHandle" ∧ (⟨"LinearHashLog", "<init>", "(III)V"⟩ : MethodName).cls ≠ "java/lang/invoke/VarHandle" ∧ (((2 : Nat) = 0 ∧ hasDecl (⟨"LinearHashLog", "<init>", "(III)V"⟩ : MethodName) tables_1 = true ∧ hasSel (⟨"LinearHashLog", "<init>", "(III)V"⟩ : MethodName) tables_1 = true ∧ hasInst (⟨"LinearHashLog", "<init>", "(III)V"⟩ : MethodName) tables_1 = true) ∨ ((2 : Nat) = 1 ∧ hasPriv (⟨"LinearHashLog", "<init>", "(III)V"⟩ : MethodName) tables_1 = true ∧ hasInst (⟨"LinearHashLog", "<init>", "(III)V"⟩ : MethodName) tables_1 = true ∧ (instLk (⟨"LinearHashLog", "<init>", "(III)V"⟩ : MethodName).cls tables_1).isSome = true) ∨ ((2 : Nat) = 2 ∧ (⟨"LinearHashLog", "<init>", "(III)V"⟩ : MethodName).name = "<init>" ∧ hasInst (⟨"LinearHashLog", "<init>", "(III)V"⟩ : MethodName) tables_1 = true ∧ (none : Option FieldType) = none) ∨ ((2 : Nat) = 3 ∧ hasStat (⟨"LinearHashLog", "<init>", "(III)V"⟩ : MethodName) tables_1 = true)) := by decide +kernel
theorem ca_w9_2 : callAt tables_1 "LinearHashLogL2" 9 2 = some ((⟨"LinearHashLog", "<init>", "(III)V"⟩ : MethodName), 3, prog_1_method_1_code, 4, none) := callAt_of ml_w9 cl_init pd_init cc_init_2 rfl
theorem on_w9 : objInitAt tables_1 "LinearHashLogL2" 9 = false := by decide +kernel
abbrev W_law (pc : Nat) (ls : List Slot) (st : List Value) (M : EMem) (Q : Option Value → EMem → Prop) : Prop := Wp tables_1 0 8 176 x code (some .boolean) pc ls st M Q
theorem d_law_10 : decode code 10 = .ok (.astore 6, 2) := by decide +kernel
theorem d_law_12 : decode code 12 = .ok (.iload_n 0, 1) := by decide +kernel
theorem d_law_13 : decode code 13 = .ok (.iconst 1, 1) := by decide +kernel
theorem d_law_14 : decode code 14 = .ok (.if_icmp .ge 7, 3) := by decide +kernel
theorem d_law_21 : decode code 21 = .ok (.iload_n 0, 1) := by decide +kernel
theorem d_law_22 : decode code 22 = .ok (.iconst 4, 1) := by decide +kernel
theorem d_law_30 : decode code 30 = .ok (.iload_n 0, 1) := by decide +kernel
theorem d_law_26 : decode code 26 = .ok (.iconst 4, 1) := by decide +kernel
theorem d_law_27 : decode code 27 = .ok (.goto 4, 3) := by decide +kernel
theorem d_law_23 : decode code 23 = .ok (.if_icmp .le 7, 3) := by decide +kernel
theorem d_law_17 : decode code 17 = .ok (.iconst 1, 1) := by decide +kernel
theorem d_law_18 : decode code 18 = .ok (.goto 13, 3) := by decide +kernel
theorem d_law_31 : decode code 31 = .ok (.istore 7, 2) := by decide +kernel
theorem d_law_33 : decode code 33 = .ok (.iload_n 1, 1) := by decide +kernel
theorem d_law_34 : decode code 34 = .ok (.iconst 1, 1) := by decide +kernel
theorem d_law_35 : decode code 35 = .ok (.if_icmp .ge 7, 3) := by decide +kernel
theorem d_law_42 : decode code 42 = .ok (.iload_n 1, 1) := by decide +kernel
theorem d_law_43 : decode code 43 = .ok (.bipush 8, 2) := by decide +kernel
theorem d_law_53 : decode code 53 = .ok (.iload_n 1, 1) := by decide +kernel
theorem d_law_48 : decode code 48 = .ok (.bipush 8, 2) := by decide +kernel
theorem d_law_50 : decode code 50 = .ok (.goto 4, 3) := by decide +kernel
theorem d_law_45 : decode code 45 = .ok (.if_icmp .le 8, 3) := by decide +kernel
theorem d_law_38 : decode code 38 = .ok (.iconst 1, 1) := by decide +kernel
theorem d_law_39 : decode code 39 = .ok (.goto 15, 3) := by decide +kernel
theorem d_law_54 : decode code 54 = .ok (.istore 8, 2) := by decide +kernel
theorem d_law_56 : decode code 56 = .ok (.iload 8, 2) := by decide +kernel
theorem d_law_58 : decode code 58 = .ok (.iconst 1, 1) := by decide +kernel
theorem d_law_59 : decode code 59 = .ok (.if_icmp .ne 7, 3) := by decide +kernel
theorem d_law_66 : decode code 66 = .ok (.iconst 0, 1) := by decide +kernel
theorem d_law_62 : decode code 62 = .ok (.iconst 1, 1) := by decide +kernel
theorem d_law_63 : decode code 63 = .ok (.goto 4, 3) := by decide +kernel
theorem d_law_67 : decode code 67 = .ok (.istore 9, 2) := by decide +kernel
theorem d_law_69 : decode code 69 = .ok (.iload_n 2, 1) := by decide +kernel
theorem d_law_70 : decode code 70 = .ok (.iload 4, 2) := by decide +kernel
theorem d_law_72 : decode code 72 = .ok (.if_icmp .ne 7, 3) := by decide +kernel
theorem d_law_79 : decode code 79 = .ok (.iconst 0, 1) := by decide +kernel
theorem d_law_75 : decode code 75 = .ok (.iconst 1, 1) := by decide +kernel
theorem d_law_76 : decode code 76 = .ok (.goto 4, 3) := by decide +kernel
theorem d_law_80 : decode code 80 = .ok (.istore 10, 2) := by decide +kernel
theorem d_law_82 : decode code 82 = .ok (.aload 6, 2) := by decide +kernel
theorem d_law_84 : decode code 84 = .ok (.invokevirtual 12, 3) := by decide +kernel
theorem ml_w12 : methodLk "LinearHashLogL2" 12 tables_1 = some (⟨"LinearHashLog", "begin", "()I"⟩ : MethodName) := by decide +kernel
theorem cl_begin : codeLk (⟨"LinearHashLog", "begin", "()I"⟩ : MethodName) tables_1 = some (prog_1_method_2_code, 1, (some .int)) := codeLk_at (i := 163) rfl (by decide +kernel)
theorem pd_begin : parseMethodDescriptor "()I" = some ⟨[], some .int⟩ := by decide +kernel
theorem cc_begin_0 : hasInit (⟨"LinearHashLog", "begin", "()I"⟩ : MethodName).cls tables_1 = true ∧ plainName (⟨"LinearHashLog", "begin", "()I"⟩ : MethodName).cls = true ∧ (⟨"LinearHashLog", "begin", "()I"⟩ : MethodName).cls ≠ "java/lang/invoke/MethodHandle" ∧ (⟨"LinearHashLog", "begin", "()I"⟩ : MethodName).cls ≠ "java/lang/invoke/VarHandle" ∧ (((0 : Nat) = 0 ∧ hasDecl (⟨"LinearHashLog", "begin", "()I"⟩ : MethodName) tables_1 = true ∧ hasSel (⟨"LinearHashLog", "begin", "()I"⟩ : MethodName) tables_1 = true ∧ hasInst (⟨"LinearHashLog", "begin", "()I"⟩ : MethodName) tables_1 = true) ∨ ((0 : Nat) = 1 ∧ hasPriv (⟨"LinearHashLog", "begin", "()I"⟩ : MethodName) tables_1 = true ∧ hasInst (⟨"LinearHashLog", "begin", "()I"⟩ : MethodName) tables_1 = true ∧ (instLk (⟨"LinearHashLog", "begin", "()I"⟩ : MethodName).cls tables_1).isSome = true) ∨ ((0 : Nat) = 2 ∧ (⟨"LinearHashLog", "begin", "()I"⟩ : MethodName).name = "<init>" ∧ hasInst (⟨"LinearHashLog", "begin", "()I"⟩ : MethodName) tables_1 = true ∧ ((some .int) : Option FieldType) = none) ∨ ((0 : Nat) = 3 ∧ hasStat (⟨"LinearHashLog", "begin", "()I"⟩ : MethodName) tables_1 = true)) := by decide +kernel
theorem ca_w12_0 : callAt tables_1 "LinearHashLogL2" 12 0 = some ((⟨"LinearHashLog", "begin", "()I"⟩ : MethodName), 0, prog_1_method_2_code, 1, (some .int)) := callAt_of ml_w12 cl_begin pd_begin cc_begin_0 rfl
theorem np_begin : hasPriv (⟨"LinearHashLog", "begin", "()I"⟩ : MethodName) tables_1 = false := by decide +kernel
theorem ca_w12_0n : callAt tables_1 "LinearHashLogL2" 12 1 = none := callAt_pub ml_w12 np_begin
theorem d_law_87 : decode code 87 = .ok (.ifCond .eq 5, 3) := by decide +kernel
theorem d_law_92 : decode code 92 = .ok (.aload 6, 2) := by decide +kernel
theorem d_law_94 : decode code 94 = .ok (.iload_n 2, 1) := by decide +kernel
theorem d_law_95 : decode code 95 = .ok (.iload_n 3, 1) := by decide +kernel
theorem d_law_96 : decode code 96 = .ok (.invokevirtual 16, 3) := by decide +kernel
theorem ml_w16 : methodLk "LinearHashLogL2" 16 tables_1 = some (⟨"LinearHashLog", "put", "(II)I"⟩ : MethodName) := by decide +kernel
theorem cl_put : codeLk (⟨"LinearHashLog", "put", "(II)I"⟩ : MethodName) tables_1 = some (prog_1_method_3_code, 4, (some .int)) := codeLk_at (i := 168) rfl (by decide +kernel)
theorem pd_put : parseMethodDescriptor "(II)I" = some ⟨[.int, .int], some .int⟩ := by decide +kernel
theorem cc_put_0 : hasInit (⟨"LinearHashLog", "put", "(II)I"⟩ : MethodName).cls tables_1 = true ∧ plainName (⟨"LinearHashLog", "put", "(II)I"⟩ : MethodName).cls = true ∧ (⟨"LinearHashLog", "put", "(II)I"⟩ : MethodName).cls ≠ "java/lang/invoke/MethodHandle" ∧ (⟨"LinearHashLog", "put", "(II)I"⟩ : MethodName).cls ≠ "java/lang/invoke/VarHandle" ∧ (((0 : Nat) = 0 ∧ hasDecl (⟨"LinearHashLog", "put", "(II)I"⟩ : MethodName) tables_1 = true ∧ hasSel (⟨"LinearHashLog", "put", "(II)I"⟩ : MethodName) tables_1 = true ∧ hasInst (⟨"LinearHashLog", "put", "(II)I"⟩ : MethodName) tables_1 = true) ∨ ((0 : Nat) = 1 ∧ hasPriv (⟨"LinearHashLog", "put", "(II)I"⟩ : MethodName) tables_1 = true ∧ hasInst (⟨"LinearHashLog", "put", "(II)I"⟩ : MethodName) tables_1 = true ∧ (instLk (⟨"LinearHashLog", "put", "(II)I"⟩ : MethodName).cls tables_1).isSome = true) ∨ ((0 : Nat) = 2 ∧ (⟨"LinearHashLog", "put", "(II)I"⟩ : MethodName).name = "<init>" ∧ hasInst (⟨"LinearHashLog", "put", "(II)I"⟩ : MethodName) tables_1 = true ∧ ((some .int) : Option FieldType) = none) ∨ ((0 : Nat) = 3 ∧ hasStat (⟨"LinearHashLog", "put", "(II)I"⟩ : MethodName) tables_1 = true)) := by decide +kernel
theorem ca_w16_0 : callAt tables_1 "LinearHashLogL2" 16 0 = some ((⟨"LinearHashLog", "put", "(II)I"⟩ : MethodName), 2, prog_1_method_3_code, 4, (some .int)) := callAt_of ml_w16 cl_put pd_put cc_put_0 rfl
theorem np_put : hasPriv (⟨"LinearHashLog", "put", "(II)I"⟩ : MethodName) tables_1 = false := by decide +kernel
theorem ca_w16_0n : callAt tables_1 "LinearHashLogL2" 16 1 = none := callAt_pub ml_w16 np_put
theorem d_law_90 : decode code 90 = .ok (.iconst 0, 1) := by decide +kernel
theorem d_law_91 : decode code 91 = .ok (.ireturn, 1) := by decide +kernel
theorem d_law_99 : decode code 99 = .ok (.iconst 1, 1) := by decide +kernel
theorem d_law_100 : decode code 100 = .ok (.if_icmp .eq 5, 3) := by decide +kernel
theorem d_law_105 : decode code 105 = .ok (.iload 9, 2) := by decide +kernel
theorem d_law_115 : decode code 115 = .ok (.iload 10, 2) := by decide +kernel
theorem d_law_124 : decode code 124 = .ok (.iconst 1, 1) := by decide +kernel
theorem d_law_125 : decode code 125 = .ok (.istore 11, 2) := by decide +kernel
theorem d_law_127 : decode code 127 = .ok (.aload 6, 2) := by decide +kernel
theorem d_law_129 : decode code 129 = .ok (.iload 4, 2) := by decide +kernel
theorem d_law_131 : decode code 131 = .ok (.iload 5, 2) := by decide +kernel
theorem d_law_107 : decode code 107 = .ok (.ifCond .eq 8, 3) := by decide +kernel
theorem d_law_120 : decode code 120 = .ok (.iconst 2, 1) := by decide +kernel
theorem d_law_121 : decode code 121 = .ok (.goto 4, 3) := by decide +kernel
theorem d_law_117 : decode code 117 = .ok (.ifCond .eq 7, 3) := by decide +kernel
theorem d_law_110 : decode code 110 = .ok (.bipush (-4), 2) := by decide +kernel
theorem d_law_112 : decode code 112 = .ok (.goto 13, 3) := by decide +kernel
theorem d_law_133 : decode code 133 = .ok (.invokevirtual 16, 3) := by decide +kernel
theorem d_law_103 : decode code 103 = .ok (.iconst 0, 1) := by decide +kernel
theorem d_law_104 : decode code 104 = .ok (.ireturn, 1) := by decide +kernel
theorem d_law_136 : decode code 136 = .ok (.iload 11, 2) := by decide +kernel
theorem d_law_138 : decode code 138 = .ok (.if_icmp .eq 5, 3) := by decide +kernel
theorem d_law_143 : decode code 143 = .ok (.iload 9, 2) := by decide +kernel
theorem d_law_152 : decode code 152 = .ok (.iconst 2, 1) := by decide +kernel
theorem d_law_153 : decode code 153 = .ok (.istore 12, 2) := by decide +kernel
theorem d_law_155 : decode code 155 = .ok (.iload 9, 2) := by decide +kernel
theorem d_law_165 : decode code 165 = .ok (.iconst 1, 1) := by decide +kernel
theorem d_law_166 : decode code 166 = .ok (.goto 4, 3) := by decide +kernel
theorem d_law_170 : decode code 170 = .ok (.istore 13, 2) := by decide +kernel
theorem d_law_172 : decode code 172 = .ok (.iload 10, 2) := by decide +kernel
theorem d_law_187 : decode code 187 = .ok (.iload_n 3, 1) := by decide +kernel
theorem d_law_188 : decode code 188 = .ok (.istore 14, 2) := by decide +kernel
theorem d_law_190 : decode code 190 = .ok (.iload 9, 2) := by decide +kernel
theorem d_law_208 : decode code 208 = .ok (.iload 5, 2) := by decide +kernel
theorem d_law_210 : decode code 210 = .ok (.istore 15, 2) := by decide +kernel
theorem d_law_212 : decode code 212 = .ok (.aload 6, 2) := by decide +kernel
theorem d_law_145 : decode code 145 = .ok (.ifCond .eq 7, 3) := by decide +kernel
theorem d_law_148 : decode code 148 = .ok (.iconst 1, 1) := by decide +kernel
theorem d_law_149 : decode code 149 = .ok (.goto 4, 3) := by decide +kernel
theorem d_law_157 : decode code 157 = .ok (.ifCond .ne 8, 3) := by decide +kernel
theorem d_law_160 : decode code 160 = .ok (.iload 10, 2) := by decide +kernel
theorem d_law_169 : decode code 169 = .ok (.iconst 2, 1) := by decide +kernel
theorem d_law_162 : decode code 162 = .ok (.ifCond .eq 7, 3) := by decide +kernel
theorem d_law_174 : decode code 174 = .ok (.ifCond .eq 13, 3) := by decide +kernel
theorem d_law_177 : decode code 177 = .ok (.iload 9, 2) := by decide +kernel
theorem d_law_182 : decode code 182 = .ok (.iload 5, 2) := by decide +kernel
theorem d_law_184 : decode code 184 = .ok (.goto 4, 3) := by decide +kernel
theorem d_law_179 : decode code 179 = .ok (.ifCond .ne 8, 3) := by decide +kernel
theorem d_law_192 : decode code 192 = .ok (.ifCond .eq 16, 3) := by decide +kernel
theorem d_law_195 : decode code 195 = .ok (.iload 10, 2) := by decide +kernel
theorem d_law_204 : decode code 204 = .ok (.iconst 0, 1) := by decide +kernel
theorem d_law_205 : decode code 205 = .ok (.goto 5, 3) := by decide +kernel
theorem d_law_200 : decode code 200 = .ok (.iload_n 3, 1) := by decide +kernel
theorem d_law_201 : decode code 201 = .ok (.goto 9, 3) := by decide +kernel
theorem d_law_197 : decode code 197 = .ok (.ifCond .eq 7, 3) := by decide +kernel
theorem d_law_214 : decode code 214 = .ok (.invokevirtual 20, 3) := by decide +kernel
theorem ml_w20 : methodLk "LinearHashLogL2" 20 tables_1 = some (⟨"LinearHashLog", "writesUsed", "()I"⟩ : MethodName) := by decide +kernel
theorem cl_writesUsed : codeLk (⟨"LinearHashLog", "writesUsed", "()I"⟩ : MethodName) tables_1 = some (prog_1_method_17_code, 1, (some .int)) := codeLk_at (i := 206) rfl (by decide +kernel)
theorem pd_writesUsed : parseMethodDescriptor "()I" = some ⟨[], some .int⟩ := by decide +kernel
theorem cc_writesUsed_0 : hasInit (⟨"LinearHashLog", "writesUsed", "()I"⟩ : MethodName).cls tables_1 = true ∧ plainName (⟨"LinearHashLog", "writesUsed", "()I"⟩ : MethodName).cls = true ∧ (⟨"LinearHashLog", "writesUsed", "()I"⟩ : MethodName).cls ≠ "java/lang/invoke/MethodHandle" ∧ (⟨"LinearHashLog", "writesUsed", "()I"⟩ : MethodName).cls ≠ "java/lang/invoke/VarHandle" ∧ (((0 : Nat) = 0 ∧ hasDecl (⟨"LinearHashLog", "writesUsed", "()I"⟩ : MethodName) tables_1 = true ∧ hasSel (⟨"LinearHashLog", "writesUsed", "()I"⟩ : MethodName) tables_1 = true ∧ hasInst (⟨"LinearHashLog", "writesUsed", "()I"⟩ : MethodName) tables_1 = true) ∨ ((0 : Nat) = 1 ∧ hasPriv (⟨"LinearHashLog", "writesUsed", "()I"⟩ : MethodName) tables_1 = true ∧ hasInst (⟨"LinearHashLog", "writesUsed", "()I"⟩ : MethodName) tables_1 = true ∧ (instLk (⟨"LinearHashLog", "writesUsed", "()I"⟩ : MethodName).cls tables_1).isSome = true) ∨ ((0 : Nat) = 2 ∧ (⟨"LinearHashLog", "writesUsed", "()I"⟩ : MethodName).name = "<init>" ∧ hasInst (⟨"LinearHashLog", "writesUsed", "()I"⟩ : MethodName) tables_1 = true ∧ ((some .int) : Option FieldType) = none) ∨ ((0 : Nat) = 3 ∧ hasStat (⟨"LinearHashLog", "writesUsed", "()I"⟩ : MethodName) tables_1 = true)) := by decide +kernel
theorem ca_w20_0 : callAt tables_1 "LinearHashLogL2" 20 0 = some ((⟨"LinearHashLog", "writesUsed", "()I"⟩ : MethodName), 0, prog_1_method_17_code, 1, (some .int)) := callAt_of ml_w20 cl_writesUsed pd_writesUsed cc_writesUsed_0 rfl
theorem np_writesUsed : hasPriv (⟨"LinearHashLog", "writesUsed", "()I"⟩ : MethodName) tables_1 = false := by decide +kernel
theorem ca_w20_0n : callAt tables_1 "LinearHashLogL2" 20 1 = none := callAt_pub ml_w20 np_writesUsed
theorem d_law_217 : decode code 217 = .ok (.iload 12, 2) := by decide +kernel
theorem d_law_219 : decode code 219 = .ok (.if_icmp .eq 5, 3) := by decide +kernel
theorem d_law_224 : decode code 224 = .ok (.aload 6, 2) := by decide +kernel
theorem d_law_226 : decode code 226 = .ok (.invokevirtual 23, 3) := by decide +kernel
theorem ml_w23 : methodLk "LinearHashLogL2" 23 tables_1 = some (⟨"LinearHashLog", "size", "()I"⟩ : MethodName) := by decide +kernel
theorem cl_size : codeLk (⟨"LinearHashLog", "size", "()I"⟩ : MethodName) tables_1 = some (prog_1_method_11_code, 1, (some .int)) := codeLk_at (i := 211) rfl (by decide +kernel)
theorem pd_size : parseMethodDescriptor "()I" = some ⟨[], some .int⟩ := by decide +kernel
theorem cc_size_0 : hasInit (⟨"LinearHashLog", "size", "()I"⟩ : MethodName).cls tables_1 = true ∧ plainName (⟨"LinearHashLog", "size", "()I"⟩ : MethodName).cls = true ∧ (⟨"LinearHashLog", "size", "()I"⟩ : MethodName).cls ≠ "java/lang/invoke/MethodHandle" ∧ (⟨"LinearHashLog", "size", "()I"⟩ : MethodName).cls ≠ "java/lang/invoke/VarHandle" ∧ (((0 : Nat) = 0 ∧ hasDecl (⟨"LinearHashLog", "size", "()I"⟩ : MethodName) tables_1 = true ∧ hasSel (⟨"LinearHashLog", "size", "()I"⟩ : MethodName) tables_1 = true ∧ hasInst (⟨"LinearHashLog", "size", "()I"⟩ : MethodName) tables_1 = true) ∨ ((0 : Nat) = 1 ∧ hasPriv (⟨"LinearHashLog", "size", "()I"⟩ : MethodName) tables_1 = true ∧ hasInst (⟨"LinearHashLog", "size", "()I"⟩ : MethodName) tables_1 = true ∧ (instLk (⟨"LinearHashLog", "size", "()I"⟩ : MethodName).cls tables_1).isSome = true) ∨ ((0 : Nat) = 2 ∧ (⟨"LinearHashLog", "size", "()I"⟩ : MethodName).name = "<init>" ∧ hasInst (⟨"LinearHashLog", "size", "()I"⟩ : MethodName) tables_1 = true ∧ ((some .int) : Option FieldType) = none) ∨ ((0 : Nat) = 3 ∧ hasStat (⟨"LinearHashLog", "size", "()I"⟩ : MethodName) tables_1 = true)) := by decide +kernel
theorem ca_w23_0 : callAt tables_1 "LinearHashLogL2" 23 0 = some ((⟨"LinearHashLog", "size", "()I"⟩ : MethodName), 0, prog_1_method_11_code, 1, (some .int)) := callAt_of ml_w23 cl_size pd_size cc_size_0 rfl
theorem np_size : hasPriv (⟨"LinearHashLog", "size", "()I"⟩ : MethodName) tables_1 = false := by decide +kernel
theorem ca_w23_0n : callAt tables_1 "LinearHashLogL2" 23 1 = none := callAt_pub ml_w23 np_size
theorem d_law_229 : decode code 229 = .ok (.iload 13, 2) := by decide +kernel
theorem d_law_231 : decode code 231 = .ok (.if_icmp .eq 5, 3) := by decide +kernel
theorem d_law_236 : decode code 236 = .ok (.aload 6, 2) := by decide +kernel
theorem d_law_238 : decode code 238 = .ok (.iload_n 2, 1) := by decide +kernel
theorem d_law_239 : decode code 239 = .ok (.invokevirtual 26, 3) := by decide +kernel
theorem ml_w26 : methodLk "LinearHashLogL2" 26 tables_1 = some (⟨"LinearHashLog", "get", "(I)I"⟩ : MethodName) := by decide +kernel
theorem cl_get : codeLk (⟨"LinearHashLog", "get", "(I)I"⟩ : MethodName) tables_1 = some (prog_1_method_10_code, 3, (some .int)) := codeLk_at (i := 216) rfl (by decide +kernel)
theorem pd_get : parseMethodDescriptor "(I)I" = some ⟨[.int], some .int⟩ := by decide +kernel
theorem cc_get_0 : hasInit (⟨"LinearHashLog", "get", "(I)I"⟩ : MethodName).cls tables_1 = true ∧ plainName (⟨"LinearHashLog", "get", "(I)I"⟩ : MethodName).cls = true ∧ (⟨"LinearHashLog", "get", "(I)I"⟩ : MethodName).cls ≠ "java/lang/invoke/MethodHandle" ∧ (⟨"LinearHashLog", "get", "(I)I"⟩ : MethodName).cls ≠ "java/lang/invoke/VarHandle" ∧ (((0 : Nat) = 0 ∧ hasDecl (⟨"LinearHashLog", "get", "(I)I"⟩ : MethodName) tables_1 = true ∧ hasSel (⟨"LinearHashLog", "get", "(I)I"⟩ : MethodName) tables_1 = true ∧ hasInst (⟨"LinearHashLog", "get", "(I)I"⟩ : MethodName) tables_1 = true) ∨ ((0 : Nat) = 1 ∧ hasPriv (⟨"LinearHashLog", "get", "(I)I"⟩ : MethodName) tables_1 = true ∧ hasInst (⟨"LinearHashLog", "get", "(I)I"⟩ : MethodName) tables_1 = true ∧ (instLk (⟨"LinearHashLog", "get", "(I)I"⟩ : MethodName).cls tables_1).isSome = true) ∨ ((0 : Nat) = 2 ∧ (⟨"LinearHashLog", "get", "(I)I"⟩ : MethodName).name = "<init>" ∧ hasInst (⟨"LinearHashLog", "get", "(I)I"⟩ : MethodName) tables_1 = true ∧ ((some .int) : Option FieldType) = none) ∨ ((0 : Nat) = 3 ∧ hasStat (⟨"LinearHashLog", "get", "(I)I"⟩ : MethodName) tables_1 = true)) := by decide +kernel
theorem ca_w26_0 : callAt tables_1 "LinearHashLogL2" 26 0 = some ((⟨"LinearHashLog", "get", "(I)I"⟩ : MethodName), 1, prog_1_method_10_code, 3, (some .int)) := callAt_of ml_w26 cl_get pd_get cc_get_0 rfl
theorem np_get : hasPriv (⟨"LinearHashLog", "get", "(I)I"⟩ : MethodName) tables_1 = false := by decide +kernel
theorem ca_w26_0n : callAt tables_1 "LinearHashLogL2" 26 1 = none := callAt_pub ml_w26 np_get
theorem d_law_234 : decode code 234 = .ok (.iconst 0, 1) := by decide +kernel
theorem d_law_235 : decode code 235 = .ok (.ireturn, 1) := by decide +kernel
theorem d_law_222 : decode code 222 = .ok (.iconst 0, 1) := by decide +kernel
theorem d_law_223 : decode code 223 = .ok (.ireturn, 1) := by decide +kernel
theorem d_law_141 : decode code 141 = .ok (.iconst 0, 1) := by decide +kernel
theorem d_law_142 : decode code 142 = .ok (.ireturn, 1) := by decide +kernel
theorem d_law_242 : decode code 242 = .ok (.iload 14, 2) := by decide +kernel
theorem d_law_244 : decode code 244 = .ok (.if_icmp .eq 5, 3) := by decide +kernel
theorem d_law_249 : decode code 249 = .ok (.aload 6, 2) := by decide +kernel
theorem d_law_251 : decode code 251 = .ok (.iload 4, 2) := by decide +kernel
theorem d_law_253 : decode code 253 = .ok (.invokevirtual 26, 3) := by decide +kernel
theorem d_law_247 : decode code 247 = .ok (.iconst 0, 1) := by decide +kernel
theorem d_law_248 : decode code 248 = .ok (.ireturn, 1) := by decide +kernel
theorem d_law_256 : decode code 256 = .ok (.iload 15, 2) := by decide +kernel
theorem d_law_258 : decode code 258 = .ok (.if_icmp .eq 5, 3) := by decide +kernel
theorem d_law_263 : decode code 263 = .ok (.aload 6, 2) := by decide +kernel
theorem d_law_265 : decode code 265 = .ok (.invokevirtual 30, 3) := by decide +kernel
theorem ml_w30 : methodLk "LinearHashLogL2" 30 tables_1 = some (⟨"LinearHashLog", "bucketCount", "()I"⟩ : MethodName) := by decide +kernel
theorem cl_bucketCount : codeLk (⟨"LinearHashLog", "bucketCount", "()I"⟩ : MethodName) tables_1 = some (prog_1_method_12_code, 1, (some .int)) := codeLk_at (i := 221) rfl (by decide +kernel)
theorem pd_bucketCount : parseMethodDescriptor "()I" = some ⟨[], some .int⟩ := by decide +kernel
theorem cc_bucketCount_0 : hasInit (⟨"LinearHashLog", "bucketCount", "()I"⟩ : MethodName).cls tables_1 = true ∧ plainName (⟨"LinearHashLog", "bucketCount", "()I"⟩ : MethodName).cls = true ∧ (⟨"LinearHashLog", "bucketCount", "()I"⟩ : MethodName).cls ≠ "java/lang/invoke/MethodHandle" ∧ (⟨"LinearHashLog", "bucketCount", "()I"⟩ : MethodName).cls ≠ "java/lang/invoke/VarHandle" ∧ (((0 : Nat) = 0 ∧ hasDecl (⟨"LinearHashLog", "bucketCount", "()I"⟩ : MethodName) tables_1 = true ∧ hasSel (⟨"LinearHashLog", "bucketCount", "()I"⟩ : MethodName) tables_1 = true ∧ hasInst (⟨"LinearHashLog", "bucketCount", "()I"⟩ : MethodName) tables_1 = true) ∨ ((0 : Nat) = 1 ∧ hasPriv (⟨"LinearHashLog", "bucketCount", "()I"⟩ : MethodName) tables_1 = true ∧ hasInst (⟨"LinearHashLog", "bucketCount", "()I"⟩ : MethodName) tables_1 = true ∧ (instLk (⟨"LinearHashLog", "bucketCount", "()I"⟩ : MethodName).cls tables_1).isSome = true) ∨ ((0 : Nat) = 2 ∧ (⟨"LinearHashLog", "bucketCount", "()I"⟩ : MethodName).name = "<init>" ∧ hasInst (⟨"LinearHashLog", "bucketCount", "()I"⟩ : MethodName) tables_1 = true ∧ ((some .int) : Option FieldType) = none) ∨ ((0 : Nat) = 3 ∧ hasStat (⟨"LinearHashLog", "bucketCount", "()I"⟩ : MethodName) tables_1 = true)) := by decide +kernel
theorem ca_w30_0 : callAt tables_1 "LinearHashLogL2" 30 0 = some ((⟨"LinearHashLog", "bucketCount", "()I"⟩ : MethodName), 0, prog_1_method_12_code, 1, (some .int)) := callAt_of ml_w30 cl_bucketCount pd_bucketCount cc_bucketCount_0 rfl
theorem np_bucketCount : hasPriv (⟨"LinearHashLog", "bucketCount", "()I"⟩ : MethodName) tables_1 = false := by decide +kernel
theorem ca_w30_0n : callAt tables_1 "LinearHashLogL2" 30 1 = none := callAt_pub ml_w30 np_bucketCount
theorem d_law_268 : decode code 268 = .ok (.iload 7, 2) := by decide +kernel
theorem d_law_270 : decode code 270 = .ok (.if_icmp .eq 5, 3) := by decide +kernel
theorem d_law_275 : decode code 275 = .ok (.aload 6, 2) := by decide +kernel
theorem d_law_277 : decode code 277 = .ok (.invokevirtual 33, 3) := by decide +kernel
theorem ml_w33 : methodLk "LinearHashLogL2" 33 tables_1 = some (⟨"LinearHashLog", "status", "()I"⟩ : MethodName) := by decide +kernel
theorem cl_status : codeLk (⟨"LinearHashLog", "status", "()I"⟩ : MethodName) tables_1 = some (prog_1_method_16_code, 2, (some .int)) := codeLk_at (i := 226) rfl (by decide +kernel)
theorem pd_status : parseMethodDescriptor "()I" = some ⟨[], some .int⟩ := by decide +kernel
theorem cc_status_0 : hasInit (⟨"LinearHashLog", "status", "()I"⟩ : MethodName).cls tables_1 = true ∧ plainName (⟨"LinearHashLog", "status", "()I"⟩ : MethodName).cls = true ∧ (⟨"LinearHashLog", "status", "()I"⟩ : MethodName).cls ≠ "java/lang/invoke/MethodHandle" ∧ (⟨"LinearHashLog", "status", "()I"⟩ : MethodName).cls ≠ "java/lang/invoke/VarHandle" ∧ (((0 : Nat) = 0 ∧ hasDecl (⟨"LinearHashLog", "status", "()I"⟩ : MethodName) tables_1 = true ∧ hasSel (⟨"LinearHashLog", "status", "()I"⟩ : MethodName) tables_1 = true ∧ hasInst (⟨"LinearHashLog", "status", "()I"⟩ : MethodName) tables_1 = true) ∨ ((0 : Nat) = 1 ∧ hasPriv (⟨"LinearHashLog", "status", "()I"⟩ : MethodName) tables_1 = true ∧ hasInst (⟨"LinearHashLog", "status", "()I"⟩ : MethodName) tables_1 = true ∧ (instLk (⟨"LinearHashLog", "status", "()I"⟩ : MethodName).cls tables_1).isSome = true) ∨ ((0 : Nat) = 2 ∧ (⟨"LinearHashLog", "status", "()I"⟩ : MethodName).name = "<init>" ∧ hasInst (⟨"LinearHashLog", "status", "()I"⟩ : MethodName) tables_1 = true ∧ ((some .int) : Option FieldType) = none) ∨ ((0 : Nat) = 3 ∧ hasStat (⟨"LinearHashLog", "status", "()I"⟩ : MethodName) tables_1 = true)) := by decide +kernel
theorem ca_w33_0 : callAt tables_1 "LinearHashLogL2" 33 0 = some ((⟨"LinearHashLog", "status", "()I"⟩ : MethodName), 0, prog_1_method_16_code, 2, (some .int)) := callAt_of ml_w33 cl_status pd_status cc_status_0 rfl
theorem np_status : hasPriv (⟨"LinearHashLog", "status", "()I"⟩ : MethodName) tables_1 = false := by decide +kernel
theorem ca_w33_0n : callAt tables_1 "LinearHashLogL2" 33 1 = none := callAt_pub ml_w33 np_status
theorem d_law_273 : decode code 273 = .ok (.iconst 0, 1) := by decide +kernel
theorem d_law_274 : decode code 274 = .ok (.ireturn, 1) := by decide +kernel
theorem d_law_261 : decode code 261 = .ok (.iconst 0, 1) := by decide +kernel
theorem d_law_262 : decode code 262 = .ok (.ireturn, 1) := by decide +kernel
theorem d_law_280 : decode code 280 = .ok (.iconst 1, 1) := by decide +kernel
theorem d_law_281 : decode code 281 = .ok (.if_icmp .ne 7, 3) := by decide +kernel
theorem d_law_288 : decode code 288 = .ok (.iconst 0, 1) := by decide +kernel
theorem d_law_284 : decode code 284 = .ok (.iconst 1, 1) := by decide +kernel
theorem d_law_285 : decode code 285 = .ok (.goto 4, 3) := by decide +kernel
theorem d_law_289 : decode code 289 = .ok (.ireturn, 1) := by decide +kernel
set_option maxRecDepth 65536 in
set_option maxHeartbeats 4000000 in
theorem L_clamp_0 {x1 x2 x3 : Int32} {mi : Nat → Nat → Int32} {ml : Nat → Nat → Int64} {Q : Option Value → EMem → Prop}
    (h1 : ∀ v1 : Int32, v1 = (if x1 < x2 then x2 else (if x3 < x1 then x3 else x1)) → Q (some (.int v1)) (LL1, mi, ml, RR1)) :
    W_clamp 0 [.val (.ref 0), .val (.int x1), .val (.int x2), .val (.int x3)] [] (LL1, mi, ml, RR1) Q := by
  refine Wp.p (pc' := 1) d_clamp_0 rfl rfl ?_
  refine Wp.p (pc' := 2) d_clamp_1 rfl rfl ?_
  obtain ⟨v1, e1⟩ : ∃ z : Int32, z = (if x1 < x2 then x2 else (if x3 < x1 then x3 else x1)) := ⟨_, rfl⟩
  suffices K : Q (some (.int v1)) (LL1, mi, ml, RR1) by
    refine Wp.icmp_ge d_clamp_2 rfl (fun q0 => ?_) (fun q0 => ?_)
    ·
      refine Wp.p (pc' := 8) d_clamp_7 rfl rfl ?_
      refine Wp.p (pc' := 9) d_clamp_8 rfl rfl ?_
      refine Wp.icmp_le d_clamp_9 rfl (fun q1 => ?_) (fun q1 => ?_)
      ·
        refine Wp.p (pc' := 15) d_clamp_14 rfl rfl ?_
        refine Wp.retI d_clamp_15 ?_
        rw [if_neg q0, if_neg q1] at e1; subst e1
        exact K
      ·
        refine Wp.p (pc' := 13) d_clamp_12 rfl rfl ?_
        refine Wp.retI d_clamp_13 ?_
        rw [if_neg q0, if_pos q1] at e1; subst e1
        exact K
    ·
      refine Wp.p (pc' := 6) d_clamp_5 rfl rfl ?_
      refine Wp.retI d_clamp_6 ?_
      rw [if_pos q0] at e1; subst e1
      exact K
  exact (h1 v1 e1)
set_option maxRecDepth 65536 in
set_option maxHeartbeats 4000000 in
theorem L_bucketCount_0 {mi : Nat → Nat → Int32} {ml : Nat → Nat → Int64} {Q : Option Value → EMem → Prop}
    (h1 : ∀ v1 : Int32, v1 = (if (mi 0 88) = (2 : Int32) then (-1 : Int32) else (mi 0 114)) → Q (some (.int v1)) (LL1, mi, ml, RR1)) :
    W_bucketCount 0 [.val (.ref 0)] [] (LL1, mi, ml, RR1) Q := by
  refine Wp.p (pc' := 1) d_bucketCount_0 rfl rfl ?_
  refine Wp.getI (mi 0 88) d_bucketCount_1 fa_c103 rfl rfl ?_
  refine Wp.iconst (2 : Int32) d_bucketCount_4 (by decide) ?_
  obtain ⟨v1, e1⟩ : ∃ z : Int32, z = (if (mi 0 88) = (2 : Int32) then (-1 : Int32) else (mi 0 114)) := ⟨_, rfl⟩
  suffices K : Q (some (.int v1)) (LL1, mi, ml, RR1) by
    refine Wp.icmp_ne d_bucketCount_5 rfl (fun q0 => ?_) (fun q0 => ?_)
    ·
      refine Wp.p (pc' := 11) d_bucketCount_10 rfl rfl ?_
      refine Wp.getI (mi 0 114) d_bucketCount_11 fa_c221 rfl rfl ?_
      refine Wp.retI d_bucketCount_14 ?_
      rw [if_neg q0] at e1; subst e1
      exact K
    ·
      refine Wp.iconst (-1 : Int32) d_bucketCount_8 (by decide) ?_
      refine Wp.retI d_bucketCount_9 ?_
      rw [if_pos q0] at e1; subst e1
      exact K
  exact (h1 v1 e1)
set_option maxRecDepth 65536 in
set_option maxHeartbeats 4000000 in
theorem L_size_0 {mi : Nat → Nat → Int32} {ml : Nat → Nat → Int64} {Q : Option Value → EMem → Prop}
    (h1 : ∀ v1 : Int32, v1 = (if (mi 0 88) = (2 : Int32) then (-1 : Int32) else (mi 0 154)) → Q (some (.int v1)) (LL1, mi, ml, RR1)) :
    W_size 0 [.val (.ref 0)] [] (LL1, mi, ml, RR1) Q := by
  refine Wp.p (pc' := 1) d_size_0 rfl rfl ?_
  refine Wp.getI (mi 0 88) d_size_1 fa_c103 rfl rfl ?_
  refine Wp.iconst (2 : Int32) d_size_4 (by decide) ?_
  obtain ⟨v1, e1⟩ : ∃ z : Int32, z = (if (mi 0 88) = (2 : Int32) then (-1 : Int32) else (mi 0 154)) := ⟨_, rfl⟩
  suffices K : Q (some (.int v1)) (LL1, mi, ml, RR1) by
    refine Wp.icmp_ne d_size_5 rfl (fun q0 => ?_) (fun q0 => ?_)
    ·
      refine Wp.p (pc' := 11) d_size_10 rfl rfl ?_
      refine Wp.getI (mi 0 154) d_size_11 fa_c141 rfl rfl ?_
      refine Wp.retI d_size_14 ?_
      rw [if_neg q0] at e1; subst e1
      exact K
    ·
      refine Wp.iconst (-1 : Int32) d_size_8 (by decide) ?_
      refine Wp.retI d_size_9 ?_
      rw [if_pos q0] at e1; subst e1
      exact K
  exact (h1 v1 e1)
set_option maxRecDepth 65536 in
set_option maxHeartbeats 4000000 in
theorem L_writesUsed_0 {mi : Nat → Nat → Int32} {ml : Nat → Nat → Int64} {Q : Option Value → EMem → Prop}
    (h1 : ∀ v1 : Int32, v1 = (if (mi 0 88) = (1 : Int32) then (mi 0 94) else (0 : Int32)) → Q (some (.int v1)) (LL1, mi, ml, RR1)) :
    W_writesUsed 0 [.val (.ref 0)] [] (LL1, mi, ml, RR1) Q := by
  refine Wp.p (pc' := 1) d_writesUsed_0 rfl rfl ?_
  refine Wp.getI (mi 0 88) d_writesUsed_1 fa_c103 rfl rfl ?_
  refine Wp.iconst (1 : Int32) d_writesUsed_4 (by decide) ?_
  obtain ⟨v1, e1⟩ : ∃ z : Int32, z = (if (mi 0 88) = (1 : Int32) then (mi 0 94) else (0 : Int32)) := ⟨_, rfl⟩
  suffices K : Q (some (.int v1)) (LL1, mi, ml, RR1) by
    refine Wp.icmp_eq d_writesUsed_5 rfl (fun q0 => ?_) (fun q0 => ?_)
    ·
      refine Wp.p (pc' := 11) d_writesUsed_10 rfl rfl ?_
      refine Wp.getI (mi 0 94) d_writesUsed_11 fa_c113 rfl rfl ?_
      refine Wp.retI d_writesUsed_14 ?_
      rw [if_pos q0] at e1; subst e1
      exact K
    ·
      refine Wp.iconst (0 : Int32) d_writesUsed_8 (by decide) ?_
      refine Wp.retI d_writesUsed_9 ?_
      rw [if_neg q0] at e1; subst e1
      exact K
  exact (h1 v1 e1)
set_option maxRecDepth 65536 in
set_option maxHeartbeats 4000000 in
theorem L_clearImage_0 {x1 : Int32} {mi : Nat → Nat → Int32} {ml : Nat → Nat → Int64} {Q : Option Value → EMem → Prop}
    (h1 : x1 < (0 : Int32) → Q none (LL1, mi, ml, RR1))
    (b1 : ¬ x1 < (0 : Int32) → x1 < (64 : Int32) → inb x1 64 = true)
    (h2 : ¬ x1 < (0 : Int32) → x1 < (64 : Int32) → W_clearImage 34 [.val (.ref 0), .val (.int x1), .val (.int (0 : Int32))] [] (LL1, (up (up (up mi 1 (Int32.toNatClampNeg x1) (0 : Int32)) 2 (Int32.toNatClampNeg x1) (-1 : Int32)) 3 (Int32.toNatClampNeg x1) (0 : Int32)), ml, RR1) Q)
    (h3 : ¬ x1 < (0 : Int32) → ¬ x1 < (64 : Int32) → Q none (LL1, mi, ml, RR1)) :
    W_clearImage 0 [.val (.ref 0), .val (.int x1), .unset] [] (LL1, mi, ml, RR1) Q := by
  refine Wp.p (pc' := 1) d_clearImage_0 rfl rfl ?_
  refine Wp.if_lt d_clearImage_1 rfl (fun c1 => ?_) (fun c1 => ?_)
  ·
    refine Wp.retV d_clearImage_10 ?_
    exact (h1 c1)
  ·
    refine Wp.p (pc' := 5) d_clearImage_4 rfl rfl ?_
    refine Wp.bipush (64 : Int32) d_clearImage_5 (by decide) ?_
    refine Wp.icmp_lt d_clearImage_7 rfl (fun c2 => ?_) (fun c2 => ?_)
    ·
      refine Wp.p (pc' := 12) d_clearImage_11 rfl rfl ?_
      refine Wp.getR (b := 1) d_clearImage_12 fa_c52 rfl rfl ?_
      refine Wp.p (pc' := 16) d_clearImage_15 rfl rfl ?_
      refine Wp.iconst (0 : Int32) d_clearImage_16 (by decide) ?_
      refine Wp.iastore d_clearImage_17 rfl (k := (Int32.toNatClampNeg x1)) rfl (b1 c1 c2) (by decide) ?_
      refine Wp.p (pc' := 19) d_clearImage_18 rfl rfl ?_
      refine Wp.getR (b := 2) d_clearImage_19 fa_c56 rfl rfl ?_
      refine Wp.p (pc' := 23) d_clearImage_22 rfl rfl ?_
      refine Wp.iconst (-1 : Int32) d_clearImage_23 (by decide) ?_
      refine Wp.iastore d_clearImage_24 rfl (k := (Int32.toNatClampNeg x1)) rfl (b1 c1 c2) (by decide) ?_
      refine Wp.p (pc' := 26) d_clearImage_25 rfl rfl ?_
      refine Wp.getR (b := 3) d_clearImage_26 fa_c59 rfl rfl ?_
      refine Wp.p (pc' := 30) d_clearImage_29 rfl rfl ?_
      refine Wp.iconst (0 : Int32) d_clearImage_30 (by decide) ?_
      refine Wp.iastore d_clearImage_31 rfl (k := (Int32.toNatClampNeg x1)) rfl (b1 c1 c2) (by decide) ?_
      refine Wp.iconst (0 : Int32) d_clearImage_32 (by decide) ?_
      refine Wp.p (pc' := 34) d_clearImage_33 rfl rfl ?_
      exact (h2 c1 c2)
    ·
      refine Wp.retV d_clearImage_10 ?_
      exact (h3 c1 c2)
set_option maxRecDepth 65536 in
set_option maxHeartbeats 4000000 in
theorem L_clearImage_34 {x1 x2 : Int32} {mi : Nat → Nat → Int32} {ml : Nat → Nat → Int64} {Q : Option Value → EMem → Prop}
    (h1 : ¬ x2 < (4 : Int32) → Q none (LL1, mi, ml, RR1))
    (b1 : x2 < (4 : Int32) → inb ((x1 * (4 : Int32)) + x2) 256 = true)
    (h2 : x2 < (4 : Int32) → W_clearImage 34 [.val (.ref 0), .val (.int x1), .val (.int (x2 + (1 : Int32)))] [] (LL1, (up (up mi 4 (Int32.toNatClampNeg ((x1 * (4 : Int32)) + x2)) (0 : Int32)) 5 (Int32.toNatClampNeg ((x1 * (4 : Int32)) + x2)) (0 : Int32)), ml, RR1) Q) :
    W_clearImage 34 [.val (.ref 0), .val (.int x1), .val (.int x2)] [] (LL1, mi, ml, RR1) Q := by
  refine Wp.p (pc' := 35) d_clearImage_34 rfl rfl ?_
  refine Wp.iconst (4 : Int32) d_clearImage_35 (by decide) ?_
  refine Wp.icmp_ge d_clearImage_36 rfl (fun c1 => ?_) (fun c1 => ?_)
  ·
    refine Wp.retV d_clearImage_67 ?_
    exact (h1 c1)
  ·
    refine Wp.p (pc' := 40) d_clearImage_39 rfl rfl ?_
    refine Wp.getR (b := 4) d_clearImage_40 fa_c62 rfl rfl ?_
    refine Wp.p (pc' := 44) d_clearImage_43 rfl rfl ?_
    refine Wp.iconst (4 : Int32) d_clearImage_44 (by decide) ?_
    refine Wp.p (pc' := 46) d_clearImage_45 rfl rfl ?_
    refine Wp.p (pc' := 47) d_clearImage_46 rfl rfl ?_
    refine Wp.p (pc' := 48) d_clearImage_47 rfl rfl ?_
    refine Wp.iconst (0 : Int32) d_clearImage_48 (by decide) ?_
    refine Wp.iastore d_clearImage_49 rfl (k := (Int32.toNatClampNeg ((x1 * (4 : Int32)) + x2))) rfl (b1 c1) (by decide) ?_
    refine Wp.p (pc' := 51) d_clearImage_50 rfl rfl ?_
    refine Wp.getR (b := 5) d_clearImage_51 fa_c65 rfl rfl ?_
    refine Wp.p (pc' := 55) d_clearImage_54 rfl rfl ?_
    refine Wp.iconst (4 : Int32) d_clearImage_55 (by decide) ?_
    refine Wp.p (pc' := 57) d_clearImage_56 rfl rfl ?_
    refine Wp.p (pc' := 58) d_clearImage_57 rfl rfl ?_
    refine Wp.p (pc' := 59) d_clearImage_58 rfl rfl ?_
    refine Wp.iconst (0 : Int32) d_clearImage_59 (by decide) ?_
    refine Wp.iastore d_clearImage_60 rfl (k := (Int32.toNatClampNeg ((x1 * (4 : Int32)) + x2))) rfl (b1 c1) (by decide) ?_
    refine Wp.iinc (1 : Int32) d_clearImage_61 (by decide) rfl rfl ?_
    refine Wp.p (pc' := 34) d_clearImage_64 rfl rfl ?_
    exact (h2 c1)
set_option maxRecDepth 65536 in
set_option maxHeartbeats 4000000 in
theorem L_formatDisk_0 {mi : Nat → Nat → Int32} {ml : Nat → Nat → Int64} {Q : Option Value → EMem → Prop}
    (h1 : W_formatDisk 2 [.val (.ref 0), .val (.int (0 : Int32))] [] (LL1, mi, ml, RR1) Q) :
    W_formatDisk 0 [.val (.ref 0), .unset] [] (LL1, mi, ml, RR1) Q := by
  refine Wp.iconst (0 : Int32) d_formatDisk_0 (by decide) ?_
  refine Wp.p (pc' := 2) d_formatDisk_1 rfl rfl ?_
  exact h1
set_option maxRecDepth 65536 in
set_option maxHeartbeats 4000000 in
theorem L_formatDisk_2 {x1 : Int32} {mi : Nat → Nat → Int32} {ml : Nat → Nat → Int64} {Q : Option Value → EMem → Prop}
    (h1 : ¬ x1 < (64 : Int32) → Q none (LL1, (up (up (up (up mi 0 80 (mi 0 66)) 0 82 (0 : Int32)) 0 84 (1 : Int32)) 0 86 (1 : Int32)), ml, RR1))
    (h2 : x1 < (64 : Int32) → W_clearImage 0 [.val (.ref 0), .val (.int x1), .unset] [] (LL1, mi, ml, RR1) (fun v M' => W_formatDisk 13 [.val (.ref 0), .val (.int x1)] (v.toList ++ []) M' Q)) :
    W_formatDisk 2 [.val (.ref 0), .val (.int x1)] [] (LL1, mi, ml, RR1) Q := by
  refine Wp.p (pc' := 3) d_formatDisk_2 rfl rfl ?_
  refine Wp.bipush (64 : Int32) d_formatDisk_3 (by decide) ?_
  refine Wp.icmp_ge d_formatDisk_5 rfl (fun c1 => ?_) (fun c1 => ?_)
  ·
    refine Wp.p (pc' := 20) d_formatDisk_19 rfl rfl ?_
    refine Wp.p (pc' := 21) d_formatDisk_20 rfl rfl ?_
    refine Wp.getI (mi 0 66) d_formatDisk_21 fa_c91 rfl rfl ?_
    refine Wp.putI d_formatDisk_24 fa_c292 rfl (by decide) in_LinearHashLog (Or.inl rfl) ?_
    refine Wp.p (pc' := 28) d_formatDisk_27 rfl rfl ?_
    refine Wp.iconst (0 : Int32) d_formatDisk_28 (by decide) ?_
    refine Wp.putI d_formatDisk_29 fa_c189 rfl (by decide) in_LinearHashLog (Or.inl rfl) ?_
    refine Wp.p (pc' := 33) d_formatDisk_32 rfl rfl ?_
    refine Wp.iconst (1 : Int32) d_formatDisk_33 (by decide) ?_
    refine Wp.putI d_formatDisk_34 fa_c209 rfl (by decide) in_LinearHashLog (Or.inl rfl) ?_
    refine Wp.p (pc' := 38) d_formatDisk_37 rfl rfl ?_
    refine Wp.iconst (1 : Int32) d_formatDisk_38 (by decide) ?_
    refine Wp.putI d_formatDisk_39 fa_c195 rfl (by decide) in_LinearHashLog (Or.inl rfl) ?_
    refine Wp.retV d_formatDisk_42 ?_
    exact (h1 c1)
  ·
    refine Wp.p (pc' := 9) d_formatDisk_8 rfl rfl ?_
    refine Wp.p (pc' := 10) d_formatDisk_9 rfl rfl ?_
    refine Wp.callP (a := 0) (as := [.int x1]) (rest := []) (w := 0) (F' := 0) (Lb' := 0) d_formatDisk_10 ca_c258_1 rfl rfl rfl rfl (by decide) (by decide) (Nat.le_of_ble_eq_true rfl) ?_
    exact (h2 c1)
set_option maxRecDepth 65536 in
set_option maxHeartbeats 4000000 in
theorem L_formatDisk_13 {x1 : Int32} {mi : Nat → Nat → Int32} {ml : Nat → Nat → Int64} {Q : Option Value → EMem → Prop}
    (h1 : W_formatDisk 2 [.val (.ref 0), .val (.int (x1 + (1 : Int32)))] [] (LL1, mi, ml, RR1) Q) :
    W_formatDisk 13 [.val (.ref 0), .val (.int x1)] [] (LL1, mi, ml, RR1) Q := by
  refine Wp.iinc (1 : Int32) d_formatDisk_13 (by decide) rfl rfl ?_
  refine Wp.p (pc' := 2) d_formatDisk_16 rfl rfl ?_
  exact h1
set_option maxRecDepth 65536 in
set_option maxHeartbeats 4000000 in
theorem L_copyPage_0 {x1 x2 : Int32} {mi : Nat → Nat → Int32} {ml : Nat → Nat → Int64} {Q : Option Value → EMem → Prop}
    (h1 : x1 < (0 : Int32) → Q none (LL1, mi, ml, RR1))
    (h2 : ¬ x1 < (0 : Int32) → ¬ x1 < (64 : Int32) → Q none (LL1, mi, ml, RR1))
    (h3 : ¬ x1 < (0 : Int32) → x1 < (64 : Int32) → x2 < (0 : Int32) → Q none (LL1, mi, ml, RR1))
    (b1 : ¬ x1 < (0 : Int32) → x1 < (64 : Int32) → ¬ x2 < (0 : Int32) → x2 < (64 : Int32) → inb x1 64 = true)
    (b2 : ¬ x1 < (0 : Int32) → x1 < (64 : Int32) → ¬ x2 < (0 : Int32) → x2 < (64 : Int32) → inb x2 64 = true)
    (h4 : ¬ x1 < (0 : Int32) → x1 < (64 : Int32) → ¬ x2 < (0 : Int32) → x2 < (64 : Int32) → W_copyPage 59 [.val (.ref 0), .val (.int x1), .val (.int x2), .val (.int (0 : Int32))] [] (LL1, (up (up (up mi 1 (Int32.toNatClampNeg x2) (mi 1 (Int32.toNatClampNeg x1))) 2 (Int32.toNatClampNeg x2) (mi 2 (Int32.toNatClampNeg x1))) 3 (Int32.toNatClampNeg x2) (mi 3 (Int32.toNatClampNeg x1))), ml, RR1) Q)
    (h5 : ¬ x1 < (0 : Int32) → x1 < (64 : Int32) → ¬ x2 < (0 : Int32) → ¬ x2 < (64 : Int32) → Q none (LL1, mi, ml, RR1)) :
    W_copyPage 0 [.val (.ref 0), .val (.int x1), .val (.int x2), .unset] [] (LL1, mi, ml, RR1) Q := by
  refine Wp.p (pc' := 1) d_copyPage_0 rfl rfl ?_
  refine Wp.if_lt d_copyPage_1 rfl (fun c1 => ?_) (fun c1 => ?_)
  ·
    refine Wp.retV d_copyPage_20 ?_
    exact (h1 c1)
  ·
    refine Wp.p (pc' := 5) d_copyPage_4 rfl rfl ?_
    refine Wp.bipush (64 : Int32) d_copyPage_5 (by decide) ?_
    refine Wp.icmp_ge d_copyPage_7 rfl (fun c2 => ?_) (fun c2 => ?_)
    ·
      refine Wp.retV d_copyPage_20 ?_
      exact (h2 c1 c2)
    ·
      refine Wp.p (pc' := 11) d_copyPage_10 rfl rfl ?_
      refine Wp.if_lt d_copyPage_11 rfl (fun c3 => ?_) (fun c3 => ?_)
      ·
        refine Wp.retV d_copyPage_20 ?_
        exact (h3 c1 c2 c3)
      ·
        refine Wp.p (pc' := 15) d_copyPage_14 rfl rfl ?_
        refine Wp.bipush (64 : Int32) d_copyPage_15 (by decide) ?_
        refine Wp.icmp_lt d_copyPage_17 rfl (fun c4 => ?_) (fun c4 => ?_)
        ·
          refine Wp.p (pc' := 22) d_copyPage_21 rfl rfl ?_
          refine Wp.getR (b := 1) d_copyPage_22 fa_c52 rfl rfl ?_
          refine Wp.p (pc' := 26) d_copyPage_25 rfl rfl ?_
          refine Wp.p (pc' := 27) d_copyPage_26 rfl rfl ?_
          refine Wp.getR (b := 1) d_copyPage_27 fa_c52 rfl rfl ?_
          refine Wp.p (pc' := 31) d_copyPage_30 rfl rfl ?_
          refine Wp.iaload (mi 1 (Int32.toNatClampNeg x1)) d_copyPage_31 rfl (k := (Int32.toNatClampNeg x1)) rfl (b1 c1 c2 c3 c4) rfl ?_
          refine Wp.iastore d_copyPage_32 rfl (k := (Int32.toNatClampNeg x2)) rfl (b2 c1 c2 c3 c4) (by decide) ?_
          refine Wp.p (pc' := 34) d_copyPage_33 rfl rfl ?_
          refine Wp.getR (b := 2) d_copyPage_34 fa_c56 rfl rfl ?_
          refine Wp.p (pc' := 38) d_copyPage_37 rfl rfl ?_
          refine Wp.p (pc' := 39) d_copyPage_38 rfl rfl ?_
          refine Wp.getR (b := 2) d_copyPage_39 fa_c56 rfl rfl ?_
          refine Wp.p (pc' := 43) d_copyPage_42 rfl rfl ?_
          refine Wp.iaload (mi 2 (Int32.toNatClampNeg x1)) d_copyPage_43 rfl (k := (Int32.toNatClampNeg x1)) rfl (b1 c1 c2 c3 c4) rfl ?_
          refine Wp.iastore d_copyPage_44 rfl (k := (Int32.toNatClampNeg x2)) rfl (b2 c1 c2 c3 c4) (by decide) ?_
          refine Wp.p (pc' := 46) d_copyPage_45 rfl rfl ?_
          refine Wp.getR (b := 3) d_copyPage_46 fa_c59 rfl rfl ?_
          refine Wp.p (pc' := 50) d_copyPage_49 rfl rfl ?_
          refine Wp.p (pc' := 51) d_copyPage_50 rfl rfl ?_
          refine Wp.getR (b := 3) d_copyPage_51 fa_c59 rfl rfl ?_
          refine Wp.p (pc' := 55) d_copyPage_54 rfl rfl ?_
          refine Wp.iaload (mi 3 (Int32.toNatClampNeg x1)) d_copyPage_55 rfl (k := (Int32.toNatClampNeg x1)) rfl (b1 c1 c2 c3 c4) rfl ?_
          refine Wp.iastore d_copyPage_56 rfl (k := (Int32.toNatClampNeg x2)) rfl (b2 c1 c2 c3 c4) (by decide) ?_
          refine Wp.iconst (0 : Int32) d_copyPage_57 (by decide) ?_
          refine Wp.p (pc' := 59) d_copyPage_58 rfl rfl ?_
          exact (h4 c1 c2 c3 c4)
        ·
          refine Wp.retV d_copyPage_20 ?_
          exact (h5 c1 c2 c3 c4)
set_option maxRecDepth 65536 in
set_option maxHeartbeats 4000000 in
theorem L_copyPage_59 {x1 x2 x3 : Int32} {mi : Nat → Nat → Int32} {ml : Nat → Nat → Int64} {Q : Option Value → EMem → Prop}
    (h1 : ¬ x3 < (4 : Int32) → Q none (LL1, mi, ml, RR1))
    (b1 : x3 < (4 : Int32) → inb ((x1 * (4 : Int32)) + x3) 256 = true)
    (b2 : x3 < (4 : Int32) → inb ((x2 * (4 : Int32)) + x3) 256 = true)
    (h2 : x3 < (4 : Int32) → W_copyPage 59 [.val (.ref 0), .val (.int x1), .val (.int x2), .val (.int (x3 + (1 : Int32)))] [] (LL1, (up (up mi 4 (Int32.toNatClampNeg ((x2 * (4 : Int32)) + x3)) (mi 4 (Int32.toNatClampNeg ((x1 * (4 : Int32)) + x3)))) 5 (Int32.toNatClampNeg ((x2 * (4 : Int32)) + x3)) (mi 5 (Int32.toNatClampNeg ((x1 * (4 : Int32)) + x3)))), ml, RR1) Q) :
    W_copyPage 59 [.val (.ref 0), .val (.int x1), .val (.int x2), .val (.int x3)] [] (LL1, mi, ml, RR1) Q := by
  refine Wp.p (pc' := 60) d_copyPage_59 rfl rfl ?_
  refine Wp.iconst (4 : Int32) d_copyPage_60 (by decide) ?_
  refine Wp.icmp_ge d_copyPage_61 rfl (fun c1 => ?_) (fun c1 => ?_)
  ·
    refine Wp.retV d_copyPage_110 ?_
    exact (h1 c1)
  ·
    refine Wp.p (pc' := 65) d_copyPage_64 rfl rfl ?_
    refine Wp.getR (b := 4) d_copyPage_65 fa_c62 rfl rfl ?_
    refine Wp.p (pc' := 69) d_copyPage_68 rfl rfl ?_
    refine Wp.iconst (4 : Int32) d_copyPage_69 (by decide) ?_
    refine Wp.p (pc' := 71) d_copyPage_70 rfl rfl ?_
    refine Wp.p (pc' := 72) d_copyPage_71 rfl rfl ?_
    refine Wp.p (pc' := 73) d_copyPage_72 rfl rfl ?_
    refine Wp.p (pc' := 74) d_copyPage_73 rfl rfl ?_
    refine Wp.getR (b := 4) d_copyPage_74 fa_c62 rfl rfl ?_
    refine Wp.p (pc' := 78) d_copyPage_77 rfl rfl ?_
    refine Wp.iconst (4 : Int32) d_copyPage_78 (by decide) ?_
    refine Wp.p (pc' := 80) d_copyPage_79 rfl rfl ?_
    refine Wp.p (pc' := 81) d_copyPage_80 rfl rfl ?_
    refine Wp.p (pc' := 82) d_copyPage_81 rfl rfl ?_
    refine Wp.iaload (mi 4 (Int32.toNatClampNeg ((x1 * (4 : Int32)) + x3))) d_copyPage_82 rfl (k := (Int32.toNatClampNeg ((x1 * (4 : Int32)) + x3))) rfl (b1 c1) rfl ?_
    refine Wp.iastore d_copyPage_83 rfl (k := (Int32.toNatClampNeg ((x2 * (4 : Int32)) + x3))) rfl (b2 c1) (by decide) ?_
    refine Wp.p (pc' := 85) d_copyPage_84 rfl rfl ?_
    refine Wp.getR (b := 5) d_copyPage_85 fa_c65 rfl rfl ?_
    refine Wp.p (pc' := 89) d_copyPage_88 rfl rfl ?_
    refine Wp.iconst (4 : Int32) d_copyPage_89 (by decide) ?_
    refine Wp.p (pc' := 91) d_copyPage_90 rfl rfl ?_
    refine Wp.p (pc' := 92) d_copyPage_91 rfl rfl ?_
    refine Wp.p (pc' := 93) d_copyPage_92 rfl rfl ?_
    refine Wp.p (pc' := 94) d_copyPage_93 rfl rfl ?_
    refine Wp.getR (b := 5) d_copyPage_94 fa_c65 rfl rfl ?_
    refine Wp.p (pc' := 98) d_copyPage_97 rfl rfl ?_
    refine Wp.iconst (4 : Int32) d_copyPage_98 (by decide) ?_
    refine Wp.p (pc' := 100) d_copyPage_99 rfl rfl ?_
    refine Wp.p (pc' := 101) d_copyPage_100 rfl rfl ?_
    refine Wp.p (pc' := 102) d_copyPage_101 rfl rfl ?_
    refine Wp.iaload (mi 5 (Int32.toNatClampNeg ((x1 * (4 : Int32)) + x3))) d_copyPage_102 rfl (k := (Int32.toNatClampNeg ((x1 * (4 : Int32)) + x3))) rfl (b1 c1) rfl ?_
    refine Wp.iastore d_copyPage_103 rfl (k := (Int32.toNatClampNeg ((x2 * (4 : Int32)) + x3))) rfl (b2 c1) (by decide) ?_
    refine Wp.iinc (1 : Int32) d_copyPage_104 (by decide) rfl rfl ?_
    refine Wp.p (pc' := 59) d_copyPage_107 rfl rfl ?_
    exact (h2 c1)
set_option maxRecDepth 65536 in
set_option maxHeartbeats 4000000 in
theorem L_scanLog_0 {mi : Nat → Nat → Int32} {ml : Nat → Nat → Int64} {Q : Option Value → EMem → Prop}
    (h1 : W_scanLog 30 [.val (.ref 0), .val (.int (0 : Int32)), .val (.int (mi 0 84)), .val (.int (0 : Int32)), .val (.int (0 : Int32)), .unset] [] (LL1, (up (up (up mi 0 120 (0 : Int32)) 0 122 (mi 0 84)) 0 124 (0 : Int32)), ml, RR1) Q) :
    W_scanLog 0 [.val (.ref 0), .unset, .unset, .unset, .unset, .unset] [] (LL1, mi, ml, RR1) Q := by
  refine Wp.iconst (0 : Int32) d_scanLog_0 (by decide) ?_
  refine Wp.p (pc' := 2) d_scanLog_1 rfl rfl ?_
  refine Wp.p (pc' := 3) d_scanLog_2 rfl rfl ?_
  refine Wp.getI (mi 0 84) d_scanLog_3 fa_c209 rfl rfl ?_
  refine Wp.p (pc' := 7) d_scanLog_6 rfl rfl ?_
  refine Wp.iconst (0 : Int32) d_scanLog_7 (by decide) ?_
  refine Wp.p (pc' := 9) d_scanLog_8 rfl rfl ?_
  refine Wp.p (pc' := 10) d_scanLog_9 rfl rfl ?_
  refine Wp.iconst (0 : Int32) d_scanLog_10 (by decide) ?_
  refine Wp.putI d_scanLog_11 fa_c186 rfl (by decide) in_LinearHashLog (Or.inl rfl) ?_
  refine Wp.p (pc' := 15) d_scanLog_14 rfl rfl ?_
  refine Wp.p (pc' := 16) d_scanLog_15 rfl rfl ?_
  refine Wp.getI (mi 0 84) d_scanLog_16 fa_c209 rfl rfl ?_
  refine Wp.putI d_scanLog_19 fa_c192 rfl (by decide) in_LinearHashLog (Or.inl rfl) ?_
  refine Wp.p (pc' := 23) d_scanLog_22 rfl rfl ?_
  refine Wp.iconst (0 : Int32) d_scanLog_23 (by decide) ?_
  refine Wp.putI d_scanLog_24 fa_c198 rfl (by decide) in_LinearHashLog (Or.inl rfl) ?_
  refine Wp.iconst (0 : Int32) d_scanLog_27 (by decide) ?_
  refine Wp.p (pc' := 30) d_scanLog_28 rfl rfl ?_
  exact h1
set_option maxRecDepth 65536 in
set_option maxHeartbeats 4000000 in
theorem L_scanLog_30 {x1 x2 x3 x4 : Int32} {mi : Nat → Nat → Int32} {ml : Nat → Nat → Int64} {Q : Option Value → EMem → Prop}
    (h1 : ¬ x4 < (1024 : Int32) → Q none (LL1, mi, ml, RR1))
    (h2 : x4 < (1024 : Int32) → ¬ x1 < (mi 0 82) → Q none (LL1, mi, ml, RR1))
    (u1 : x4 < (1024 : Int32) → x1 < (mi 0 82) → False) :
    W_scanLog 30 [.val (.ref 0), .val (.int x1), .val (.int x2), .val (.int x3), .val (.int x4), .unset] [] (LL1, mi, ml, RR1) Q := by
  refine Wp.p (pc' := 32) d_scanLog_30 rfl rfl ?_
  refine Wp.sipush (1024 : Int32) d_scanLog_32 (by decide) ?_
  refine Wp.icmp_ge d_scanLog_35 rfl (fun c1 => ?_) (fun c1 => ?_)
  ·
    refine Wp.retV d_scanLog_125 ?_
    exact (h1 c1)
  ·
    refine Wp.p (pc' := 39) d_scanLog_38 rfl rfl ?_
    refine Wp.p (pc' := 40) d_scanLog_39 rfl rfl ?_
    refine Wp.getI (mi 0 82) d_scanLog_40 fa_c189 rfl rfl ?_
    refine Wp.icmp_ge d_scanLog_43 rfl (fun c2 => ?_) (fun c2 => ?_)
    ·
      refine Wp.retV d_scanLog_125 ?_
      exact (h2 c1 c2)
    ·
      refine Wp.p (pc' := 47) d_scanLog_46 rfl rfl ?_
      refine Wp.p (pc' := 48) d_scanLog_47 rfl rfl ?_
      refine Wp.p (pc' := 49) d_scanLog_48 rfl rfl ?_
      refine Wp.getI (mi 0 82) d_scanLog_49 fa_c189 rfl rfl ?_
      exact (u1 c1 c2).elim
set_option maxRecDepth 65536 in
set_option maxHeartbeats 4000000 in
theorem L_redo_0 {x1 x2 : Int32} {mi : Nat → Nat → Int32} {ml : Nat → Nat → Int64} {Q : Option Value → EMem → Prop}
    (h1 : W_redo 5 [.val (.ref 0), .val (.int x1), .val (.int x2), .val (.int (0 : Int32)), .val (.int (0 : Int32)), .unset] [] (LL1, mi, ml, RR1) Q) :
    W_redo 0 [.val (.ref 0), .val (.int x1), .val (.int x2), .unset, .unset, .unset] [] (LL1, mi, ml, RR1) Q := by
  refine Wp.iconst (0 : Int32) d_redo_0 (by decide) ?_
  refine Wp.p (pc' := 2) d_redo_1 rfl rfl ?_
  refine Wp.iconst (0 : Int32) d_redo_2 (by decide) ?_
  refine Wp.p (pc' := 5) d_redo_3 rfl rfl ?_
  exact h1
set_option maxRecDepth 65536 in
set_option maxHeartbeats 4000000 in
theorem L_redo_5 {x1 x2 x3 x4 : Int32} {mi : Nat → Nat → Int32} {ml : Nat → Nat → Int64} {Q : Option Value → EMem → Prop}
    (h1 : ¬ x4 < (1024 : Int32) → Q (some (.int (1 : Int32))) (LL1, mi, ml, RR1))
    (h2 : x4 < (1024 : Int32) → ¬ x3 < x1 → Q (some (.int (1 : Int32))) (LL1, mi, ml, RR1))
    (u1 : x4 < (1024 : Int32) → x3 < x1 → False) :
    W_redo 5 [.val (.ref 0), .val (.int x1), .val (.int x2), .val (.int x3), .val (.int x4), .unset] [] (LL1, mi, ml, RR1) Q := by
  refine Wp.p (pc' := 7) d_redo_5 rfl rfl ?_
  refine Wp.sipush (1024 : Int32) d_redo_7 (by decide) ?_
  refine Wp.icmp_ge d_redo_10 rfl (fun c1 => ?_) (fun c1 => ?_)
  ·
    refine Wp.iconst (1 : Int32) d_redo_73 (by decide) ?_
    refine Wp.retZ (1 : Int32) d_redo_74 (by decide) ?_
    exact (h1 c1)
  ·
    refine Wp.p (pc' := 14) d_redo_13 rfl rfl ?_
    refine Wp.p (pc' := 15) d_redo_14 rfl rfl ?_
    refine Wp.icmp_ge d_redo_15 rfl (fun c2 => ?_) (fun c2 => ?_)
    ·
      refine Wp.iconst (1 : Int32) d_redo_73 (by decide) ?_
      refine Wp.retZ (1 : Int32) d_redo_74 (by decide) ?_
      exact (h2 c1 c2)
    ·
      refine Wp.p (pc' := 19) d_redo_18 rfl rfl ?_
      refine Wp.p (pc' := 20) d_redo_19 rfl rfl ?_
      refine Wp.p (pc' := 21) d_redo_20 rfl rfl ?_
      exact (u1 c1 c2).elim
set_option maxRecDepth 65536 in
set_option maxHeartbeats 4000000 in
theorem L_nextPage_0 {x1 : Int32} {mi : Nat → Nat → Int32} {ml : Nat → Nat → Int64} {Q : Option Value → EMem → Prop}
    (b1 : ¬ x1 < (0 : Int32) → x1 < (32 : Int32) → inb x1 64 = true)
    (h1 : ∀ v1 : Int32, v1 = (if x1 < (0 : Int32) then (-1 : Int32) else (if x1 < (32 : Int32) then (if (mi 2 (Int32.toNatClampNeg x1)) < (16 : Int32) then (-1 : Int32) else (if (mi 2 (Int32.toNatClampNeg x1)) < (32 : Int32) then (mi 2 (Int32.toNatClampNeg x1)) else (-1 : Int32))) else (-1 : Int32))) → Q (some (.int v1)) (LL1, mi, ml, RR1)) :
    W_nextPage 0 [.val (.ref 0), .val (.int x1), .unset] [] (LL1, mi, ml, RR1) Q := by
  refine Wp.p (pc' := 1) d_nextPage_0 rfl rfl ?_
  obtain ⟨v1, e1⟩ : ∃ z : Int32, z = (if x1 < (0 : Int32) then (-1 : Int32) else (if x1 < (32 : Int32) then (if (mi 2 (Int32.toNatClampNeg x1)) < (16 : Int32) then (-1 : Int32) else (if (mi 2 (Int32.toNatClampNeg x1)) < (32 : Int32) then (mi 2 (Int32.toNatClampNeg x1)) else (-1 : Int32))) else (-1 : Int32))) := ⟨_, rfl⟩
  suffices K : Q (some (.int v1)) (LL1, mi, ml, RR1) by
    refine Wp.if_lt d_nextPage_1 rfl (fun q0 => ?_) (fun q0 => ?_)
    ·
      refine Wp.iconst (-1 : Int32) d_nextPage_10 (by decide) ?_
      refine Wp.retI d_nextPage_11 ?_
      rw [if_pos q0] at e1; subst e1
      exact K
    ·
      refine Wp.p (pc' := 5) d_nextPage_4 rfl rfl ?_
      refine Wp.bipush (32 : Int32) d_nextPage_5 (by decide) ?_
      refine Wp.icmp_lt d_nextPage_7 rfl (fun q1 => ?_) (fun q1 => ?_)
      ·
        refine Wp.p (pc' := 13) d_nextPage_12 rfl rfl ?_
        refine Wp.getR (b := 2) d_nextPage_13 fa_c56 rfl rfl ?_
        refine Wp.p (pc' := 17) d_nextPage_16 rfl rfl ?_
        refine Wp.iaload (mi 2 (Int32.toNatClampNeg x1)) d_nextPage_17 rfl (k := (Int32.toNatClampNeg x1)) rfl (b1 q0 q1) rfl ?_
        refine Wp.p (pc' := 19) d_nextPage_18 rfl rfl ?_
        refine Wp.p (pc' := 20) d_nextPage_19 rfl rfl ?_
        refine Wp.bipush (16 : Int32) d_nextPage_20 (by decide) ?_
        refine Wp.icmp_lt d_nextPage_22 rfl (fun q2 => ?_) (fun q2 => ?_)
        ·
          refine Wp.iconst (-1 : Int32) d_nextPage_31 (by decide) ?_
          refine Wp.retI d_nextPage_32 ?_
          rw [if_neg q0, if_pos q1, if_pos q2] at e1; subst e1
          exact K
        ·
          refine Wp.p (pc' := 26) d_nextPage_25 rfl rfl ?_
          refine Wp.bipush (32 : Int32) d_nextPage_26 (by decide) ?_
          refine Wp.icmp_lt d_nextPage_28 rfl (fun q3 => ?_) (fun q3 => ?_)
          ·
            refine Wp.p (pc' := 34) d_nextPage_33 rfl rfl ?_
            refine Wp.retI d_nextPage_34 ?_
            rw [if_neg q0, if_pos q1, if_neg q2, if_pos q3] at e1; subst e1
            exact K
          ·
            refine Wp.iconst (-1 : Int32) d_nextPage_31 (by decide) ?_
            refine Wp.retI d_nextPage_32 ?_
            rw [if_neg q0, if_pos q1, if_neg q2, if_neg q3] at e1; subst e1
            exact K
      ·
        refine Wp.iconst (-1 : Int32) d_nextPage_10 (by decide) ?_
        refine Wp.retI d_nextPage_11 ?_
        rw [if_neg q0, if_neg q1] at e1; subst e1
        exact K
  exact (h1 v1 e1)
set_option maxRecDepth 65536 in
set_option maxHeartbeats 4000000 in
theorem L_entries_0 {x1 : Int32} {mi : Nat → Nat → Int32} {ml : Nat → Nat → Int64} {Q : Option Value → EMem → Prop}
    (b1 : ¬ x1 < (0 : Int32) → x1 < (64 : Int32) → inb x1 64 = true)
    (h1 : ∀ v1 : Int32, v1 = (if x1 < (0 : Int32) then (0 : Int32) else (if x1 < (64 : Int32) then (if (mi 1 (Int32.toNatClampNeg x1)) < (0 : Int32) then (0 : Int32) else (if (4 : Int32) < (mi 1 (Int32.toNatClampNeg x1)) then (4 : Int32) else (mi 1 (Int32.toNatClampNeg x1)))) else (0 : Int32))) → Q (some (.int v1)) (LL1, mi, ml, RR1)) :
    W_entries 0 [.val (.ref 0), .val (.int x1), .unset] [] (LL1, mi, ml, RR1) Q := by
  refine Wp.p (pc' := 1) d_entries_0 rfl rfl ?_
  obtain ⟨v1, e1⟩ : ∃ z : Int32, z = (if x1 < (0 : Int32) then (0 : Int32) else (if x1 < (64 : Int32) then (if (mi 1 (Int32.toNatClampNeg x1)) < (0 : Int32) then (0 : Int32) else (if (4 : Int32) < (mi 1 (Int32.toNatClampNeg x1)) then (4 : Int32) else (mi 1 (Int32.toNatClampNeg x1)))) else (0 : Int32))) := ⟨_, rfl⟩
  suffices K : Q (some (.int v1)) (LL1, mi, ml, RR1) by
    refine Wp.if_lt d_entries_1 rfl (fun q0 => ?_) (fun q0 => ?_)
    ·
      refine Wp.iconst (0 : Int32) d_entries_10 (by decide) ?_
      refine Wp.retI d_entries_11 ?_
      rw [if_pos q0] at e1; subst e1
      exact K
    ·
      refine Wp.p (pc' := 5) d_entries_4 rfl rfl ?_
      refine Wp.bipush (64 : Int32) d_entries_5 (by decide) ?_
      refine Wp.icmp_lt d_entries_7 rfl (fun q1 => ?_) (fun q1 => ?_)
      ·
        refine Wp.p (pc' := 13) d_entries_12 rfl rfl ?_
        refine Wp.getR (b := 1) d_entries_13 fa_c52 rfl rfl ?_
        refine Wp.p (pc' := 17) d_entries_16 rfl rfl ?_
        refine Wp.iaload (mi 1 (Int32.toNatClampNeg x1)) d_entries_17 rfl (k := (Int32.toNatClampNeg x1)) rfl (b1 q0 q1) rfl ?_
        refine Wp.p (pc' := 19) d_entries_18 rfl rfl ?_
        refine Wp.p (pc' := 20) d_entries_19 rfl rfl ?_
        refine Wp.if_ge d_entries_20 rfl (fun q2 => ?_) (fun q2 => ?_)
        ·
          refine Wp.p (pc' := 26) d_entries_25 rfl rfl ?_
          refine Wp.iconst (4 : Int32) d_entries_26 (by decide) ?_
          refine Wp.icmp_le d_entries_27 rfl (fun q3 => ?_) (fun q3 => ?_)
          ·
            refine Wp.p (pc' := 33) d_entries_32 rfl rfl ?_
            refine Wp.retI d_entries_33 ?_
            rw [if_neg q0, if_pos q1, if_neg q2, if_neg q3] at e1; subst e1
            exact K
          ·
            refine Wp.iconst (4 : Int32) d_entries_30 (by decide) ?_
            refine Wp.retI d_entries_31 ?_
            rw [if_neg q0, if_pos q1, if_neg q2, if_pos q3] at e1; subst e1
            exact K
        ·
          refine Wp.iconst (0 : Int32) d_entries_23 (by decide) ?_
          refine Wp.retI d_entries_24 ?_
          rw [if_neg q0, if_pos q1, if_pos q2] at e1; subst e1
          exact K
      ·
        refine Wp.iconst (0 : Int32) d_entries_10 (by decide) ?_
        refine Wp.retI d_entries_11 ?_
        rw [if_neg q0, if_neg q1] at e1; subst e1
        exact K
  exact (h1 v1 e1)
set_option maxRecDepth 65536 in
set_option maxHeartbeats 4000000 in
theorem L_markChain_0 {x1 : Int32} {mi : Nat → Nat → Int32} {ml : Nat → Nat → Int64} {Q : Option Value → EMem → Prop}
    (h1 : W_nextPage 0 [.val (.ref 0), .val (.int x1), .unset] [] (LL1, mi, ml, RR1) (fun v M' => W_markChain 5 [.val (.ref 0), .val (.int x1), .unset, .unset] (v.toList ++ []) M' Q)) :
    W_markChain 0 [.val (.ref 0), .val (.int x1), .unset, .unset] [] (LL1, mi, ml, RR1) Q := by
  refine Wp.p (pc' := 1) d_markChain_0 rfl rfl ?_
  refine Wp.p (pc' := 2) d_markChain_1 rfl rfl ?_
  refine Wp.callP (a := 0) (as := [.int x1]) (rest := []) (w := 0) (F' := 0) (Lb' := 0) d_markChain_2 ca_c243_1 rfl rfl rfl rfl (by decide) (by decide) (Nat.le_of_ble_eq_true rfl) ?_
  exact h1
set_option maxRecDepth 65536 in
set_option maxHeartbeats 4000000 in
theorem L_markChain_5 {x1 y0 : Int32} {mi : Nat → Nat → Int32} {ml : Nat → Nat → Int64} {Q : Option Value → EMem → Prop}
    (h1 : W_markChain 8 [.val (.ref 0), .val (.int x1), .val (.int y0), .val (.int (0 : Int32))] [] (LL1, mi, ml, RR1) Q) :
    W_markChain 5 [.val (.ref 0), .val (.int x1), .unset, .unset] [.int y0] (LL1, mi, ml, RR1) Q := by
  refine Wp.p (pc' := 6) d_markChain_5 rfl rfl ?_
  refine Wp.iconst (0 : Int32) d_markChain_6 (by decide) ?_
  refine Wp.p (pc' := 8) d_markChain_7 rfl rfl ?_
  exact h1
set_option maxRecDepth 65536 in
set_option maxHeartbeats 4000000 in
theorem L_markChain_8 {x1 x2 x3 : Int32} {mi : Nat → Nat → Int32} {ml : Nat → Nat → Int64} {Q : Option Value → EMem → Prop}
    (h1 : ¬ x3 < (32 : Int32) → Q none (LL1, mi, ml, RR1))
    (h2 : x3 < (32 : Int32) → x2 < (0 : Int32) → Q none (LL1, mi, ml, RR1))
    (b1 : x3 < (32 : Int32) → ¬ x2 < (0 : Int32) → inb x2 32 = true)
    (h3 : x3 < (32 : Int32) → ¬ x2 < (0 : Int32) → W_nextPage 0 [.val (.ref 0), .val (.int x2), .unset] [] (LL1, (up mi 6 (Int32.toNatClampNeg x2) (1 : Int32)), ml, RR1) (fun v M' => W_markChain 30 [.val (.ref 0), .val (.int x1), .val (.int x2), .val (.int x3)] (v.toList ++ []) M' Q)) :
    W_markChain 8 [.val (.ref 0), .val (.int x1), .val (.int x2), .val (.int x3)] [] (LL1, mi, ml, RR1) Q := by
  refine Wp.p (pc' := 9) d_markChain_8 rfl rfl ?_
  refine Wp.bipush (32 : Int32) d_markChain_9 (by decide) ?_
  refine Wp.icmp_ge d_markChain_11 rfl (fun c1 => ?_) (fun c1 => ?_)
  ·
    refine Wp.retV d_markChain_37 ?_
    exact (h1 c1)
  ·
    refine Wp.p (pc' := 15) d_markChain_14 rfl rfl ?_
    refine Wp.if_lt d_markChain_15 rfl (fun c2 => ?_) (fun c2 => ?_)
    ·
      refine Wp.retV d_markChain_37 ?_
      exact (h2 c1 c2)
    ·
      refine Wp.p (pc' := 19) d_markChain_18 rfl rfl ?_
      refine Wp.getR (b := 6) d_markChain_19 fa_c68 rfl rfl ?_
      refine Wp.p (pc' := 23) d_markChain_22 rfl rfl ?_
      refine Wp.iconst (1 : Int32) d_markChain_23 (by decide) ?_
      refine Wp.bastore (1 : Int32) d_markChain_24 rfl (k := (Int32.toNatClampNeg x2)) rfl (b1 c1 c2) (by decide) (by decide) ?_
      refine Wp.p (pc' := 26) d_markChain_25 rfl rfl ?_
      refine Wp.p (pc' := 27) d_markChain_26 rfl rfl ?_
      refine Wp.callP (a := 0) (as := [.int x2]) (rest := []) (w := 0) (F' := 0) (Lb' := 0) d_markChain_27 ca_c243_1 rfl rfl rfl rfl (by decide) (by decide) (Nat.le_of_ble_eq_true rfl) ?_
      exact (h3 c1 c2)
set_option maxRecDepth 65536 in
set_option maxHeartbeats 4000000 in
theorem L_markChain_30 {x1 x2 x3 y0 : Int32} {mi : Nat → Nat → Int32} {ml : Nat → Nat → Int64} {Q : Option Value → EMem → Prop}
    (h1 : W_markChain 8 [.val (.ref 0), .val (.int x1), .val (.int y0), .val (.int (x3 + (1 : Int32)))] [] (LL1, mi, ml, RR1) Q) :
    W_markChain 30 [.val (.ref 0), .val (.int x1), .val (.int x2), .val (.int x3)] [.int y0] (LL1, mi, ml, RR1) Q := by
  refine Wp.p (pc' := 31) d_markChain_30 rfl rfl ?_
  refine Wp.iinc (1 : Int32) d_markChain_31 (by decide) rfl rfl ?_
  refine Wp.p (pc' := 8) d_markChain_34 rfl rfl ?_
  exact h1
set_option maxRecDepth 65536 in
set_option maxHeartbeats 4000000 in
theorem L_rebuildUsed_0 {mi : Nat → Nat → Int32} {ml : Nat → Nat → Int64} {Q : Option Value → EMem → Prop}
    (h1 : W_rebuildUsed 2 [.val (.ref 0), .val (.int (0 : Int32))] [] (LL1, mi, ml, RR1) Q) :
    W_rebuildUsed 0 [.val (.ref 0), .unset] [] (LL1, mi, ml, RR1) Q := by
  refine Wp.iconst (0 : Int32) d_rebuildUsed_0 (by decide) ?_
  refine Wp.p (pc' := 2) d_rebuildUsed_1 rfl rfl ?_
  exact h1
set_option maxRecDepth 65536 in
set_option maxHeartbeats 4000000 in
theorem L_rebuildUsed_2 {x1 : Int32} {mi : Nat → Nat → Int32} {ml : Nat → Nat → Int64} {Q : Option Value → EMem → Prop}
    (h1 : ¬ x1 < (32 : Int32) → W_rebuildUsed 33 [.val (.ref 0), .val (.int (0 : Int32))] [] (LL1, mi, ml, RR1) Q)
    (b1 : x1 < (32 : Int32) → ∀ v2 : Int32, v2 = (if x1 < (16 : Int32) then (1 : Int32) else (0 : Int32)) → inb x1 32 = true)
    (h2 : x1 < (32 : Int32) → ∀ v2 : Int32, v2 = (if x1 < (16 : Int32) then (1 : Int32) else (0 : Int32)) → W_rebuildUsed 2 [.val (.ref 0), .val (.int (x1 + (1 : Int32)))] [] (LL1, (up mi 6 (Int32.toNatClampNeg x1) (v2 &&& 1)), ml, RR1) Q) :
    W_rebuildUsed 2 [.val (.ref 0), .val (.int x1)] [] (LL1, mi, ml, RR1) Q := by
  refine Wp.p (pc' := 3) d_rebuildUsed_2 rfl rfl ?_
  refine Wp.bipush (32 : Int32) d_rebuildUsed_3 (by decide) ?_
  refine Wp.icmp_ge d_rebuildUsed_5 rfl (fun c1 => ?_) (fun c1 => ?_)
  ·
    refine Wp.iconst (0 : Int32) d_rebuildUsed_31 (by decide) ?_
    refine Wp.p (pc' := 33) d_rebuildUsed_32 rfl rfl ?_
    exact (h1 c1)
  ·
    refine Wp.p (pc' := 9) d_rebuildUsed_8 rfl rfl ?_
    refine Wp.getR (b := 6) d_rebuildUsed_9 fa_c68 rfl rfl ?_
    refine Wp.p (pc' := 13) d_rebuildUsed_12 rfl rfl ?_
    refine Wp.p (pc' := 14) d_rebuildUsed_13 rfl rfl ?_
    refine Wp.bipush (16 : Int32) d_rebuildUsed_14 (by decide) ?_
    obtain ⟨v2, e2⟩ : ∃ z : Int32, z = (if x1 < (16 : Int32) then (1 : Int32) else (0 : Int32)) := ⟨_, rfl⟩
    suffices K : W_rebuildUsed 24 [.val (.ref 0), .val (.int x1)] [.int v2, .int x1, .ref 6] (LL1, mi, ml, RR1) Q by
      refine Wp.icmp_ge d_rebuildUsed_16 rfl (fun q0 => ?_) (fun q0 => ?_)
      ·
        refine Wp.iconst (0 : Int32) d_rebuildUsed_23 (by decide) ?_
        rw [if_neg q0] at e2; subst e2
        exact K
      ·
        refine Wp.iconst (1 : Int32) d_rebuildUsed_19 (by decide) ?_
        refine Wp.p (pc' := 24) d_rebuildUsed_20 rfl rfl ?_
        rw [if_pos q0] at e2; subst e2
        exact K
    refine Wp.bastore (v2 &&& 1) d_rebuildUsed_24 rfl (k := (Int32.toNatClampNeg x1)) rfl (b1 c1 v2 e2) (by decide) (by rfl) ?_
    refine Wp.iinc (1 : Int32) d_rebuildUsed_25 (by decide) rfl rfl ?_
    refine Wp.p (pc' := 2) d_rebuildUsed_28 rfl rfl ?_
    exact (h2 c1 v2 e2)
set_option maxRecDepth 65536 in
set_option maxHeartbeats 4000000 in
theorem L_rebuildUsed_33 {x1 : Int32} {mi : Nat → Nat → Int32} {ml : Nat → Nat → Int64} {Q : Option Value → EMem → Prop}
    (h1 : ¬ x1 < (mi 0 114) → Q none (LL1, mi, ml, RR1))
    (h2 : x1 < (mi 0 114) → ¬ x1 < (16 : Int32) → Q none (LL1, mi, ml, RR1))
    (h3 : x1 < (mi 0 114) → x1 < (16 : Int32) → W_markChain 0 [.val (.ref 0), .val (.int x1), .unset, .unset] [] (LL1, mi, ml, RR1) (fun v M' => W_rebuildUsed 52 [.val (.ref 0), .val (.int x1)] (v.toList ++ []) M' Q)) :
    W_rebuildUsed 33 [.val (.ref 0), .val (.int x1)] [] (LL1, mi, ml, RR1) Q := by
  refine Wp.p (pc' := 34) d_rebuildUsed_33 rfl rfl ?_
  refine Wp.p (pc' := 35) d_rebuildUsed_34 rfl rfl ?_
  refine Wp.getI (mi 0 114) d_rebuildUsed_35 fa_c221 rfl rfl ?_
  refine Wp.icmp_ge d_rebuildUsed_38 rfl (fun c1 => ?_) (fun c1 => ?_)
  ·
    refine Wp.retV d_rebuildUsed_58 ?_
    exact (h1 c1)
  ·
    refine Wp.p (pc' := 42) d_rebuildUsed_41 rfl rfl ?_
    refine Wp.bipush (16 : Int32) d_rebuildUsed_42 (by decide) ?_
    refine Wp.icmp_ge d_rebuildUsed_44 rfl (fun c2 => ?_) (fun c2 => ?_)
    ·
      refine Wp.retV d_rebuildUsed_58 ?_
      exact (h2 c1 c2)
    ·
      refine Wp.p (pc' := 48) d_rebuildUsed_47 rfl rfl ?_
      refine Wp.p (pc' := 49) d_rebuildUsed_48 rfl rfl ?_
      refine Wp.callP (a := 0) (as := [.int x1]) (rest := []) (w := 0) (F' := 1) (Lb' := 14) d_rebuildUsed_49 ca_c304_1 rfl rfl rfl rfl (by decide) (by decide) (Nat.le_of_ble_eq_true rfl) ?_
      exact (h3 c1 c2)
set_option maxRecDepth 65536 in
set_option maxHeartbeats 4000000 in
theorem L_rebuildUsed_52 {x1 : Int32} {mi : Nat → Nat → Int32} {ml : Nat → Nat → Int64} {Q : Option Value → EMem → Prop}
    (h1 : W_rebuildUsed 33 [.val (.ref 0), .val (.int (x1 + (1 : Int32)))] [] (LL1, mi, ml, RR1) Q) :
    W_rebuildUsed 52 [.val (.ref 0), .val (.int x1)] [] (LL1, mi, ml, RR1) Q := by
  refine Wp.iinc (1 : Int32) d_rebuildUsed_52 (by decide) rfl rfl ?_
  refine Wp.p (pc' := 33) d_rebuildUsed_55 rfl rfl ?_
  exact h1
set_option maxRecDepth 65536 in
set_option maxHeartbeats 4000000 in
theorem L_chainLen_0 {x1 : Int32} {mi : Nat → Nat → Int32} {ml : Nat → Nat → Int64} {Q : Option Value → EMem → Prop}
    (h1 : W_chainLen 7 [.val (.ref 0), .val (.int x1), .val (.int (0 : Int32)), .val (.int x1), .val (.int (0 : Int32))] [] (LL1, mi, ml, RR1) Q) :
    W_chainLen 0 [.val (.ref 0), .val (.int x1), .unset, .unset, .unset] [] (LL1, mi, ml, RR1) Q := by
  refine Wp.iconst (0 : Int32) d_chainLen_0 (by decide) ?_
  refine Wp.p (pc' := 2) d_chainLen_1 rfl rfl ?_
  refine Wp.p (pc' := 3) d_chainLen_2 rfl rfl ?_
  refine Wp.p (pc' := 4) d_chainLen_3 rfl rfl ?_
  refine Wp.iconst (0 : Int32) d_chainLen_4 (by decide) ?_
  refine Wp.p (pc' := 7) d_chainLen_5 rfl rfl ?_
  exact h1
set_option maxRecDepth 65536 in
set_option maxHeartbeats 4000000 in
theorem L_chainLen_7 {x1 x2 x3 x4 : Int32} {mi : Nat → Nat → Int32} {ml : Nat → Nat → Int64} {Q : Option Value → EMem → Prop}
    (h1 : ¬ x4 < (32 : Int32) → Q (some (.int x2)) (LL1, mi, ml, RR1))
    (h2 : x4 < (32 : Int32) → x3 < (0 : Int32) → Q (some (.int x2)) (LL1, mi, ml, RR1))
    (h3 : x4 < (32 : Int32) → ¬ x3 < (0 : Int32) → W_entries 0 [.val (.ref 0), .val (.int x3), .unset] [] (LL1, mi, ml, RR1) (fun v M' => W_chainLen 24 [.val (.ref 0), .val (.int x1), .val (.int x2), .val (.int x3), .val (.int x4)] (v.toList ++ [.int x2]) M' Q)) :
    W_chainLen 7 [.val (.ref 0), .val (.int x1), .val (.int x2), .val (.int x3), .val (.int x4)] [] (LL1, mi, ml, RR1) Q := by
  refine Wp.p (pc' := 9) d_chainLen_7 rfl rfl ?_
  refine Wp.bipush (32 : Int32) d_chainLen_9 (by decide) ?_
  refine Wp.icmp_ge d_chainLen_11 rfl (fun c1 => ?_) (fun c1 => ?_)
  ·
    refine Wp.p (pc' := 39) d_chainLen_38 rfl rfl ?_
    refine Wp.retI d_chainLen_39 ?_
    exact (h1 c1)
  ·
    refine Wp.p (pc' := 15) d_chainLen_14 rfl rfl ?_
    refine Wp.if_lt d_chainLen_15 rfl (fun c2 => ?_) (fun c2 => ?_)
    ·
      refine Wp.p (pc' := 39) d_chainLen_38 rfl rfl ?_
      refine Wp.retI d_chainLen_39 ?_
      exact (h2 c1 c2)
    ·
      refine Wp.p (pc' := 19) d_chainLen_18 rfl rfl ?_
      refine Wp.p (pc' := 20) d_chainLen_19 rfl rfl ?_
      refine Wp.p (pc' := 21) d_chainLen_20 rfl rfl ?_
      refine Wp.callP (a := 0) (as := [.int x3]) (rest := [.int x2]) (w := 1) (F' := 0) (Lb' := 0) d_chainLen_21 ca_c246_1 rfl rfl rfl rfl (by decide) (by decide) (Nat.le_of_ble_eq_true rfl) ?_
      exact (h3 c1 c2)
set_option maxRecDepth 65536 in
set_option maxHeartbeats 4000000 in
theorem L_chainLen_24 {x1 x2 x3 x4 y0 y1 : Int32} {mi : Nat → Nat → Int32} {ml : Nat → Nat → Int64} {Q : Option Value → EMem → Prop}
    (h1 : W_nextPage 0 [.val (.ref 0), .val (.int x3), .unset] [] (LL1, mi, ml, RR1) (fun v M' => W_chainLen 31 [.val (.ref 0), .val (.int x1), .val (.int (y1 + y0)), .val (.int x3), .val (.int x4)] (v.toList ++ []) M' Q)) :
    W_chainLen 24 [.val (.ref 0), .val (.int x1), .val (.int x2), .val (.int x3), .val (.int x4)] [.int y0, .int y1] (LL1, mi, ml, RR1) Q := by
  refine Wp.p (pc' := 25) d_chainLen_24 rfl rfl ?_
  refine Wp.p (pc' := 26) d_chainLen_25 rfl rfl ?_
  refine Wp.p (pc' := 27) d_chainLen_26 rfl rfl ?_
  refine Wp.p (pc' := 28) d_chainLen_27 rfl rfl ?_
  refine Wp.callP (a := 0) (as := [.int x3]) (rest := []) (w := 0) (F' := 0) (Lb' := 0) d_chainLen_28 ca_c243_1 rfl rfl rfl rfl (by decide) (by decide) (Nat.le_of_ble_eq_true rfl) ?_
  exact h1
set_option maxRecDepth 65536 in
set_option maxHeartbeats 4000000 in
theorem L_chainLen_31 {x1 x2 x3 x4 y0 : Int32} {mi : Nat → Nat → Int32} {ml : Nat → Nat → Int64} {Q : Option Value → EMem → Prop}
    (h1 : W_chainLen 7 [.val (.ref 0), .val (.int x1), .val (.int x2), .val (.int y0), .val (.int (x4 + (1 : Int32)))] [] (LL1, mi, ml, RR1) Q) :
    W_chainLen 31 [.val (.ref 0), .val (.int x1), .val (.int x2), .val (.int x3), .val (.int x4)] [.int y0] (LL1, mi, ml, RR1) Q := by
  refine Wp.p (pc' := 32) d_chainLen_31 rfl rfl ?_
  refine Wp.iinc (1 : Int32) d_chainLen_32 (by decide) rfl rfl ?_
  refine Wp.p (pc' := 7) d_chainLen_35 rfl rfl ?_
  exact h1
set_option maxRecDepth 65536 in
set_option maxHeartbeats 4000000 in
theorem L_countAll_0 {mi : Nat → Nat → Int32} {ml : Nat → Nat → Int64} {Q : Option Value → EMem → Prop}
    (h1 : W_countAll 4 [.val (.ref 0), .val (.int (0 : Int32)), .val (.int (0 : Int32))] [] (LL1, mi, ml, RR1) Q) :
    W_countAll 0 [.val (.ref 0), .unset, .unset] [] (LL1, mi, ml, RR1) Q := by
  refine Wp.iconst (0 : Int32) d_countAll_0 (by decide) ?_
  refine Wp.p (pc' := 2) d_countAll_1 rfl rfl ?_
  refine Wp.iconst (0 : Int32) d_countAll_2 (by decide) ?_
  refine Wp.p (pc' := 4) d_countAll_3 rfl rfl ?_
  exact h1
set_option maxRecDepth 65536 in
set_option maxHeartbeats 4000000 in
theorem L_countAll_4 {x1 x2 : Int32} {mi : Nat → Nat → Int32} {ml : Nat → Nat → Int64} {Q : Option Value → EMem → Prop}
    (h1 : ¬ x2 < (mi 0 114) → Q (some (.int x1)) (LL1, mi, ml, RR1))
    (h2 : x2 < (mi 0 114) → ¬ x2 < (16 : Int32) → Q (some (.int x1)) (LL1, mi, ml, RR1))
    (h3 : x2 < (mi 0 114) → x2 < (16 : Int32) → W_chainLen 0 [.val (.ref 0), .val (.int x2), .unset, .unset, .unset] [] (LL1, mi, ml, RR1) (fun v M' => W_countAll 24 [.val (.ref 0), .val (.int x1), .val (.int x2)] (v.toList ++ [.int x1]) M' Q)) :
    W_countAll 4 [.val (.ref 0), .val (.int x1), .val (.int x2)] [] (LL1, mi, ml, RR1) Q := by
  refine Wp.p (pc' := 5) d_countAll_4 rfl rfl ?_
  refine Wp.p (pc' := 6) d_countAll_5 rfl rfl ?_
  refine Wp.getI (mi 0 114) d_countAll_6 fa_c221 rfl rfl ?_
  refine Wp.icmp_ge d_countAll_9 rfl (fun c1 => ?_) (fun c1 => ?_)
  ·
    refine Wp.p (pc' := 33) d_countAll_32 rfl rfl ?_
    refine Wp.retI d_countAll_33 ?_
    exact (h1 c1)
  ·
    refine Wp.p (pc' := 13) d_countAll_12 rfl rfl ?_
    refine Wp.bipush (16 : Int32) d_countAll_13 (by decide) ?_
    refine Wp.icmp_ge d_countAll_15 rfl (fun c2 => ?_) (fun c2 => ?_)
    ·
      refine Wp.p (pc' := 33) d_countAll_32 rfl rfl ?_
      refine Wp.retI d_countAll_33 ?_
      exact (h2 c1 c2)
    ·
      refine Wp.p (pc' := 19) d_countAll_18 rfl rfl ?_
      refine Wp.p (pc' := 20) d_countAll_19 rfl rfl ?_
      refine Wp.p (pc' := 21) d_countAll_20 rfl rfl ?_
      refine Wp.callP (a := 0) (as := [.int x2]) (rest := [.int x1]) (w := 1) (F' := 1) (Lb' := 15) d_countAll_21 ca_c227_1 rfl rfl rfl rfl (by decide) (by decide) (Nat.le_of_ble_eq_true rfl) ?_
      exact (h3 c1 c2)
set_option maxRecDepth 65536 in
set_option maxHeartbeats 4000000 in
theorem L_countAll_24 {x1 x2 y0 y1 : Int32} {mi : Nat → Nat → Int32} {ml : Nat → Nat → Int64} {Q : Option Value → EMem → Prop}
    (h1 : W_countAll 4 [.val (.ref 0), .val (.int (y1 + y0)), .val (.int (x2 + (1 : Int32)))] [] (LL1, mi, ml, RR1) Q) :
    W_countAll 24 [.val (.ref 0), .val (.int x1), .val (.int x2)] [.int y0, .int y1] (LL1, mi, ml, RR1) Q := by
  refine Wp.p (pc' := 25) d_countAll_24 rfl rfl ?_
  refine Wp.p (pc' := 26) d_countAll_25 rfl rfl ?_
  refine Wp.iinc (1 : Int32) d_countAll_26 (by decide) rfl rfl ?_
  refine Wp.p (pc' := 4) d_countAll_29 rfl rfl ?_
  exact h1
set_option maxRecDepth 65536 in
set_option maxHeartbeats 4000000 in
theorem L_clearDirty_0 {mi : Nat → Nat → Int32} {ml : Nat → Nat → Int64} {Q : Option Value → EMem → Prop}
    (h1 : W_clearDirty 2 [.val (.ref 0), .val (.int (0 : Int32))] [] (LL1, mi, ml, RR1) Q) :
    W_clearDirty 0 [.val (.ref 0), .unset] [] (LL1, mi, ml, RR1) Q := by
  refine Wp.iconst (0 : Int32) d_clearDirty_0 (by decide) ?_
  refine Wp.p (pc' := 2) d_clearDirty_1 rfl rfl ?_
  exact h1
set_option maxRecDepth 65536 in
set_option maxHeartbeats 4000000 in
theorem L_clearDirty_2 {x1 : Int32} {mi : Nat → Nat → Int32} {ml : Nat → Nat → Int64} {Q : Option Value → EMem → Prop}
    (h1 : ¬ x1 < (32 : Int32) → Q none (LL1, mi, ml, RR1))
    (b1 : x1 < (32 : Int32) → inb x1 32 = true)
    (h2 : x1 < (32 : Int32) → W_clearDirty 2 [.val (.ref 0), .val (.int (x1 + (1 : Int32)))] [] (LL1, (up mi 7 (Int32.toNatClampNeg x1) (0 : Int32)), ml, RR1) Q) :
    W_clearDirty 2 [.val (.ref 0), .val (.int x1)] [] (LL1, mi, ml, RR1) Q := by
  refine Wp.p (pc' := 3) d_clearDirty_2 rfl rfl ?_
  refine Wp.bipush (32 : Int32) d_clearDirty_3 (by decide) ?_
  refine Wp.icmp_ge d_clearDirty_5 rfl (fun c1 => ?_) (fun c1 => ?_)
  ·
    refine Wp.retV d_clearDirty_21 ?_
    exact (h1 c1)
  ·
    refine Wp.p (pc' := 9) d_clearDirty_8 rfl rfl ?_
    refine Wp.getR (b := 7) d_clearDirty_9 fa_c72 rfl rfl ?_
    refine Wp.p (pc' := 13) d_clearDirty_12 rfl rfl ?_
    refine Wp.iconst (0 : Int32) d_clearDirty_13 (by decide) ?_
    refine Wp.bastore (0 : Int32) d_clearDirty_14 rfl (k := (Int32.toNatClampNeg x1)) rfl (b1 c1) (by decide) (by decide) ?_
    refine Wp.iinc (1 : Int32) d_clearDirty_15 (by decide) rfl rfl ?_
    refine Wp.p (pc' := 2) d_clearDirty_18 rfl rfl ?_
    exact (h2 c1)
set_option maxRecDepth 65536 in
set_option maxHeartbeats 4000000 in
theorem L_loadMemory_0 {mi : Nat → Nat → Int32} {ml : Nat → Nat → Int64} {Q : Option Value → EMem → Prop}
    (h1 : W_loadMemory 2 [.val (.ref 0), .val (.int (0 : Int32))] [] (LL1, mi, ml, RR1) Q) :
    W_loadMemory 0 [.val (.ref 0), .unset] [] (LL1, mi, ml, RR1) Q := by
  refine Wp.iconst (0 : Int32) d_loadMemory_0 (by decide) ?_
  refine Wp.p (pc' := 2) d_loadMemory_1 rfl rfl ?_
  exact h1
set_option maxRecDepth 65536 in
set_option maxHeartbeats 4000000 in
theorem L_loadMemory_2 {x1 : Int32} {mi : Nat → Nat → Int32} {ml : Nat → Nat → Int64} {Q : Option Value → EMem → Prop}
    (h1 : ¬ x1 < (32 : Int32) → W_scanLog 0 [.val (.ref 0), .unset, .unset, .unset, .unset, .unset] [] (LL1, (up mi 0 114 (mi 0 80)), ml, RR1) (fun v M' => W_loadMemory 35 [.val (.ref 0), .val (.int x1)] (v.toList ++ []) M' Q))
    (h2 : x1 < (32 : Int32) → W_copyPage 0 [.val (.ref 0), .val (.int (x1 + (32 : Int32))), .val (.int x1), .unset] [] (LL1, mi, ml, RR1) (fun v M' => W_loadMemory 17 [.val (.ref 0), .val (.int x1)] (v.toList ++ []) M' Q)) :
    W_loadMemory 2 [.val (.ref 0), .val (.int x1)] [] (LL1, mi, ml, RR1) Q := by
  refine Wp.p (pc' := 3) d_loadMemory_2 rfl rfl ?_
  refine Wp.bipush (32 : Int32) d_loadMemory_3 (by decide) ?_
  refine Wp.icmp_ge d_loadMemory_5 rfl (fun c1 => ?_) (fun c1 => ?_)
  ·
    refine Wp.p (pc' := 24) d_loadMemory_23 rfl rfl ?_
    refine Wp.p (pc' := 25) d_loadMemory_24 rfl rfl ?_
    refine Wp.getI (mi 0 80) d_loadMemory_25 fa_c292 rfl rfl ?_
    refine Wp.putI d_loadMemory_28 fa_c221 rfl (by decide) in_LinearHashLog (Or.inl rfl) ?_
    refine Wp.p (pc' := 32) d_loadMemory_31 rfl rfl ?_
    refine Wp.callP (a := 0) (as := []) (rest := []) (w := 0) (F' := 0) (Lb' := 0) d_loadMemory_32 ca_c183_1 rfl rfl rfl rfl (by decide) (by decide) (Nat.le_of_ble_eq_true rfl) ?_
    exact (h1 c1)
  ·
    refine Wp.p (pc' := 9) d_loadMemory_8 rfl rfl ?_
    refine Wp.p (pc' := 10) d_loadMemory_9 rfl rfl ?_
    refine Wp.bipush (32 : Int32) d_loadMemory_10 (by decide) ?_
    refine Wp.p (pc' := 13) d_loadMemory_12 rfl rfl ?_
    refine Wp.p (pc' := 14) d_loadMemory_13 rfl rfl ?_
    refine Wp.callP (a := 0) (as := [.int (x1 + (32 : Int32)), .int x1]) (rest := []) (w := 0) (F' := 0) (Lb' := 0) d_loadMemory_14 ca_c295_1 rfl rfl rfl rfl (by decide) (by decide) (Nat.le_of_ble_eq_true rfl) ?_
    exact (h2 c1)
set_option maxRecDepth 65536 in
set_option maxHeartbeats 4000000 in
theorem L_loadMemory_17 {x1 : Int32} {mi : Nat → Nat → Int32} {ml : Nat → Nat → Int64} {Q : Option Value → EMem → Prop}
    (h1 : W_loadMemory 2 [.val (.ref 0), .val (.int (x1 + (1 : Int32)))] [] (LL1, mi, ml, RR1) Q) :
    W_loadMemory 17 [.val (.ref 0), .val (.int x1)] [] (LL1, mi, ml, RR1) Q := by
  refine Wp.iinc (1 : Int32) d_loadMemory_17 (by decide) rfl rfl ?_
  refine Wp.p (pc' := 2) d_loadMemory_20 rfl rfl ?_
  exact h1
set_option maxRecDepth 65536 in
set_option maxHeartbeats 4000000 in
theorem L_loadMemory_35 {x1 : Int32} {mi : Nat → Nat → Int32} {ml : Nat → Nat → Int64} {Q : Option Value → EMem → Prop}
    (h1 : W_redo 0 [.val (.ref 0), .val (.int (mi 0 120)), .val (.int (0 : Int32)), .unset, .unset, .unset] [] (LL1, mi, ml, RR1) (fun v M' => W_loadMemory 46 [.val (.ref 0), .val (.int (mi 0 120))] (v.toList ++ []) M' Q)) :
    W_loadMemory 35 [.val (.ref 0), .val (.int x1)] [] (LL1, mi, ml, RR1) Q := by
  refine Wp.p (pc' := 36) d_loadMemory_35 rfl rfl ?_
  refine Wp.getI (mi 0 120) d_loadMemory_36 fa_c186 rfl rfl ?_
  refine Wp.p (pc' := 40) d_loadMemory_39 rfl rfl ?_
  refine Wp.p (pc' := 41) d_loadMemory_40 rfl rfl ?_
  refine Wp.p (pc' := 42) d_loadMemory_41 rfl rfl ?_
  refine Wp.iconst (0 : Int32) d_loadMemory_42 (by decide) ?_
  refine Wp.callP (a := 0) (as := [.int (mi 0 120), .int (0 : Int32)]) (rest := []) (w := 0) (F' := 0) (Lb' := 0) d_loadMemory_43 ca_c205_1 rfl rfl rfl rfl (by decide) (by decide) (Nat.le_of_ble_eq_true rfl) ?_
  exact h1
set_option maxRecDepth 65536 in
set_option maxHeartbeats 4000000 in
theorem L_loadMemory_46 {x1 y0 : Int32} {mi : Nat → Nat → Int32} {ml : Nat → Nat → Int64} {Q : Option Value → EMem → Prop}
    (h1 : W_rebuildUsed 0 [.val (.ref 0), .unset] [] (LL1, mi, ml, RR1) (fun v M' => W_loadMemory 51 [.val (.ref 0), .val (.int x1)] (v.toList ++ []) M' Q)) :
    W_loadMemory 46 [.val (.ref 0), .val (.int x1)] [.int y0] (LL1, mi, ml, RR1) Q := by
  refine Wp.p (pc' := 47) d_loadMemory_46 rfl rfl ?_
  refine Wp.p (pc' := 48) d_loadMemory_47 rfl rfl ?_
  refine Wp.callP (a := 0) (as := []) (rest := []) (w := 0) (F' := 2) (Lb' := 29) d_loadMemory_48 ca_c298_1 rfl rfl rfl rfl (by decide) (by decide) (Nat.le_of_ble_eq_true rfl) ?_
  exact h1
set_option maxRecDepth 65536 in
set_option maxHeartbeats 4000000 in
theorem L_loadMemory_51 {x1 : Int32} {mi : Nat → Nat → Int32} {ml : Nat → Nat → Int64} {Q : Option Value → EMem → Prop}
    (h1 : W_countAll 0 [.val (.ref 0), .unset, .unset] [] (LL1, mi, ml, RR1) (fun v M' => W_loadMemory 56 [.val (.ref 0), .val (.int x1)] (v.toList ++ [.ref 0]) M' Q)) :
    W_loadMemory 51 [.val (.ref 0), .val (.int x1)] [] (LL1, mi, ml, RR1) Q := by
  refine Wp.p (pc' := 52) d_loadMemory_51 rfl rfl ?_
  refine Wp.p (pc' := 53) d_loadMemory_52 rfl rfl ?_
  refine Wp.callP (a := 0) (as := []) (rest := [.ref 0]) (w := 1) (F' := 2) (Lb' := 32) d_loadMemory_53 ca_c301_1 rfl rfl rfl rfl (by decide) (by decide) (Nat.le_of_ble_eq_true rfl) ?_
  exact h1
set_option maxRecDepth 65536 in
set_option maxHeartbeats 4000000 in
theorem L_loadMemory_56 {x1 y0 : Int32} {mi : Nat → Nat → Int32} {ml : Nat → Nat → Int64} {Q : Option Value → EMem → Prop}
    (h1 : W_clearDirty 0 [.val (.ref 0), .unset] [] (LL1, (up mi 0 154 y0), ml, RR1) (fun v M' => W_loadMemory 63 [.val (.ref 0), .val (.int x1)] (v.toList ++ []) M' Q)) :
    W_loadMemory 56 [.val (.ref 0), .val (.int x1)] [.int y0, .ref 0] (LL1, mi, ml, RR1) Q := by
  refine Wp.putI d_loadMemory_56 fa_c141 rfl (by decide) in_LinearHashLog (Or.inl rfl) ?_
  refine Wp.p (pc' := 60) d_loadMemory_59 rfl rfl ?_
  refine Wp.callP (a := 0) (as := []) (rest := []) (w := 0) (F' := 0) (Lb' := 0) d_loadMemory_60 ca_c134_1 rfl rfl rfl rfl (by decide) (by decide) (Nat.le_of_ble_eq_true rfl) ?_
  exact h1
set_option maxRecDepth 65536 in
set_option maxHeartbeats 4000000 in
theorem L_loadMemory_63 {x1 : Int32} {mi : Nat → Nat → Int32} {ml : Nat → Nat → Int64} {Q : Option Value → EMem → Prop}
    (h1 : Q none (LL1, (up mi 0 104 (0 : Int32)), ml, RR1)) :
    W_loadMemory 63 [.val (.ref 0), .val (.int x1)] [] (LL1, mi, ml, RR1) Q := by
  refine Wp.p (pc' := 64) d_loadMemory_63 rfl rfl ?_
  refine Wp.iconst (0 : Int32) d_loadMemory_64 (by decide) ?_
  refine Wp.putZ (0 : Int32) d_loadMemory_65 fa_c128 rfl (by decide) in_LinearHashLog (Or.inl rfl) (by decide) ?_
  refine Wp.retV d_loadMemory_68 ?_
  exact h1
set_option maxRecDepth 65536 in
set_option maxHeartbeats 4000000 in
theorem L_init_0 {x1 x2 x3 : Int32} {mi : Nat → Nat → Int32} {ml : Nat → Nat → Int64} {Q : Option Value → EMem → Prop}
    (h1 : ∀ v1 : Int32, v1 = (if x1 < (1 : Int32) then (1 : Int32) else (if (4 : Int32) < x1 then (4 : Int32) else x1)) → ∀ v2 : Int32, v2 = (if x2 < (4 : Int32) then (4 : Int32) else (if (48 : Int32) < x2 then (48 : Int32) else x2)) → ∀ v3 : Int32, v3 = (if x3 < (1 : Int32) then (1 : Int32) else (if (8 : Int32) < x3 then (8 : Int32) else x3)) → W_formatDisk 0 [.val (.ref 0), .unset] [] (LL1, (up (up (up (up (up (up (up (up (up (up (up (up (up (up (up (up (up mi 0 10 (4 : Int32)) 0 12 (32 : Int32)) 0 14 (16 : Int32)) 0 16 (32 : Int32)) 0 18 (48 : Int32)) 0 20 (1024 : Int32)) 0 22 (1 : Int32)) 0 24 (2 : Int32)) 0 26 (3 : Int32)) 0 28 (14 : Int32)) 0 30 (4 : Int32)) 0 32 (0 : Int32)) 0 34 (1 : Int32)) 0 36 (2 : Int32)) 0 66 v1) 0 68 v2) 0 70 v3), ml, RR1) (fun v M' => W_init 211 [.val (.ref 0), .val (.int x1), .val (.int x2), .val (.int x3)] (v.toList ++ []) M' Q)) :
    W_init 0 [.val (.ref 0), .val (.int x1), .val (.int x2), .val (.int x3)] [] ([(0, "LinearHashLog", 46)], mi, ml, (fun _ _ => Value.null)) Q := by
  refine Wp.p (pc' := 1) d_init_0 rfl rfl ?_
  refine Wp.objInit (w := 0) d_init_1 oi_c1 rfl (by decide) (by decide) ?_
  refine Wp.p (pc' := 5) d_init_4 rfl rfl ?_
  refine Wp.iconst (4 : Int32) d_init_5 (by decide) ?_
  refine Wp.putI d_init_6 fa_c7 rfl (by decide) in_LinearHashLog (Or.inr ⟨rfl, rfl⟩) ?_
  refine Wp.p (pc' := 10) d_init_9 rfl rfl ?_
  refine Wp.bipush (32 : Int32) d_init_10 (by decide) ?_
  refine Wp.putI d_init_12 fa_c13 rfl (by decide) in_LinearHashLog (Or.inr ⟨rfl, rfl⟩) ?_
  refine Wp.p (pc' := 16) d_init_15 rfl rfl ?_
  refine Wp.bipush (16 : Int32) d_init_16 (by decide) ?_
  refine Wp.putI d_init_18 fa_c16 rfl (by decide) in_LinearHashLog (Or.inr ⟨rfl, rfl⟩) ?_
  refine Wp.p (pc' := 22) d_init_21 rfl rfl ?_
  refine Wp.bipush (32 : Int32) d_init_22 (by decide) ?_
  refine Wp.putI d_init_24 fa_c19 rfl (by decide) in_LinearHashLog (Or.inr ⟨rfl, rfl⟩) ?_
  refine Wp.p (pc' := 28) d_init_27 rfl rfl ?_
  refine Wp.bipush (48 : Int32) d_init_28 (by decide) ?_
  refine Wp.putI d_init_30 fa_c22 rfl (by decide) in_LinearHashLog (Or.inr ⟨rfl, rfl⟩) ?_
  refine Wp.p (pc' := 34) d_init_33 rfl rfl ?_
  refine Wp.sipush (1024 : Int32) d_init_34 (by decide) ?_
  refine Wp.putI d_init_37 fa_c25 rfl (by decide) in_LinearHashLog (Or.inr ⟨rfl, rfl⟩) ?_
  refine Wp.p (pc' := 41) d_init_40 rfl rfl ?_
  refine Wp.iconst (1 : Int32) d_init_41 (by decide) ?_
  refine Wp.putI d_init_42 fa_c28 rfl (by decide) in_LinearHashLog (Or.inr ⟨rfl, rfl⟩) ?_
  refine Wp.p (pc' := 46) d_init_45 rfl rfl ?_
  refine Wp.iconst (2 : Int32) d_init_46 (by decide) ?_
  refine Wp.putI d_init_47 fa_c31 rfl (by decide) in_LinearHashLog (Or.inr ⟨rfl, rfl⟩) ?_
  refine Wp.p (pc' := 51) d_init_50 rfl rfl ?_
  refine Wp.iconst (3 : Int32) d_init_51 (by decide) ?_
  refine Wp.putI d_init_52 fa_c34 rfl (by decide) in_LinearHashLog (Or.inr ⟨rfl, rfl⟩) ?_
  refine Wp.p (pc' := 56) d_init_55 rfl rfl ?_
  refine Wp.bipush (14 : Int32) d_init_56 (by decide) ?_
  refine Wp.putI d_init_58 fa_c37 rfl (by decide) in_LinearHashLog (Or.inr ⟨rfl, rfl⟩) ?_
  refine Wp.p (pc' := 62) d_init_61 rfl rfl ?_
  refine Wp.iconst (4 : Int32) d_init_62 (by decide) ?_
  refine Wp.putI d_init_63 fa_c40 rfl (by decide) in_LinearHashLog (Or.inr ⟨rfl, rfl⟩) ?_
  refine Wp.p (pc' := 67) d_init_66 rfl rfl ?_
  refine Wp.iconst (0 : Int32) d_init_67 (by decide) ?_
  refine Wp.putI d_init_68 fa_c43 rfl (by decide) in_LinearHashLog (Or.inr ⟨rfl, rfl⟩) ?_
  refine Wp.p (pc' := 72) d_init_71 rfl rfl ?_
  refine Wp.iconst (1 : Int32) d_init_72 (by decide) ?_
  refine Wp.putI d_init_73 fa_c46 rfl (by decide) in_LinearHashLog (Or.inr ⟨rfl, rfl⟩) ?_
  refine Wp.p (pc' := 77) d_init_76 rfl rfl ?_
  refine Wp.iconst (2 : Int32) d_init_77 (by decide) ?_
  refine Wp.putI d_init_78 fa_c49 rfl (by decide) in_LinearHashLog (Or.inr ⟨rfl, rfl⟩) ?_
  refine Wp.p (pc' := 82) d_init_81 rfl rfl ?_
  refine Wp.bipush (64 : Int32) d_init_82 (by decide) ?_
  refine Wp.new_int (a := 1) (z := 64) (L' := [(0, "LinearHashLog", 46), (1, "", 64)]) d_init_84 ar_int (by decide) (by decide) rfl rfl ?_
  refine Wp.putR d_init_86 fa_c52 rfl (by decide) in_LinearHashLog (Or.inr ⟨rfl, rfl⟩) ?_
  refine Wp.p (pc' := 90) d_init_89 rfl rfl ?_
  refine Wp.bipush (64 : Int32) d_init_90 (by decide) ?_
  refine Wp.new_int (a := 2) (z := 64) (L' := [(0, "LinearHashLog", 46), (1, "", 64), (1, "", 64)]) d_init_92 ar_int (by decide) (by decide) rfl rfl ?_
  refine Wp.putR d_init_94 fa_c56 rfl (by decide) in_LinearHashLog (Or.inr ⟨rfl, rfl⟩) ?_
  refine Wp.p (pc' := 98) d_init_97 rfl rfl ?_
  refine Wp.bipush (64 : Int32) d_init_98 (by decide) ?_
  refine Wp.new_int (a := 3) (z := 64) (L' := [(0, "LinearHashLog", 46), (1, "", 64), (1, "", 64), (1, "", 64)]) d_init_100 ar_int (by decide) (by decide) rfl rfl ?_
  refine Wp.putR d_init_102 fa_c59 rfl (by decide) in_LinearHashLog (Or.inr ⟨rfl, rfl⟩) ?_
  refine Wp.p (pc' := 106) d_init_105 rfl rfl ?_
  refine Wp.sipush (256 : Int32) d_init_106 (by decide) ?_
  refine Wp.new_int (a := 4) (z := 256) (L' := [(0, "LinearHashLog", 46), (1, "", 64), (1, "", 64), (1, "", 64), (1, "", 256)]) d_init_109 ar_int (by decide) (by decide) rfl rfl ?_
  refine Wp.putR d_init_111 fa_c62 rfl (by decide) in_LinearHashLog (Or.inr ⟨rfl, rfl⟩) ?_
  refine Wp.p (pc' := 115) d_init_114 rfl rfl ?_
  refine Wp.sipush (256 : Int32) d_init_115 (by decide) ?_
  refine Wp.new_int (a := 5) (z := 256) (L' := [(0, "LinearHashLog", 46), (1, "", 64), (1, "", 64), (1, "", 64), (1, "", 256), (1, "", 256)]) d_init_118 ar_int (by decide) (by decide) rfl rfl ?_
  refine Wp.putR d_init_120 fa_c65 rfl (by decide) in_LinearHashLog (Or.inr ⟨rfl, rfl⟩) ?_
  refine Wp.p (pc' := 124) d_init_123 rfl rfl ?_
  refine Wp.bipush (32 : Int32) d_init_124 (by decide) ?_
  refine Wp.new_boolean (a := 6) (z := 32) (L' := [(0, "LinearHashLog", 46), (1, "", 64), (1, "", 64), (1, "", 64), (1, "", 256), (1, "", 256), (3, "", 32)]) d_init_126 ar_boolean (by decide) (by decide) rfl rfl ?_
  refine Wp.putR d_init_128 fa_c68 rfl (by decide) in_LinearHashLog (Or.inr ⟨rfl, rfl⟩) ?_
  refine Wp.p (pc' := 132) d_init_131 rfl rfl ?_
  refine Wp.bipush (32 : Int32) d_init_132 (by decide) ?_
  refine Wp.new_boolean (a := 7) (z := 32) (L' := [(0, "LinearHashLog", 46), (1, "", 64), (1, "", 64), (1, "", 64), (1, "", 256), (1, "", 256), (3, "", 32), (3, "", 32)]) d_init_134 ar_boolean (by decide) (by decide) rfl rfl ?_
  refine Wp.putR d_init_136 fa_c72 rfl (by decide) in_LinearHashLog (Or.inr ⟨rfl, rfl⟩) ?_
  refine Wp.p (pc' := 140) d_init_139 rfl rfl ?_
  refine Wp.sipush (1024 : Int32) d_init_140 (by decide) ?_
  refine Wp.new_int (a := 8) (z := 1024) (L' := [(0, "LinearHashLog", 46), (1, "", 64), (1, "", 64), (1, "", 64), (1, "", 256), (1, "", 256), (3, "", 32), (3, "", 32), (1, "", 1024)]) d_init_143 ar_int (by decide) (by decide) rfl rfl ?_
  refine Wp.putR d_init_145 fa_c75 rfl (by decide) in_LinearHashLog (Or.inr ⟨rfl, rfl⟩) ?_
  refine Wp.p (pc' := 149) d_init_148 rfl rfl ?_
  refine Wp.bipush (48 : Int32) d_init_149 (by decide) ?_
  refine Wp.new_int (a := 9) (z := 48) (L' := [(0, "LinearHashLog", 46), (1, "", 64), (1, "", 64), (1, "", 64), (1, "", 256), (1, "", 256), (3, "", 32), (3, "", 32), (1, "", 1024), (1, "", 48)]) d_init_151 ar_int (by decide) (by decide) rfl rfl ?_
  refine Wp.putR d_init_153 fa_c78 rfl (by decide) in_LinearHashLog (Or.inr ⟨rfl, rfl⟩) ?_
  refine Wp.p (pc' := 157) d_init_156 rfl rfl ?_
  refine Wp.bipush (48 : Int32) d_init_157 (by decide) ?_
  refine Wp.new_int (a := 10) (z := 48) (L' := [(0, "LinearHashLog", 46), (1, "", 64), (1, "", 64), (1, "", 64), (1, "", 256), (1, "", 256), (3, "", 32), (3, "", 32), (1, "", 1024), (1, "", 48), (1, "", 48)]) d_init_159 ar_int (by decide) (by decide) rfl rfl ?_
  refine Wp.putR d_init_161 fa_c81 rfl (by decide) in_LinearHashLog (Or.inr ⟨rfl, rfl⟩) ?_
  refine Wp.p (pc' := 165) d_init_164 rfl rfl ?_
  refine Wp.bipush (48 : Int32) d_init_165 (by decide) ?_
  refine Wp.new_int (a := 11) (z := 48) (L' := [(0, "LinearHashLog", 46), (1, "", 64), (1, "", 64), (1, "", 64), (1, "", 256), (1, "", 256), (3, "", 32), (3, "", 32), (1, "", 1024), (1, "", 48), (1, "", 48), (1, "", 48)]) d_init_167 ar_int (by decide) (by decide) rfl rfl ?_
  refine Wp.putR d_init_169 fa_c84 rfl (by decide) in_LinearHashLog (Or.inr ⟨rfl, rfl⟩) ?_
  refine Wp.p (pc' := 173) d_init_172 rfl rfl ?_
  refine Wp.p (pc' := 174) d_init_173 rfl rfl ?_
  refine Wp.p (pc' := 175) d_init_174 rfl rfl ?_
  refine Wp.iconst (1 : Int32) d_init_175 (by decide) ?_
  refine Wp.iconst (4 : Int32) d_init_176 (by decide) ?_
  refine Wp.callP (a := 0) (as := [.int x1, .int (1 : Int32), .int (4 : Int32)]) (rest := [.ref 0]) (w := 1) (F' := 0) (Lb' := 0) d_init_177 ca_c87_1 rfl rfl rfl rfl (by decide) (by decide) (Nat.le_of_ble_eq_true rfl) ?_
  refine L_clamp_0 ?_
  intro v1 e1
  show W_init 180 [.val (.ref 0), .val (.int x1), .val (.int x2), .val (.int x3)] [.int v1, .ref 0] (LL1, (up (up (up (up (up (up (up (up (up (up (up (up (up (up mi 0 10 (4 : Int32)) 0 12 (32 : Int32)) 0 14 (16 : Int32)) 0 16 (32 : Int32)) 0 18 (48 : Int32)) 0 20 (1024 : Int32)) 0 22 (1 : Int32)) 0 24 (2 : Int32)) 0 26 (3 : Int32)) 0 28 (14 : Int32)) 0 30 (4 : Int32)) 0 32 (0 : Int32)) 0 34 (1 : Int32)) 0 36 (2 : Int32)), ml, RR1) Q
  refine Wp.putI d_init_180 fa_c91 rfl (by decide) in_LinearHashLog (Or.inl rfl) ?_
  refine Wp.p (pc' := 184) d_init_183 rfl rfl ?_
  refine Wp.p (pc' := 185) d_init_184 rfl rfl ?_
  refine Wp.p (pc' := 186) d_init_185 rfl rfl ?_
  refine Wp.iconst (4 : Int32) d_init_186 (by decide) ?_
  refine Wp.bipush (48 : Int32) d_init_187 (by decide) ?_
  refine Wp.callP (a := 0) (as := [.int x2, .int (4 : Int32), .int (48 : Int32)]) (rest := [.ref 0]) (w := 1) (F' := 0) (Lb' := 0) d_init_189 ca_c87_1 rfl rfl rfl rfl (by decide) (by decide) (Nat.le_of_ble_eq_true rfl) ?_
  refine L_clamp_0 ?_
  intro v2 e2
  show W_init 192 [.val (.ref 0), .val (.int x1), .val (.int x2), .val (.int x3)] [.int v2, .ref 0] (LL1, (up (up (up (up (up (up (up (up (up (up (up (up (up (up (up mi 0 10 (4 : Int32)) 0 12 (32 : Int32)) 0 14 (16 : Int32)) 0 16 (32 : Int32)) 0 18 (48 : Int32)) 0 20 (1024 : Int32)) 0 22 (1 : Int32)) 0 24 (2 : Int32)) 0 26 (3 : Int32)) 0 28 (14 : Int32)) 0 30 (4 : Int32)) 0 32 (0 : Int32)) 0 34 (1 : Int32)) 0 36 (2 : Int32)) 0 66 v1), ml, RR1) Q
  refine Wp.putI d_init_192 fa_c94 rfl (by decide) in_LinearHashLog (Or.inl rfl) ?_
  refine Wp.p (pc' := 196) d_init_195 rfl rfl ?_
  refine Wp.p (pc' := 197) d_init_196 rfl rfl ?_
  refine Wp.p (pc' := 198) d_init_197 rfl rfl ?_
  refine Wp.iconst (1 : Int32) d_init_198 (by decide) ?_
  refine Wp.bipush (8 : Int32) d_init_199 (by decide) ?_
  refine Wp.callP (a := 0) (as := [.int x3, .int (1 : Int32), .int (8 : Int32)]) (rest := [.ref 0]) (w := 1) (F' := 0) (Lb' := 0) d_init_201 ca_c87_1 rfl rfl rfl rfl (by decide) (by decide) (Nat.le_of_ble_eq_true rfl) ?_
  refine L_clamp_0 ?_
  intro v3 e3
  show W_init 204 [.val (.ref 0), .val (.int x1), .val (.int x2), .val (.int x3)] [.int v3, .ref 0] (LL1, (up (up (up (up (up (up (up (up (up (up (up (up (up (up (up (up mi 0 10 (4 : Int32)) 0 12 (32 : Int32)) 0 14 (16 : Int32)) 0 16 (32 : Int32)) 0 18 (48 : Int32)) 0 20 (1024 : Int32)) 0 22 (1 : Int32)) 0 24 (2 : Int32)) 0 26 (3 : Int32)) 0 28 (14 : Int32)) 0 30 (4 : Int32)) 0 32 (0 : Int32)) 0 34 (1 : Int32)) 0 36 (2 : Int32)) 0 66 v1) 0 68 v2), ml, RR1) Q
  refine Wp.putI d_init_204 fa_c97 rfl (by decide) in_LinearHashLog (Or.inl rfl) ?_
  refine Wp.p (pc' := 208) d_init_207 rfl rfl ?_
  refine Wp.callP (a := 0) (as := []) (rest := []) (w := 0) (F' := 1) (Lb' := 14) d_init_208 ca_c100_1 rfl rfl rfl rfl (by decide) (by decide) (Nat.le_of_ble_eq_true rfl) ?_
  exact (h1 v1 e1 v2 e2 v3 e3)
set_option maxRecDepth 65536 in
set_option maxHeartbeats 4000000 in
theorem L_init_211 {x1 x2 x3 : Int32} {mi : Nat → Nat → Int32} {ml : Nat → Nat → Int64} {Q : Option Value → EMem → Prop}
    (h1 : W_loadMemory 0 [.val (.ref 0), .unset] [] (LL1, (up (up (up (up (up (up (up (up (up mi 0 88 (0 : Int32)) 0 90 (0 : Int32)) 0 92 (0 : Int32)) 0 94 (0 : Int32)) 0 96 (0 : Int32)) 0 98 (0 : Int32)) 0 100 (0 : Int32)) 0 102 (0 : Int32)) 0 104 (0 : Int32)), ml, RR1) (fun v M' => W_init 260 [.val (.ref 0), .val (.int x1), .val (.int x2), .val (.int x3)] (v.toList ++ []) M' Q)) :
    W_init 211 [.val (.ref 0), .val (.int x1), .val (.int x2), .val (.int x3)] [] (LL1, mi, ml, RR1) Q := by
  refine Wp.p (pc' := 212) d_init_211 rfl rfl ?_
  refine Wp.iconst (0 : Int32) d_init_212 (by decide) ?_
  refine Wp.putI d_init_213 fa_c103 rfl (by decide) in_LinearHashLog (Or.inl rfl) ?_
  refine Wp.p (pc' := 217) d_init_216 rfl rfl ?_
  refine Wp.iconst (0 : Int32) d_init_217 (by decide) ?_
  refine Wp.putZ (0 : Int32) d_init_218 fa_c106 rfl (by decide) in_LinearHashLog (Or.inl rfl) (by decide) ?_
  refine Wp.p (pc' := 222) d_init_221 rfl rfl ?_
  refine Wp.iconst (0 : Int32) d_init_222 (by decide) ?_
  refine Wp.putI d_init_223 fa_c110 rfl (by decide) in_LinearHashLog (Or.inl rfl) ?_
  refine Wp.p (pc' := 227) d_init_226 rfl rfl ?_
  refine Wp.iconst (0 : Int32) d_init_227 (by decide) ?_
  refine Wp.putI d_init_228 fa_c113 rfl (by decide) in_LinearHashLog (Or.inl rfl) ?_
  refine Wp.p (pc' := 232) d_init_231 rfl rfl ?_
  refine Wp.iconst (0 : Int32) d_init_232 (by decide) ?_
  refine Wp.putI d_init_233 fa_c116 rfl (by decide) in_LinearHashLog (Or.inl rfl) ?_
  refine Wp.p (pc' := 237) d_init_236 rfl rfl ?_
  refine Wp.iconst (0 : Int32) d_init_237 (by decide) ?_
  refine Wp.putZ (0 : Int32) d_init_238 fa_c119 rfl (by decide) in_LinearHashLog (Or.inl rfl) (by decide) ?_
  refine Wp.p (pc' := 242) d_init_241 rfl rfl ?_
  refine Wp.iconst (0 : Int32) d_init_242 (by decide) ?_
  refine Wp.putI d_init_243 fa_c122 rfl (by decide) in_LinearHashLog (Or.inl rfl) ?_
  refine Wp.p (pc' := 247) d_init_246 rfl rfl ?_
  refine Wp.iconst (0 : Int32) d_init_247 (by decide) ?_
  refine Wp.putI d_init_248 fa_c125 rfl (by decide) in_LinearHashLog (Or.inl rfl) ?_
  refine Wp.p (pc' := 252) d_init_251 rfl rfl ?_
  refine Wp.iconst (0 : Int32) d_init_252 (by decide) ?_
  refine Wp.putZ (0 : Int32) d_init_253 fa_c128 rfl (by decide) in_LinearHashLog (Or.inl rfl) (by decide) ?_
  refine Wp.p (pc' := 257) d_init_256 rfl rfl ?_
  refine Wp.callP (a := 0) (as := []) (rest := []) (w := 0) (F' := 3) (Lb' := 47) d_init_257 ca_c131_1 rfl rfl rfl rfl (by decide) (by decide) (Nat.le_of_ble_eq_true rfl) ?_
  exact h1
set_option maxRecDepth 65536 in
set_option maxHeartbeats 4000000 in
theorem L_init_260 {x1 x2 x3 : Int32} {mi : Nat → Nat → Int32} {ml : Nat → Nat → Int64} {Q : Option Value → EMem → Prop}
    (h1 : Q none (LL1, mi, ml, RR1)) :
    W_init 260 [.val (.ref 0), .val (.int x1), .val (.int x2), .val (.int x3)] [] (LL1, mi, ml, RR1) Q := by
  refine Wp.retV d_init_260 ?_
  exact h1
set_option maxRecDepth 65536 in
set_option maxHeartbeats 4000000 in
theorem L_status_0 {mi : Nat → Nat → Int32} {ml : Nat → Nat → Int64} {Q : Option Value → EMem → Prop}
    (h1 : ∀ v1 : Int32, v1 = (if (mi 0 88) = (2 : Int32) then (2 : Int32) else (if (mi 0 88) = (1 : Int32) then (1 : Int32) else (0 : Int32))) → ∀ v2 : Int32, v2 = (if (mi 0 90) = (0 : Int32) then v1 else (v1 + (4 : Int32))) → Q (some (.int v2)) (LL1, mi, ml, RR1)) :
    W_status 0 [.val (.ref 0), .unset] [] (LL1, mi, ml, RR1) Q := by
  refine Wp.iconst (0 : Int32) d_status_0 (by decide) ?_
  refine Wp.p (pc' := 2) d_status_1 rfl rfl ?_
  refine Wp.p (pc' := 3) d_status_2 rfl rfl ?_
  refine Wp.getI (mi 0 88) d_status_3 fa_c103 rfl rfl ?_
  refine Wp.iconst (2 : Int32) d_status_6 (by decide) ?_
  obtain ⟨v1, e1⟩ : ∃ z : Int32, z = (if (mi 0 88) = (2 : Int32) then (2 : Int32) else (if (mi 0 88) = (1 : Int32) then (1 : Int32) else (0 : Int32))) := ⟨_, rfl⟩
  suffices K : W_status 25 [.val (.ref 0), .val (.int v1)] [] (LL1, mi, ml, RR1) Q by
    refine Wp.icmp_ne d_status_7 rfl (fun q0 => ?_) (fun q0 => ?_)
    ·
      refine Wp.p (pc' := 16) d_status_15 rfl rfl ?_
      refine Wp.getI (mi 0 88) d_status_16 fa_c103 rfl rfl ?_
      refine Wp.iconst (1 : Int32) d_status_19 (by decide) ?_
      refine Wp.icmp_ne d_status_20 rfl (fun q1 => ?_) (fun q1 => ?_)
      ·
        rw [if_neg q0, if_neg q1] at e1; subst e1
        exact K
      ·
        refine Wp.iconst (1 : Int32) d_status_23 (by decide) ?_
        refine Wp.p (pc' := 25) d_status_24 rfl rfl ?_
        rw [if_neg q0, if_pos q1] at e1; subst e1
        exact K
    ·
      refine Wp.iconst (2 : Int32) d_status_10 (by decide) ?_
      refine Wp.p (pc' := 12) d_status_11 rfl rfl ?_
      refine Wp.p (pc' := 25) d_status_12 rfl rfl ?_
      rw [if_pos q0] at e1; subst e1
      exact K
  refine Wp.p (pc' := 26) d_status_25 rfl rfl ?_
  refine Wp.getZ (mi 0 90) d_status_26 fa_c106 rfl rfl ?_
  obtain ⟨v2, e2⟩ : ∃ z : Int32, z = (if (mi 0 90) = (0 : Int32) then v1 else (v1 + (4 : Int32))) := ⟨_, rfl⟩
  suffices K : W_status 36 [.val (.ref 0), .val (.int v2)] [] (LL1, mi, ml, RR1) Q by
    refine Wp.if_eq d_status_29 rfl (fun q0 => ?_) (fun q0 => ?_)
    ·
      rw [if_pos q0] at e2; subst e2
      exact K
    ·
      refine Wp.p (pc' := 33) d_status_32 rfl rfl ?_
      refine Wp.iconst (4 : Int32) d_status_33 (by decide) ?_
      refine Wp.p (pc' := 35) d_status_34 rfl rfl ?_
      refine Wp.p (pc' := 36) d_status_35 rfl rfl ?_
      rw [if_neg q0] at e2; subst e2
      exact K
  refine Wp.p (pc' := 37) d_status_36 rfl rfl ?_
  refine Wp.retI d_status_37 ?_
  exact (h1 v1 e1 v2 e2)
set_option maxRecDepth 65536 in
set_option maxHeartbeats 4000000 in
theorem L_begin_0 {mi : Nat → Nat → Int32} {ml : Nat → Nat → Int64} {Q : Option Value → EMem → Prop}
    (h1 : ¬ (mi 0 88) = (2 : Int32) → ¬ (mi 0 88) = (1 : Int32) → W_clearDirty 0 [.val (.ref 0), .unset] [] (LL1, (up (up mi 0 88 (1 : Int32)) 0 94 (0 : Int32)), ml, RR1) (fun v M' => W_begin 35 [.val (.ref 0)] (v.toList ++ []) M' Q))
    (h2 : ¬ (mi 0 88) = (2 : Int32) → (mi 0 88) = (1 : Int32) → Q (some (.int (-3 : Int32))) (LL1, mi, ml, RR1))
    (h3 : (mi 0 88) = (2 : Int32) → Q (some (.int (-1 : Int32))) (LL1, mi, ml, RR1)) :
    W_begin 0 [.val (.ref 0)] [] (LL1, mi, ml, RR1) Q := by
  refine Wp.p (pc' := 1) d_begin_0 rfl rfl ?_
  refine Wp.getI (mi 0 88) d_begin_1 fa_c103 rfl rfl ?_
  refine Wp.iconst (2 : Int32) d_begin_4 (by decide) ?_
  refine Wp.icmp_ne d_begin_5 rfl (fun c1 => ?_) (fun c1 => ?_)
  ·
    refine Wp.p (pc' := 11) d_begin_10 rfl rfl ?_
    refine Wp.getI (mi 0 88) d_begin_11 fa_c103 rfl rfl ?_
    refine Wp.iconst (1 : Int32) d_begin_14 (by decide) ?_
    refine Wp.icmp_ne d_begin_15 rfl (fun c2 => ?_) (fun c2 => ?_)
    ·
      refine Wp.p (pc' := 22) d_begin_21 rfl rfl ?_
      refine Wp.iconst (1 : Int32) d_begin_22 (by decide) ?_
      refine Wp.putI d_begin_23 fa_c103 rfl (by decide) in_LinearHashLog (Or.inl rfl) ?_
      refine Wp.p (pc' := 27) d_begin_26 rfl rfl ?_
      refine Wp.iconst (0 : Int32) d_begin_27 (by decide) ?_
      refine Wp.putI d_begin_28 fa_c113 rfl (by decide) in_LinearHashLog (Or.inl rfl) ?_
      refine Wp.p (pc' := 32) d_begin_31 rfl rfl ?_
      refine Wp.callP (a := 0) (as := []) (rest := []) (w := 0) (F' := 0) (Lb' := 0) d_begin_32 ca_c134_1 rfl rfl rfl rfl (by decide) (by decide) (Nat.le_of_ble_eq_true rfl) ?_
      exact (h1 c1 c2)
    ·
      refine Wp.bipush (-3 : Int32) d_begin_18 (by decide) ?_
      refine Wp.retI d_begin_20 ?_
      exact (h2 c1 c2)
  ·
    refine Wp.iconst (-1 : Int32) d_begin_8 (by decide) ?_
    refine Wp.retI d_begin_9 ?_
    exact (h3 c1)
set_option maxRecDepth 65536 in
set_option maxHeartbeats 4000000 in
theorem L_begin_35 {mi : Nat → Nat → Int32} {ml : Nat → Nat → Int64} {Q : Option Value → EMem → Prop}
    (h1 : Q (some (.int (0 : Int32))) (LL1, mi, ml, RR1)) :
    W_begin 35 [.val (.ref 0)] [] (LL1, mi, ml, RR1) Q := by
  refine Wp.iconst (0 : Int32) d_begin_35 (by decide) ?_
  refine Wp.retI d_begin_36 ?_
  exact h1
set_option maxRecDepth 65536 in
set_option maxHeartbeats 4000000 in
theorem L_hash_0 {x1 : Int32} {mi : Nat → Nat → Int32} {ml : Nat → Nat → Int64} {Q : Option Value → EMem → Prop}
    (h1 : Q (some (.int (XT.ushr (x1 * (-1640531535 : Int32)) (8 : Int32)))) (LL1, mi, ml, RR1)) :
    W_hash 0 [.val (.ref 0), .val (.int x1)] [] (LL1, mi, ml, RR1) Q := by
  refine Wp.p (pc' := 1) d_hash_0 rfl rfl ?_
  refine Wp.ldc d_hash_1 ik_c236 ?_
  refine Wp.p (pc' := 4) d_hash_3 rfl rfl ?_
  refine Wp.bipush (8 : Int32) d_hash_4 (by decide) ?_
  refine Wp.p (pc' := 7) d_hash_6 rfl rfl ?_
  refine Wp.retI d_hash_7 ?_
  exact h1
set_option maxRecDepth 65536 in
set_option maxHeartbeats 4000000 in
theorem L_levelBase_0 {x1 : Int32} {mi : Nat → Nat → Int32} {ml : Nat → Nat → Int64} {Q : Option Value → EMem → Prop}
    (h1 : W_levelBase 7 [.val (.ref 0), .val (.int x1), .val (.int (mi 0 66)), .val (.int (0 : Int32))] [] (LL1, mi, ml, RR1) Q) :
    W_levelBase 0 [.val (.ref 0), .val (.int x1), .unset, .unset] [] (LL1, mi, ml, RR1) Q := by
  refine Wp.p (pc' := 1) d_levelBase_0 rfl rfl ?_
  refine Wp.getI (mi 0 66) d_levelBase_1 fa_c91 rfl rfl ?_
  refine Wp.p (pc' := 5) d_levelBase_4 rfl rfl ?_
  refine Wp.iconst (0 : Int32) d_levelBase_5 (by decide) ?_
  refine Wp.p (pc' := 7) d_levelBase_6 rfl rfl ?_
  exact h1
set_option maxRecDepth 65536 in
set_option maxHeartbeats 4000000 in
theorem L_levelBase_7 {x1 x2 x3 : Int32} {mi : Nat → Nat → Int32} {ml : Nat → Nat → Int64} {Q : Option Value → EMem → Prop}
    (h1 : ¬ x3 < (5 : Int32) → Q (some (.int x2)) (LL1, mi, ml, RR1))
    (h2 : x3 < (5 : Int32) → ¬ x1 < (x2 <<< ((1 : Int32) &&& 31)) → W_levelBase 7 [.val (.ref 0), .val (.int x1), .val (.int (x2 <<< ((1 : Int32) &&& 31))), .val (.int (x3 + (1 : Int32)))] [] (LL1, mi, ml, RR1) Q)
    (h3 : x3 < (5 : Int32) → x1 < (x2 <<< ((1 : Int32) &&& 31)) → Q (some (.int x2)) (LL1, mi, ml, RR1)) :
    W_levelBase 7 [.val (.ref 0), .val (.int x1), .val (.int x2), .val (.int x3)] [] (LL1, mi, ml, RR1) Q := by
  refine Wp.p (pc' := 8) d_levelBase_7 rfl rfl ?_
  refine Wp.iconst (5 : Int32) d_levelBase_8 (by decide) ?_
  refine Wp.icmp_ge d_levelBase_9 rfl (fun c1 => ?_) (fun c1 => ?_)
  ·
    refine Wp.p (pc' := 32) d_levelBase_31 rfl rfl ?_
    refine Wp.retI d_levelBase_32 ?_
    exact (h1 c1)
  ·
    refine Wp.p (pc' := 13) d_levelBase_12 rfl rfl ?_
    refine Wp.iconst (1 : Int32) d_levelBase_13 (by decide) ?_
    refine Wp.p (pc' := 15) d_levelBase_14 rfl rfl ?_
    refine Wp.p (pc' := 16) d_levelBase_15 rfl rfl ?_
    refine Wp.icmp_le d_levelBase_16 rfl (fun c2 => ?_) (fun c2 => ?_)
    ·
      refine Wp.p (pc' := 22) d_levelBase_21 rfl rfl ?_
      refine Wp.iconst (1 : Int32) d_levelBase_22 (by decide) ?_
      refine Wp.p (pc' := 24) d_levelBase_23 rfl rfl ?_
      refine Wp.p (pc' := 25) d_levelBase_24 rfl rfl ?_
      refine Wp.iinc (1 : Int32) d_levelBase_25 (by decide) rfl rfl ?_
      refine Wp.p (pc' := 7) d_levelBase_28 rfl rfl ?_
      exact (h2 c1 c2)
    ·
      refine Wp.p (pc' := 20) d_levelBase_19 rfl rfl ?_
      refine Wp.retI d_levelBase_20 ?_
      exact (h3 c1 c2)
set_option maxRecDepth 65536 in
set_option maxHeartbeats 4000000 in
theorem L_designated_0 {x1 x2 : Int32} {mi : Nat → Nat → Int32} {ml : Nat → Nat → Int64} {Q : Option Value → EMem → Prop}
    (h1 : W_levelBase 0 [.val (.ref 0), .val (.int x2), .unset, .unset] [] (LL1, mi, ml, RR1) (fun v M' => W_designated 5 [.val (.ref 0), .val (.int x1), .val (.int x2), .unset, .unset, .unset] (v.toList ++ []) M' Q)) :
    W_designated 0 [.val (.ref 0), .val (.int x1), .val (.int x2), .unset, .unset, .unset] [] (LL1, mi, ml, RR1) Q := by
  refine Wp.p (pc' := 1) d_designated_0 rfl rfl ?_
  refine Wp.p (pc' := 2) d_designated_1 rfl rfl ?_
  refine Wp.callP (a := 0) (as := [.int x2]) (rest := []) (w := 0) (F' := 0) (Lb' := 0) d_designated_2 ca_c237_1 rfl rfl rfl rfl (by decide) (by decide) (Nat.le_of_ble_eq_true rfl) ?_
  exact h1
set_option maxRecDepth 65536 in
set_option maxHeartbeats 4000000 in
theorem L_designated_5 {x1 x2 y0 : Int32} {mi : Nat → Nat → Int32} {ml : Nat → Nat → Int64} {Q : Option Value → EMem → Prop}
    (h1 : W_hash 0 [.val (.ref 0), .val (.int x1)] [] (LL1, mi, ml, RR1) (fun v M' => W_designated 11 [.val (.ref 0), .val (.int x1), .val (.int x2), .val (.int y0), .unset, .unset] (v.toList ++ []) M' Q)) :
    W_designated 5 [.val (.ref 0), .val (.int x1), .val (.int x2), .unset, .unset, .unset] [.int y0] (LL1, mi, ml, RR1) Q := by
  refine Wp.p (pc' := 6) d_designated_5 rfl rfl ?_
  refine Wp.p (pc' := 7) d_designated_6 rfl rfl ?_
  refine Wp.p (pc' := 8) d_designated_7 rfl rfl ?_
  refine Wp.callP (a := 0) (as := [.int x1]) (rest := []) (w := 0) (F' := 0) (Lb' := 0) d_designated_8 ca_c240_1 rfl rfl rfl rfl (by decide) (by decide) (Nat.le_of_ble_eq_true rfl) ?_
  exact h1
set_option maxRecDepth 65536 in
set_option maxHeartbeats 4000000 in
theorem L_designated_11 {x1 x2 x3 y0 : Int32} {mi : Nat → Nat → Int32} {ml : Nat → Nat → Int64} {Q : Option Value → EMem → Prop}
    (z1 : ¬ x3 = 0)
    (h1 : ¬ (y0 - y0 / x3 * x3) < (x2 - x3) → Q (some (.int (y0 - y0 / x3 * x3))) (LL1, mi, ml, RR1))
    (z2 : (y0 - y0 / x3 * x3) < (x2 - x3) → ¬ (x3 <<< ((1 : Int32) &&& 31)) = 0)
    (h2 : (y0 - y0 / x3 * x3) < (x2 - x3) → Q (some (.int (y0 - y0 / (x3 <<< ((1 : Int32) &&& 31)) * (x3 <<< ((1 : Int32) &&& 31))))) (LL1, mi, ml, RR1)) :
    W_designated 11 [.val (.ref 0), .val (.int x1), .val (.int x2), .val (.int x3), .unset, .unset] [.int y0] (LL1, mi, ml, RR1) Q := by
  refine Wp.p (pc' := 13) d_designated_11 rfl rfl ?_
  refine Wp.p (pc' := 15) d_designated_13 rfl rfl ?_
  refine Wp.p (pc' := 16) d_designated_15 rfl rfl ?_
  refine Wp.irem d_designated_16 z1 ?_
  refine Wp.p (pc' := 19) d_designated_17 rfl rfl ?_
  refine Wp.p (pc' := 21) d_designated_19 rfl rfl ?_
  refine Wp.p (pc' := 22) d_designated_21 rfl rfl ?_
  refine Wp.p (pc' := 23) d_designated_22 rfl rfl ?_
  refine Wp.p (pc' := 24) d_designated_23 rfl rfl ?_
  refine Wp.icmp_ge d_designated_24 rfl (fun c1 => ?_) (fun c1 => ?_)
  ·
    refine Wp.p (pc' := 37) d_designated_35 rfl rfl ?_
    refine Wp.retI d_designated_37 ?_
    exact (h1 c1)
  ·
    refine Wp.p (pc' := 29) d_designated_27 rfl rfl ?_
    refine Wp.p (pc' := 30) d_designated_29 rfl rfl ?_
    refine Wp.iconst (1 : Int32) d_designated_30 (by decide) ?_
    refine Wp.p (pc' := 32) d_designated_31 rfl rfl ?_
    refine Wp.irem d_designated_32 (z2 c1) ?_
    refine Wp.p (pc' := 35) d_designated_33 rfl rfl ?_
    refine Wp.p (pc' := 37) d_designated_35 rfl rfl ?_
    refine Wp.retI d_designated_37 ?_
    exact (h2 c1)
set_option maxRecDepth 65536 in
set_option maxHeartbeats 4000000 in
theorem L_findInPage_0 {x1 x2 : Int32} {mi : Nat → Nat → Int32} {ml : Nat → Nat → Int64} {Q : Option Value → EMem → Prop}
    (h1 : W_entries 0 [.val (.ref 0), .val (.int x1), .unset] [] (LL1, mi, ml, RR1) (fun v M' => W_findInPage 5 [.val (.ref 0), .val (.int x1), .val (.int x2), .unset, .unset] (v.toList ++ []) M' Q)) :
    W_findInPage 0 [.val (.ref 0), .val (.int x1), .val (.int x2), .unset, .unset] [] (LL1, mi, ml, RR1) Q := by
  refine Wp.p (pc' := 1) d_findInPage_0 rfl rfl ?_
  refine Wp.p (pc' := 2) d_findInPage_1 rfl rfl ?_
  refine Wp.callP (a := 0) (as := [.int x1]) (rest := []) (w := 0) (F' := 0) (Lb' := 0) d_findInPage_2 ca_c246_1 rfl rfl rfl rfl (by decide) (by decide) (Nat.le_of_ble_eq_true rfl) ?_
  exact h1
set_option maxRecDepth 65536 in
set_option maxHeartbeats 4000000 in
theorem L_findInPage_5 {x1 x2 y0 : Int32} {mi : Nat → Nat → Int32} {ml : Nat → Nat → Int64} {Q : Option Value → EMem → Prop}
    (h1 : W_findInPage 9 [.val (.ref 0), .val (.int x1), .val (.int x2), .val (.int y0), .val (.int (0 : Int32))] [] (LL1, mi, ml, RR1) Q) :
    W_findInPage 5 [.val (.ref 0), .val (.int x1), .val (.int x2), .unset, .unset] [.int y0] (LL1, mi, ml, RR1) Q := by
  refine Wp.p (pc' := 6) d_findInPage_5 rfl rfl ?_
  refine Wp.iconst (0 : Int32) d_findInPage_6 (by decide) ?_
  refine Wp.p (pc' := 9) d_findInPage_7 rfl rfl ?_
  exact h1
set_option maxRecDepth 65536 in
set_option maxHeartbeats 4000000 in
theorem L_findInPage_9 {x1 x2 x3 x4 : Int32} {mi : Nat → Nat → Int32} {ml : Nat → Nat → Int64} {Q : Option Value → EMem → Prop}
    (h1 : ¬ x4 < x3 → Q (some (.int (-1 : Int32))) (LL1, mi, ml, RR1))
    (b1 : x4 < x3 → inb ((x1 * (4 : Int32)) + x4) 256 = true)
    (h2 : x4 < x3 → ¬ (mi 4 (Int32.toNatClampNeg ((x1 * (4 : Int32)) + x4))) = x2 → W_findInPage 9 [.val (.ref 0), .val (.int x1), .val (.int x2), .val (.int x3), .val (.int (x4 + (1 : Int32)))] [] (LL1, mi, ml, RR1) Q)
    (h3 : x4 < x3 → (mi 4 (Int32.toNatClampNeg ((x1 * (4 : Int32)) + x4))) = x2 → Q (some (.int ((x1 * (4 : Int32)) + x4))) (LL1, mi, ml, RR1)) :
    W_findInPage 9 [.val (.ref 0), .val (.int x1), .val (.int x2), .val (.int x3), .val (.int x4)] [] (LL1, mi, ml, RR1) Q := by
  refine Wp.p (pc' := 11) d_findInPage_9 rfl rfl ?_
  refine Wp.p (pc' := 12) d_findInPage_11 rfl rfl ?_
  refine Wp.icmp_ge d_findInPage_12 rfl (fun c1 => ?_) (fun c1 => ?_)
  ·
    refine Wp.iconst (-1 : Int32) d_findInPage_43 (by decide) ?_
    refine Wp.retI d_findInPage_44 ?_
    exact (h1 c1)
  ·
    refine Wp.p (pc' := 16) d_findInPage_15 rfl rfl ?_
    refine Wp.getR (b := 4) d_findInPage_16 fa_c62 rfl rfl ?_
    refine Wp.p (pc' := 20) d_findInPage_19 rfl rfl ?_
    refine Wp.iconst (4 : Int32) d_findInPage_20 (by decide) ?_
    refine Wp.p (pc' := 22) d_findInPage_21 rfl rfl ?_
    refine Wp.p (pc' := 24) d_findInPage_22 rfl rfl ?_
    refine Wp.p (pc' := 25) d_findInPage_24 rfl rfl ?_
    refine Wp.iaload (mi 4 (Int32.toNatClampNeg ((x1 * (4 : Int32)) + x4))) d_findInPage_25 rfl (k := (Int32.toNatClampNeg ((x1 * (4 : Int32)) + x4))) rfl (b1 c1) rfl ?_
    refine Wp.p (pc' := 27) d_findInPage_26 rfl rfl ?_
    refine Wp.icmp_ne d_findInPage_27 rfl (fun c2 => ?_) (fun c2 => ?_)
    ·
      refine Wp.iinc (1 : Int32) d_findInPage_37 (by decide) rfl rfl ?_
      refine Wp.p (pc' := 9) d_findInPage_40 rfl rfl ?_
      exact (h2 c1 c2)
    ·
      refine Wp.p (pc' := 31) d_findInPage_30 rfl rfl ?_
      refine Wp.iconst (4 : Int32) d_findInPage_31 (by decide) ?_
      refine Wp.p (pc' := 33) d_findInPage_32 rfl rfl ?_
      refine Wp.p (pc' := 35) d_findInPage_33 rfl rfl ?_
      refine Wp.p (pc' := 36) d_findInPage_35 rfl rfl ?_
      refine Wp.retI d_findInPage_36 ?_
      exact (h3 c1 c2)
set_option maxRecDepth 65536 in
set_option maxHeartbeats 4000000 in
theorem L_findSlot_0 {x1 : Int32} {mi : Nat → Nat → Int32} {ml : Nat → Nat → Int64} {Q : Option Value → EMem → Prop}
    (h1 : W_designated 0 [.val (.ref 0), .val (.int x1), .val (.int (mi 0 114)), .unset, .unset, .unset] [] (LL1, mi, ml, RR1) (fun v M' => W_findSlot 9 [.val (.ref 0), .val (.int x1), .unset, .unset, .unset] (v.toList ++ []) M' Q)) :
    W_findSlot 0 [.val (.ref 0), .val (.int x1), .unset, .unset, .unset] [] (LL1, mi, ml, RR1) Q := by
  refine Wp.p (pc' := 1) d_findSlot_0 rfl rfl ?_
  refine Wp.p (pc' := 2) d_findSlot_1 rfl rfl ?_
  refine Wp.p (pc' := 3) d_findSlot_2 rfl rfl ?_
  refine Wp.getI (mi 0 114) d_findSlot_3 fa_c221 rfl rfl ?_
  refine Wp.callP (a := 0) (as := [.int x1, .int (mi 0 114)]) (rest := []) (w := 0) (F' := 1) (Lb' := 15) d_findSlot_6 ca_c224_1 rfl rfl rfl rfl (by decide) (by decide) (Nat.le_of_ble_eq_true rfl) ?_
  exact h1
set_option maxRecDepth 65536 in
set_option maxHeartbeats 4000000 in
theorem L_findSlot_9 {x1 y0 : Int32} {mi : Nat → Nat → Int32} {ml : Nat → Nat → Int64} {Q : Option Value → EMem → Prop}
    (h1 : W_findSlot 12 [.val (.ref 0), .val (.int x1), .val (.int y0), .val (.int (0 : Int32)), .unset] [] (LL1, mi, ml, RR1) Q) :
    W_findSlot 9 [.val (.ref 0), .val (.int x1), .unset, .unset, .unset] [.int y0] (LL1, mi, ml, RR1) Q := by
  refine Wp.p (pc' := 10) d_findSlot_9 rfl rfl ?_
  refine Wp.iconst (0 : Int32) d_findSlot_10 (by decide) ?_
  refine Wp.p (pc' := 12) d_findSlot_11 rfl rfl ?_
  exact h1
set_option maxRecDepth 65536 in
set_option maxHeartbeats 4000000 in
theorem L_findSlot_12 {x1 x2 x3 : Int32} {s4 : Slot} {mi : Nat → Nat → Int32} {ml : Nat → Nat → Int64} {Q : Option Value → EMem → Prop} (o4 : One s4)
    (h1 : ¬ x3 < (32 : Int32) → Q (some (.int (-1 : Int32))) (LL1, mi, ml, RR1))
    (h2 : x3 < (32 : Int32) → x2 < (0 : Int32) → Q (some (.int (-1 : Int32))) (LL1, mi, ml, RR1))
    (h3 : x3 < (32 : Int32) → ¬ x2 < (0 : Int32) → W_findInPage 0 [.val (.ref 0), .val (.int x2), .val (.int x1), .unset, .unset] [] (LL1, mi, ml, RR1) (fun v M' => W_findSlot 28 [.val (.ref 0), .val (.int x1), .val (.int x2), .val (.int x3), s4] (v.toList ++ []) M' Q)) :
    W_findSlot 12 [.val (.ref 0), .val (.int x1), .val (.int x2), .val (.int x3), s4] [] (LL1, mi, ml, RR1) Q := by
  refine Wp.p (pc' := 13) d_findSlot_12 rfl rfl ?_
  refine Wp.bipush (32 : Int32) d_findSlot_13 (by decide) ?_
  refine Wp.icmp_ge d_findSlot_15 rfl (fun c1 => ?_) (fun c1 => ?_)
  ·
    refine Wp.iconst (-1 : Int32) d_findSlot_50 (by decide) ?_
    refine Wp.retI d_findSlot_51 ?_
    exact (h1 c1)
  ·
    refine Wp.p (pc' := 19) d_findSlot_18 rfl rfl ?_
    refine Wp.if_lt d_findSlot_19 rfl (fun c2 => ?_) (fun c2 => ?_)
    ·
      refine Wp.iconst (-1 : Int32) d_findSlot_50 (by decide) ?_
      refine Wp.retI d_findSlot_51 ?_
      exact (h2 c1 c2)
    ·
      refine Wp.p (pc' := 23) d_findSlot_22 rfl rfl ?_
      refine Wp.p (pc' := 24) d_findSlot_23 rfl rfl ?_
      refine Wp.p (pc' := 25) d_findSlot_24 rfl rfl ?_
      refine Wp.callP (a := 0) (as := [.int x2, .int x1]) (rest := []) (w := 0) (F' := 1) (Lb' := 14) d_findSlot_25 ca_c249_1 rfl rfl rfl rfl (by decide) (by decide) (Nat.le_of_ble_eq_true rfl) ?_
      exact (h3 c1 c2)
set_option maxRecDepth 65536 in
set_option maxHeartbeats 4000000 in
theorem L_findSlot_28 {x1 x2 x3 y0 : Int32} {s4 : Slot} {mi : Nat → Nat → Int32} {ml : Nat → Nat → Int64} {Q : Option Value → EMem → Prop} (o4 : One s4)
    (h1 : y0 < (0 : Int32) → W_nextPage 0 [.val (.ref 0), .val (.int x2), .unset] [] (LL1, mi, ml, RR1) (fun v M' => W_findSlot 43 [.val (.ref 0), .val (.int x1), .val (.int x2), .val (.int x3), .val (.int y0)] (v.toList ++ []) M' Q))
    (h2 : ¬ y0 < (0 : Int32) → Q (some (.int y0)) (LL1, mi, ml, RR1)) :
    W_findSlot 28 [.val (.ref 0), .val (.int x1), .val (.int x2), .val (.int x3), s4] [.int y0] (LL1, mi, ml, RR1) Q := by
  refine Wp.istoreO (i := 4) d_findSlot_28 (Or.inl ⟨rfl, rfl⟩) rfl o4 rfl ?_
  show Wp _ _ _ _ _ _ _ 30 _ _ _ _
  refine Wp.p (pc' := 32) d_findSlot_30 rfl rfl ?_
  refine Wp.if_lt d_findSlot_32 rfl (fun c1 => ?_) (fun c1 => ?_)
  ·
    refine Wp.p (pc' := 39) d_findSlot_38 rfl rfl ?_
    refine Wp.p (pc' := 40) d_findSlot_39 rfl rfl ?_
    refine Wp.callP (a := 0) (as := [.int x2]) (rest := []) (w := 0) (F' := 0) (Lb' := 0) d_findSlot_40 ca_c243_1 rfl rfl rfl rfl (by decide) (by decide) (Nat.le_of_ble_eq_true rfl) ?_
    exact (h1 c1)
  ·
    refine Wp.p (pc' := 37) d_findSlot_35 rfl rfl ?_
    refine Wp.retI d_findSlot_37 ?_
    exact (h2 c1)
set_option maxRecDepth 65536 in
set_option maxHeartbeats 4000000 in
theorem L_findSlot_43 {x1 x2 x3 x4 y0 : Int32} {mi : Nat → Nat → Int32} {ml : Nat → Nat → Int64} {Q : Option Value → EMem → Prop}
    (h1 : W_findSlot 12 [.val (.ref 0), .val (.int x1), .val (.int y0), .val (.int (x3 + (1 : Int32))), .val (.int x4)] [] (LL1, mi, ml, RR1) Q) :
    W_findSlot 43 [.val (.ref 0), .val (.int x1), .val (.int x2), .val (.int x3), .val (.int x4)] [.int y0] (LL1, mi, ml, RR1) Q := by
  refine Wp.p (pc' := 44) d_findSlot_43 rfl rfl ?_
  refine Wp.iinc (1 : Int32) d_findSlot_44 (by decide) rfl rfl ?_
  refine Wp.p (pc' := 12) d_findSlot_47 rfl rfl ?_
  exact h1
set_option maxRecDepth 65536 in
set_option maxHeartbeats 4000000 in
theorem L_lastPage_0 {x1 : Int32} {mi : Nat → Nat → Int32} {ml : Nat → Nat → Int64} {Q : Option Value → EMem → Prop}
    (h1 : W_lastPage 4 [.val (.ref 0), .val (.int x1), .val (.int x1), .val (.int (0 : Int32)), .unset] [] (LL1, mi, ml, RR1) Q) :
    W_lastPage 0 [.val (.ref 0), .val (.int x1), .unset, .unset, .unset] [] (LL1, mi, ml, RR1) Q := by
  refine Wp.p (pc' := 1) d_lastPage_0 rfl rfl ?_
  refine Wp.p (pc' := 2) d_lastPage_1 rfl rfl ?_
  refine Wp.iconst (0 : Int32) d_lastPage_2 (by decide) ?_
  refine Wp.p (pc' := 4) d_lastPage_3 rfl rfl ?_
  exact h1
set_option maxRecDepth 65536 in
set_option maxHeartbeats 4000000 in
theorem L_lastPage_4 {x1 x2 x3 : Int32} {s4 : Slot} {mi : Nat → Nat → Int32} {ml : Nat → Nat → Int64} {Q : Option Value → EMem → Prop} (o4 : One s4)
    (h1 : ¬ x3 < (32 : Int32) → Q (some (.int x2)) (LL1, mi, ml, RR1))
    (h2 : x3 < (32 : Int32) → W_nextPage 0 [.val (.ref 0), .val (.int x2), .unset] [] (LL1, mi, ml, RR1) (fun v M' => W_lastPage 15 [.val (.ref 0), .val (.int x1), .val (.int x2), .val (.int x3), s4] (v.toList ++ []) M' Q)) :
    W_lastPage 4 [.val (.ref 0), .val (.int x1), .val (.int x2), .val (.int x3), s4] [] (LL1, mi, ml, RR1) Q := by
  refine Wp.p (pc' := 5) d_lastPage_4 rfl rfl ?_
  refine Wp.bipush (32 : Int32) d_lastPage_5 (by decide) ?_
  refine Wp.icmp_ge d_lastPage_7 rfl (fun c1 => ?_) (fun c1 => ?_)
  ·
    refine Wp.p (pc' := 34) d_lastPage_33 rfl rfl ?_
    refine Wp.retI d_lastPage_34 ?_
    exact (h1 c1)
  ·
    refine Wp.p (pc' := 11) d_lastPage_10 rfl rfl ?_
    refine Wp.p (pc' := 12) d_lastPage_11 rfl rfl ?_
    refine Wp.callP (a := 0) (as := [.int x2]) (rest := []) (w := 0) (F' := 0) (Lb' := 0) d_lastPage_12 ca_c243_1 rfl rfl rfl rfl (by decide) (by decide) (Nat.le_of_ble_eq_true rfl) ?_
    exact (h2 c1)
set_option maxRecDepth 65536 in
set_option maxHeartbeats 4000000 in
theorem L_lastPage_15 {x1 x2 x3 y0 : Int32} {s4 : Slot} {mi : Nat → Nat → Int32} {ml : Nat → Nat → Int64} {Q : Option Value → EMem → Prop} (o4 : One s4)
    (h1 : ¬ y0 < (0 : Int32) → W_lastPage 4 [.val (.ref 0), .val (.int x1), .val (.int y0), .val (.int (x3 + (1 : Int32))), .val (.int y0)] [] (LL1, mi, ml, RR1) Q)
    (h2 : y0 < (0 : Int32) → Q (some (.int x2)) (LL1, mi, ml, RR1)) :
    W_lastPage 15 [.val (.ref 0), .val (.int x1), .val (.int x2), .val (.int x3), s4] [.int y0] (LL1, mi, ml, RR1) Q := by
  refine Wp.istoreO (i := 4) d_lastPage_15 (Or.inl ⟨rfl, rfl⟩) rfl o4 rfl ?_
  show Wp _ _ _ _ _ _ _ 17 _ _ _ _
  refine Wp.p (pc' := 19) d_lastPage_17 rfl rfl ?_
  refine Wp.if_ge d_lastPage_19 rfl (fun c1 => ?_) (fun c1 => ?_)
  ·
    refine Wp.p (pc' := 26) d_lastPage_24 rfl rfl ?_
    refine Wp.p (pc' := 27) d_lastPage_26 rfl rfl ?_
    refine Wp.iinc (1 : Int32) d_lastPage_27 (by decide) rfl rfl ?_
    refine Wp.p (pc' := 4) d_lastPage_30 rfl rfl ?_
    exact (h1 c1)
  ·
    refine Wp.p (pc' := 23) d_lastPage_22 rfl rfl ?_
    refine Wp.retI d_lastPage_23 ?_
    exact (h2 c1)
set_option maxRecDepth 65536 in
set_option maxHeartbeats 4000000 in
theorem L_insertEntry_0 {x1 x2 : Int32} {mi : Nat → Nat → Int32} {ml : Nat → Nat → Int64} {Q : Option Value → EMem → Prop}
    (h1 : W_designated 0 [.val (.ref 0), .val (.int x1), .val (.int (mi 0 114)), .unset, .unset, .unset] [] (LL1, mi, ml, RR1) (fun v M' => W_insertEntry 9 [.val (.ref 0), .val (.int x1), .val (.int x2), .unset, .unset, .unset, .unset] (v.toList ++ []) M' Q)) :
    W_insertEntry 0 [.val (.ref 0), .val (.int x1), .val (.int x2), .unset, .unset, .unset, .unset] [] (LL1, mi, ml, RR1) Q := by
  refine Wp.p (pc' := 1) d_insertEntry_0 rfl rfl ?_
  refine Wp.p (pc' := 2) d_insertEntry_1 rfl rfl ?_
  refine Wp.p (pc' := 3) d_insertEntry_2 rfl rfl ?_
  refine Wp.getI (mi 0 114) d_insertEntry_3 fa_c221 rfl rfl ?_
  refine Wp.callP (a := 0) (as := [.int x1, .int (mi 0 114)]) (rest := []) (w := 0) (F' := 1) (Lb' := 15) d_insertEntry_6 ca_c224_1 rfl rfl rfl rfl (by decide) (by decide) (Nat.le_of_ble_eq_true rfl) ?_
  exact h1
set_option maxRecDepth 65536 in
set_option maxHeartbeats 4000000 in
theorem L_insertEntry_9 {x1 x2 y0 : Int32} {mi : Nat → Nat → Int32} {ml : Nat → Nat → Int64} {Q : Option Value → EMem → Prop}
    (h1 : W_lastPage 0 [.val (.ref 0), .val (.int y0), .unset, .unset, .unset] [] (LL1, mi, ml, RR1) (fun v M' => W_insertEntry 15 [.val (.ref 0), .val (.int x1), .val (.int x2), .val (.int y0), .unset, .unset, .unset] (v.toList ++ []) M' Q)) :
    W_insertEntry 9 [.val (.ref 0), .val (.int x1), .val (.int x2), .unset, .unset, .unset, .unset] [.int y0] (LL1, mi, ml, RR1) Q := by
  refine Wp.p (pc' := 10) d_insertEntry_9 rfl rfl ?_
  refine Wp.p (pc' := 11) d_insertEntry_10 rfl rfl ?_
  refine Wp.p (pc' := 12) d_insertEntry_11 rfl rfl ?_
  refine Wp.callP (a := 0) (as := [.int y0]) (rest := []) (w := 0) (F' := 1) (Lb' := 14) d_insertEntry_12 ca_c252_1 rfl rfl rfl rfl (by decide) (by decide) (Nat.le_of_ble_eq_true rfl) ?_
  exact h1
set_option maxRecDepth 65536 in
set_option maxHeartbeats 4000000 in
theorem L_insertEntry_15 {x1 x2 x3 y0 : Int32} {mi : Nat → Nat → Int32} {ml : Nat → Nat → Int64} {Q : Option Value → EMem → Prop}
    (h1 : W_entries 0 [.val (.ref 0), .val (.int y0), .unset] [] (LL1, mi, ml, RR1) (fun v M' => W_insertEntry 23 [.val (.ref 0), .val (.int x1), .val (.int x2), .val (.int x3), .val (.int y0), .unset, .unset] (v.toList ++ []) M' Q)) :
    W_insertEntry 15 [.val (.ref 0), .val (.int x1), .val (.int x2), .val (.int x3), .unset, .unset, .unset] [.int y0] (LL1, mi, ml, RR1) Q := by
  refine Wp.p (pc' := 17) d_insertEntry_15 rfl rfl ?_
  refine Wp.p (pc' := 18) d_insertEntry_17 rfl rfl ?_
  refine Wp.p (pc' := 20) d_insertEntry_18 rfl rfl ?_
  refine Wp.callP (a := 0) (as := [.int y0]) (rest := []) (w := 0) (F' := 0) (Lb' := 0) d_insertEntry_20 ca_c246_1 rfl rfl rfl rfl (by decide) (by decide) (Nat.le_of_ble_eq_true rfl) ?_
  exact h1
set_option maxRecDepth 65536 in
set_option maxHeartbeats 4000000 in
theorem L_insertEntry_23 {x1 x2 x3 x4 y0 : Int32} {mi : Nat → Nat → Int32} {ml : Nat → Nat → Int64} {Q : Option Value → EMem → Prop}
    (h1 : y0 < (4 : Int32) → W_insertEntry 68 [.val (.ref 0), .val (.int x1), .val (.int x2), .val (.int x3), .val (.int x4), .val (.int y0), .unset] [] (LL1, mi, ml, RR1) Q)
    (u1 : ¬ y0 < (4 : Int32) → False) :
    W_insertEntry 23 [.val (.ref 0), .val (.int x1), .val (.int x2), .val (.int x3), .val (.int x4), .unset, .unset] [.int y0] (LL1, mi, ml, RR1) Q := by
  refine Wp.p (pc' := 25) d_insertEntry_23 rfl rfl ?_
  refine Wp.p (pc' := 27) d_insertEntry_25 rfl rfl ?_
  refine Wp.iconst (4 : Int32) d_insertEntry_27 (by decide) ?_
  refine Wp.icmp_lt d_insertEntry_28 rfl (fun c1 => ?_) (fun c1 => ?_)
  ·
    exact (h1 c1)
  ·
    refine Wp.p (pc' := 32) d_insertEntry_31 rfl rfl ?_
    exact (u1 c1).elim
set_option maxRecDepth 65536 in
set_option maxHeartbeats 4000000 in
theorem L_insertEntry_68 {x1 x2 x3 x4 x5 : Int32} {mi : Nat → Nat → Int32} {ml : Nat → Nat → Int64} {Q : Option Value → EMem → Prop}
    (b1 : inb ((x4 * (4 : Int32)) + x5) 256 = true)
    (b2 : inb x4 64 = true)
    (b3 : inb x4 32 = true)
    (h1 : Q (some (.int (1 : Int32))) (LL1, (up (up (up (up mi 4 (Int32.toNatClampNeg ((x4 * (4 : Int32)) + x5)) x1) 5 (Int32.toNatClampNeg ((x4 * (4 : Int32)) + x5)) x2) 1 (Int32.toNatClampNeg x4) (x5 + (1 : Int32))) 7 (Int32.toNatClampNeg x4) (1 : Int32)), ml, RR1)) :
    W_insertEntry 68 [.val (.ref 0), .val (.int x1), .val (.int x2), .val (.int x3), .val (.int x4), .val (.int x5), .unset] [] (LL1, mi, ml, RR1) Q := by
  refine Wp.p (pc' := 69) d_insertEntry_68 rfl rfl ?_
  refine Wp.getR (b := 4) d_insertEntry_69 fa_c62 rfl rfl ?_
  refine Wp.p (pc' := 74) d_insertEntry_72 rfl rfl ?_
  refine Wp.iconst (4 : Int32) d_insertEntry_74 (by decide) ?_
  refine Wp.p (pc' := 76) d_insertEntry_75 rfl rfl ?_
  refine Wp.p (pc' := 78) d_insertEntry_76 rfl rfl ?_
  refine Wp.p (pc' := 79) d_insertEntry_78 rfl rfl ?_
  refine Wp.p (pc' := 80) d_insertEntry_79 rfl rfl ?_
  refine Wp.iastore d_insertEntry_80 rfl (k := (Int32.toNatClampNeg ((x4 * (4 : Int32)) + x5))) rfl b1 (by decide) ?_
  refine Wp.p (pc' := 82) d_insertEntry_81 rfl rfl ?_
  refine Wp.getR (b := 5) d_insertEntry_82 fa_c65 rfl rfl ?_
  refine Wp.p (pc' := 87) d_insertEntry_85 rfl rfl ?_
  refine Wp.iconst (4 : Int32) d_insertEntry_87 (by decide) ?_
  refine Wp.p (pc' := 89) d_insertEntry_88 rfl rfl ?_
  refine Wp.p (pc' := 91) d_insertEntry_89 rfl rfl ?_
  refine Wp.p (pc' := 92) d_insertEntry_91 rfl rfl ?_
  refine Wp.p (pc' := 93) d_insertEntry_92 rfl rfl ?_
  refine Wp.iastore d_insertEntry_93 rfl (k := (Int32.toNatClampNeg ((x4 * (4 : Int32)) + x5))) rfl b1 (by decide) ?_
  refine Wp.p (pc' := 95) d_insertEntry_94 rfl rfl ?_
  refine Wp.getR (b := 1) d_insertEntry_95 fa_c52 rfl rfl ?_
  refine Wp.p (pc' := 100) d_insertEntry_98 rfl rfl ?_
  refine Wp.p (pc' := 102) d_insertEntry_100 rfl rfl ?_
  refine Wp.iconst (1 : Int32) d_insertEntry_102 (by decide) ?_
  refine Wp.p (pc' := 104) d_insertEntry_103 rfl rfl ?_
  refine Wp.iastore d_insertEntry_104 rfl (k := (Int32.toNatClampNeg x4)) rfl b2 (by decide) ?_
  refine Wp.p (pc' := 106) d_insertEntry_105 rfl rfl ?_
  refine Wp.getR (b := 7) d_insertEntry_106 fa_c72 rfl rfl ?_
  refine Wp.p (pc' := 111) d_insertEntry_109 rfl rfl ?_
  refine Wp.iconst (1 : Int32) d_insertEntry_111 (by decide) ?_
  refine Wp.bastore (1 : Int32) d_insertEntry_112 rfl (k := (Int32.toNatClampNeg x4)) rfl b3 (by decide) (by decide) ?_
  refine Wp.iconst (1 : Int32) d_insertEntry_113 (by decide) ?_
  refine Wp.retZ (1 : Int32) d_insertEntry_114 (by decide) ?_
  exact h1
set_option maxRecDepth 65536 in
set_option maxHeartbeats 4000000 in
theorem L_growIfNeeded_0 {mi : Nat → Nat → Int32} {ml : Nat → Nat → Int64} {Q : Option Value → EMem → Prop}
    (h1 : ¬ ((3 : Int32) * (mi 0 114)) < (mi 0 154) → Q none (LL1, mi, ml, RR1))
    (h2 : ((3 : Int32) * (mi 0 114)) < (mi 0 154) → ¬ (mi 0 114) < (16 : Int32) → Q none (LL1, mi, ml, RR1))
    (u1 : ((3 : Int32) * (mi 0 114)) < (mi 0 154) → (mi 0 114) < (16 : Int32) → False) :
    W_growIfNeeded 0 [.val (.ref 0)] [] (LL1, mi, ml, RR1) Q := by
  refine Wp.p (pc' := 1) d_growIfNeeded_0 rfl rfl ?_
  refine Wp.getI (mi 0 154) d_growIfNeeded_1 fa_c141 rfl rfl ?_
  refine Wp.iconst (3 : Int32) d_growIfNeeded_4 (by decide) ?_
  refine Wp.p (pc' := 6) d_growIfNeeded_5 rfl rfl ?_
  refine Wp.getI (mi 0 114) d_growIfNeeded_6 fa_c221 rfl rfl ?_
  refine Wp.p (pc' := 10) d_growIfNeeded_9 rfl rfl ?_
  refine Wp.icmp_le d_growIfNeeded_10 rfl (fun c1 => ?_) (fun c1 => ?_)
  ·
    refine Wp.retV d_growIfNeeded_26 ?_
    exact (h1 c1)
  ·
    refine Wp.p (pc' := 14) d_growIfNeeded_13 rfl rfl ?_
    refine Wp.getI (mi 0 114) d_growIfNeeded_14 fa_c221 rfl rfl ?_
    refine Wp.bipush (16 : Int32) d_growIfNeeded_17 (by decide) ?_
    refine Wp.icmp_ge d_growIfNeeded_19 rfl (fun c2 => ?_) (fun c2 => ?_)
    ·
      refine Wp.retV d_growIfNeeded_26 ?_
      exact (h2 c1 c2)
    ·
      refine Wp.p (pc' := 23) d_growIfNeeded_22 rfl rfl ?_
      exact (u1 c1 c2).elim
set_option maxRecDepth 65536 in
set_option maxHeartbeats 4000000 in
theorem L_put_0 {x1 x2 : Int32} {mi : Nat → Nat → Int32} {ml : Nat → Nat → Int64} {Q : Option Value → EMem → Prop}
    (h1 : ¬ (mi 0 88) = (2 : Int32) → (mi 0 88) = (1 : Int32) → (mi 0 94) < (mi 0 70) → W_findSlot 0 [.val (.ref 0), .val (.int x1), .unset, .unset, .unset] [] (LL1, mi, ml, RR1) (fun v M' => W_put 40 [.val (.ref 0), .val (.int x1), .val (.int x2), .unset] (v.toList ++ []) M' Q))
    (h2 : ¬ (mi 0 88) = (2 : Int32) → (mi 0 88) = (1 : Int32) → ¬ (mi 0 94) < (mi 0 70) → Q (some (.int (-4 : Int32))) (LL1, mi, ml, RR1))
    (h3 : ¬ (mi 0 88) = (2 : Int32) → ¬ (mi 0 88) = (1 : Int32) → Q (some (.int (-2 : Int32))) (LL1, mi, ml, RR1))
    (h4 : (mi 0 88) = (2 : Int32) → Q (some (.int (-1 : Int32))) (LL1, mi, ml, RR1)) :
    W_put 0 [.val (.ref 0), .val (.int x1), .val (.int x2), .unset] [] (LL1, mi, ml, RR1) Q := by
  refine Wp.p (pc' := 1) d_put_0 rfl rfl ?_
  refine Wp.getI (mi 0 88) d_put_1 fa_c103 rfl rfl ?_
  refine Wp.iconst (2 : Int32) d_put_4 (by decide) ?_
  refine Wp.icmp_ne d_put_5 rfl (fun c1 => ?_) (fun c1 => ?_)
  ·
    refine Wp.p (pc' := 11) d_put_10 rfl rfl ?_
    refine Wp.getI (mi 0 88) d_put_11 fa_c103 rfl rfl ?_
    refine Wp.iconst (1 : Int32) d_put_14 (by decide) ?_
    refine Wp.icmp_eq d_put_15 rfl (fun c2 => ?_) (fun c2 => ?_)
    ·
      refine Wp.p (pc' := 22) d_put_21 rfl rfl ?_
      refine Wp.getI (mi 0 94) d_put_22 fa_c113 rfl rfl ?_
      refine Wp.p (pc' := 26) d_put_25 rfl rfl ?_
      refine Wp.getI (mi 0 70) d_put_26 fa_c97 rfl rfl ?_
      refine Wp.icmp_lt d_put_29 rfl (fun c3 => ?_) (fun c3 => ?_)
      ·
        refine Wp.p (pc' := 36) d_put_35 rfl rfl ?_
        refine Wp.p (pc' := 37) d_put_36 rfl rfl ?_
        refine Wp.callP (a := 0) (as := [.int x1]) (rest := []) (w := 0) (F' := 2) (Lb' := 32) d_put_37 ca_c137_1 rfl rfl rfl rfl (by decide) (by decide) (Nat.le_of_ble_eq_true rfl) ?_
        exact (h1 c1 c2 c3)
      ·
        refine Wp.bipush (-4 : Int32) d_put_32 (by decide) ?_
        refine Wp.retI d_put_34 ?_
        exact (h2 c1 c2 c3)
    ·
      refine Wp.bipush (-2 : Int32) d_put_18 (by decide) ?_
      refine Wp.retI d_put_20 ?_
      exact (h3 c1 c2)
  ·
    refine Wp.iconst (-1 : Int32) d_put_8 (by decide) ?_
    refine Wp.retI d_put_9 ?_
    exact (h4 c1)
set_option maxRecDepth 65536 in
set_option maxHeartbeats 4000000 in
theorem L_put_40 {x1 x2 y0 : Int32} {mi : Nat → Nat → Int32} {ml : Nat → Nat → Int64} {Q : Option Value → EMem → Prop}
    (h1 : ¬ y0 < (0 : Int32) → W_put 59 [.val (.ref 0), .val (.int x1), .val (.int x2), .val (.int y0)] [] (LL1, mi, ml, RR1) Q)
    (h2 : y0 < (0 : Int32) → (mi 0 154) < (mi 0 68) → W_put 59 [.val (.ref 0), .val (.int x1), .val (.int x2), .val (.int y0)] [] (LL1, mi, ml, RR1) Q)
    (h3 : y0 < (0 : Int32) → ¬ (mi 0 154) < (mi 0 68) → Q (some (.int (-5 : Int32))) (LL1, mi, ml, RR1)) :
    W_put 40 [.val (.ref 0), .val (.int x1), .val (.int x2), .unset] [.int y0] (LL1, mi, ml, RR1) Q := by
  refine Wp.p (pc' := 41) d_put_40 rfl rfl ?_
  refine Wp.p (pc' := 42) d_put_41 rfl rfl ?_
  refine Wp.if_ge d_put_42 rfl (fun c1 => ?_) (fun c1 => ?_)
  ·
    exact (h1 c1)
  ·
    refine Wp.p (pc' := 46) d_put_45 rfl rfl ?_
    refine Wp.getI (mi 0 154) d_put_46 fa_c141 rfl rfl ?_
    refine Wp.p (pc' := 50) d_put_49 rfl rfl ?_
    refine Wp.getI (mi 0 68) d_put_50 fa_c94 rfl rfl ?_
    refine Wp.icmp_lt d_put_53 rfl (fun c2 => ?_) (fun c2 => ?_)
    ·
      exact (h2 c1 c2)
    ·
      refine Wp.bipush (-5 : Int32) d_put_56 (by decide) ?_
      refine Wp.retI d_put_58 ?_
      exact (h3 c1 c2)
set_option maxRecDepth 65536 in
set_option maxHeartbeats 4000000 in
theorem L_put_59 {x1 x2 x3 : Int32} {mi : Nat → Nat → Int32} {ml : Nat → Nat → Int64} {Q : Option Value → EMem → Prop}
    (h1 : (mi 0 90) = (0 : Int32) → x3 < (0 : Int32) → W_insertEntry 0 [.val (.ref 0), .val (.int x1), .val (.int x2), .unset, .unset, .unset, .unset] [] (LL1, (up mi 0 94 ((mi 0 94) + (1 : Int32))), ml, RR1) (fun v M' => W_put 109 [.val (.ref 0), .val (.int x1), .val (.int x2), .val (.int x3)] (v.toList ++ []) M' Q))
    (b1 : (mi 0 90) = (0 : Int32) → ¬ x3 < (0 : Int32) → inb x3 256 = true)
    (b2 : (mi 0 90) = (0 : Int32) → ¬ x3 < (0 : Int32) → inb (x3 / (4 : Int32)) 32 = true)
    (h2 : (mi 0 90) = (0 : Int32) → ¬ x3 < (0 : Int32) → Q (some (.int (2 : Int32))) (LL1, (up (up (up mi 0 94 ((mi 0 94) + (1 : Int32))) 5 (Int32.toNatClampNeg x3) x2) 7 (Int32.toNatClampNeg (x3 / (4 : Int32))) (1 : Int32)), ml, RR1))
    (u1 : ¬ (mi 0 90) = (0 : Int32) → False) :
    W_put 59 [.val (.ref 0), .val (.int x1), .val (.int x2), .val (.int x3)] [] (LL1, mi, ml, RR1) Q := by
  refine Wp.p (pc' := 60) d_put_59 rfl rfl ?_
  refine Wp.getZ (mi 0 90) d_put_60 fa_c106 rfl rfl ?_
  refine Wp.if_eq d_put_63 rfl (fun c1 => ?_) (fun c1 => ?_)
  ·
    refine Wp.p (pc' := 72) d_put_71 rfl rfl ?_
    refine Wp.p (pc' := 73) d_put_72 rfl rfl ?_
    refine Wp.getI (mi 0 94) d_put_73 fa_c113 rfl rfl ?_
    refine Wp.iconst (1 : Int32) d_put_76 (by decide) ?_
    refine Wp.p (pc' := 78) d_put_77 rfl rfl ?_
    refine Wp.putI d_put_78 fa_c113 rfl (by decide) in_LinearHashLog (Or.inl rfl) ?_
    refine Wp.p (pc' := 82) d_put_81 rfl rfl ?_
    refine Wp.if_lt d_put_82 rfl (fun c2 => ?_) (fun c2 => ?_)
    ·
      refine Wp.p (pc' := 104) d_put_103 rfl rfl ?_
      refine Wp.p (pc' := 105) d_put_104 rfl rfl ?_
      refine Wp.p (pc' := 106) d_put_105 rfl rfl ?_
      refine Wp.callP (a := 0) (as := [.int x1, .int x2]) (rest := []) (w := 0) (F' := 2) (Lb' := 32) d_put_106 ca_c148_1 rfl rfl rfl rfl (by decide) (by decide) (Nat.le_of_ble_eq_true rfl) ?_
      exact (h1 c1 c2)
    ·
      refine Wp.p (pc' := 86) d_put_85 rfl rfl ?_
      refine Wp.getR (b := 5) d_put_86 fa_c65 rfl rfl ?_
      refine Wp.p (pc' := 90) d_put_89 rfl rfl ?_
      refine Wp.p (pc' := 91) d_put_90 rfl rfl ?_
      refine Wp.iastore d_put_91 rfl (k := (Int32.toNatClampNeg x3)) rfl (b1 c1 c2) (by decide) ?_
      refine Wp.p (pc' := 93) d_put_92 rfl rfl ?_
      refine Wp.getR (b := 7) d_put_93 fa_c72 rfl rfl ?_
      refine Wp.p (pc' := 97) d_put_96 rfl rfl ?_
      refine Wp.iconst (4 : Int32) d_put_97 (by decide) ?_
      refine Wp.idiv d_put_98 (by decide) ?_
      refine Wp.iconst (1 : Int32) d_put_99 (by decide) ?_
      refine Wp.bastore (1 : Int32) d_put_100 rfl (k := (Int32.toNatClampNeg (x3 / (4 : Int32)))) rfl (b2 c1 c2) (by decide) (by decide) ?_
      refine Wp.iconst (2 : Int32) d_put_101 (by decide) ?_
      refine Wp.retI d_put_102 ?_
      exact (h2 c1 c2)
  ·
    refine Wp.p (pc' := 67) d_put_66 rfl rfl ?_
    exact (u1 c1).elim
set_option maxRecDepth 65536 in
set_option maxHeartbeats 4000000 in
theorem L_put_109 {x1 x2 x3 y0 : Int32} {mi : Nat → Nat → Int32} {ml : Nat → Nat → Int64} {Q : Option Value → EMem → Prop}
    (h1 : y0 = (0 : Int32) → W_put 127 [.val (.ref 0), .val (.int x1), .val (.int x2), .val (.int x3)] [] (LL1, mi, ml, RR1) Q)
    (h2 : ¬ y0 = (0 : Int32) → W_put 127 [.val (.ref 0), .val (.int x1), .val (.int x2), .val (.int x3)] [] (LL1, (up (up mi 0 154 ((mi 0 154) + (1 : Int32))) 0 104 (0 : Int32)), ml, RR1) Q) :
    W_put 109 [.val (.ref 0), .val (.int x1), .val (.int x2), .val (.int x3)] [.int y0] (LL1, mi, ml, RR1) Q := by
  refine Wp.if_eq d_put_109 rfl (fun c1 => ?_) (fun c1 => ?_)
  ·
    exact (h1 c1)
  ·
    refine Wp.p (pc' := 113) d_put_112 rfl rfl ?_
    refine Wp.p (pc' := 114) d_put_113 rfl rfl ?_
    refine Wp.getI (mi 0 154) d_put_114 fa_c141 rfl rfl ?_
    refine Wp.iconst (1 : Int32) d_put_117 (by decide) ?_
    refine Wp.p (pc' := 119) d_put_118 rfl rfl ?_
    refine Wp.putI d_put_119 fa_c141 rfl (by decide) in_LinearHashLog (Or.inl rfl) ?_
    refine Wp.p (pc' := 123) d_put_122 rfl rfl ?_
    refine Wp.iconst (0 : Int32) d_put_123 (by decide) ?_
    refine Wp.putZ (0 : Int32) d_put_124 fa_c128 rfl (by decide) in_LinearHashLog (Or.inl rfl) (by decide) ?_
    exact (h2 c1)
set_option maxRecDepth 65536 in
set_option maxHeartbeats 4000000 in
theorem L_put_127 {x1 x2 x3 : Int32} {mi : Nat → Nat → Int32} {ml : Nat → Nat → Int64} {Q : Option Value → EMem → Prop}
    (h1 : W_growIfNeeded 0 [.val (.ref 0)] [] (LL1, mi, ml, RR1) (fun v M' => W_put 131 [.val (.ref 0), .val (.int x1), .val (.int x2), .val (.int x3)] (v.toList ++ []) M' Q)) :
    W_put 127 [.val (.ref 0), .val (.int x1), .val (.int x2), .val (.int x3)] [] (LL1, mi, ml, RR1) Q := by
  refine Wp.p (pc' := 128) d_put_127 rfl rfl ?_
  refine Wp.callP (a := 0) (as := []) (rest := []) (w := 0) (F' := 0) (Lb' := 0) d_put_128 ca_c152_1 rfl rfl rfl rfl (by decide) (by decide) (Nat.le_of_ble_eq_true rfl) ?_
  exact h1
set_option maxRecDepth 65536 in
set_option maxHeartbeats 4000000 in
theorem L_put_131 {x1 x2 x3 : Int32} {mi : Nat → Nat → Int32} {ml : Nat → Nat → Int64} {Q : Option Value → EMem → Prop}
    (h1 : Q (some (.int (1 : Int32))) (LL1, mi, ml, RR1)) :
    W_put 131 [.val (.ref 0), .val (.int x1), .val (.int x2), .val (.int x3)] [] (LL1, mi, ml, RR1) Q := by
  refine Wp.iconst (1 : Int32) d_put_131 (by decide) ?_
  refine Wp.retI d_put_132 ?_
  exact h1
set_option maxRecDepth 65536 in
set_option maxHeartbeats 4000000 in
theorem L_get_0 {x1 : Int32} {mi : Nat → Nat → Int32} {ml : Nat → Nat → Int64} {Q : Option Value → EMem → Prop}
    (h1 : ¬ (mi 0 88) = (2 : Int32) → W_findSlot 0 [.val (.ref 0), .val (.int x1), .unset, .unset, .unset] [] (LL1, mi, ml, RR1) (fun v M' => W_get 15 [.val (.ref 0), .val (.int x1), .unset] (v.toList ++ []) M' Q))
    (h2 : (mi 0 88) = (2 : Int32) → Q (some (.int (0 : Int32))) (LL1, mi, ml, RR1)) :
    W_get 0 [.val (.ref 0), .val (.int x1), .unset] [] (LL1, mi, ml, RR1) Q := by
  refine Wp.p (pc' := 1) d_get_0 rfl rfl ?_
  refine Wp.getI (mi 0 88) d_get_1 fa_c103 rfl rfl ?_
  refine Wp.iconst (2 : Int32) d_get_4 (by decide) ?_
  refine Wp.icmp_ne d_get_5 rfl (fun c1 => ?_) (fun c1 => ?_)
  ·
    refine Wp.p (pc' := 11) d_get_10 rfl rfl ?_
    refine Wp.p (pc' := 12) d_get_11 rfl rfl ?_
    refine Wp.callP (a := 0) (as := [.int x1]) (rest := []) (w := 0) (F' := 2) (Lb' := 32) d_get_12 ca_c137_1 rfl rfl rfl rfl (by decide) (by decide) (Nat.le_of_ble_eq_true rfl) ?_
    exact (h1 c1)
  ·
    refine Wp.iconst (0 : Int32) d_get_8 (by decide) ?_
    refine Wp.retI d_get_9 ?_
    exact (h2 c1)
set_option maxRecDepth 65536 in
set_option maxHeartbeats 4000000 in
theorem L_get_15 {x1 y0 : Int32} {mi : Nat → Nat → Int32} {ml : Nat → Nat → Int64} {Q : Option Value → EMem → Prop}
    (b1 : ¬ y0 < (0 : Int32) → inb y0 256 = true)
    (h1 : ∀ v1 : Int32, v1 = (if y0 < (0 : Int32) then (0 : Int32) else (mi 5 (Int32.toNatClampNeg y0))) → Q (some (.int v1)) (LL1, mi, ml, RR1)) :
    W_get 15 [.val (.ref 0), .val (.int x1), .unset] [.int y0] (LL1, mi, ml, RR1) Q := by
  refine Wp.p (pc' := 16) d_get_15 rfl rfl ?_
  refine Wp.p (pc' := 17) d_get_16 rfl rfl ?_
  obtain ⟨v1, e1⟩ : ∃ z : Int32, z = (if y0 < (0 : Int32) then (0 : Int32) else (mi 5 (Int32.toNatClampNeg y0))) := ⟨_, rfl⟩
  suffices K : Q (some (.int v1)) (LL1, mi, ml, RR1) by
    refine Wp.if_ge d_get_17 rfl (fun q0 => ?_) (fun q0 => ?_)
    ·
      refine Wp.p (pc' := 23) d_get_22 rfl rfl ?_
      refine Wp.getR (b := 5) d_get_23 fa_c65 rfl rfl ?_
      refine Wp.p (pc' := 27) d_get_26 rfl rfl ?_
      refine Wp.iaload (mi 5 (Int32.toNatClampNeg y0)) d_get_27 rfl (k := (Int32.toNatClampNeg y0)) rfl (b1 q0) rfl ?_
      refine Wp.retI d_get_28 ?_
      rw [if_neg q0] at e1; subst e1
      exact K
    ·
      refine Wp.iconst (0 : Int32) d_get_20 (by decide) ?_
      refine Wp.retI d_get_21 ?_
      rw [if_pos q0] at e1; subst e1
      exact K
  exact (h1 v1 e1)
set_option maxRecDepth 65536 in
set_option maxHeartbeats 4000000 in
theorem L_law_0 {x0 x1 x2 x3 x4 x5 : Int32} {mi : Nat → Nat → Int32} {ml : Nat → Nat → Int64} {Q : Option Value → EMem → Prop}
    (h1 : W_init 0 [.val (.ref 0), .val (.int x0), .val (.int (4 : Int32)), .val (.int x1)] [] ([(0, "LinearHashLog", 46)], mi, ml, (fun _ _ => Value.null)) (fun v M' => W_law 10 [.val (.int x0), .val (.int x1), .val (.int x2), .val (.int x3), .val (.int x4), .val (.int x5), .unset, .unset, .unset, .unset, .unset, .unset, .unset, .unset, .unset, .unset] (v.toList ++ [.ref 0]) M' Q)) :
    W_law 0 [.val (.int x0), .val (.int x1), .val (.int x2), .val (.int x3), .val (.int x4), .val (.int x5), .unset, .unset, .unset, .unset, .unset, .unset, .unset, .unset, .unset, .unset] [] ([], mi, ml, (fun _ _ => Value.null)) Q := by
  refine Wp.new (a := 0) (L' := [(0, "LinearHashLog", 46)]) d_law_0 na_w7 rfl rfl ?_
  refine Wp.p (pc' := 4) d_law_3 rfl rfl ?_
  refine Wp.p (pc' := 5) d_law_4 rfl rfl ?_
  refine Wp.iconst (4 : Int32) d_law_5 (by decide) ?_
  refine Wp.p (pc' := 7) d_law_6 rfl rfl ?_
  refine Wp.callI (a := 0) (as := [.int x0, .int (4 : Int32), .int x1]) (rest := [.ref 0]) (w := 1) (F' := 4) (Lb' := 60) d_law_7 on_w9 ca_w9_2 rfl rfl rfl (by decide) (by decide) (Nat.le_of_ble_eq_true rfl) ?_
  exact h1
set_option maxRecDepth 65536 in
set_option maxHeartbeats 4000000 in
theorem L_law_10 {x0 x1 x2 x3 x4 x5 : Int32} {mi : Nat → Nat → Int32} {ml : Nat → Nat → Int64} {Q : Option Value → EMem → Prop}
    (h1 : ∀ v1 : Int32, v1 = (if x0 < (1 : Int32) then (1 : Int32) else (if (4 : Int32) < x0 then (4 : Int32) else x0)) → ∀ v2 : Int32, v2 = (if x1 < (1 : Int32) then (1 : Int32) else (if (8 : Int32) < x1 then (8 : Int32) else x1)) → ∀ v3 : Int32, v3 = (if v2 = (1 : Int32) then (1 : Int32) else (0 : Int32)) → ∀ v4 : Int32, v4 = (if x2 = x4 then (1 : Int32) else (0 : Int32)) → W_begin 0 [.val (.ref 0)] [] (LL1, mi, ml, RR1) (fun v M' => W_law 87 [.val (.int x0), .val (.int x1), .val (.int x2), .val (.int x3), .val (.int x4), .val (.int x5), .val (.ref 0), .val (.int v1), .val (.int v2), .val (.int v3), .val (.int v4), .unset, .unset, .unset, .unset, .unset] (v.toList ++ []) M' Q)) :
    W_law 10 [.val (.int x0), .val (.int x1), .val (.int x2), .val (.int x3), .val (.int x4), .val (.int x5), .unset, .unset, .unset, .unset, .unset, .unset, .unset, .unset, .unset, .unset] [.ref 0] (LL1, mi, ml, RR1) Q := by
  refine Wp.p (pc' := 12) d_law_10 rfl rfl ?_
  refine Wp.p (pc' := 13) d_law_12 rfl rfl ?_
  refine Wp.iconst (1 : Int32) d_law_13 (by decide) ?_
  obtain ⟨v1, e1⟩ : ∃ z : Int32, z = (if x0 < (1 : Int32) then (1 : Int32) else (if (4 : Int32) < x0 then (4 : Int32) else x0)) := ⟨_, rfl⟩
  suffices K : W_law 31 [.val (.int x0), .val (.int x1), .val (.int x2), .val (.int x3), .val (.int x4), .val (.int x5), .val (.ref 0), .unset, .unset, .unset, .unset, .unset, .unset, .unset, .unset, .unset] [.int v1] (LL1, mi, ml, RR1) Q by
    refine Wp.icmp_ge d_law_14 rfl (fun q0 => ?_) (fun q0 => ?_)
    ·
      refine Wp.p (pc' := 22) d_law_21 rfl rfl ?_
      refine Wp.iconst (4 : Int32) d_law_22 (by decide) ?_
      refine Wp.icmp_le d_law_23 rfl (fun q1 => ?_) (fun q1 => ?_)
      ·
        refine Wp.p (pc' := 31) d_law_30 rfl rfl ?_
        rw [if_neg q0, if_neg q1] at e1; subst e1
        exact K
      ·
        refine Wp.iconst (4 : Int32) d_law_26 (by decide) ?_
        refine Wp.p (pc' := 31) d_law_27 rfl rfl ?_
        rw [if_neg q0, if_pos q1] at e1; subst e1
        exact K
    ·
      refine Wp.iconst (1 : Int32) d_law_17 (by decide) ?_
      refine Wp.p (pc' := 31) d_law_18 rfl rfl ?_
      rw [if_pos q0] at e1; subst e1
      exact K
  refine Wp.p (pc' := 33) d_law_31 rfl rfl ?_
  refine Wp.p (pc' := 34) d_law_33 rfl rfl ?_
  refine Wp.iconst (1 : Int32) d_law_34 (by decide) ?_
  obtain ⟨v2, e2⟩ : ∃ z : Int32, z = (if x1 < (1 : Int32) then (1 : Int32) else (if (8 : Int32) < x1 then (8 : Int32) else x1)) := ⟨_, rfl⟩
  suffices K : W_law 54 [.val (.int x0), .val (.int x1), .val (.int x2), .val (.int x3), .val (.int x4), .val (.int x5), .val (.ref 0), .val (.int v1), .unset, .unset, .unset, .unset, .unset, .unset, .unset, .unset] [.int v2] (LL1, mi, ml, RR1) Q by
    refine Wp.icmp_ge d_law_35 rfl (fun q0 => ?_) (fun q0 => ?_)
    ·
      refine Wp.p (pc' := 43) d_law_42 rfl rfl ?_
      refine Wp.bipush (8 : Int32) d_law_43 (by decide) ?_
      refine Wp.icmp_le d_law_45 rfl (fun q1 => ?_) (fun q1 => ?_)
      ·
        refine Wp.p (pc' := 54) d_law_53 rfl rfl ?_
        rw [if_neg q0, if_neg q1] at e2; subst e2
        exact K
      ·
        refine Wp.bipush (8 : Int32) d_law_48 (by decide) ?_
        refine Wp.p (pc' := 54) d_law_50 rfl rfl ?_
        rw [if_neg q0, if_pos q1] at e2; subst e2
        exact K
    ·
      refine Wp.iconst (1 : Int32) d_law_38 (by decide) ?_
      refine Wp.p (pc' := 54) d_law_39 rfl rfl ?_
      rw [if_pos q0] at e2; subst e2
      exact K
  refine Wp.p (pc' := 56) d_law_54 rfl rfl ?_
  refine Wp.p (pc' := 58) d_law_56 rfl rfl ?_
  refine Wp.iconst (1 : Int32) d_law_58 (by decide) ?_
  obtain ⟨v3, e3⟩ : ∃ z : Int32, z = (if v2 = (1 : Int32) then (1 : Int32) else (0 : Int32)) := ⟨_, rfl⟩
  suffices K : W_law 67 [.val (.int x0), .val (.int x1), .val (.int x2), .val (.int x3), .val (.int x4), .val (.int x5), .val (.ref 0), .val (.int v1), .val (.int v2), .unset, .unset, .unset, .unset, .unset, .unset, .unset] [.int v3] (LL1, mi, ml, RR1) Q by
    refine Wp.icmp_ne d_law_59 rfl (fun q0 => ?_) (fun q0 => ?_)
    ·
      refine Wp.iconst (0 : Int32) d_law_66 (by decide) ?_
      rw [if_neg q0] at e3; subst e3
      exact K
    ·
      refine Wp.iconst (1 : Int32) d_law_62 (by decide) ?_
      refine Wp.p (pc' := 67) d_law_63 rfl rfl ?_
      rw [if_pos q0] at e3; subst e3
      exact K
  refine Wp.p (pc' := 69) d_law_67 rfl rfl ?_
  refine Wp.p (pc' := 70) d_law_69 rfl rfl ?_
  refine Wp.p (pc' := 72) d_law_70 rfl rfl ?_
  obtain ⟨v4, e4⟩ : ∃ z : Int32, z = (if x2 = x4 then (1 : Int32) else (0 : Int32)) := ⟨_, rfl⟩
  suffices K : W_law 80 [.val (.int x0), .val (.int x1), .val (.int x2), .val (.int x3), .val (.int x4), .val (.int x5), .val (.ref 0), .val (.int v1), .val (.int v2), .val (.int v3), .unset, .unset, .unset, .unset, .unset, .unset] [.int v4] (LL1, mi, ml, RR1) Q by
    refine Wp.icmp_ne d_law_72 rfl (fun q0 => ?_) (fun q0 => ?_)
    ·
      refine Wp.iconst (0 : Int32) d_law_79 (by decide) ?_
      rw [if_neg q0] at e4; subst e4
      exact K
    ·
      refine Wp.iconst (1 : Int32) d_law_75 (by decide) ?_
      refine Wp.p (pc' := 80) d_law_76 rfl rfl ?_
      rw [if_pos q0] at e4; subst e4
      exact K
  refine Wp.p (pc' := 82) d_law_80 rfl rfl ?_
  refine Wp.p (pc' := 84) d_law_82 rfl rfl ?_
  refine Wp.callV (a := 0) (as := []) (rest := []) (w := 0) (F' := 1) (Lb' := 13) d_law_84 ca_w12_0n ca_w12_0 rfl rfl rfl rfl (by decide) (by decide) (Nat.le_of_ble_eq_true rfl) ?_
  exact (h1 v1 e1 v2 e2 v3 e3 v4 e4)
set_option maxRecDepth 65536 in
set_option maxHeartbeats 4000000 in
theorem L_law_87 {x0 x1 x2 x3 x4 x5 x7 x8 x9 x10 y0 : Int32} {mi : Nat → Nat → Int32} {ml : Nat → Nat → Int64} {Q : Option Value → EMem → Prop}
    (h1 : y0 = (0 : Int32) → W_put 0 [.val (.ref 0), .val (.int x2), .val (.int x3), .unset] [] (LL1, mi, ml, RR1) (fun v M' => W_law 99 [.val (.int x0), .val (.int x1), .val (.int x2), .val (.int x3), .val (.int x4), .val (.int x5), .val (.ref 0), .val (.int x7), .val (.int x8), .val (.int x9), .val (.int x10), .unset, .unset, .unset, .unset, .unset] (v.toList ++ []) M' Q))
    (h2 : ¬ y0 = (0 : Int32) → Q (some (.int (0 : Int32))) (LL1, mi, ml, RR1)) :
    W_law 87 [.val (.int x0), .val (.int x1), .val (.int x2), .val (.int x3), .val (.int x4), .val (.int x5), .val (.ref 0), .val (.int x7), .val (.int x8), .val (.int x9), .val (.int x10), .unset, .unset, .unset, .unset, .unset] [.int y0] (LL1, mi, ml, RR1) Q := by
  refine Wp.if_eq d_law_87 rfl (fun c1 => ?_) (fun c1 => ?_)
  ·
    refine Wp.p (pc' := 94) d_law_92 rfl rfl ?_
    refine Wp.p (pc' := 95) d_law_94 rfl rfl ?_
    refine Wp.p (pc' := 96) d_law_95 rfl rfl ?_
    refine Wp.callV (a := 0) (as := [.int x2, .int x3]) (rest := []) (w := 0) (F' := 3) (Lb' := 50) d_law_96 ca_w16_0n ca_w16_0 rfl rfl rfl rfl (by decide) (by decide) (Nat.le_of_ble_eq_true rfl) ?_
    exact (h1 c1)
  ·
    refine Wp.iconst (0 : Int32) d_law_90 (by decide) ?_
    refine Wp.retZ (0 : Int32) d_law_91 (by decide) ?_
    exact (h2 c1)
set_option maxRecDepth 65536 in
set_option maxHeartbeats 4000000 in
theorem L_law_99 {x0 x1 x2 x3 x4 x5 x7 x8 x9 x10 y0 : Int32} {mi : Nat → Nat → Int32} {ml : Nat → Nat → Int64} {Q : Option Value → EMem → Prop}
    (h1 : y0 = (1 : Int32) → ∀ v2 : Int32, v2 = (if x9 = (0 : Int32) then (if x10 = (0 : Int32) then (1 : Int32) else (2 : Int32)) else (-4 : Int32)) → W_put 0 [.val (.ref 0), .val (.int x4), .val (.int x5), .unset] [] (LL1, mi, ml, RR1) (fun v M' => W_law 136 [.val (.int x0), .val (.int x1), .val (.int x2), .val (.int x3), .val (.int x4), .val (.int x5), .val (.ref 0), .val (.int x7), .val (.int x8), .val (.int x9), .val (.int x10), .val (.int v2), .unset, .unset, .unset, .unset] (v.toList ++ []) M' Q))
    (h2 : ¬ y0 = (1 : Int32) → Q (some (.int (0 : Int32))) (LL1, mi, ml, RR1)) :
    W_law 99 [.val (.int x0), .val (.int x1), .val (.int x2), .val (.int x3), .val (.int x4), .val (.int x5), .val (.ref 0), .val (.int x7), .val (.int x8), .val (.int x9), .val (.int x10), .unset, .unset, .unset, .unset, .unset] [.int y0] (LL1, mi, ml, RR1) Q := by
  refine Wp.iconst (1 : Int32) d_law_99 (by decide) ?_
  refine Wp.icmp_eq d_law_100 rfl (fun c1 => ?_) (fun c1 => ?_)
  ·
    refine Wp.p (pc' := 107) d_law_105 rfl rfl ?_
    obtain ⟨v2, e2⟩ : ∃ z : Int32, z = (if x9 = (0 : Int32) then (if x10 = (0 : Int32) then (1 : Int32) else (2 : Int32)) else (-4 : Int32)) := ⟨_, rfl⟩
    suffices K : W_law 125 [.val (.int x0), .val (.int x1), .val (.int x2), .val (.int x3), .val (.int x4), .val (.int x5), .val (.ref 0), .val (.int x7), .val (.int x8), .val (.int x9), .val (.int x10), .unset, .unset, .unset, .unset, .unset] [.int v2] (LL1, mi, ml, RR1) Q by
      refine Wp.if_eq d_law_107 rfl (fun q0 => ?_) (fun q0 => ?_)
      ·
        refine Wp.p (pc' := 117) d_law_115 rfl rfl ?_
        refine Wp.if_eq d_law_117 rfl (fun q1 => ?_) (fun q1 => ?_)
        ·
          refine Wp.iconst (1 : Int32) d_law_124 (by decide) ?_
          rw [if_pos q0, if_pos q1] at e2; subst e2
          exact K
        ·
          refine Wp.iconst (2 : Int32) d_law_120 (by decide) ?_
          refine Wp.p (pc' := 125) d_law_121 rfl rfl ?_
          rw [if_pos q0, if_neg q1] at e2; subst e2
          exact K
      ·
        refine Wp.bipush (-4 : Int32) d_law_110 (by decide) ?_
        refine Wp.p (pc' := 125) d_law_112 rfl rfl ?_
        rw [if_neg q0] at e2; subst e2
        exact K
    refine Wp.p (pc' := 127) d_law_125 rfl rfl ?_
    refine Wp.p (pc' := 129) d_law_127 rfl rfl ?_
    refine Wp.p (pc' := 131) d_law_129 rfl rfl ?_
    refine Wp.p (pc' := 133) d_law_131 rfl rfl ?_
    refine Wp.callV (a := 0) (as := [.int x4, .int x5]) (rest := []) (w := 0) (F' := 3) (Lb' := 50) d_law_133 ca_w16_0n ca_w16_0 rfl rfl rfl rfl (by decide) (by decide) (Nat.le_of_ble_eq_true rfl) ?_
    exact (h1 c1 v2 e2)
  ·
    refine Wp.iconst (0 : Int32) d_law_103 (by decide) ?_
    refine Wp.retZ (0 : Int32) d_law_104 (by decide) ?_
    exact (h2 c1)
set_option maxRecDepth 65536 in
set_option maxHeartbeats 4000000 in
theorem L_law_136 {x0 x1 x2 x3 x4 x5 x7 x8 x9 x10 x11 y0 : Int32} {mi : Nat → Nat → Int32} {ml : Nat → Nat → Int64} {Q : Option Value → EMem → Prop}
    (h1 : y0 = x11 → ∀ v2 : Int32, v2 = (if x9 = (0 : Int32) then (2 : Int32) else (1 : Int32)) → ∀ v3 : Int32, v3 = (if x9 = (0 : Int32) then (if x10 = (0 : Int32) then (2 : Int32) else (1 : Int32)) else (1 : Int32)) → ∀ v4 : Int32, v4 = (if x10 = (0 : Int32) then x3 else (if x9 = (0 : Int32) then x5 else x3)) → ∀ v5 : Int32, v5 = (if x9 = (0 : Int32) then x5 else (if x10 = (0 : Int32) then (0 : Int32) else x3)) → ∀ v6 : Int32, v6 = (if (mi 0 88) = (1 : Int32) then (mi 0 94) else (0 : Int32)) → v6 = v2 → ∀ v8 : Int32, v8 = (if (mi 0 88) = (2 : Int32) then (-1 : Int32) else (mi 0 154)) → v8 = v3 → W_get 0 [.val (.ref 0), .val (.int x2), .unset] [] (LL1, mi, ml, RR1) (fun v M' => W_law 242 [.val (.int x0), .val (.int x1), .val (.int x2), .val (.int x3), .val (.int x4), .val (.int x5), .val (.ref 0), .val (.int x7), .val (.int x8), .val (.int x9), .val (.int x10), .val (.int x11), .val (.int v2), .val (.int v3), .val (.int v4), .val (.int v5)] (v.toList ++ []) M' Q))
    (h2 : y0 = x11 → ∀ v2 : Int32, v2 = (if x9 = (0 : Int32) then (2 : Int32) else (1 : Int32)) → ∀ v3 : Int32, v3 = (if x9 = (0 : Int32) then (if x10 = (0 : Int32) then (2 : Int32) else (1 : Int32)) else (1 : Int32)) → ∀ v4 : Int32, v4 = (if x10 = (0 : Int32) then x3 else (if x9 = (0 : Int32) then x5 else x3)) → ∀ v5 : Int32, v5 = (if x9 = (0 : Int32) then x5 else (if x10 = (0 : Int32) then (0 : Int32) else x3)) → ∀ v6 : Int32, v6 = (if (mi 0 88) = (1 : Int32) then (mi 0 94) else (0 : Int32)) → v6 = v2 → ∀ v8 : Int32, v8 = (if (mi 0 88) = (2 : Int32) then (-1 : Int32) else (mi 0 154)) → ¬ v8 = v3 → Q (some (.int (0 : Int32))) (LL1, mi, ml, RR1))
    (h3 : y0 = x11 → ∀ v2 : Int32, v2 = (if x9 = (0 : Int32) then (2 : Int32) else (1 : Int32)) → ∀ v3 : Int32, v3 = (if x9 = (0 : Int32) then (if x10 = (0 : Int32) then (2 : Int32) else (1 : Int32)) else (1 : Int32)) → ∀ v4 : Int32, v4 = (if x10 = (0 : Int32) then x3 else (if x9 = (0 : Int32) then x5 else x3)) → ∀ v5 : Int32, v5 = (if x9 = (0 : Int32) then x5 else (if x10 = (0 : Int32) then (0 : Int32) else x3)) → ∀ v6 : Int32, v6 = (if (mi 0 88) = (1 : Int32) then (mi 0 94) else (0 : Int32)) → ¬ v6 = v2 → Q (some (.int (0 : Int32))) (LL1, mi, ml, RR1))
    (h4 : ¬ y0 = x11 → Q (some (.int (0 : Int32))) (LL1, mi, ml, RR1)) :
    W_law 136 [.val (.int x0), .val (.int x1), .val (.int x2), .val (.int x3), .val (.int x4), .val (.int x5), .val (.ref 0), .val (.int x7), .val (.int x8), .val (.int x9), .val (.int x10), .val (.int x11), .unset, .unset, .unset, .unset] [.int y0] (LL1, mi, ml, RR1) Q := by
  refine Wp.p (pc' := 138) d_law_136 rfl rfl ?_
  refine Wp.icmp_eq d_law_138 rfl (fun c1 => ?_) (fun c1 => ?_)
  ·
    refine Wp.p (pc' := 145) d_law_143 rfl rfl ?_
    obtain ⟨v2, e2⟩ : ∃ z : Int32, z = (if x9 = (0 : Int32) then (2 : Int32) else (1 : Int32)) := ⟨_, rfl⟩
    suffices K : W_law 153 [.val (.int x0), .val (.int x1), .val (.int x2), .val (.int x3), .val (.int x4), .val (.int x5), .val (.ref 0), .val (.int x7), .val (.int x8), .val (.int x9), .val (.int x10), .val (.int x11), .unset, .unset, .unset, .unset] [.int v2] (LL1, mi, ml, RR1) Q by
      refine Wp.if_eq d_law_145 rfl (fun q0 => ?_) (fun q0 => ?_)
      ·
        refine Wp.iconst (2 : Int32) d_law_152 (by decide) ?_
        rw [if_pos q0] at e2; subst e2
        exact K
      ·
        refine Wp.iconst (1 : Int32) d_law_148 (by decide) ?_
        refine Wp.p (pc' := 153) d_law_149 rfl rfl ?_
        rw [if_neg q0] at e2; subst e2
        exact K
    refine Wp.p (pc' := 155) d_law_153 rfl rfl ?_
    refine Wp.p (pc' := 157) d_law_155 rfl rfl ?_
    obtain ⟨v3, e3⟩ : ∃ z : Int32, z = (if x9 = (0 : Int32) then (if x10 = (0 : Int32) then (2 : Int32) else (1 : Int32)) else (1 : Int32)) := ⟨_, rfl⟩
    suffices K : W_law 170 [.val (.int x0), .val (.int x1), .val (.int x2), .val (.int x3), .val (.int x4), .val (.int x5), .val (.ref 0), .val (.int x7), .val (.int x8), .val (.int x9), .val (.int x10), .val (.int x11), .val (.int v2), .unset, .unset, .unset] [.int v3] (LL1, mi, ml, RR1) Q by
      refine Wp.if_ne d_law_157 rfl (fun q0 => ?_) (fun q0 => ?_)
      ·
        refine Wp.iconst (1 : Int32) d_law_165 (by decide) ?_
        refine Wp.p (pc' := 170) d_law_166 rfl rfl ?_
        rw [if_neg q0] at e3; subst e3
        exact K
      ·
        refine Wp.p (pc' := 162) d_law_160 rfl rfl ?_
        refine Wp.if_eq d_law_162 rfl (fun q1 => ?_) (fun q1 => ?_)
        ·
          refine Wp.iconst (2 : Int32) d_law_169 (by decide) ?_
          rw [if_pos q0, if_pos q1] at e3; subst e3
          exact K
        ·
          refine Wp.iconst (1 : Int32) d_law_165 (by decide) ?_
          refine Wp.p (pc' := 170) d_law_166 rfl rfl ?_
          rw [if_pos q0, if_neg q1] at e3; subst e3
          exact K
    refine Wp.p (pc' := 172) d_law_170 rfl rfl ?_
    refine Wp.p (pc' := 174) d_law_172 rfl rfl ?_
    obtain ⟨v4, e4⟩ : ∃ z : Int32, z = (if x10 = (0 : Int32) then x3 else (if x9 = (0 : Int32) then x5 else x3)) := ⟨_, rfl⟩
    suffices K : W_law 188 [.val (.int x0), .val (.int x1), .val (.int x2), .val (.int x3), .val (.int x4), .val (.int x5), .val (.ref 0), .val (.int x7), .val (.int x8), .val (.int x9), .val (.int x10), .val (.int x11), .val (.int v2), .val (.int v3), .unset, .unset] [.int v4] (LL1, mi, ml, RR1) Q by
      refine Wp.if_eq d_law_174 rfl (fun q0 => ?_) (fun q0 => ?_)
      ·
        refine Wp.p (pc' := 188) d_law_187 rfl rfl ?_
        rw [if_pos q0] at e4; subst e4
        exact K
      ·
        refine Wp.p (pc' := 179) d_law_177 rfl rfl ?_
        refine Wp.if_ne d_law_179 rfl (fun q1 => ?_) (fun q1 => ?_)
        ·
          refine Wp.p (pc' := 188) d_law_187 rfl rfl ?_
          rw [if_neg q0, if_neg q1] at e4; subst e4
          exact K
        ·
          refine Wp.p (pc' := 184) d_law_182 rfl rfl ?_
          refine Wp.p (pc' := 188) d_law_184 rfl rfl ?_
          rw [if_neg q0, if_pos q1] at e4; subst e4
          exact K
    refine Wp.p (pc' := 190) d_law_188 rfl rfl ?_
    refine Wp.p (pc' := 192) d_law_190 rfl rfl ?_
    obtain ⟨v5, e5⟩ : ∃ z : Int32, z = (if x9 = (0 : Int32) then x5 else (if x10 = (0 : Int32) then (0 : Int32) else x3)) := ⟨_, rfl⟩
    suffices K : W_law 210 [.val (.int x0), .val (.int x1), .val (.int x2), .val (.int x3), .val (.int x4), .val (.int x5), .val (.ref 0), .val (.int x7), .val (.int x8), .val (.int x9), .val (.int x10), .val (.int x11), .val (.int v2), .val (.int v3), .val (.int v4), .unset] [.int v5] (LL1, mi, ml, RR1) Q by
      refine Wp.if_eq d_law_192 rfl (fun q0 => ?_) (fun q0 => ?_)
      ·
        refine Wp.p (pc' := 210) d_law_208 rfl rfl ?_
        rw [if_pos q0] at e5; subst e5
        exact K
      ·
        refine Wp.p (pc' := 197) d_law_195 rfl rfl ?_
        refine Wp.if_eq d_law_197 rfl (fun q1 => ?_) (fun q1 => ?_)
        ·
          refine Wp.iconst (0 : Int32) d_law_204 (by decide) ?_
          refine Wp.p (pc' := 210) d_law_205 rfl rfl ?_
          rw [if_neg q0, if_pos q1] at e5; subst e5
          exact K
        ·
          refine Wp.p (pc' := 201) d_law_200 rfl rfl ?_
          refine Wp.p (pc' := 210) d_law_201 rfl rfl ?_
          rw [if_neg q0, if_neg q1] at e5; subst e5
          exact K
    refine Wp.p (pc' := 212) d_law_210 rfl rfl ?_
    refine Wp.p (pc' := 214) d_law_212 rfl rfl ?_
    refine Wp.callV (a := 0) (as := []) (rest := []) (w := 0) (F' := 0) (Lb' := 0) d_law_214 ca_w20_0n ca_w20_0 rfl rfl rfl rfl (by decide) (by decide) (Nat.le_of_ble_eq_true rfl) ?_
    refine L_writesUsed_0 ?_
    intro v6 e6
    show W_law 217 [.val (.int x0), .val (.int x1), .val (.int x2), .val (.int x3), .val (.int x4), .val (.int x5), .val (.ref 0), .val (.int x7), .val (.int x8), .val (.int x9), .val (.int x10), .val (.int x11), .val (.int v2), .val (.int v3), .val (.int v4), .val (.int v5)] [.int v6] (LL1, mi, ml, RR1) Q
    refine Wp.p (pc' := 219) d_law_217 rfl rfl ?_
    refine Wp.icmp_eq d_law_219 rfl (fun c7 => ?_) (fun c7 => ?_)
    ·
      refine Wp.p (pc' := 226) d_law_224 rfl rfl ?_
      refine Wp.callV (a := 0) (as := []) (rest := []) (w := 0) (F' := 0) (Lb' := 0) d_law_226 ca_w23_0n ca_w23_0 rfl rfl rfl rfl (by decide) (by decide) (Nat.le_of_ble_eq_true rfl) ?_
      refine L_size_0 ?_
      intro v8 e8
      show W_law 229 [.val (.int x0), .val (.int x1), .val (.int x2), .val (.int x3), .val (.int x4), .val (.int x5), .val (.ref 0), .val (.int x7), .val (.int x8), .val (.int x9), .val (.int x10), .val (.int x11), .val (.int v2), .val (.int v3), .val (.int v4), .val (.int v5)] [.int v8] (LL1, mi, ml, RR1) Q
      refine Wp.p (pc' := 231) d_law_229 rfl rfl ?_
      refine Wp.icmp_eq d_law_231 rfl (fun c9 => ?_) (fun c9 => ?_)
      ·
        refine Wp.p (pc' := 238) d_law_236 rfl rfl ?_
        refine Wp.p (pc' := 239) d_law_238 rfl rfl ?_
        refine Wp.callV (a := 0) (as := [.int x2]) (rest := []) (w := 0) (F' := 3) (Lb' := 48) d_law_239 ca_w26_0n ca_w26_0 rfl rfl rfl rfl (by decide) (by decide) (Nat.le_of_ble_eq_true rfl) ?_
        exact (h1 c1 v2 e2 v3 e3 v4 e4 v5 e5 v6 e6 c7 v8 e8 c9)
      ·
        refine Wp.iconst (0 : Int32) d_law_234 (by decide) ?_
        refine Wp.retZ (0 : Int32) d_law_235 (by decide) ?_
        exact (h2 c1 v2 e2 v3 e3 v4 e4 v5 e5 v6 e6 c7 v8 e8 c9)
    ·
      refine Wp.iconst (0 : Int32) d_law_222 (by decide) ?_
      refine Wp.retZ (0 : Int32) d_law_223 (by decide) ?_
      exact (h3 c1 v2 e2 v3 e3 v4 e4 v5 e5 v6 e6 c7)
  ·
    refine Wp.iconst (0 : Int32) d_law_141 (by decide) ?_
    refine Wp.retZ (0 : Int32) d_law_142 (by decide) ?_
    exact (h4 c1)
set_option maxRecDepth 65536 in
set_option maxHeartbeats 4000000 in
theorem L_law_242 {x0 x1 x2 x3 x4 x5 x7 x8 x9 x10 x11 x12 x13 x14 x15 y0 : Int32} {mi : Nat → Nat → Int32} {ml : Nat → Nat → Int64} {Q : Option Value → EMem → Prop}
    (h1 : y0 = x14 → W_get 0 [.val (.ref 0), .val (.int x4), .unset] [] (LL1, mi, ml, RR1) (fun v M' => W_law 256 [.val (.int x0), .val (.int x1), .val (.int x2), .val (.int x3), .val (.int x4), .val (.int x5), .val (.ref 0), .val (.int x7), .val (.int x8), .val (.int x9), .val (.int x10), .val (.int x11), .val (.int x12), .val (.int x13), .val (.int x14), .val (.int x15)] (v.toList ++ []) M' Q))
    (h2 : ¬ y0 = x14 → Q (some (.int (0 : Int32))) (LL1, mi, ml, RR1)) :
    W_law 242 [.val (.int x0), .val (.int x1), .val (.int x2), .val (.int x3), .val (.int x4), .val (.int x5), .val (.ref 0), .val (.int x7), .val (.int x8), .val (.int x9), .val (.int x10), .val (.int x11), .val (.int x12), .val (.int x13), .val (.int x14), .val (.int x15)] [.int y0] (LL1, mi, ml, RR1) Q := by
  refine Wp.p (pc' := 244) d_law_242 rfl rfl ?_
  refine Wp.icmp_eq d_law_244 rfl (fun c1 => ?_) (fun c1 => ?_)
  ·
    refine Wp.p (pc' := 251) d_law_249 rfl rfl ?_
    refine Wp.p (pc' := 253) d_law_251 rfl rfl ?_
    refine Wp.callV (a := 0) (as := [.int x4]) (rest := []) (w := 0) (F' := 3) (Lb' := 48) d_law_253 ca_w26_0n ca_w26_0 rfl rfl rfl rfl (by decide) (by decide) (Nat.le_of_ble_eq_true rfl) ?_
    exact (h1 c1)
  ·
    refine Wp.iconst (0 : Int32) d_law_247 (by decide) ?_
    refine Wp.retZ (0 : Int32) d_law_248 (by decide) ?_
    exact (h2 c1)
set_option maxRecDepth 65536 in
set_option maxHeartbeats 4000000 in
theorem L_law_256 {x0 x1 x2 x3 x4 x5 x7 x8 x9 x10 x11 x12 x13 x14 x15 y0 : Int32} {mi : Nat → Nat → Int32} {ml : Nat → Nat → Int64} {Q : Option Value → EMem → Prop}
    (h1 : y0 = x15 → ∀ v2 : Int32, v2 = (if (mi 0 88) = (2 : Int32) then (-1 : Int32) else (mi 0 114)) → v2 = x7 → W_status 0 [.val (.ref 0), .unset] [] (LL1, mi, ml, RR1) (fun v M' => W_law 280 [.val (.int x0), .val (.int x1), .val (.int x2), .val (.int x3), .val (.int x4), .val (.int x5), .val (.ref 0), .val (.int x7), .val (.int x8), .val (.int x9), .val (.int x10), .val (.int x11), .val (.int x12), .val (.int x13), .val (.int x14), .val (.int x15)] (v.toList ++ []) M' Q))
    (h2 : y0 = x15 → ∀ v2 : Int32, v2 = (if (mi 0 88) = (2 : Int32) then (-1 : Int32) else (mi 0 114)) → ¬ v2 = x7 → Q (some (.int (0 : Int32))) (LL1, mi, ml, RR1))
    (h3 : ¬ y0 = x15 → Q (some (.int (0 : Int32))) (LL1, mi, ml, RR1)) :
    W_law 256 [.val (.int x0), .val (.int x1), .val (.int x2), .val (.int x3), .val (.int x4), .val (.int x5), .val (.ref 0), .val (.int x7), .val (.int x8), .val (.int x9), .val (.int x10), .val (.int x11), .val (.int x12), .val (.int x13), .val (.int x14), .val (.int x15)] [.int y0] (LL1, mi, ml, RR1) Q := by
  refine Wp.p (pc' := 258) d_law_256 rfl rfl ?_
  refine Wp.icmp_eq d_law_258 rfl (fun c1 => ?_) (fun c1 => ?_)
  ·
    refine Wp.p (pc' := 265) d_law_263 rfl rfl ?_
    refine Wp.callV (a := 0) (as := []) (rest := []) (w := 0) (F' := 0) (Lb' := 0) d_law_265 ca_w30_0n ca_w30_0 rfl rfl rfl rfl (by decide) (by decide) (Nat.le_of_ble_eq_true rfl) ?_
    refine L_bucketCount_0 ?_
    intro v2 e2
    show W_law 268 [.val (.int x0), .val (.int x1), .val (.int x2), .val (.int x3), .val (.int x4), .val (.int x5), .val (.ref 0), .val (.int x7), .val (.int x8), .val (.int x9), .val (.int x10), .val (.int x11), .val (.int x12), .val (.int x13), .val (.int x14), .val (.int x15)] [.int v2] (LL1, mi, ml, RR1) Q
    refine Wp.p (pc' := 270) d_law_268 rfl rfl ?_
    refine Wp.icmp_eq d_law_270 rfl (fun c3 => ?_) (fun c3 => ?_)
    ·
      refine Wp.p (pc' := 277) d_law_275 rfl rfl ?_
      refine Wp.callV (a := 0) (as := []) (rest := []) (w := 0) (F' := 0) (Lb' := 0) d_law_277 ca_w33_0n ca_w33_0 rfl rfl rfl rfl (by decide) (by decide) (Nat.le_of_ble_eq_true rfl) ?_
      exact (h1 c1 v2 e2 c3)
    ·
      refine Wp.iconst (0 : Int32) d_law_273 (by decide) ?_
      refine Wp.retZ (0 : Int32) d_law_274 (by decide) ?_
      exact (h2 c1 v2 e2 c3)
  ·
    refine Wp.iconst (0 : Int32) d_law_261 (by decide) ?_
    refine Wp.retZ (0 : Int32) d_law_262 (by decide) ?_
    exact (h3 c1)
set_option maxRecDepth 65536 in
set_option maxHeartbeats 4000000 in
theorem L_law_280 {x0 x1 x2 x3 x4 x5 x7 x8 x9 x10 x11 x12 x13 x14 x15 y0 : Int32} {mi : Nat → Nat → Int32} {ml : Nat → Nat → Int64} {Q : Option Value → EMem → Prop}
    (h1 : ∀ v1 : Int32, v1 = (if y0 = (1 : Int32) then (1 : Int32) else (0 : Int32)) → Q (some (.int (v1 &&& 1))) (LL1, mi, ml, RR1)) :
    W_law 280 [.val (.int x0), .val (.int x1), .val (.int x2), .val (.int x3), .val (.int x4), .val (.int x5), .val (.ref 0), .val (.int x7), .val (.int x8), .val (.int x9), .val (.int x10), .val (.int x11), .val (.int x12), .val (.int x13), .val (.int x14), .val (.int x15)] [.int y0] (LL1, mi, ml, RR1) Q := by
  refine Wp.iconst (1 : Int32) d_law_280 (by decide) ?_
  obtain ⟨v1, e1⟩ : ∃ z : Int32, z = (if y0 = (1 : Int32) then (1 : Int32) else (0 : Int32)) := ⟨_, rfl⟩
  suffices K : W_law 289 [.val (.int x0), .val (.int x1), .val (.int x2), .val (.int x3), .val (.int x4), .val (.int x5), .val (.ref 0), .val (.int x7), .val (.int x8), .val (.int x9), .val (.int x10), .val (.int x11), .val (.int x12), .val (.int x13), .val (.int x14), .val (.int x15)] [.int v1] (LL1, mi, ml, RR1) Q by
    refine Wp.icmp_ne d_law_281 rfl (fun q0 => ?_) (fun q0 => ?_)
    ·
      refine Wp.iconst (0 : Int32) d_law_288 (by decide) ?_
      rw [if_neg q0] at e1; subst e1
      exact K
    ·
      refine Wp.iconst (1 : Int32) d_law_284 (by decide) ?_
      refine Wp.p (pc' := 289) d_law_285 rfl rfl ?_
      rw [if_pos q0] at e1; subst e1
      exact K
  refine Wp.retZ (v1 &&& 1) d_law_289 (by rfl) ?_
  exact (h1 v1 e1)

theorem own_ix {x j : Int32} {n : Int32} (hx : ¬ x < 0) (hn : x < n) (h64 : n = 64 ∨ n = 32) (hj : ¬ j < 0) (hj4 : j < 4) : (x * 4 + j).toInt = x.toInt * 4 + j.toInt ∧ 0 ≤ x.toInt * 4 + j.toInt ∧ x.toInt * 4 + j.toInt < 256 := by
  have a1 := nn_int hx
  have a2 := nn_int hj
  have a3 := lt_int hn
  have a4 := lt_int hj4
  have c4 : (4 : Int32).toInt = 4 := by decide
  have c64 : n.toInt ≤ 64 := by rcases h64 with rfl | rfl <;> decide
  have e1 : (x * 4).toInt = x.toInt * 4 := by rw [mul_int (by rw [c4]; omega) (by rw [c4]; omega), c4]
  rw [add_int (by rw [e1]; omega) (by rw [e1]; omega), e1]
  exact ⟨rfl, by omega, by omega⟩
theorem own_ci1 {Q : Option Value → EMem → Prop} (x : Int32) (mi0 : Nat → Nat → Int32) (hx : ¬ x < 0) (hx64 : x < 64) (K : ∀ mi ml, (∀ b k, b ≠ 4 → b ≠ 5 → mi b k = mi0 b k) → Q none (LL1, mi, ml, RR1))
    (j : Int32) (hj : ¬ j < 0) (mi : Nat → Nat → Int32) (ml : Nat → Nat → Int64) (hF : ∀ b k, b ≠ 4 → b ≠ 5 → mi b k = mi0 b k) :
    W_clearImage 34 [.val (.ref 0), .val (.int x), .val (.int j)] [] (LL1, mi, ml, RR1) Q := by
  refine L_clearImage_34 (fun _ => K _ _ hF) (fun h => ?_) (fun h => ?_)
  · obtain ⟨e1, e2, e3⟩ := own_ix hx hx64 (Or.inl rfl) hj h
    exact inb_of ⟨by omega, by omega⟩
  · exact own_ci1 x mi0 hx hx64 K (j + 1) (succ_nn hj h) _ _ (fun b k h1 h2 => by rw [up_ne h2, up_ne h1]; exact hF b k h1 h2)
termination_by ((4 : Int32).toInt - j.toInt).toNat
decreasing_by exact succ_dec h
theorem own_clearImage {Q : Option Value → EMem → Prop} (x : Int32) (mi : Nat → Nat → Int32) (ml : Nat → Nat → Int64) (hx : ¬ x < 0) (hx64 : x < 64)
    (K : ∀ mi' ml', (∀ b k, (b = 0 ∨ 5 < b) → mi' b k = mi b k) → (∀ k, mi' 1 k = if k = x.toNatClampNeg then 0 else mi 1 k) → (∀ k, mi' 2 k = if k = x.toNatClampNeg then -1 else mi 2 k) → Q none (LL1, mi', ml', RR1)) :
    W_clearImage 0 [.val (.ref 0), .val (.int x), .unset] [] (LL1, mi, ml, RR1) Q := by
  refine L_clearImage_0 (fun h => absurd h hx) (fun _ _ => inb_lt 64 hx hx64 (by decide)) (fun _ _ => ?_) (fun _ h => absurd hx64 h)
  refine own_ci1 x _ hx hx64 ?_ 0 (by decide) _ _ (fun _ _ _ _ => rfl)
  intro m2 ml2 F
  refine K _ _ (fun b k hb => ?_) (fun k => ?_) (fun k => ?_)
  · rw [F b k (by omega) (by omega), up_ne (by omega), up_ne (by omega), up_ne (by omega)]
  · rw [F _ k (by decide) (by decide), up_ne (by decide), up_ne (by decide), up_at]; simp
  · rw [F _ k (by decide) (by decide), up_ne (by decide), up_at, up_ne (by decide)]; simp
def own_E (mi : Nat → Nat → Int32) (n : Int) : Prop := ∀ k : Nat, (k : Int) < n → mi 1 k = 0 ∧ mi 2 k = -1
theorem own_fd {Q : Option Value → EMem → Prop} (mi0 : Nat → Nat → Int32)
    (K : ∀ mi ml, (∀ b k, (b = 0 ∨ 5 < b) → mi b k = mi0 b k) → own_E mi 64 → Q none (LL1, (up (up (up (up mi 0 80 (mi 0 66)) 0 82 0) 0 84 1) 0 86 1), ml, RR1))
    (x : Int32) (hx : ¬ x < 0) (mi : Nat → Nat → Int32) (ml : Nat → Nat → Int64) (hF : ∀ b k, (b = 0 ∨ 5 < b) → mi b k = mi0 b k) (hE : own_E mi x.toInt) :
    W_formatDisk 2 [.val (.ref 0), .val (.int x)] [] (LL1, mi, ml, RR1) Q := by
  refine L_formatDisk_2 (fun h => ?_) (fun h => ?_)
  · refine K _ _ hF (fun k hk => hE k ?_)
    have := ge_int h
    have c : (64 : Int32).toInt = 64 := by decide
    omega
  · refine own_clearImage x mi ml hx h ?_
    intro m2 ml2 F C N
    refine L_formatDisk_13 ?_
    refine own_fd mi0 K (x + 1) (succ_nn hx h) _ _ (fun b k hb => (F b k hb).trans (hF b k hb)) ?_
    intro k hk
    have hs := succ_int h
    have h0 := nn_int hx
    rw [C k, N k]
    by_cases q : k = x.toNatClampNeg
    · rw [if_pos q, if_pos q]; exact ⟨rfl, rfl⟩
    · rw [if_neg q, if_neg q]
      simp only [Int32.toNatClampNeg] at q
      exact hE k (by omega)
termination_by ((64 : Int32).toInt - x.toInt).toNat
decreasing_by exact succ_dec h
theorem own_cp1 {Q : Option Value → EMem → Prop} (s d : Int32) (mi0 : Nat → Nat → Int32) (hs : ¬ s < 0) (hs64 : s < 64) (hd : ¬ d < 0) (hd64 : d < 64) (K : ∀ mi ml, (∀ b k, b ≠ 4 → b ≠ 5 → mi b k = mi0 b k) → Q none (LL1, mi, ml, RR1))
    (j : Int32) (hj : ¬ j < 0) (mi : Nat → Nat → Int32) (ml : Nat → Nat → Int64) (hF : ∀ b k, b ≠ 4 → b ≠ 5 → mi b k = mi0 b k) :
    W_copyPage 59 [.val (.ref 0), .val (.int s), .val (.int d), .val (.int j)] [] (LL1, mi, ml, RR1) Q := by
  refine L_copyPage_59 (fun _ => K _ _ hF) (fun h => ?_) (fun h => ?_) (fun h => ?_)
  · obtain ⟨e1, e2, e3⟩ := own_ix hs hs64 (Or.inl rfl) hj h
    exact inb_of ⟨by omega, by omega⟩
  · obtain ⟨e1, e2, e3⟩ := own_ix hd hd64 (Or.inl rfl) hj h
    exact inb_of ⟨by omega, by omega⟩
  · exact own_cp1 s d mi0 hs hs64 hd hd64 K (j + 1) (succ_nn hj h) _ _ (fun b k h1 h2 => by rw [up_ne h2, up_ne h1]; exact hF b k h1 h2)
termination_by ((4 : Int32).toInt - j.toInt).toNat
decreasing_by exact succ_dec h
theorem own_copyPage {Q : Option Value → EMem → Prop} (s d : Int32) (mi : Nat → Nat → Int32) (ml : Nat → Nat → Int64) (hs : ¬ s < 0) (hs64 : s < 64) (hd : ¬ d < 0) (hd64 : d < 64) (hE : own_E mi 64)
    (K : ∀ mi' ml', (∀ b k, (b = 0 ∨ 5 < b) → mi' b k = mi b k) → own_E mi' 64 → Q none (LL1, mi', ml', RR1)) :
    W_copyPage 0 [.val (.ref 0), .val (.int s), .val (.int d), .unset] [] (LL1, mi, ml, RR1) Q := by
  refine L_copyPage_0 (fun h => absurd h hs) (fun _ h => absurd hs64 h) (fun _ _ h => absurd h hd) (fun _ _ _ _ => inb_lt 64 hs hs64 (by decide)) (fun _ _ _ _ => inb_lt 64 hd hd64 (by decide)) (fun _ _ _ _ => ?_) (fun _ _ _ h => absurd hd64 h)
  refine own_cp1 s d _ hs hs64 hd hd64 ?_ 0 (by decide) _ _ (fun _ _ _ _ => rfl)
  intro m2 ml2 F
  have sb : (s.toNatClampNeg : Int) < 64 := by
    have := lt_int hs64
    have c : (64 : Int32).toInt = 64 := by decide
    simp only [Int32.toNatClampNeg]; omega
  obtain ⟨s1, s2⟩ := hE _ sb
  refine K _ _ (fun b k hb => ?_) (fun k hk => ?_)
  · rw [F b k (by omega) (by omega), up_ne (by omega), up_ne (by omega), up_ne (by omega)]
  · obtain ⟨k1, k2⟩ := hE k hk
    constructor
    · rw [F _ k (by decide) (by decide), up_ne (by decide), up_ne (by decide), up_at, s1, k1]; simp
    · rw [F _ k (by decide) (by decide), up_ne (by decide), up_at, up_ne (by decide), s2, k2]; simp
theorem own_lm1 {Q : Option Value → EMem → Prop} (mi0 : Nat → Nat → Int32)
    (K : ∀ mi ml, (∀ b k, (b = 0 ∨ 5 < b) → mi b k = mi0 b k) → own_E mi 64 → W_loadMemory 2 [.val (.ref 0), .val (.int 32)] [] (LL1, mi, ml, RR1) Q)
    (x : Int32) (hx : ¬ x < 0) (hx32 : ¬ 32 < x) (mi : Nat → Nat → Int32) (ml : Nat → Nat → Int64) (hF : ∀ b k, (b = 0 ∨ 5 < b) → mi b k = mi0 b k) (hE : own_E mi 64) :
    W_loadMemory 2 [.val (.ref 0), .val (.int x)] [] (LL1, mi, ml, RR1) Q := by
  by_cases h : x < 32
  · refine L_loadMemory_2 (fun q => absurd h q) (fun _ => ?_)
    have c32 : (32 : Int32).toInt = 32 := by decide
    have h0 := nn_int hx
    have h1 := lt_int h
    have e : (x + 32).toInt = x.toInt + 32 := by rw [add_int (by omega) (by omega), c32]
    refine own_copyPage (x + 32) x mi ml ?_ ?_ hx (by grind) hE ?_
    · rw [Int32.lt_iff_toInt_lt, e]; have : (0 : Int32).toInt = 0 := by decide
      omega
    · rw [Int32.lt_iff_toInt_lt, e]; have : (64 : Int32).toInt = 64 := by decide
      omega
    · intro m2 ml2 F E2
      refine L_loadMemory_17 ?_
      exact own_lm1 mi0 K (x + 1) (succ_nn hx h) (by grind) _ _ (fun b k hb => (F b k hb).trans (hF b k hb)) E2
  · have : x = 32 := by grind
    subst this
    exact K _ _ hF hE
termination_by ((32 : Int32).toInt - x.toInt).toNat
decreasing_by exact succ_dec h
theorem own_nextPage {Q : Option Value → EMem → Prop} (x : Int32) (mi : Nat → Nat → Int32) (ml : Nat → Nat → Int64) (hx : ¬ x < 0) (hx32 : x < 32) (hE : mi 2 x.toNatClampNeg = -1) (K : Q (some (.int (-1))) (LL1, mi, ml, RR1)) :
    W_nextPage 0 [.val (.ref 0), .val (.int x), .unset] [] (LL1, mi, ml, RR1) Q := by
  refine L_nextPage_0 (fun _ _ => inb_lt 64 hx (by grind) (by decide)) (fun v e => ?_)
  rw [hE, if_neg hx, if_pos hx32, if_pos (by decide)] at e
  rw [e]; exact K
theorem own_entries {Q : Option Value → EMem → Prop} (x c : Int32) (mi : Nat → Nat → Int32) (ml : Nat → Nat → Int64) (hx : ¬ x < 0) (hx32 : x < 32) (hE : mi 1 x.toNatClampNeg = c) (c0 : ¬ c < 0) (c4 : ¬ 4 < c) (K : Q (some (.int c)) (LL1, mi, ml, RR1)) :
    W_entries 0 [.val (.ref 0), .val (.int x), .unset] [] (LL1, mi, ml, RR1) Q := by
  refine L_entries_0 (fun _ _ => inb_lt 64 hx (by grind) (by decide)) (fun v e => ?_)
  rw [hE, if_neg hx, if_pos (by grind), if_neg c0, if_neg c4] at e
  rw [e]; exact K
theorem own_at64 {x : Int32} (hx : ¬ x < 0) (h : x < 32) : ((x.toNatClampNeg : Nat) : Int) < 64 := by
  have := lt_int h
  have c : (32 : Int32).toInt = 32 := by decide
  simp only [Int32.toNatClampNeg]; omega
theorem own_ru1 {Q : Option Value → EMem → Prop} (mi0 : Nat → Nat → Int32)
    (K : ∀ mi ml, (∀ b k, b ≠ 6 → mi b k = mi0 b k) → W_rebuildUsed 33 [.val (.ref 0), .val (.int 0)] [] (LL1, mi, ml, RR1) Q)
    (x : Int32) (hx : ¬ x < 0) (mi : Nat → Nat → Int32) (ml : Nat → Nat → Int64) (hF : ∀ b k, b ≠ 6 → mi b k = mi0 b k) :
    W_rebuildUsed 2 [.val (.ref 0), .val (.int x)] [] (LL1, mi, ml, RR1) Q := by
  refine L_rebuildUsed_2 (fun _ => K _ _ hF) (fun h v e => inb_lt 32 hx h (by decide)) (fun h v e => ?_)
  exact own_ru1 mi0 K (x + 1) (succ_nn hx h) _ _ (fun b k hb => by rw [up_ne hb]; exact hF b k hb)
termination_by ((32 : Int32).toInt - x.toInt).toNat
decreasing_by exact succ_dec h
theorem own_ru2 {Q : Option Value → EMem → Prop} (mi : Nat → Nat → Int32) (ml : Nat → Nat → Int64) (hE : own_E mi 64) (K : Q none (LL1, mi, ml, RR1))
    (x : Int32) (hx : ¬ x < 0) :
    W_rebuildUsed 33 [.val (.ref 0), .val (.int x)] [] (LL1, mi, ml, RR1) Q := by
  refine L_rebuildUsed_33 (fun _ => K) (fun _ _ => K) (fun _ h => ?_)
  have x32 : x < 32 := by grind
  refine L_markChain_0 ?_
  refine own_nextPage x mi ml hx x32 (hE _ (own_at64 hx x32)).2 ?_
  refine L_markChain_5 ?_
  have neg : (-1 : Int32) < 0 := by decide
  refine L_markChain_8 (fun h => absurd (by decide) h) (fun _ _ => ?_) (fun _ h => absurd neg h) (fun _ h => absurd neg h)
  refine L_rebuildUsed_52 ?_
  exact own_ru2 mi ml hE K (x + 1) (succ_nn hx h)
termination_by ((16 : Int32).toInt - x.toInt).toNat
decreasing_by exact succ_dec h
theorem own_ca {Q : Option Value → EMem → Prop} (mi : Nat → Nat → Int32) (ml : Nat → Nat → Int64) (hE : own_E mi 64) (K : Q (some (.int 0)) (LL1, mi, ml, RR1))
    (x : Int32) (hx : ¬ x < 0) :
    W_countAll 4 [.val (.ref 0), .val (.int 0), .val (.int x)] [] (LL1, mi, ml, RR1) Q := by
  refine L_countAll_4 (fun _ => K) (fun _ _ => K) (fun _ h => ?_)
  have x32 : x < 32 := by grind
  obtain ⟨e1, e2⟩ := hE _ (own_at64 hx x32)
  have neg : (-1 : Int32) < 0 := by decide
  refine L_chainLen_0 ?_
  refine L_chainLen_7 (fun h => absurd (by decide) h) (fun _ h => absurd h hx) (fun _ _ => ?_)
  refine own_entries x 0 mi ml hx x32 e1 (by decide) (by decide) ?_
  refine L_chainLen_24 ?_
  refine own_nextPage x mi ml hx x32 e2 ?_
  refine L_chainLen_31 ?_
  have z : (0 + 0 : Int32) = 0 := by decide
  rw [z]
  refine L_chainLen_7 (fun h => absurd (by decide) h) (fun _ _ => ?_) (fun _ h => absurd neg h)
  refine L_countAll_24 ?_
  rw [z]
  exact own_ca mi ml hE K (x + 1) (succ_nn hx h)
termination_by ((16 : Int32).toInt - x.toInt).toNat
decreasing_by exact succ_dec h
theorem own_cd {Q : Option Value → EMem → Prop} (mi0 : Nat → Nat → Int32)
    (K : ∀ mi ml, (∀ b k, b ≠ 7 → mi b k = mi0 b k) → (∀ k, k < 32 → mi 7 k = 0) → Q none (LL1, mi, ml, RR1))
    (x : Int32) (hx : ¬ x < 0) (mi : Nat → Nat → Int32) (ml : Nat → Nat → Int64) (hF : ∀ b k, b ≠ 7 → mi b k = mi0 b k) (hI : ∀ k : Nat, (k : Int) < x.toInt → mi 7 k = 0) :
    W_clearDirty 2 [.val (.ref 0), .val (.int x)] [] (LL1, mi, ml, RR1) Q := by
  refine L_clearDirty_2 (fun h => ?_) (fun h => inb_lt 32 hx h (by decide)) (fun h => ?_)
  · refine K _ _ hF (fun k hk => hI k ?_)
    have := ge_int h
    have c : (32 : Int32).toInt = 32 := by decide
    omega
  · refine own_cd mi0 K (x + 1) (succ_nn hx h) _ _ (fun b k hb => by rw [up_ne hb]; exact hF b k hb) ?_
    intro k hk
    have hs := succ_int h
    have h0 := nn_int hx
    rw [up_at]
    by_cases q : k = x.toNatClampNeg
    · rw [if_pos ⟨rfl, q⟩]
    · rw [if_neg (fun z => q z.2)]
      simp only [Int32.toNatClampNeg] at q
      exact hI k (by omega)
termination_by ((32 : Int32).toInt - x.toInt).toNat
decreasing_by exact succ_dec h
/-- what a fresh table is -/
abbrev own_New (mi : Nat → Nat → Int32) (v1 v2 v3 : Int32) : Prop :=
  (mi 0 66 = v1) ∧ (mi 0 68 = v2) ∧ (mi 0 70 = v3) ∧ (mi 0 82 = 0) ∧ (mi 0 86 = 1) ∧ (mi 0 84 = 1) ∧ (mi 0 88 = 0) ∧ (mi 0 90 = 0) ∧ (mi 0 98 = 0) ∧ (mi 0 96 = 0) ∧ (mi 0 114 = v1) ∧ (mi 0 154 = 0) ∧ (own_E mi 64) ∧ (∀ k, k < 32 → mi 7 k = 0)
theorem own_New.n0 {mi : Nat → Nat → Int32} {v1 v2 v3 : Int32} (self : own_New mi v1 v2 v3) : mi 0 66 = v1 := self.1
theorem own_New.maxKeys {mi : Nat → Nat → Int32} {v1 v2 v3 : Int32} (self : own_New mi v1 v2 v3) : mi 0 68 = v2 := self.2.1
theorem own_New.maxWrites {mi : Nat → Nat → Int32} {v1 v2 v3 : Int32} (self : own_New mi v1 v2 v3) : mi 0 70 = v3 := self.2.2.1
theorem own_New.logLen {mi : Nat → Nat → Int32} {v1 v2 v3 : Int32} (self : own_New mi v1 v2 v3) : mi 0 82 = 0 := self.2.2.2.1
theorem own_New.nextLsn {mi : Nat → Nat → Int32} {v1 v2 v3 : Int32} (self : own_New mi v1 v2 v3) : mi 0 86 = 1 := self.2.2.2.2.1
theorem own_New.logBase {mi : Nat → Nat → Int32} {v1 v2 v3 : Int32} (self : own_New mi v1 v2 v3) : mi 0 84 = 1 := self.2.2.2.2.2.1
theorem own_New.mode {mi : Nat → Nat → Int32} {v1 v2 v3 : Int32} (self : own_New mi v1 v2 v3) : mi 0 88 = 0 := self.2.2.2.2.2.2.1
theorem own_New.armed {mi : Nat → Nat → Int32} {v1 v2 v3 : Int32} (self : own_New mi v1 v2 v3) : mi 0 90 = 0 := self.2.2.2.2.2.2.2.1
theorem own_New.limited {mi : Nat → Nat → Int32} {v1 v2 v3 : Int32} (self : own_New mi v1 v2 v3) : mi 0 98 = 0 := self.2.2.2.2.2.2.2.2.1
theorem own_New.seq {mi : Nat → Nat → Int32} {v1 v2 v3 : Int32} (self : own_New mi v1 v2 v3) : mi 0 96 = 0 := self.2.2.2.2.2.2.2.2.2.1
theorem own_New.memB {mi : Nat → Nat → Int32} {v1 v2 v3 : Int32} (self : own_New mi v1 v2 v3) : mi 0 114 = v1 := self.2.2.2.2.2.2.2.2.2.2.1
theorem own_New.memSize {mi : Nat → Nat → Int32} {v1 v2 v3 : Int32} (self : own_New mi v1 v2 v3) : mi 0 154 = 0 := self.2.2.2.2.2.2.2.2.2.2.2.1
theorem own_New.E {mi : Nat → Nat → Int32} {v1 v2 v3 : Int32} (self : own_New mi v1 v2 v3) : own_E mi 64 := self.2.2.2.2.2.2.2.2.2.2.2.2.1
theorem own_New.D {mi : Nat → Nat → Int32} {v1 v2 v3 : Int32} (self : own_New mi v1 v2 v3) : ∀ k, k < 32 → mi 7 k = 0 := self.2.2.2.2.2.2.2.2.2.2.2.2.2
theorem own_init {Q : Option Value → EMem → Prop} (x1 x2 x3 : Int32)
    (K : ∀ mi ml v1 v2 v3, (v1 = if x1 < 1 then 1 else if 4 < x1 then 4 else x1) → (v2 = if x2 < 4 then 4 else if 48 < x2 then 48 else x2) → (v3 = if x3 < 1 then 1 else if 8 < x3 then 8 else x3) → own_New mi v1 v2 v3 → Q none (LL1, mi, ml, RR1)) (mi : Nat → Nat → Int32) (ml : Nat → Nat → Int64) :
    W_init 0 [.val (.ref 0), .val (.int x1), .val (.int x2), .val (.int x3)] [] ([(0, "LinearHashLog", 46)], mi, ml, (fun _ _ => Value.null)) Q := by
  refine L_init_0 ?_
  intro v1 e1 v2 e2 v3 e3
  refine L_formatDisk_0 ?_
  refine own_fd _ ?_ 0 (by decide) _ _ (fun _ _ _ => rfl) (fun k hk => ?_)
  · intro m1 ml1 F1 E1
    have a66 : m1 0 66 = v1 := F1 _ _ (Or.inl rfl)
    have a68 : m1 0 68 = v2 := F1 _ _ (Or.inl rfl)
    have a70 : m1 0 70 = v3 := F1 _ _ (Or.inl rfl)
    rw [a66]
    clear F1
    refine L_init_211 ?_
    refine L_loadMemory_0 ?_
    refine own_lm1 _ ?_ 0 (by decide) (by decide) _ _ (fun _ _ _ => rfl) (fun k hk => E1 k hk)
    intro m2 ml2 F2 E2
    have c1 : m2 0 66 = v1 := (F2 _ _ (Or.inl rfl)).trans a66
    have c2 : m2 0 68 = v2 := (F2 _ _ (Or.inl rfl)).trans a68
    have c3 : m2 0 70 = v3 := (F2 _ _ (Or.inl rfl)).trans a70
    have c4 : m2 0 82 = 0 := F2 _ _ (Or.inl rfl)
    have c5 : m2 0 86 = 1 := F2 _ _ (Or.inl rfl)
    have c6 : m2 0 84 = 1 := F2 _ _ (Or.inl rfl)
    have c7 : m2 0 88 = 0 := F2 _ _ (Or.inl rfl)
    have c8 : m2 0 90 = 0 := F2 _ _ (Or.inl rfl)
    have c9 : m2 0 98 = 0 := F2 _ _ (Or.inl rfl)
    have c10 : m2 0 96 = 0 := F2 _ _ (Or.inl rfl)
    have c11 : m2 0 80 = v1 := F2 _ _ (Or.inl rfl)
    clear F2
    refine L_loadMemory_2 (fun _ => ?_) (fun h => absurd h (by decide))
    rw [c11]
    refine L_scanLog_0 ?_
    rw [show up m2 0 114 v1 0 84 = 1 from c6]
    generalize hm3 : up (up (up (up m2 0 114 v1) 0 120 0) 0 122 1) 0 124 0 = m3
    have d0 : ∀ k, k ≠ 114 → k ≠ 120 → k ≠ 122 → k ≠ 124 → m3 0 k = m2 0 k := by
      intro k q1 q2 q3 q4; rw [← hm3, up_ne' q4, up_ne' q3, up_ne' q2, up_ne' q1]
    have dB : ∀ b k, b ≠ 0 → m3 b k = m2 b k := by
      intro b k q; rw [← hm3, up_ne q, up_ne q, up_ne q, up_ne q]
    have dm : m3 0 114 = v1 := by rw [← hm3]; rfl
    have ds : m3 0 120 = 0 := by rw [← hm3]; rfl
    clear hm3
    have E3 : own_E m3 64 := fun k hk => by rw [dB _ _ (by decide), dB _ _ (by decide)]; exact E2 k hk
    have l0 : m3 0 82 = 0 := by rw [d0 _ (by decide) (by decide) (by decide) (by decide)]; exact c4
    refine L_scanLog_30 (fun h => absurd (by decide) h) (fun _ _ => ?_) (fun _ h => absurd h (by rw [l0]; decide))
    refine L_loadMemory_35 ?_
    rw [ds]
    refine L_redo_0 ?_
    refine L_redo_5 (fun h => absurd (by decide) h) (fun _ _ => ?_) (fun _ h => absurd h (by decide))
    refine L_loadMemory_46 ?_
    refine L_rebuildUsed_0 ?_
    refine own_ru1 m3 ?_ 0 (by decide) _ _ (fun _ _ _ => rfl)
    intro m4 ml4 F4
    have E4 : own_E m4 64 := fun k hk => by rw [F4 _ _ (by decide), F4 _ _ (by decide)]; exact E3 k hk
    refine own_ru2 m4 ml4 E4 ?_ 0 (by decide)
    refine L_loadMemory_51 ?_
    refine L_countAll_0 ?_
    refine own_ca m4 ml4 E4 ?_ 0 (by decide)
    refine L_loadMemory_56 ?_
    refine L_clearDirty_0 ?_
    refine own_cd _ ?_ 0 (by decide) _ _ (fun _ _ _ => rfl) (fun k hk => ?_)
    · intro m5 ml5 F5 D5
      refine L_loadMemory_63 ?_
      refine L_init_260 ?_
      have g0 : ∀ k, k ≠ 104 → k ≠ 154 → k ≠ 114 → k ≠ 120 → k ≠ 122 → k ≠ 124 → up m5 0 104 0 0 k = m2 0 k := by
        intro k q1 q2 q3 q4 q5 q6
        rw [up_ne' q1, F5 _ _ (by decide), up_ne' q2, F4 _ _ (by decide), d0 _ q3 q4 q5 q6]
      refine K _ _ v1 v2 v3 e1 e2 e3 ⟨(g0 _ (by decide) (by decide) (by decide) (by decide) (by decide) (by decide)).trans c1, (g0 _ (by decide) (by decide) (by decide) (by decide) (by decide) (by decide)).trans c2, (g0 _ (by decide) (by decide) (by decide) (by decide) (by decide) (by decide)).trans c3, (g0 _ (by decide) (by decide) (by decide) (by decide) (by decide) (by decide)).trans c4, (g0 _ (by decide) (by decide) (by decide) (by decide) (by decide) (by decide)).trans c5, (g0 _ (by decide) (by decide) (by decide) (by decide) (by decide) (by decide)).trans c6, (g0 _ (by decide) (by decide) (by decide) (by decide) (by decide) (by decide)).trans c7, (g0 _ (by decide) (by decide) (by decide) (by decide) (by decide) (by decide)).trans c8, (g0 _ (by decide) (by decide) (by decide) (by decide) (by decide) (by decide)).trans c9, (g0 _ (by decide) (by decide) (by decide) (by decide) (by decide) (by decide)).trans c10, ?_, ?_, ?_, ?_⟩
      · rw [up_ne' (by decide), F5 _ _ (by decide), up_ne' (by decide), F4 _ _ (by decide)]; exact dm
      · rw [up_ne' (by decide), F5 _ _ (by decide), up_eq]
      · intro k hk
        rw [up_ne (by decide), up_ne (by decide), F5 _ _ (by decide), F5 _ _ (by decide), up_ne (by decide), up_ne (by decide)]
        exact E4 k hk
      · intro k hk
        rw [up_ne (by decide)]; exact D5 k hk
    · have : (0 : Int32).toInt = 0 := by decide
      omega
  · have : (0 : Int32).toInt = 0 := by decide
    omega
theorem own_div {a b : Int32} (ha : 0 ≤ a.toInt) (hb : 0 < b.toInt) : (a / b).toInt = a.toInt / b.toInt := by
  rw [Int32.toInt_div, Int.tdiv_eq_ediv_of_nonneg ha]
  have h1 := (rng32 a).2
  have h2 : a.toInt / b.toInt ≤ a.toInt := Int.ediv_le_self _ ha
  have h3 : 0 ≤ a.toInt / b.toInt := Int.ediv_nonneg ha (Int.le_of_lt hb)
  apply Int.bmod_eq_of_le <;> omega
theorem own_rem {a b : Int32} (ha : 0 ≤ a.toInt) (hb : 0 < b.toInt) : (a - a / b * b).toInt = a.toInt % b.toInt := by
  have dq := own_div ha hb
  have em := Int.mul_ediv_add_emod a.toInt b.toInt
  have e0 := Int.emod_nonneg a.toInt (show b.toInt ≠ 0 by omega)
  have e1 := Int.emod_lt_of_pos a.toInt hb
  have mc : b.toInt * (a.toInt / b.toInt) = (a.toInt / b.toInt) * b.toInt := Int.mul_comm _ _
  have rz := rng32 a
  have p0 : 0 ≤ (a.toInt / b.toInt) * b.toInt := Int.mul_nonneg (Int.ediv_nonneg ha (by omega)) (by omega)
  have em2 : (a / b * b).toInt = a.toInt / b.toInt * b.toInt := by
    rw [← dq] at *
    exact mul_int (by omega) (by omega)
  rw [sub_int (by rw [em2]; omega) (by rw [em2]; omega), em2]; omega
/-- the hash of a key -/
def own_h (k : Int32) : Int32 := XT.ushr (k * -1640531535) 8
theorem own_h0 (k : Int32) : 0 ≤ (own_h k).toInt := by
  have := c_iushr (k * -1640531535) 8 8 (by decide) (by decide)
  show 0 ≤ ((k * -1640531535).toUInt32 >>> ((8 : Int32) &&& 31).toUInt32).toInt32.toInt
  rw [this]
  omega
def own_dg (k n : Int32) : Int32 := own_h k - own_h k / n * n
theorem own_dg_lt {k n : Int32} (h : ¬ n < 1) : ¬ own_dg k n < 0 ∧ own_dg k n < n := by
  have hn := ge_int h
  have c : (1 : Int32).toInt = 1 := by decide
  rw [c] at hn
  have := own_rem (own_h0 k) (show 0 < n.toInt by omega)
  rw [Int32.lt_iff_toInt_lt, Int32.lt_iff_toInt_lt]
  have z : (0 : Int32).toInt = 0 := by decide
  unfold own_dg
  rw [this, z]
  have e0 := Int.emod_nonneg (own_h k).toInt (show n.toInt ≠ 0 by omega)
  have e1 := Int.emod_lt_of_pos (own_h k).toInt (show 0 < n.toInt by omega)
  omega
theorem own_shl {n : Int32} (h : ¬ n < 1) (h4 : ¬ 4 < n) : n < n <<< ((1 : Int32) &&& 31) := by
  have h1 := ge_int h
  have h2 := ge_int h4
  have c1 : (1 : Int32).toInt = 1 := by decide
  have c4 : (4 : Int32).toInt = 4 := by decide
  have key : ∀ m : Nat, m < 5 → 0 < m → (Int32.ofNat m) < (Int32.ofNat m) <<< ((1 : Int32) &&& 31) := by decide
  have hm := key n.toInt.toNat (by omega) (by omega)
  have e : Int32.ofNat n.toInt.toNat = n := by
    apply Int32.toInt_inj.mp
    rw [Int32.toInt_ofNat_of_lt (by omega)]
    omega
  rw [e] at hm; exact hm
/-- where a key belongs, while the table has its first number of buckets -/
theorem own_designated {Q : Option Value → EMem → Prop} (k n : Int32) (mi : Nat → Nat → Int32) (ml : Nat → Nat → Int64) (hn : mi 0 66 = n) (h1 : ¬ n < 1) (h4 : ¬ 4 < n) (K : Q (some (.int (own_dg k n))) (LL1, mi, ml, RR1)) :
    W_designated 0 [.val (.ref 0), .val (.int k), .val (.int n), .unset, .unset, .unset] [] (LL1, mi, ml, RR1) Q := by
  refine L_designated_0 ?_
  refine L_levelBase_0 ?_
  rw [hn]
  refine L_levelBase_7 (fun h => absurd (by decide) h) (fun _ h => absurd (own_shl h1 h4) h) (fun _ _ => ?_)
  refine L_designated_5 ?_
  refine L_hash_0 ?_
  have d := own_dg_lt (k := k) h1
  have nn : n - n = 0 := by grind
  have n0 : ¬ n = 0 := by grind
  refine L_designated_11 n0 (fun _ => K) (fun h => ?_) (fun h => ?_)
  · rw [nn] at h; exact absurd h d.1
  · rw [nn] at h; exact absurd h d.1

/-- what a page holds -/
abbrev own_pg (mi : Nat → Nat → Int32) (d : Nat) (es : List (Int32 × Int32)) : Prop :=
  (es.length ≤ 4) ∧ (mi 1 d = Int32.ofNat es.length) ∧ (mi 2 d = -1) ∧ (∀ j (h : j < es.length), mi 4 (d * 4 + j) = es[j].1 ∧ mi 5 (d * 4 + j) = es[j].2)
theorem own_pg.len {mi : Nat → Nat → Int32} {d : Nat} {es : List (Int32 × Int32)} (self : own_pg mi d es) : es.length ≤ 4 := self.1
theorem own_pg.cnt {mi : Nat → Nat → Int32} {d : Nat} {es : List (Int32 × Int32)} (self : own_pg mi d es) : mi 1 d = Int32.ofNat es.length := self.2.1
theorem own_pg.nxt {mi : Nat → Nat → Int32} {d : Nat} {es : List (Int32 × Int32)} (self : own_pg mi d es) : mi 2 d = -1 := self.2.2.1
theorem own_pg.ent {mi : Nat → Nat → Int32} {d : Nat} {es : List (Int32 × Int32)} (self : own_pg mi d es) : ∀ j (h : j < es.length), mi 4 (d * 4 + j) = es[j].1 ∧ mi 5 (d * 4 + j) = es[j].2 := self.2.2.2
theorem own_ofNat {n : Nat} (h : n ≤ 4) : (Int32.ofNat n).toInt = n := Int32.toInt_ofNat_of_lt (by omega)
theorem own_fip1 {Q : Option Value → EMem → Prop} (d key c : Int32) (es : List (Int32 × Int32)) (mi : Nat → Nat → Int32) (ml : Nat → Nat → Int64) (hd : ¬ d < 0) (hd32 : d < 32) (H : own_pg mi d.toNatClampNeg es) (hc : c.toInt = es.length)
    (K1 : (∀ j (h : j < es.length), ¬ es[j].1 = key) → Q (some (.int (-1))) (LL1, mi, ml, RR1)) (K2 : ∀ (j : Nat) (h : j < es.length), es[j].1 = key → ∀ s : Int32, s.toInt = d.toInt * 4 + j → Q (some (.int s)) (LL1, mi, ml, RR1))
    (x : Int32) (hx : ¬ x < 0) (hI : ∀ j (h : j < es.length), (j : Int) < x.toInt → ¬ es[j].1 = key) :
    W_findInPage 9 [.val (.ref 0), .val (.int d), .val (.int key), .val (.int c), .val (.int x)] [] (LL1, mi, ml, RR1) Q := by
  have hl := H.len
  have x0 := nn_int hx
  have d0 := nn_int hd
  refine L_findInPage_9 (fun h => ?_) (fun h => ?_) (fun h q => ?_) (fun h q => ?_)
  · have := ge_int h
    exact K1 (fun j hj => hI j hj (by omega))
  all_goals
    have hlt := lt_int h
    have x4 : x < 4 := by rw [Int32.lt_iff_toInt_lt]; have : (4 : Int32).toInt = 4 := by decide
                          omega
    obtain ⟨e1, e2, e3⟩ := own_ix hd hd32 (Or.inr rfl) hx x4
  · exact inb_of ⟨by omega, by omega⟩
  · have hj : x.toInt.toNat < es.length := by omega
    have ei : (d * 4 + x).toNatClampNeg = d.toNatClampNeg * 4 + x.toInt.toNat := by
      simp only [Int32.toNatClampNeg, e1]; omega
    rw [ei, (H.ent _ hj).1] at q
    refine own_fip1 d key c es mi ml hd hd32 H hc K1 K2 (x + 1) (succ_nn hx h) ?_
    intro j hj' hlt'
    have hs := succ_int h
    by_cases w : j = x.toInt.toNat
    · subst w; exact q
    · exact hI j hj' (by omega)
  · have hj : x.toInt.toNat < es.length := by omega
    have ei : (d * 4 + x).toNatClampNeg = d.toNatClampNeg * 4 + x.toInt.toNat := by
      simp only [Int32.toNatClampNeg, e1]; omega
    rw [ei, (H.ent _ hj).1] at q
    exact K2 _ hj q _ (by rw [e1]; omega)
termination_by (c.toInt - x.toInt).toNat
decreasing_by exact succ_dec h
theorem own_findInPage {Q : Option Value → EMem → Prop} (d key : Int32) (es : List (Int32 × Int32)) (mi : Nat → Nat → Int32) (ml : Nat → Nat → Int64) (hd : ¬ d < 0) (hd32 : d < 32) (H : own_pg mi d.toNatClampNeg es)
    (K1 : (∀ j (h : j < es.length), ¬ es[j].1 = key) → Q (some (.int (-1))) (LL1, mi, ml, RR1)) (K2 : ∀ (j : Nat) (h : j < es.length), es[j].1 = key → ∀ s : Int32, s.toInt = d.toInt * 4 + j → Q (some (.int s)) (LL1, mi, ml, RR1)) :
    W_findInPage 0 [.val (.ref 0), .val (.int d), .val (.int key), .unset, .unset] [] (LL1, mi, ml, RR1) Q := by
  have hl := H.len
  have hc := own_ofNat hl
  refine L_findInPage_0 ?_
  refine own_entries d (Int32.ofNat es.length) mi ml hd hd32 H.cnt ?_ ?_ ?_
  · rw [Int32.lt_iff_toInt_lt, hc]; have : (0 : Int32).toInt = 0 := by decide
    omega
  · rw [Int32.lt_iff_toInt_lt, hc]; have : (4 : Int32).toInt = 4 := by decide
    omega
  · refine L_findInPage_5 ?_
    refine own_fip1 d key _ es mi ml hd hd32 H hc K1 K2 0 (by decide) ?_
    intro j _ h
    have : (0 : Int32).toInt = 0 := by decide
    omega
/-- the search in the chain of a bucket that is one page -/
theorem own_fs1 {Q : Option Value → EMem → Prop} (d key : Int32) (es : List (Int32 × Int32)) (mi : Nat → Nat → Int32) (ml : Nat → Nat → Int64) (hd : ¬ d < 0) (hd32 : d < 32) (H : own_pg mi d.toNatClampNeg es)
    (K1 : (∀ j (h : j < es.length), ¬ es[j].1 = key) → Q (some (.int (-1))) (LL1, mi, ml, RR1)) (K2 : ∀ (j : Nat) (h : j < es.length), es[j].1 = key → ∀ s : Int32, s.toInt = d.toInt * 4 + j → Q (some (.int s)) (LL1, mi, ml, RR1)) :
    W_findSlot 9 [.val (.ref 0), .val (.int key), .unset, .unset, .unset] [.int d] (LL1, mi, ml, RR1) Q := by
  have neg : (-1 : Int32) < 0 := by decide
  refine L_findSlot_9 ?_
  refine L_findSlot_12 One.u (fun h => absurd (by decide) h) (fun _ h => absurd h hd) (fun _ _ => ?_)
  refine own_findInPage d key es mi ml hd hd32 H (fun hno => ?_) (fun j hj hk s hs => ?_)
  · refine L_findSlot_28 One.u (fun _ => ?_) (fun h => absurd neg h)
    refine own_nextPage _ mi ml hd hd32 H.nxt ?_
    refine L_findSlot_43 ?_
    exact L_findSlot_12 (One.val rfl) (fun h => absurd (by decide) h) (fun _ _ => K1 hno) (fun _ h => absurd neg h)
  · have d0 := nn_int hd
    have s0 : ¬ s < 0 := by rw [Int32.lt_iff_toInt_lt, hs]; have : (0 : Int32).toInt = 0 := by decide
                            omega
    exact L_findSlot_28 One.u (fun h => absurd h s0) (fun _ => K2 j hj hk s hs)
/-- the entry is appended to the page d, that has room -/
theorem own_ins1 {Q : Option Value → EMem → Prop} (d key v : Int32) (es : List (Int32 × Int32)) (mi : Nat → Nat → Int32) (ml : Nat → Nat → Int64) (hd : ¬ d < 0) (hd32 : d < 32) (H : own_pg mi d.toNatClampNeg es) (room : es.length < 4)
    (K : ∀ m, (∀ k, m 0 k = mi 0 k) → (∀ b k, 7 < b → m b k = mi b k) → own_pg m d.toNatClampNeg (es ++ [(key, v)]) → (∀ d' es', d' ≠ d.toNatClampNeg → own_pg mi d' es' → own_pg m d' es') → (∀ k, m 7 k = if k = d.toNatClampNeg then 1 else mi 7 k) → Q (some (.int 1)) (LL1, m, ml, RR1)) :
    W_insertEntry 9 [.val (.ref 0), .val (.int key), .val (.int v), .unset, .unset, .unset, .unset] [.int d] (LL1, mi, ml, RR1) Q := by
  have neg : (-1 : Int32) < 0 := by decide
  have hl := H.len
  have hc := own_ofNat hl
  have d0 := nn_int hd
  have c4 : (4 : Int32).toInt = 4 := by decide
  have c0 : (0 : Int32).toInt = 0 := by decide
  have cn : ¬ Int32.ofNat es.length < 0 := by rw [Int32.lt_iff_toInt_lt, hc]; omega
  have cl : Int32.ofNat es.length < 4 := by rw [Int32.lt_iff_toInt_lt, hc]; omega
  refine L_insertEntry_9 ?_
  refine L_lastPage_0 ?_
  refine L_lastPage_4 One.u (fun h => absurd (by decide) h) (fun _ => ?_)
  refine own_nextPage _ mi ml hd hd32 H.nxt ?_
  refine L_lastPage_15 One.u (fun h => absurd neg h) (fun _ => ?_)
  refine L_insertEntry_15 ?_
  refine own_entries d (Int32.ofNat es.length) mi ml hd hd32 H.cnt cn (by rw [Int32.lt_iff_toInt_lt, hc]; omega) ?_
  refine L_insertEntry_23 (fun _ => ?_) (fun h => h cl)
  obtain ⟨e1, e2, e3⟩ := own_ix hd hd32 (Or.inr rfl) cn cl
  have ei : (d * 4 + Int32.ofNat es.length).toNatClampNeg = d.toNatClampNeg * 4 + es.length := by
    simp only [Int32.toNatClampNeg, e1, hc]; omega
  refine L_insertEntry_68 (inb_of ⟨by omega, by omega⟩) (inb_lt 64 hd (by grind) (by decide)) (inb_lt 32 hd hd32 (by decide)) ?_
  rw [ei]
  have cs : Int32.ofNat es.length + 1 = Int32.ofNat (es.length + 1) := by
    apply Int32.toInt_inj.mp
    have c1 : (1 : Int32).toInt = 1 := by decide
    rw [add_int (by rw [hc]; omega) (by rw [hc]; omega), hc, own_ofNat (by omega)]
    omega
  rw [cs]
  refine K _ (fun k => rfl) (fun b k hb => ?_) ⟨?_, ?_, ?_, ?_⟩ (fun d' es' hne H' => ⟨H'.len, ?_, ?_, ?_⟩) (fun k => ?_)
  · rw [up_ne (by omega), up_ne (by omega), up_ne (by omega), up_ne (by omega)]
  · simp; omega
  · rw [up_ne (by decide), up_at, if_pos ⟨rfl, rfl⟩]; simp
  · rw [up_ne (by decide), up_ne (by decide), up_ne (by decide), up_ne (by decide)]; exact H.nxt
  · intro j hj
    rw [up_ne (by decide), up_ne (by decide), up_ne (by decide), up_at, up_ne (by decide), up_ne (by decide), up_at, up_ne (by decide)]
    by_cases q : j < es.length
    · rw [if_neg (by omega), if_neg (by omega), List.getElem_append_left q]
      exact H.ent j q
    · have : j = es.length := by simp at hj; omega
      subst this
      rw [if_pos ⟨rfl, rfl⟩, if_pos ⟨rfl, rfl⟩]
      simp
  · rw [up_ne (by decide), up_at, if_neg (fun z => hne z.2), up_ne (by decide), up_ne (by decide)]; exact H'.cnt
  · rw [up_ne (by decide), up_ne (by decide), up_ne (by decide), up_ne (by decide)]; exact H'.nxt
  · intro j hj
    have := H'.len
    rw [up_ne (by decide), up_ne (by decide), up_ne (by decide), up_at, up_ne (by decide), up_ne (by decide), up_at, up_ne (by decide), if_neg (by omega), if_neg (by omega)]
    exact H'.ent j hj
  · rw [up_at]; by_cases q : k = d.toNatClampNeg
    · rw [if_pos ⟨rfl, q⟩, if_pos q]
    · rw [if_neg (fun z => q z.2), if_neg q, up_ne (by decide), up_ne (by decide), up_ne (by decide)]

abbrev own_T (mi : Nat → Nat → Int32) (n w mw s : Int32) (es : Nat → List (Int32 × Int32)) : Prop :=
  (mi 0 66 = n) ∧ (mi 0 114 = n) ∧ (mi 0 88 = 1) ∧ (mi 0 90 = 0) ∧ (mi 0 94 = w) ∧ (mi 0 70 = mw) ∧ (mi 0 68 = 4) ∧ (mi 0 154 = s) ∧ (∀ d, d < 16 → own_pg mi d (es d))
theorem own_T.n0 {mi : Nat → Nat → Int32} {n w mw s : Int32} {es : Nat → List (Int32 × Int32)} (self : own_T mi n w mw s es) : mi 0 66 = n := self.1
theorem own_T.memB {mi : Nat → Nat → Int32} {n w mw s : Int32} {es : Nat → List (Int32 × Int32)} (self : own_T mi n w mw s es) : mi 0 114 = n := self.2.1
theorem own_T.mode {mi : Nat → Nat → Int32} {n w mw s : Int32} {es : Nat → List (Int32 × Int32)} (self : own_T mi n w mw s es) : mi 0 88 = 1 := self.2.2.1
theorem own_T.armed {mi : Nat → Nat → Int32} {n w mw s : Int32} {es : Nat → List (Int32 × Int32)} (self : own_T mi n w mw s es) : mi 0 90 = 0 := self.2.2.2.1
theorem own_T.writes {mi : Nat → Nat → Int32} {n w mw s : Int32} {es : Nat → List (Int32 × Int32)} (self : own_T mi n w mw s es) : mi 0 94 = w := self.2.2.2.2.1
theorem own_T.maxW {mi : Nat → Nat → Int32} {n w mw s : Int32} {es : Nat → List (Int32 × Int32)} (self : own_T mi n w mw s es) : mi 0 70 = mw := self.2.2.2.2.2.1
theorem own_T.maxK {mi : Nat → Nat → Int32} {n w mw s : Int32} {es : Nat → List (Int32 × Int32)} (self : own_T mi n w mw s es) : mi 0 68 = 4 := self.2.2.2.2.2.2.1
theorem own_T.size {mi : Nat → Nat → Int32} {n w mw s : Int32} {es : Nat → List (Int32 × Int32)} (self : own_T mi n w mw s es) : mi 0 154 = s := self.2.2.2.2.2.2.2.1
theorem own_T.pg {mi : Nat → Nat → Int32} {n w mw s : Int32} {es : Nat → List (Int32 × Int32)} (self : own_T mi n w mw s es) : ∀ d, d < 16 → own_pg mi d (es d) := self.2.2.2.2.2.2.2.2
theorem own_dn {k n : Int32} (h : ¬ n < 1) (h4 : ¬ 4 < n) : (own_dg k n).toNatClampNeg < 16 ∧ own_dg k n < 32 := by
  obtain ⟨a, b⟩ := own_dg_lt (k := k) h
  have := lt_int b
  have := ge_int h4
  have c4 : (4 : Int32).toInt = 4 := by decide
  refine ⟨by simp only [Int32.toNatClampNeg]; omega, by grind⟩
theorem own_findSlot {Q : Option Value → EMem → Prop} {n w mw s : Int32} {es : Nat → List (Int32 × Int32)} (key : Int32) (mi : Nat → Nat → Int32) (ml : Nat → Nat → Int64) (h1 : ¬ n < 1) (h4 : ¬ 4 < n) (T : own_T mi n w mw s es)
    (K1 : (∀ j (h : j < (es (own_dg key n).toNatClampNeg).length), ¬ (es (own_dg key n).toNatClampNeg)[j].1 = key) → Q (some (.int (-1))) (LL1, mi, ml, RR1)) (K2 : ∀ (j : Nat) (h : j < (es (own_dg key n).toNatClampNeg).length), (es (own_dg key n).toNatClampNeg)[j].1 = key → ∀ s : Int32, s.toInt = (own_dg key n).toInt * 4 + j → Q (some (.int s)) (LL1, mi, ml, RR1)) :
    W_findSlot 0 [.val (.ref 0), .val (.int key), .unset, .unset, .unset] [] (LL1, mi, ml, RR1) Q := by
  refine L_findSlot_0 ?_
  rw [T.memB]
  refine own_designated key n mi ml T.n0 h1 h4 ?_
  obtain ⟨a, b⟩ := own_dn (k := key) h1 h4
  exact own_fs1 _ key _ mi ml (own_dg_lt h1).1 b (T.pg _ a) K1 K2
theorem own_get {Q : Option Value → EMem → Prop} {n w mw s : Int32} {es : Nat → List (Int32 × Int32)} (key r : Int32) (mi : Nat → Nat → Int32) (ml : Nat → Nat → Int64) (h1 : ¬ n < 1) (h4 : ¬ 4 < n) (T : own_T mi n w mw s es)
    (hr0 : (∀ j (h : j < (es (own_dg key n).toNatClampNeg).length), ¬ (es (own_dg key n).toNatClampNeg)[j].1 = key) → r = 0) (hr1 : ∀ (j : Nat) (h : j < (es (own_dg key n).toNatClampNeg).length), (es (own_dg key n).toNatClampNeg)[j].1 = key → r = (es (own_dg key n).toNatClampNeg)[j].2)
    (K : Q (some (.int r)) (LL1, mi, ml, RR1)) : W_get 0 [.val (.ref 0), .val (.int key), .unset] [] (LL1, mi, ml, RR1) Q := by
  have neg : (-1 : Int32) < 0 := by decide
  obtain ⟨a, b⟩ := own_dn (k := key) h1 h4
  obtain ⟨c, -⟩ := own_dg_lt (k := key) h1
  have d0 := nn_int c
  have P := T.pg _ a
  refine L_get_0 (fun _ => ?_) (fun h => absurd h (by rw [T.mode]; decide))
  refine own_findSlot key mi ml h1 h4 T (fun hno => ?_) (fun j hj hk z hz => ?_)
  · refine L_get_15 (fun h => absurd neg h) (fun v e => ?_)
    rw [if_pos neg] at e
    rw [e, ← hr0 hno]; exact K
  · have z0 : ¬ z < 0 := by rw [Int32.lt_iff_toInt_lt, hz]; have : (0 : Int32).toInt = 0 := by decide
                            omega
    have hl := P.len
    have b' := lt_int b
    have c32 : (32 : Int32).toInt = 32 := by decide
    refine L_get_15 (fun _ => inb_of ⟨by omega, by omega⟩) (fun v e => ?_)
    have ei : z.toNatClampNeg = (own_dg key n).toNatClampNeg * 4 + j := by simp only [Int32.toNatClampNeg, hz]; omega
    rw [if_neg z0, ei, (P.ent j hj).2, ← hr1 j hj hk] at e
    rw [e]; exact K
theorem own_putNew {Q : Option Value → EMem → Prop} {n w mw s : Int32} {es : Nat → List (Int32 × Int32)} (key v : Int32) (mi : Nat → Nat → Int32) (ml : Nat → Nat → Int64) (h1 : ¬ n < 1) (h4 : ¬ 4 < n) (T : own_T mi n w mw s es) (hw : w < mw) (hs : s = 0 ∨ s = 1)
    (hno : ∀ j (h : j < (es (own_dg key n).toNatClampNeg).length), ¬ (es (own_dg key n).toNatClampNeg)[j].1 = key) (room : (es (own_dg key n).toNatClampNeg).length < 4)
    (K : ∀ m ml, own_T m n (w + 1) mw (s + 1) (fun d => if d = (own_dg key n).toNatClampNeg then es d ++ [(key, v)] else es d) → Q (some (.int 1)) (LL1, m, ml, RR1)) :
    W_put 0 [.val (.ref 0), .val (.int key), .val (.int v), .unset] [] (LL1, mi, ml, RR1) Q := by
  have neg : (-1 : Int32) < 0 := by decide
  have s4 : s < 4 := by rcases hs with rfl | rfl <;> decide
  obtain ⟨a, b⟩ := own_dn (k := key) h1 h4
  obtain ⟨c, -⟩ := own_dg_lt (k := key) h1
  refine L_put_0 (fun _ _ _ => ?_) (fun _ _ h => absurd (by rw [T.writes, T.maxW]; exact hw) h) (fun _ h => absurd T.mode h) (fun h => absurd h (by rw [T.mode]; decide))
  refine own_findSlot key mi ml h1 h4 T (fun _ => ?_) (fun j hj hk => absurd hk (hno j hj))
  refine L_put_40 (fun h => absurd neg h) (fun _ _ => ?_) (fun _ h => absurd (by rw [T.size, T.maxK]; exact s4) h)
  refine L_put_59 (fun _ _ => ?_) (fun _ h => absurd neg h) (fun _ h => absurd neg h) (fun _ h => absurd neg h) (fun h => h T.armed)
  rw [T.writes]
  refine L_insertEntry_0 ?_
  rw [show up mi 0 94 (w + 1) 0 114 = n from T.memB]
  have P : own_pg (up mi 0 94 (w + 1)) (own_dg key n).toNatClampNeg (es (own_dg key n).toNatClampNeg) := ⟨(T.pg _ a).len, (T.pg _ a).cnt, (T.pg _ a).nxt, (T.pg _ a).ent⟩
  refine own_designated key n _ ml T.n0 h1 h4 ?_
  refine own_ins1 _ key v _ _ ml c b P room ?_
  intro m F0 F7 P1 P2 _
  refine L_put_109 (fun h => absurd h (by decide)) (fun _ => ?_)
  have g0 : ∀ k, k ≠ 94 → m 0 k = mi 0 k := fun k hk => by rw [F0, up_ne' hk]
  have gs : m 0 154 = s := (g0 _ (by decide)).trans T.size
  rw [gs]
  refine L_put_127 ?_
  have hB : up (up m 0 154 (s + 1)) 0 104 0 0 114 = n := (g0 _ (by decide)).trans T.memB
  have hS : up (up m 0 154 (s + 1)) 0 104 0 0 154 = s + 1 := rfl
  have nogrow : ¬ 3 * n < s + 1 := by
    have a1 := ge_int h1
    have a2 := ge_int h4
    have c1 : (1 : Int32).toInt = 1 := by decide
    have c3 : (3 : Int32).toInt = 3 := by decide
    have c4 : (4 : Int32).toInt = 4 := by decide
    have e3 : (3 * n).toInt = 3 * n.toInt := by rw [mul_int (by rw [c3]; omega) (by rw [c3]; omega), c3]
    rw [Int32.lt_iff_toInt_lt, e3]
    rcases hs with rfl | rfl
    · have : (0 + 1 : Int32).toInt = 1 := by decide
      omega
    · have : (1 + 1 : Int32).toInt = 2 := by decide
      omega
  refine L_growIfNeeded_0 (fun _ => ?_) (fun h => absurd h (by rw [hB, hS]; exact nogrow)) (fun h => absurd h (by rw [hB, hS]; exact nogrow))
  refine L_put_131 ?_
  refine K _ _ ⟨(g0 _ (by decide)).trans T.n0, hB, (g0 _ (by decide)).trans T.mode, (g0 _ (by decide)).trans T.armed, ?_, (g0 _ (by decide)).trans T.maxW, (g0 _ (by decide)).trans T.maxK, hS, fun d hd => ?_⟩
  · show m 0 94 = w + 1
    rw [F0, up_eq]
  · have L : ∀ {d' es'}, own_pg m d' es' → own_pg (up (up m 0 154 (s + 1)) 0 104 0) d' es' := fun q => ⟨q.len, q.cnt, q.nxt, q.ent⟩
    by_cases q : d = (own_dg key n).toNatClampNeg
    · simp only [q, if_true]; exact L P1
    · simp only [if_neg q]
      refine L (P2 d _ q ⟨(T.pg d hd).len, (T.pg d hd).cnt, (T.pg d hd).nxt, (T.pg d hd).ent⟩)
theorem own_div4 {z : Int32} (h : 0 ≤ z.toInt) : (z / 4).toInt = z.toInt / 4 := by
  have c4 : (4 : Int32).toInt = 4 := by decide
  rw [own_div h (by rw [c4]; decide), c4]
theorem own_putOld {Q : Option Value → EMem → Prop} {n w mw s : Int32} {es : Nat → List (Int32 × Int32)} (key v : Int32) (mi : Nat → Nat → Int32) (ml : Nat → Nat → Int64) (h1 : ¬ n < 1) (h4 : ¬ 4 < n) (T : own_T mi n w mw s es) (hw : w < mw)
    (hex : ¬ ∀ j (h : j < (es (own_dg key n).toNatClampNeg).length), ¬ (es (own_dg key n).toNatClampNeg)[j].1 = key)
    (K : ∀ m ml j, (hj : j < (es (own_dg key n).toNatClampNeg).length) → (es (own_dg key n).toNatClampNeg)[j].1 = key → own_T m n (w + 1) mw s (fun d => if d = (own_dg key n).toNatClampNeg then (es d).set j (key, v) else es d) → Q (some (.int 2)) (LL1, m, ml, RR1)) :
    W_put 0 [.val (.ref 0), .val (.int key), .val (.int v), .unset] [] (LL1, mi, ml, RR1) Q := by
  obtain ⟨a, b⟩ := own_dn (k := key) h1 h4
  obtain ⟨c, -⟩ := own_dg_lt (k := key) h1
  have d0 := nn_int c
  have b' := lt_int b
  have c32 : (32 : Int32).toInt = 32 := by decide
  refine L_put_0 (fun _ _ _ => ?_) (fun _ _ h => absurd (by rw [T.writes, T.maxW]; exact hw) h) (fun _ h => absurd T.mode h) (fun h => absurd h (by rw [T.mode]; decide))
  refine own_findSlot key mi ml h1 h4 T (fun hno => absurd hno hex) (fun j hj hk z hz => ?_)
  have hl := (T.pg _ a).len
  have z0 : ¬ z < 0 := by rw [Int32.lt_iff_toInt_lt, hz]; have : (0 : Int32).toInt = 0 := by decide
                          omega
  refine L_put_40 (fun _ => ?_) (fun h => absurd h z0) (fun h => absurd h z0)
  have zd := own_div4 (nn_int z0)
  refine L_put_59 (fun _ h => absurd h z0) (fun _ _ => inb_of ⟨by omega, by omega⟩) (fun _ _ => inb_of ⟨by omega, by omega⟩) (fun _ _ => ?_) (fun h => h T.armed)
  rw [T.writes]
  have ei : z.toNatClampNeg = (own_dg key n).toNatClampNeg * 4 + j := by simp only [Int32.toNatClampNeg, hz]; omega
  rw [ei]
  have K' := K (up (up (up mi 0 94 (w + 1)) 5 ((own_dg key n).toNatClampNeg * 4 + j) v) 7 (z / 4).toNatClampNeg 1) ml j hj hk
  generalize (own_dg key n).toNatClampNeg = a2 at *
  generalize hm3 : up (up (up mi 0 94 (w + 1)) 5 (a2 * 4 + j) v) 7 (z / 4).toNatClampNeg 1 = m3 at *
  have g0 : ∀ k, k ≠ 94 → m3 0 k = mi 0 k := fun k hk => by rw [← hm3, up_ne (by decide), up_ne (by decide), up_ne' hk]
  have gw : m3 0 94 = w + 1 := by rw [← hm3, up_ne (by decide), up_ne (by decide), up_eq]
  have gb : ∀ b k, b ≠ 0 → b ≠ 5 → b ≠ 7 → m3 b k = mi b k := fun b k x y w => by rw [← hm3, up_ne w, up_ne y, up_ne x]
  have gv : ∀ k, m3 5 k = if k = a2 * 4 + j then v else mi 5 k := fun k => by rw [← hm3, up_ne (by decide), up_at, up_ne (by decide)]; simp
  clear hm3
  refine K' ⟨(g0 _ (by decide)).trans T.n0, (g0 _ (by decide)).trans T.memB, (g0 _ (by decide)).trans T.mode, (g0 _ (by decide)).trans T.armed, gw, (g0 _ (by decide)).trans T.maxW, (g0 _ (by decide)).trans T.maxK, (g0 _ (by decide)).trans T.size, fun d hd => ?_⟩
  have P := T.pg d hd
  have hl' := P.len
  by_cases q : d = a2
  · subst q
    simp only [if_true]
    refine ⟨by simpa using P.len, ?_, ?_, fun i h => ?_⟩
    · rw [gb _ _ (by decide) (by decide) (by decide)]; simpa using P.cnt
    · rw [gb _ _ (by decide) (by decide) (by decide)]; exact P.nxt
    · simp at h
      rw [gb _ _ (by decide) (by decide) (by decide), gv, List.getElem_set]
      obtain ⟨p1, p2⟩ := P.ent i h
      by_cases q : j = i
      · subst q
        rw [if_pos rfl, if_pos rfl]
        exact ⟨p1.trans hk, rfl⟩
      · rw [if_neg q, if_neg (by omega)]
        exact ⟨p1, p2⟩
  · simp only [if_neg q]
    refine ⟨P.len, ?_, ?_, fun i h => ?_⟩
    · rw [gb _ _ (by decide) (by decide) (by decide)]; exact P.cnt
    · rw [gb _ _ (by decide) (by decide) (by decide)]; exact P.nxt
    · rw [gb _ _ (by decide) (by decide) (by decide), gv, if_neg (by omega)]
      exact P.ent i h
theorem own_fin (i0 i1 k1 v1 k2 v2 n cp full same d2 w s g1 g2 : Int32) (es : Nat → List (Int32 × Int32)) (mi : Nat → Nat → Int32) (ml : Nat → Nat → Int64) (h1 : ¬ n < 1) (h4 : ¬ 4 < n) (T : own_T mi n w cp s es)
    (hw : w = if full = 0 then 2 else 1) (hs : s = if full = 0 then (if same = 0 then 2 else 1) else 1) (hg1 : g1 = if same = 0 then v1 else if full = 0 then v2 else v1) (hg2 : g2 = if full = 0 then v2 else if same = 0 then 0 else v1)
    (a0 : (∀ j (h : j < (es (own_dg k1 n).toNatClampNeg).length), ¬ (es (own_dg k1 n).toNatClampNeg)[j].1 = k1) → g1 = 0) (a1 : ∀ (j : Nat) (h : j < (es (own_dg k1 n).toNatClampNeg).length), (es (own_dg k1 n).toNatClampNeg)[j].1 = k1 → g1 = (es (own_dg k1 n).toNatClampNeg)[j].2)
    (b0 : (∀ j (h : j < (es (own_dg k2 n).toNatClampNeg).length), ¬ (es (own_dg k2 n).toNatClampNeg)[j].1 = k2) → g2 = 0) (b1 : ∀ (j : Nat) (h : j < (es (own_dg k2 n).toNatClampNeg).length), (es (own_dg k2 n).toNatClampNeg)[j].1 = k2 → g2 = (es (own_dg k2 n).toNatClampNeg)[j].2) :
    W_law 136 [.val (.int i0), .val (.int i1), .val (.int k1), .val (.int v1), .val (.int k2), .val (.int v2), .val (.ref 0), .val (.int n), .val (.int cp), .val (.int full), .val (.int same), .val (.int d2), .unset, .unset, .unset, .unset] [.int d2] (LL1, mi, ml, RR1) QL := by
  have m2 : ¬ mi 0 88 = 2 := by rw [T.mode]; decide
  refine L_law_136 ?_ ?_ ?_ (fun h => absurd rfl h)
  rotate_left
  · intro _ u2 f2 u3 f3 u4 f4 u5 f5 u6 f6 _ u8 f8 c
    exact absurd (by rw [f8, if_neg m2, T.size, hs, f3]) c
  · intro _ u2 f2 u3 f3 u4 f4 u5 f5 u6 f6 c
    exact absurd (by rw [f6, if_pos T.mode, T.writes, hw, f2]) c
  intro _ u2 f2 u3 f3 u4 f4 u5 f5 u6 f6 _ u8 f8 _
  have q1 : u4 = g1 := by rw [f4, hg1]
  have q2 : u5 = g2 := by rw [f5, hg2]
  rw [q1, q2]
  refine own_get k1 g1 mi ml h1 h4 T a0 a1 ?_
  refine L_law_242 (fun _ => ?_) (fun h => absurd rfl h)
  refine own_get k2 g2 mi ml h1 h4 T b0 b1 ?_
  refine L_law_256 (fun _ v e _ => ?_) (fun _ v e c => absurd (by rw [e, if_neg m2, T.memB]) c) (fun h => absurd rfl h)
  refine L_status_0 ?_
  intro t1 r1 t2 r2
  rw [if_neg m2, if_pos T.mode] at r1
  rw [T.armed, if_pos rfl, r1] at r2
  subst r2
  refine L_law_280 ?_
  intro z ez
  rw [ez, if_pos rfl]
  exact ql1 (by decide)
theorem law_ok (i0 i1 k1 v1 k2 v2 : Int32) : W_law 0 (entryL [.int i0, .int i1, .int k1, .int v1, .int k2, .int v2] maxLocals) [] mem0 QL := by
  refine L_law_0 ?_
  refine own_init i0 4 i1 ?_ _ _
  intro mi ml n mk cp en ek ec N
  have hk4 : mk = 4 := by rw [ek]; decide
  subst hk4
  have h1 : ¬ n < 1 := by grind
  have h4 : ¬ 4 < n := by grind
  refine L_law_10 ?_
  intro n' en' cp' ec' full ef same es'
  have q1 : n' = n := by rw [en, en']
  have q2 : cp' = cp := by rw [ec, ec']
  subst q1 q2
  have m2 : ¬ mi 0 88 = 2 := by rw [N.mode]; decide
  have m1 : ¬ mi 0 88 = 1 := by rw [N.mode]; decide
  refine L_begin_0 (fun _ _ => ?_) (fun _ h => absurd h m1) (fun h => absurd h m2)
  refine L_clearDirty_0 ?_
  refine own_cd _ ?_ 0 (by decide) _ _ (fun _ _ _ => rfl) (fun k hk => ?_)
  rotate_left
  · have : (0 : Int32).toInt = 0 := by decide
    omega
  intro m1 ml1 F1 _
  refine L_begin_35 ?_
  refine L_law_87 (fun _ => ?_) (fun h => absurd rfl h)
  have g0 : ∀ k, k ≠ 88 → k ≠ 94 → m1 0 k = mi 0 k := fun k p q => by rw [F1 _ _ (by decide), up_ne' q, up_ne' p]
  have T0 : own_T m1 n' 0 cp' 0 (fun _ => []) := by
    refine ⟨(g0 _ (by decide) (by decide)).trans N.n0, (g0 _ (by decide) (by decide)).trans N.memB, ?_, (g0 _ (by decide) (by decide)).trans N.armed, ?_, (g0 _ (by decide) (by decide)).trans N.maxWrites, (g0 _ (by decide) (by decide)).trans N.maxKeys, (g0 _ (by decide) (by decide)).trans N.memSize, fun d hd => ⟨by simp, ?_, ?_, fun j h => absurd h (by simp)⟩⟩
    · rw [F1 _ _ (by decide), up_ne' (by decide), up_eq]
    · rw [F1 _ _ (by decide), up_eq]
    · rw [F1 _ _ (by decide), up_ne (by decide), up_ne (by decide)]; exact (N.E d (by omega)).1
    · rw [F1 _ _ (by decide), up_ne (by decide), up_ne (by decide)]; exact (N.E d (by omega)).2
  have cp1 : ¬ cp' < 1 := by grind
  refine own_putNew k1 v1 m1 ml1 h1 h4 T0 (by grind) (Or.inl rfl) (fun j h => absurd h (by simp)) (by simp) ?_
  intro m2' ml2 T1
  rw [show (0 + 1 : Int32) = 1 from by decide] at T1
  refine L_law_99 (fun _ d2 e2 => ?_) (fun h => absurd rfl h)
  have f01 : full = 0 ∨ full = 1 := by grind
  have s01 : same = 0 ∨ same = 1 := by grind
  generalize hd1 : (own_dg k1 n').toNatClampNeg = a1 at T1
  generalize hd2' : (own_dg k2 n').toNatClampNeg = a2
  have same_a : k2 = k1 → a2 = a1 := by intro q; rw [← hd1, ← hd2', q]
  have E1 : ∀ d, (if d = a1 then ([] : List (Int32 × Int32)) ++ [(k1, v1)] else []) = if d = a1 then [(k1, v1)] else [] := fun d => by simp
  simp only [E1] at T1
  by_cases hf : full = 0
  · have hdd : d2 = if same = 0 then 1 else 2 := by rw [e2, if_pos hf]
    have wl : (1 : Int32) < cp' := by grind
    by_cases hs : same = 0
    · have kne : ¬ k2 = k1 := by grind
      have hd1v : d2 = 1 := by rw [hdd, if_pos hs]
      subst hd1v
      refine own_putNew k2 v2 m2' ml2 h1 h4 T1 wl (Or.inr rfl) ?_ ?_ ?_
      · rw [hd2']; intro j h
        by_cases q : a2 = a1
        · simp only [q, if_true, List.length_cons, List.length_nil] at h ⊢
          have : j = 0 := by omega
          subst this
          exact fun z => kne z.symm
        · simp [q] at h
      · rw [hd2']; by_cases q : a2 = a1
        · simp [q]
        · simp [q]
      · intro m3 ml3 T2
        rw [show (1 + 1 : Int32) = 2 from by decide, hd2'] at T2
        refine own_fin _ _ k1 v1 k2 v2 n' cp' full same 1 2 2 v1 v2 _ m3 ml3 h1 h4 T2 (by rw [if_pos hf]) (by rw [if_pos hf, if_pos hs]) (by rw [if_pos hs]) (by rw [if_pos hf]) ?_ ?_ ?_ ?_
        · rw [hd1]; intro hno
          exfalso
          by_cases q : a1 = a2
          · simp only [q, if_true] at hno
            exact hno 0 (by simp) (by simp)
          · simp only [if_neg q, if_true] at hno
            exact hno 0 (by simp) (by simp)
        · rw [hd1]; intro j hj hk
          by_cases q : a1 = a2
          · simp only [q, if_true] at hj hk ⊢
            rcases j with _ | _ | j
            · simp
            · simp at hk; exact absurd hk kne
            · simp at hj; omega
          · simp only [if_neg q, if_true] at hj hk ⊢
            rcases j with _ | j
            · simp
            · simp at hj
        · rw [hd2']; intro hno
          exfalso
          by_cases q : a2 = a1
          · simp only [q, if_true] at hno
            exact hno 1 (by simp) (by simp)
          · simp only [if_neg q, if_true] at hno
            exact hno 0 (by simp) (by simp)
        · rw [hd2']; intro j hj hk
          by_cases q : a2 = a1
          · simp only [q, if_true] at hj hk ⊢
            rcases j with _ | _ | j
            · simp at hk; exact absurd hk.symm kne
            · simp
            · simp at hj; omega
          · simp only [if_neg q, if_true] at hj hk ⊢
            rcases j with _ | j
            · simp
            · simp at hj
    · have keq : k2 = k1 := by grind
      have hd1v : d2 = 2 := by rw [hdd, if_neg hs]
      subst hd1v
      have aq := same_a keq
      subst keq
      subst aq
      refine own_putOld k2 v2 m2' ml2 h1 h4 T1 wl ?_ ?_
      · rw [hd1]; simp only [if_true]
        intro hno; exact hno 0 (by simp) (by simp)
      · intro m3 ml3 j
        rw [hd1]
        intro hj _ T2
        simp at hj
        subst hj
        rw [show (1 + 1 : Int32) = 2 from by decide] at T2
        have E2 : (fun d => if d = a2 then (if d = a2 then [(k2, v1)] else []).set 0 (k2, v2) else if d = a2 then [(k2, v1)] else []) = fun d => if d = a2 then [(k2, v2)] else [] := by
          funext d
          by_cases q : d = a2
          · simp [q]
          · simp [q]
        rw [E2] at T2
        refine own_fin _ _ k2 v1 k2 v2 n' cp' full same 2 2 1 v2 v2 _ m3 ml3 h1 h4 T2 (by rw [if_pos hf]) (by rw [if_pos hf, if_neg hs]) (by rw [if_neg hs, if_pos hf]) (by rw [if_pos hf]) ?_ ?_ ?_ ?_
        all_goals
          rw [hd1]; simp only [if_true]
        · intro hno; exact absurd rfl (hno 0 (by simp))
        · intro j hj _; have : j = 0 := by simp at hj; exact hj
          subst this; rfl
        · intro hno; exact absurd rfl (hno 0 (by simp))
        · intro j hj _; have : j = 0 := by simp at hj; exact hj
          subst this; rfl
  · have hdd : d2 = -4 := by rw [e2, if_neg hf]
    subst hdd
    have wl : ¬ (1 : Int32) < cp' := by grind
    refine L_put_0 (fun _ _ h => absurd h (by rw [T1.writes, T1.maxW]; exact wl)) (fun _ _ h => ?_) (fun _ h => absurd T1.mode h) (fun h => absurd h (by rw [T1.mode]; decide))
    refine own_fin _ _ k1 v1 k2 v2 n' cp' full same (-4) 1 1 v1 (if same = 0 then 0 else v1) _ m2' ml2 h1 h4 T1 (by rw [if_neg hf]) (by rw [if_neg hf]) (by rw [if_neg hf]; simp) (by rw [if_neg hf]) ?_ ?_ ?_ ?_
    · rw [hd1]; simp only [if_true]; intro hno; exact absurd rfl (hno 0 (by simp))
    · rw [hd1]; simp only [if_true]; intro j hj _; have : j = 0 := by simp at hj; exact hj
      subst this; rfl
    · rw [hd2']; intro hno
      by_cases q : k2 = k1
      · exfalso
        simp only [same_a q, if_true] at hno
        exact hno 0 (by simp) (by simpa using q.symm)
      · rw [if_pos (by grind)]
    · rw [hd2']; intro j hj hk
      by_cases q : a2 = a1
      · simp only [q, if_true] at hj hk ⊢
        have : j = 0 := by simp at hj; exact hj
        subst this
        have : k1 = k2 := hk
        rw [if_neg (by grind)]; rfl
      · simp [q] at hj

set_option maxRecDepth 65536 in
set_option maxHeartbeats 40000000 in
theorem comes_1 {Post : Tables → Env → Array Value → State → Outcome → State → Prop} (hpost : ∀ tb e args s v u, (limb_1_1.after args s (.returned v) u = true ∧ limb_1_2.after args s (.returned v) u = true ∧ True) → FrameEnd s (.returned v) u (Jvm.fieldLocs frame_1_writes args s ++ Jvm.arrayLocs frame_1_arrays args s ++ Jvm.staticLocs frame_1_statics s) 32 4032 → Post tb e args s (.returned v) u) :
    ArmFor flags0 classFile x code maxLocals ret World_1 tables_1 room_1 Calls_1 rest_1 Pre_1 Post := by
  intro l hfl _ _ p e ha hc hk s m args below hf hA hF happ hP
  obtain ⟨hcalls, hrest, hpre⟩ := hP
  obtain ⟨-, -, -, hnamed, -, -, -, hat⟩ := (Spec.applies_iff hf).mp happ
  obtain ⟨hg, hn⟩ := and_e (Cond.before_iff.mp (show (Jvm.Cond.and given_1 narrow_1).before args s = true from hpre))
  obtain ⟨g0, t0⟩ := and_e hg
  obtain ⟨g1, t1⟩ := and_e t0
  obtain ⟨g2, t2⟩ := and_e t1
  obtain ⟨g3, t3⟩ := and_e t2
  obtain ⟨g4, t4⟩ := and_e t3
  obtain ⟨g5, t5⟩ := and_e t4
  obtain ⟨w0, w1, w2, w3, w4, w5, rfl⟩ : ∃ w0 w1 w2 w3 w4 w5 : Value, args = #[w0, w1, w2, w3, w4, w5] := by
    have hs : args.size = 6 := by simpa [Cond.value, given_1] using g0
    obtain ⟨L⟩ := args
    match L, hs with
    | [w0, w1, w2, w3, w4, w5], _ => exact ⟨w0, w1, w2, w3, w4, w5, rfl⟩
  have hw := fun d (hd : d ∈ tables_1) => atoms_spec (ws := Jvm.Cond.code x code maxLocals ret :: tables_1) hat d (List.mem_cons_of_mem _ hd)
  obtain ⟨i0, e0⟩ := is_v g1
  obtain rfl : w0 = (.int i0) := Option.some.inj e0
  obtain ⟨i1, e1⟩ := is_v g2
  obtain rfl : w1 = (.int i1) := Option.some.inj e1
  obtain ⟨i2, e2⟩ := is_v g3
  obtain rfl : w2 = (.int i2) := Option.some.inj e2
  obtain ⟨i3, e3⟩ := is_v g4
  obtain rfl : w3 = (.int i3) := Option.some.inj e3
  obtain ⟨i4, e4⟩ := is_v g5
  obtain rfl : w4 = (.int i4) := Option.some.inj e4
  obtain ⟨i5, e5⟩ := is_v t5
  obtain rfl : w5 = (.int i5) := Option.some.inj e5
  obtain ⟨n, o, h1, h2, h3, _, L, rfl, ⟨rfl, N⟩, hq⟩ := law_run (l := l) (R := room_1) (as := [.int i0, .int i1, .int i2, .int i3, .int i4, .int i5]) hw (ρ := fun a => s.heap.size + a) (fun a b q => Nat.add_left_cancel q) (fun a _ => rfl) (rel0 s _) (by first | (simp [plainName, overriddenIn, x]; done) | decide +kernel) (Nat.le_of_ble_eq_true rfl) (law_ok i0 i1 i2 i3 i4 i5) tables_1 p e ha hc hk s m _ below hf ((Spec.applies_iff_loose hf).mp happ).1 ⟨rfl, State.Warmed39.refl s, rfl⟩ trivial
  refine ⟨n, _, h1, h2, h3, hpost _ _ _ _ _ _ ⟨Cond.after_iff.mpr rfl, Cond.after_iff.mpr (eq_i res_at (Term.int_eval (1)) rfl), trivial⟩ ⟨hq.1, hq.2.1, (hq.2.2.sift fun y hy => Or.inr (N y hy)).mono (by decide) (by decide)⟩⟩
theorem main_1_1 : Claimed_1_1 := comes_1 fun _ _ _ _ _ _ h hF => ⟨h.1, hF⟩
theorem main_1_2 : Claimed_1_2 := comes_1 fun _ _ _ _ _ _ h hF => ⟨h.2.1, hF⟩
end Jvm.Pilot.@@N@@
namespace Jvm.Pilot.@@N@@
open Jvm Jvm.ClassFile Sem Op Lib Jvm.Free Jvm.Stand Jvm.Pilot.@@N@@.Jvm.D
/-! MADE BY PROGRAM (witnessworld.py) out of the Statement's table words and the real class files: 11 classes; the members and pool entries that the words name. The judged class is class 1, her method 1. -/
namespace start1
open Jvm.ClassFile
def u (s : String) : CpInfo := .utf8 (stringToUtf16 s)
/-- a pool by its gaps: so many unusable entries, then the entry; so many at the end -/
def gap : Nat → List CpInfo → List CpInfo
  | 0, r => r
  | n + 1, r => .unusable :: gap n r
def poolList (es : List (Nat × CpInfo)) (last : Nat) : List CpInfo := es.foldr (fun e r => gap e.1 (e.2 :: r)) (gap last [])
def pool (es : List (Nat × CpInfo)) (last : Nat) : Array CpInfo := ⟨poolList es last⟩
def fileOf (pool : Array CpInfo) (this : Nat) (attrs : Array Attribute := #[]) (ms : Array MethodInfo := #[]) (fl : Nat := 33) (sup : Nat := 0) (ifs : Array Nat := #[]) (fds : Array FieldInfo := #[]) : ClassFile where
  minorVersion := 0
  majorVersion := 65
  constantPool := pool
  accessFlags := fl
  thisClass := this
  superClass := sup
  interfaces := ifs
  fields := fds
  methods := ms
  attributes := attrs
def plain (name : String) (sup : Option ClassId) : Class where
  name := name
  kind := .ordinary
  loader := none
  accessFlags := 33
  super := sup
  interfaces := #[]
  cf := none
  fields := #[]
  methods := #[]
  instanceTypes := #[]
  staticTypes := #[]
  resolved := #[]
  callSites := []
  init := .initialized
  statics := none
  mirror := none

def pool0 : Array CpInfo := pool [(5, u "<init>"), (0, u "()V"), (1, .class_ 10), (1, u "java/lang/Object")] 113

def k0c0 : Code := { maxStack := 0, maxLocals := 1, code := object_method_1_code, exceptionTable := #[], attributes := #[] }
def k0m0 : Method := { name := "<init>", desc := "()V", sig := { parameters := [], returnType := none }, accessFlags := 1, code := some k0c0 }
/-- java/lang/Object -/
def k0 : Class := { plain "java/lang/Object" none with
  accessFlags := 33
  interfaces := #[]
  cf := some (fileOf pool0 8 #[] #[{ accessFlags := 1, nameIndex := 5, descriptorIndex := 6, attributes := #[] }] 33 0 #[] #[])
  fields := #[]
  methods := #[k0m0]
  instanceTypes := #[]
  staticTypes := #[]
  resolved := Array.replicate 124 none
  statics := none }

def pool1 : Array CpInfo := pool [(2, .class_ 4), (1, u "java/lang/Object"), (0, u "<init>"), (0, u "()V"), (0, .class_ 8), (0, u "LinearHashLog"), (0, .methodref 7 10), (0, .nameAndType 5 11), (0, u "(III)V"), (0, .methodref 7 13), (0, .nameAndType 14 15), (0, u "begin"), (0, u "()I"), (0, .methodref 7 17), (0, .nameAndType 18 19), (0, u "put"), (0, u "(II)I"), (0, .methodref 7 21), (0, .nameAndType 22 15), (0, u "writesUsed"), (0, .methodref 7 24), (0, .nameAndType 25 15), (0, u "size"), (0, .methodref 7 27), (0, .nameAndType 28 29), (0, u "get"), (0, u "(I)I"), (0, .methodref 7 31), (0, .nameAndType 32 15), (0, u "bucketCount"), (0, .methodref 7 34), (0, .nameAndType 35 15), (0, u "status"), (0, .class_ 37), (0, u "LinearHashLogL2"), (2, u "law"), (0, u "(IIIIII)Z")] 3

def k1m0 : Method := { name := "<init>", desc := "()V", sig := { parameters := [], returnType := none }, accessFlags := 1, code := none }
def k1c1 : Code := { maxStack := 5, maxLocals := 16, code := code, exceptionTable := #[], attributes := #[] }
def k1m1 : Method := { name := "law", desc := "(IIIIII)Z", sig := { parameters := [.int, .int, .int, .int, .int, .int], returnType := some .boolean }, accessFlags := 9, code := some k1c1 }
/-- LinearHashLogL2 -/
def k1 : Class := { plain "LinearHashLogL2" (some 0) with
  accessFlags := 49
  interfaces := #[]
  cf := some (fileOf pool1 36 #[] #[{ accessFlags := 1, nameIndex := 5, descriptorIndex := 6, attributes := #[] }, { accessFlags := 9, nameIndex := 40, descriptorIndex := 41, attributes := #[] }] 49 2 #[] #[])
  fields := #[]
  methods := #[k1m0, k1m1]
  instanceTypes := #[]
  staticTypes := #[]
  resolved := Array.replicate 45 none
  statics := none }

def pool2 : Array CpInfo := pool [(1, .methodref 2 3), (0, .class_ 4), (0, .nameAndType 5 6), (0, u "java/lang/Object"), (0, u "<init>"), (0, u "()V"), (0, .fieldref 8 9), (0, .class_ 10), (0, .nameAndType 11 12), (0, u "LinearHashLog"), (0, u "cap"), (0, u "I"), (0, .fieldref 8 14), (0, .nameAndType 15 12), (0, u "pages"), (0, .fieldref 8 17), (0, .nameAndType 18 12), (0, u "firstOverflow"), (0, .fieldref 8 20), (0, .nameAndType 21 12), (0, u "diskBase"), (0, .fieldref 8 23), (0, .nameAndType 24 12), (0, u "keyCap"), (0, .fieldref 8 26), (0, .nameAndType 27 12), (0, u "logCap"), (0, .fieldref 8 29), (0, .nameAndType 30 12), (0, u "recPage"), (0, .fieldref 8 32), (0, .nameAndType 33 12), (0, u "recMeta"), (0, .fieldref 8 35), (0, .nameAndType 36 12), (0, u "recCommit"), (0, .fieldref 8 38), (0, .nameAndType 39 12), (0, u "pageRecLen"), (0, .fieldref 8 41), (0, .nameAndType 42 12), (0, u "shortRecLen"), (0, .fieldref 8 44), (0, .nameAndType 45 12), (0, u "modeIdle"), (0, .fieldref 8 47), (0, .nameAndType 48 12), (0, u "modeTxn"), (0, .fieldref 8 50), (0, .nameAndType 51 12), (0, u "modeCrashed"), (0, .fieldref 8 53), (0, .nameAndType 54 55), (0, u "pCnt"), (0, u "[I"), (0, .fieldref 8 57), (0, .nameAndType 58 55), (0, u "pNext"), (0, .fieldref 8 60), (0, .nameAndType 61 55), (0, u "pLsn"), (0, .fieldref 8 63), (0, .nameAndType 64 55), (0, u "pKey"), (0, .fieldref 8 66), (0, .nameAndType 67 55), (0, u "pVal"), (0, .fieldref 8 69), (0, .nameAndType 70 71), (0, u "used"), (0, u "[Z"), (0, .fieldref 8 73), (0, .nameAndType 74 71), (0, u "dirty"), (0, .fieldref 8 76), (0, .nameAndType 77 55), (0, u "log"), (0, .fieldref 8 79), (0, .nameAndType 80 55), (0, u "scratchK"), (0, .fieldref 8 82), (0, .nameAndType 83 55), (0, u "scratchV"), (0, .fieldref 8 85), (0, .nameAndType 86 55), (0, u "sortedKeys"), (0, .methodref 8 88), (0, .nameAndType 89 90), (0, u "clamp"), (0, u "(III)I"), (0, .fieldref 8 92), (0, .nameAndType 93 12), (0, u "n0"), (0, .fieldref 8 95), (0, .nameAndType 96 12), (0, u "maxKeys"), (0, .fieldref 8 98), (0, .nameAndType 99 12), (0, u "maxWrites"), (0, .methodref 8 101), (0, .nameAndType 102 6), (0, u "formatDisk"), (0, .fieldref 8 104), (0, .nameAndType 105 12), (0, u "mode"), (0, .fieldref 8 107), (0, .nameAndType 108 109), (0, u "armed"), (0, u "Z"), (0, .fieldref 8 111), (0, .nameAndType 112 12), (0, u "armK"), (0, .fieldref 8 114), (0, .nameAndType 115 12), (0, u "writes"), (0, .fieldref 8 117), (0, .nameAndType 118 12), (0, u "commitSeq"), (0, .fieldref 8 120), (0, .nameAndType 121 109), (0, u "limited"), (0, .fieldref 8 123), (0, .nameAndType 124 12), (0, u "stepsLeft"), (0, .fieldref 8 126), (0, .nameAndType 127 12), (0, u "sortedN"), (0, .fieldref 8 129), (0, .nameAndType 130 109), (0, u "sortedValid"), (0, .methodref 8 132), (0, .nameAndType 133 6), (0, u "loadMemory"), (0, .methodref 8 135), (0, .nameAndType 136 6), (0, u "clearDirty"), (0, .methodref 8 138), (0, .nameAndType 139 140), (0, u "findSlot"), (0, u "(I)I"), (0, .fieldref 8 142), (0, .nameAndType 143 12), (0, u "memSize"), (3, u "()I"), (0, .methodref 8 149), (0, .nameAndType 150 151), (0, u "insertEntry"), (0, u "(II)Z"), (0, .methodref 8 153), (0, .nameAndType 154 6), (0, u "growIfNeeded"), (24, u "(II)V"), (3, .methodref 8 184), (0, .nameAndType 185 6), (0, u "scanLog"), (0, .fieldref 8 187), (0, .nameAndType 188 12), (0, u "scanEnd"), (0, .fieldref 8 190), (0, .nameAndType 191 12), (0, u "logLen"), (0, .fieldref 8 193), (0, .nameAndType 194 12), (0, u "scanLsn"), (0, .fieldref 8 196), (0, .nameAndType 197 12), (0, u "nextLsn"), (0, .fieldref 8 199), (0, .nameAndType 200 12), (0, u "scanRecords"), (3, u "(II)I"), (0, .methodref 8 206), (0, .nameAndType 207 208), (0, u "redo"), (0, u "(IZ)Z"), (0, .fieldref 8 210), (0, .nameAndType 211 12), (0, u "logBaseLsn"), (9, .fieldref 8 222), (0, .nameAndType 223 12), (0, u "memB"), (0, .methodref 8 225), (0, .nameAndType 226 204), (0, u "designated"), (0, .methodref 8 228), (0, .nameAndType 229 140), (0, u "chainLen"), (6, .integer 2654435761), (0, .methodref 8 238), (0, .nameAndType 239 140), (0, u "levelBase"), (0, .methodref 8 241), (0, .nameAndType 242 140), (0, u "hash"), (0, .methodref 8 244), (0, .nameAndType 245 140), (0, u "nextPage"), (0, .methodref 8 247), (0, .nameAndType 248 140), (0, u "entries"), (0, .methodref 8 250), (0, .nameAndType 251 204), (0, u "findInPage"), (0, .methodref 8 253), (0, .nameAndType 254 140), (0, u "lastPage"), (3, .methodref 8 259), (0, .nameAndType 260 261), (0, u "clearImage"), (0, u "(I)V"), (30, .fieldref 8 293), (0, .nameAndType 294 12), (0, u "diskB"), (0, .methodref 8 296), (0, .nameAndType 297 179), (0, u "copyPage"), (0, .methodref 8 299), (0, .nameAndType 300 6), (0, u "rebuildUsed"), (0, .methodref 8 302), (0, .nameAndType 303 147), (0, u "countAll"), (0, .methodref 8 305), (0, .nameAndType 306 261), (0, u "markChain"), (27, u "OK"), (2, u "PUT_NEW"), (1, u "PUT_UPDATED"), (1, u "REMOVED"), (1, u "NOT_FOUND"), (1, u "CRASHED"), (1, u "ERR_CRASHED"), (1, u "ERR_NO_TXN"), (1, u "ERR_IN_TXN"), (1, u "ERR_TXN_FULL"), (1, u "ERR_FULL"), (1, u "ERR_NOT_CRASHED"), (1, u "STATUS_IDLE"), (0, u "STATUS_TXN"), (0, u "STATUS_CRASHED"), (0, u "STATUS_ARMED"), (0, u "MAX_BUCKETS"), (5, u "(III)V"), (2, u "begin"), (1, u "put"), (5, u "get"), (0, u "size"), (0, u "bucketCount"), (3, u "status"), (0, u "writesUsed")] 3

def k2c0 : Code := { maxStack := 5, maxLocals := 4, code := prog_1_method_1_code, exceptionTable := #[], attributes := #[] }
def k2m0 : Method := { name := "<init>", desc := "(III)V", sig := { parameters := [.int, .int, .int], returnType := none }, accessFlags := 1, code := some k2c0 }
def k2c1 : Code := { maxStack := 2, maxLocals := 1, code := prog_1_method_2_code, exceptionTable := #[], attributes := #[] }
def k2m1 : Method := { name := "begin", desc := "()I", sig := { parameters := [], returnType := some .int }, accessFlags := 1, code := some k2c1 }
def k2c2 : Code := { maxStack := 3, maxLocals := 4, code := prog_1_method_3_code, exceptionTable := #[], attributes := #[] }
def k2m2 : Method := { name := "put", desc := "(II)I", sig := { parameters := [.int, .int], returnType := some .int }, accessFlags := 1, code := some k2c2 }
def k2c3 : Code := { maxStack := 2, maxLocals := 3, code := prog_1_method_10_code, exceptionTable := #[], attributes := #[] }
def k2m3 : Method := { name := "get", desc := "(I)I", sig := { parameters := [.int], returnType := some .int }, accessFlags := 1, code := some k2c3 }
def k2c4 : Code := { maxStack := 2, maxLocals := 1, code := prog_1_method_11_code, exceptionTable := #[], attributes := #[] }
def k2m4 : Method := { name := "size", desc := "()I", sig := { parameters := [], returnType := some .int }, accessFlags := 1, code := some k2c4 }
def k2c5 : Code := { maxStack := 2, maxLocals := 1, code := prog_1_method_12_code, exceptionTable := #[], attributes := #[] }
def k2m5 : Method := { name := "bucketCount", desc := "()I", sig := { parameters := [], returnType := some .int }, accessFlags := 1, code := some k2c5 }
def k2c6 : Code := { maxStack := 2, maxLocals := 2, code := prog_1_method_16_code, exceptionTable := #[], attributes := #[] }
def k2m6 : Method := { name := "status", desc := "()I", sig := { parameters := [], returnType := some .int }, accessFlags := 1, code := some k2c6 }
def k2c7 : Code := { maxStack := 2, maxLocals := 1, code := prog_1_method_17_code, exceptionTable := #[], attributes := #[] }
def k2m7 : Method := { name := "writesUsed", desc := "()I", sig := { parameters := [], returnType := some .int }, accessFlags := 1, code := some k2c7 }
def k2c8 : Code := { maxStack := 2, maxLocals := 4, code := prog_1_method_18_code, exceptionTable := #[], attributes := #[] }
def k2m8 : Method := { name := "clamp", desc := "(III)I", sig := { parameters := [.int, .int, .int], returnType := some .int }, accessFlags := 2, code := some k2c8 }
def k2c9 : Code := { maxStack := 2, maxLocals := 2, code := prog_1_method_22_code, exceptionTable := #[], attributes := #[] }
def k2m9 : Method := { name := "hash", desc := "(I)I", sig := { parameters := [.int], returnType := some .int }, accessFlags := 2, code := some k2c9 }
def k2c10 : Code := { maxStack := 2, maxLocals := 4, code := prog_1_method_23_code, exceptionTable := #[], attributes := #[] }
def k2m10 : Method := { name := "levelBase", desc := "(I)I", sig := { parameters := [.int], returnType := some .int }, accessFlags := 2, code := some k2c10 }
def k2c11 : Code := { maxStack := 3, maxLocals := 6, code := prog_1_method_24_code, exceptionTable := #[], attributes := #[] }
def k2m11 : Method := { name := "designated", desc := "(II)I", sig := { parameters := [.int, .int], returnType := some .int }, accessFlags := 2, code := some k2c11 }
def k2c12 : Code := { maxStack := 2, maxLocals := 3, code := prog_1_method_25_code, exceptionTable := #[], attributes := #[] }
def k2m12 : Method := { name := "entries", desc := "(I)I", sig := { parameters := [.int], returnType := some .int }, accessFlags := 2, code := some k2c12 }
def k2c13 : Code := { maxStack := 2, maxLocals := 3, code := prog_1_method_26_code, exceptionTable := #[], attributes := #[] }
def k2m13 : Method := { name := "nextPage", desc := "(I)I", sig := { parameters := [.int], returnType := some .int }, accessFlags := 2, code := some k2c13 }
def k2c14 : Code := { maxStack := 2, maxLocals := 5, code := prog_1_method_27_code, exceptionTable := #[], attributes := #[] }
def k2m14 : Method := { name := "lastPage", desc := "(I)I", sig := { parameters := [.int], returnType := some .int }, accessFlags := 2, code := some k2c14 }
def k2c15 : Code := { maxStack := 3, maxLocals := 5, code := prog_1_method_29_code, exceptionTable := #[], attributes := #[] }
def k2m15 : Method := { name := "chainLen", desc := "(I)I", sig := { parameters := [.int], returnType := some .int }, accessFlags := 2, code := some k2c15 }
def k2c16 : Code := { maxStack := 3, maxLocals := 3, code := prog_1_method_30_code, exceptionTable := #[], attributes := #[] }
def k2m16 : Method := { name := "countAll", desc := "()I", sig := { parameters := [], returnType := some .int }, accessFlags := 2, code := some k2c16 }
def k2c17 : Code := { maxStack := 3, maxLocals := 5, code := prog_1_method_31_code, exceptionTable := #[], attributes := #[] }
def k2m17 : Method := { name := "findSlot", desc := "(I)I", sig := { parameters := [.int], returnType := some .int }, accessFlags := 2, code := some k2c17 }
def k2c18 : Code := { maxStack := 3, maxLocals := 5, code := prog_1_method_32_code, exceptionTable := #[], attributes := #[] }
def k2m18 : Method := { name := "findInPage", desc := "(II)I", sig := { parameters := [.int, .int], returnType := some .int }, accessFlags := 2, code := some k2c18 }
def k2c19 : Code := { maxStack := 4, maxLocals := 7, code := prog_1_method_33_code, exceptionTable := #[], attributes := #[] }
def k2m19 : Method := { name := "insertEntry", desc := "(II)Z", sig := { parameters := [.int, .int], returnType := some .boolean }, accessFlags := 2, code := some k2c19 }
def k2c20 : Code := { maxStack := 3, maxLocals := 1, code := prog_1_method_39_code, exceptionTable := #[], attributes := #[] }
def k2m20 : Method := { name := "growIfNeeded", desc := "()V", sig := { parameters := [], returnType := none }, accessFlags := 2, code := some k2c20 }
def k2c21 : Code := { maxStack := 3, maxLocals := 3, code := prog_1_method_47_code, exceptionTable := #[], attributes := #[] }
def k2m21 : Method := { name := "clearImage", desc := "(I)V", sig := { parameters := [.int], returnType := none }, accessFlags := 2, code := some k2c21 }
def k2c22 : Code := { maxStack := 5, maxLocals := 4, code := prog_1_method_48_code, exceptionTable := #[], attributes := #[] }
def k2m22 : Method := { name := "copyPage", desc := "(II)V", sig := { parameters := [.int, .int], returnType := none }, accessFlags := 2, code := some k2c22 }
def k2c23 : Code := { maxStack := 2, maxLocals := 2, code := prog_1_method_49_code, exceptionTable := #[], attributes := #[] }
def k2m23 : Method := { name := "formatDisk", desc := "()V", sig := { parameters := [], returnType := none }, accessFlags := 2, code := some k2c23 }
def k2c24 : Code := { maxStack := 3, maxLocals := 2, code := prog_1_method_50_code, exceptionTable := #[], attributes := #[] }
def k2m24 : Method := { name := "loadMemory", desc := "()V", sig := { parameters := [], returnType := none }, accessFlags := 2, code := some k2c24 }
def k2c25 : Code := { maxStack := 4, maxLocals := 2, code := prog_1_method_51_code, exceptionTable := #[], attributes := #[] }
def k2m25 : Method := { name := "rebuildUsed", desc := "()V", sig := { parameters := [], returnType := none }, accessFlags := 2, code := some k2c25 }
def k2c26 : Code := { maxStack := 3, maxLocals := 4, code := prog_1_method_52_code, exceptionTable := #[], attributes := #[] }
def k2m26 : Method := { name := "markChain", desc := "(I)V", sig := { parameters := [.int], returnType := none }, accessFlags := 2, code := some k2c26 }
def k2c27 : Code := { maxStack := 3, maxLocals := 2, code := prog_1_method_53_code, exceptionTable := #[], attributes := #[] }
def k2m27 : Method := { name := "clearDirty", desc := "()V", sig := { parameters := [], returnType := none }, accessFlags := 2, code := some k2c27 }
def k2c28 : Code := { maxStack := 3, maxLocals := 6, code := prog_1_method_69_code, exceptionTable := #[], attributes := #[] }
def k2m28 : Method := { name := "scanLog", desc := "()V", sig := { parameters := [], returnType := none }, accessFlags := 2, code := some k2c28 }
def k2c29 : Code := { maxStack := 3, maxLocals := 6, code := prog_1_method_70_code, exceptionTable := #[], attributes := #[] }
def k2m29 : Method := { name := "redo", desc := "(IZ)Z", sig := { parameters := [.int, .boolean], returnType := some .boolean }, accessFlags := 2, code := some k2c29 }
/-- LinearHashLog -/
def k2 : Class := { plain "LinearHashLog" (some 0) with
  accessFlags := 49
  interfaces := #[]
  cf := some (fileOf pool2 8 #[] #[{ accessFlags := 1, nameIndex := 5, descriptorIndex := 369, attributes := #[] }, { accessFlags := 1, nameIndex := 372, descriptorIndex := 147, attributes := #[] }, { accessFlags := 1, nameIndex := 374, descriptorIndex := 204, attributes := #[] }, { accessFlags := 1, nameIndex := 380, descriptorIndex := 140, attributes := #[] }, { accessFlags := 1, nameIndex := 381, descriptorIndex := 147, attributes := #[] }, { accessFlags := 1, nameIndex := 382, descriptorIndex := 147, attributes := #[] }, { accessFlags := 1, nameIndex := 386, descriptorIndex := 147, attributes := #[] }, { accessFlags := 1, nameIndex := 387, descriptorIndex := 147, attributes := #[] }, { accessFlags := 2, nameIndex := 89, descriptorIndex := 90, attributes := #[] }, { accessFlags := 2, nameIndex := 242, descriptorIndex := 140, attributes := #[] }, { accessFlags := 2, nameIndex := 239, descriptorIndex := 140, attributes := #[] }, { accessFlags := 2, nameIndex := 226, descriptorIndex := 204, attributes := #[] }, { accessFlags := 2, nameIndex := 248, descriptorIndex := 140, attributes := #[] }, { accessFlags := 2, nameIndex := 245, descriptorIndex := 140, attributes := #[] }, { accessFlags := 2, nameIndex := 254, descriptorIndex := 140, attributes := #[] }, { accessFlags := 2, nameIndex := 229, descriptorIndex := 140, attributes := #[] }, { accessFlags := 2, nameIndex := 303, descriptorIndex := 147, attributes := #[] }, { accessFlags := 2, nameIndex := 139, descriptorIndex := 140, attributes := #[] }, { accessFlags := 2, nameIndex := 251, descriptorIndex := 204, attributes := #[] }, { accessFlags := 2, nameIndex := 150, descriptorIndex := 151, attributes := #[] }, { accessFlags := 2, nameIndex := 154, descriptorIndex := 6, attributes := #[] }, { accessFlags := 2, nameIndex := 260, descriptorIndex := 261, attributes := #[] }, { accessFlags := 2, nameIndex := 297, descriptorIndex := 179, attributes := #[] }, { accessFlags := 2, nameIndex := 102, descriptorIndex := 6, attributes := #[] }, { accessFlags := 2, nameIndex := 133, descriptorIndex := 6, attributes := #[] }, { accessFlags := 2, nameIndex := 300, descriptorIndex := 6, attributes := #[] }, { accessFlags := 2, nameIndex := 306, descriptorIndex := 261, attributes := #[] }, { accessFlags := 2, nameIndex := 136, descriptorIndex := 6, attributes := #[] }, { accessFlags := 2, nameIndex := 185, descriptorIndex := 6, attributes := #[] }, { accessFlags := 2, nameIndex := 207, descriptorIndex := 208, attributes := #[] }] 49 2 #[] #[{ accessFlags := 25, nameIndex := 334, descriptorIndex := 12, attributes := #[] }, { accessFlags := 25, nameIndex := 337, descriptorIndex := 12, attributes := #[] }, { accessFlags := 25, nameIndex := 339, descriptorIndex := 12, attributes := #[] }, { accessFlags := 25, nameIndex := 341, descriptorIndex := 12, attributes := #[] }, { accessFlags := 25, nameIndex := 343, descriptorIndex := 12, attributes := #[] }, { accessFlags := 25, nameIndex := 345, descriptorIndex := 12, attributes := #[] }, { accessFlags := 25, nameIndex := 347, descriptorIndex := 12, attributes := #[] }, { accessFlags := 25, nameIndex := 349, descriptorIndex := 12, attributes := #[] }, { accessFlags := 25, nameIndex := 351, descriptorIndex := 12, attributes := #[] }, { accessFlags := 25, nameIndex := 353, descriptorIndex := 12, attributes := #[] }, { accessFlags := 25, nameIndex := 355, descriptorIndex := 12, attributes := #[] }, { accessFlags := 25, nameIndex := 357, descriptorIndex := 12, attributes := #[] }, { accessFlags := 25, nameIndex := 359, descriptorIndex := 12, attributes := #[] }, { accessFlags := 25, nameIndex := 360, descriptorIndex := 12, attributes := #[] }, { accessFlags := 25, nameIndex := 361, descriptorIndex := 12, attributes := #[] }, { accessFlags := 25, nameIndex := 362, descriptorIndex := 12, attributes := #[] }, { accessFlags := 25, nameIndex := 363, descriptorIndex := 12, attributes := #[] }, { accessFlags := 18, nameIndex := 11, descriptorIndex := 12, attributes := #[] }, { accessFlags := 18, nameIndex := 15, descriptorIndex := 12, attributes := #[] }, { accessFlags := 18, nameIndex := 18, descriptorIndex := 12, attributes := #[] }, { accessFlags := 18, nameIndex := 21, descriptorIndex := 12, attributes := #[] }, { accessFlags := 18, nameIndex := 24, descriptorIndex := 12, attributes := #[] }, { accessFlags := 18, nameIndex := 27, descriptorIndex := 12, attributes := #[] }, { accessFlags := 18, nameIndex := 30, descriptorIndex := 12, attributes := #[] }, { accessFlags := 18, nameIndex := 33, descriptorIndex := 12, attributes := #[] }, { accessFlags := 18, nameIndex := 36, descriptorIndex := 12, attributes := #[] }, { accessFlags := 18, nameIndex := 39, descriptorIndex := 12, attributes := #[] }, { accessFlags := 18, nameIndex := 42, descriptorIndex := 12, attributes := #[] }, { accessFlags := 18, nameIndex := 45, descriptorIndex := 12, attributes := #[] }, { accessFlags := 18, nameIndex := 48, descriptorIndex := 12, attributes := #[] }, { accessFlags := 18, nameIndex := 51, descriptorIndex := 12, attributes := #[] }, { accessFlags := 2, nameIndex := 93, descriptorIndex := 12, attributes := #[] }, { accessFlags := 2, nameIndex := 96, descriptorIndex := 12, attributes := #[] }, { accessFlags := 2, nameIndex := 99, descriptorIndex := 12, attributes := #[] }, { accessFlags := 2, nameIndex := 105, descriptorIndex := 12, attributes := #[] }, { accessFlags := 2, nameIndex := 108, descriptorIndex := 109, attributes := #[] }, { accessFlags := 2, nameIndex := 112, descriptorIndex := 12, attributes := #[] }, { accessFlags := 2, nameIndex := 115, descriptorIndex := 12, attributes := #[] }, { accessFlags := 18, nameIndex := 54, descriptorIndex := 55, attributes := #[] }, { accessFlags := 18, nameIndex := 58, descriptorIndex := 55, attributes := #[] }, { accessFlags := 18, nameIndex := 61, descriptorIndex := 55, attributes := #[] }, { accessFlags := 18, nameIndex := 64, descriptorIndex := 55, attributes := #[] }, { accessFlags := 18, nameIndex := 67, descriptorIndex := 55, attributes := #[] }, { accessFlags := 18, nameIndex := 70, descriptorIndex := 71, attributes := #[] }, { accessFlags := 18, nameIndex := 74, descriptorIndex := 71, attributes := #[] }, { accessFlags := 2, nameIndex := 223, descriptorIndex := 12, attributes := #[] }, { accessFlags := 2, nameIndex := 143, descriptorIndex := 12, attributes := #[] }, { accessFlags := 2, nameIndex := 294, descriptorIndex := 12, attributes := #[] }, { accessFlags := 18, nameIndex := 77, descriptorIndex := 55, attributes := #[] }, { accessFlags := 2, nameIndex := 191, descriptorIndex := 12, attributes := #[] }, { accessFlags := 2, nameIndex := 211, descriptorIndex := 12, attributes := #[] }, { accessFlags := 2, nameIndex := 197, descriptorIndex := 12, attributes := #[] }, { accessFlags := 2, nameIndex := 118, descriptorIndex := 12, attributes := #[] }, { accessFlags := 2, nameIndex := 121, descriptorIndex := 109, attributes := #[] }, { accessFlags := 2, nameIndex := 124, descriptorIndex := 12, attributes := #[] }, { accessFlags := 2, nameIndex := 188, descriptorIndex := 12, attributes := #[] }, { accessFlags := 2, nameIndex := 194, descriptorIndex := 12, attributes := #[] }, { accessFlags := 2, nameIndex := 200, descriptorIndex := 12, attributes := #[] }, { accessFlags := 18, nameIndex := 80, descriptorIndex := 55, attributes := #[] }, { accessFlags := 18, nameIndex := 83, descriptorIndex := 55, attributes := #[] }, { accessFlags := 18, nameIndex := 86, descriptorIndex := 55, attributes := #[] }, { accessFlags := 2, nameIndex := 127, descriptorIndex := 12, attributes := #[] }, { accessFlags := 2, nameIndex := 130, descriptorIndex := 109, attributes := #[] }])
  fields := #[{ name := "OK", type := .int, accessFlags := 25, slot := 0, constantValue := 0 }, { name := "PUT_NEW", type := .int, accessFlags := 25, slot := 1, constantValue := 0 }, { name := "PUT_UPDATED", type := .int, accessFlags := 25, slot := 2, constantValue := 0 }, { name := "REMOVED", type := .int, accessFlags := 25, slot := 3, constantValue := 0 }, { name := "NOT_FOUND", type := .int, accessFlags := 25, slot := 4, constantValue := 0 }, { name := "CRASHED", type := .int, accessFlags := 25, slot := 5, constantValue := 0 }, { name := "ERR_CRASHED", type := .int, accessFlags := 25, slot := 6, constantValue := 0 }, { name := "ERR_NO_TXN", type := .int, accessFlags := 25, slot := 7, constantValue := 0 }, { name := "ERR_IN_TXN", type := .int, accessFlags := 25, slot := 8, constantValue := 0 }, { name := "ERR_TXN_FULL", type := .int, accessFlags := 25, slot := 9, constantValue := 0 }, { name := "ERR_FULL", type := .int, accessFlags := 25, slot := 10, constantValue := 0 }, { name := "ERR_NOT_CRASHED", type := .int, accessFlags := 25, slot := 11, constantValue := 0 }, { name := "STATUS_IDLE", type := .int, accessFlags := 25, slot := 12, constantValue := 0 }, { name := "STATUS_TXN", type := .int, accessFlags := 25, slot := 13, constantValue := 0 }, { name := "STATUS_CRASHED", type := .int, accessFlags := 25, slot := 14, constantValue := 0 }, { name := "STATUS_ARMED", type := .int, accessFlags := 25, slot := 15, constantValue := 0 }, { name := "MAX_BUCKETS", type := .int, accessFlags := 25, slot := 16, constantValue := 0 }, { name := "cap", type := .int, accessFlags := 18, slot := 0, constantValue := 0 }, { name := "pages", type := .int, accessFlags := 18, slot := 1, constantValue := 0 }, { name := "firstOverflow", type := .int, accessFlags := 18, slot := 2, constantValue := 0 }, { name := "diskBase", type := .int, accessFlags := 18, slot := 3, constantValue := 0 }, { name := "keyCap", type := .int, accessFlags := 18, slot := 4, constantValue := 0 }, { name := "logCap", type := .int, accessFlags := 18, slot := 5, constantValue := 0 }, { name := "recPage", type := .int, accessFlags := 18, slot := 6, constantValue := 0 }, { name := "recMeta", type := .int, accessFlags := 18, slot := 7, constantValue := 0 }, { name := "recCommit", type := .int, accessFlags := 18, slot := 8, constantValue := 0 }, { name := "pageRecLen", type := .int, accessFlags := 18, slot := 9, constantValue := 0 }, { name := "shortRecLen", type := .int, accessFlags := 18, slot := 10, constantValue := 0 }, { name := "modeIdle", type := .int, accessFlags := 18, slot := 11, constantValue := 0 }, { name := "modeTxn", type := .int, accessFlags := 18, slot := 12, constantValue := 0 }, { name := "modeCrashed", type := .int, accessFlags := 18, slot := 13, constantValue := 0 }, { name := "n0", type := .int, accessFlags := 2, slot := 14, constantValue := 0 }, { name := "maxKeys", type := .int, accessFlags := 2, slot := 15, constantValue := 0 }, { name := "maxWrites", type := .int, accessFlags := 2, slot := 16, constantValue := 0 }, { name := "mode", type := .int, accessFlags := 2, slot := 17, constantValue := 0 }, { name := "armed", type := .boolean, accessFlags := 2, slot := 18, constantValue := 0 }, { name := "armK", type := .int, accessFlags := 2, slot := 19, constantValue := 0 }, { name := "writes", type := .int, accessFlags := 2, slot := 20, constantValue := 0 }, { name := "pCnt", type := (.array .int), accessFlags := 18, slot := 21, constantValue := 0 }, { name := "pNext", type := (.array .int), accessFlags := 18, slot := 22, constantValue := 0 }, { name := "pLsn", type := (.array .int), accessFlags := 18, slot := 23, constantValue := 0 }, { name := "pKey", type := (.array .int), accessFlags := 18, slot := 24, constantValue := 0 }, { name := "pVal", type := (.array .int), accessFlags := 18, slot := 25, constantValue := 0 }, { name := "used", type := (.array .boolean), accessFlags := 18, slot := 26, constantValue := 0 }, { name := "dirty", type := (.array .boolean), accessFlags := 18, slot := 27, constantValue := 0 }, { name := "memB", type := .int, accessFlags := 2, slot := 28, constantValue := 0 }, { name := "memSize", type := .int, accessFlags := 2, slot := 29, constantValue := 0 }, { name := "diskB", type := .int, accessFlags := 2, slot := 30, constantValue := 0 }, { name := "log", type := (.array .int), accessFlags := 18, slot := 31, constantValue := 0 }, { name := "logLen", type := .int, accessFlags := 2, slot := 32, constantValue := 0 }, { name := "logBaseLsn", type := .int, accessFlags := 2, slot := 33, constantValue := 0 }, { name := "nextLsn", type := .int, accessFlags := 2, slot := 34, constantValue := 0 }, { name := "commitSeq", type := .int, accessFlags := 2, slot := 35, constantValue := 0 }, { name := "limited", type := .boolean, accessFlags := 2, slot := 36, constantValue := 0 }, { name := "stepsLeft", type := .int, accessFlags := 2, slot := 37, constantValue := 0 }, { name := "scanEnd", type := .int, accessFlags := 2, slot := 38, constantValue := 0 }, { name := "scanLsn", type := .int, accessFlags := 2, slot := 39, constantValue := 0 }, { name := "scanRecords", type := .int, accessFlags := 2, slot := 40, constantValue := 0 }, { name := "scratchK", type := (.array .int), accessFlags := 18, slot := 41, constantValue := 0 }, { name := "scratchV", type := (.array .int), accessFlags := 18, slot := 42, constantValue := 0 }, { name := "sortedKeys", type := (.array .int), accessFlags := 18, slot := 43, constantValue := 0 }, { name := "sortedN", type := .int, accessFlags := 2, slot := 44, constantValue := 0 }, { name := "sortedValid", type := .boolean, accessFlags := 2, slot := 45, constantValue := 0 }]
  methods := #[k2m0, k2m1, k2m2, k2m3, k2m4, k2m5, k2m6, k2m7, k2m8, k2m9, k2m10, k2m11, k2m12, k2m13, k2m14, k2m15, k2m16, k2m17, k2m18, k2m19, k2m20, k2m21, k2m22, k2m23, k2m24, k2m25, k2m26, k2m27, k2m28, k2m29]
  instanceTypes := #[.int, .int, .int, .int, .int, .int, .int, .int, .int, .int, .int, .int, .int, .int, .int, .int, .int, .int, .boolean, .int, .int, (.array .int), (.array .int), (.array .int), (.array .int), (.array .int), (.array .boolean), (.array .boolean), .int, .int, .int, (.array .int), .int, .int, .int, .int, .boolean, .int, .int, .int, .int, (.array .int), (.array .int), (.array .int), .int, .boolean]
  staticTypes := #[.int, .int, .int, .int, .int, .int, .int, .int, .int, .int, .int, .int, .int, .int, .int, .int, .int]
  resolved := Array.replicate 391 none
  statics := none }

def pool3 : Array CpInfo := pool [(1, u "java/lang/Cloneable"), (0, .class_ 1), (0, u "java/lang/Object"), (0, .class_ 3)] 3

/-- java/lang/Cloneable -/
def k3 : Class := { plain "java/lang/Cloneable" (some 0) with
  accessFlags := 1537
  interfaces := #[]
  cf := some (fileOf pool3 2 #[] #[] 1537 4 #[] #[])
  fields := #[]
  methods := #[]
  instanceTypes := #[]
  staticTypes := #[]
  resolved := Array.replicate 8 none
  statics := none }

def pool4 : Array CpInfo := pool [(1, u "java/io/Serializable"), (0, .class_ 1), (0, u "java/lang/Object"), (0, .class_ 3)] 3

/-- java/io/Serializable -/
def k4 : Class := { plain "java/io/Serializable" (some 0) with
  accessFlags := 1537
  interfaces := #[]
  cf := some (fileOf pool4 2 #[] #[] 1537 4 #[] #[])
  fields := #[]
  methods := #[]
  instanceTypes := #[]
  staticTypes := #[]
  resolved := Array.replicate 8 none
  statics := none }

/-- the primitive boolean -/
def k5 : Class := { plain "boolean" none with kind := .primitive 'Z', accessFlags := 0x411 }
/-- [Z -/
def k6 : Class := { plain "[Z" (some 0) with kind := .array 5 .boolean, interfaces := #[3, 4], accessFlags := 1041 }

/-- the primitive byte -/
def k7 : Class := { plain "byte" none with kind := .primitive 'B', accessFlags := 0x411 }
/-- [B -/
def k8 : Class := { plain "[B" (some 0) with kind := .array 7 .byte, interfaces := #[3, 4], accessFlags := 1041 }

/-- the primitive int -/
def k9 : Class := { plain "int" none with kind := .primitive 'I', accessFlags := 0x411 }
/-- [I -/
def k10 : Class := { plain "[I" (some 0) with kind := .array 9 .int, interfaces := #[3, 4], accessFlags := 1041 }

def heap : Heap := #[]
def classes : Array Class := #[k0, k1, k2, k3, k4, k5, k6, k7, k8, k9, k10]
def interned : List (Array UInt16 × Addr) := []
def slotsUsed : Nat := 0
def theMethod : MethodId := ⟨1, 1⟩
def args0 : Array Value := #[.int 5, .int 5, .int 5, .int 5, .int 5, .int 5]
def aboutOver (below : List Frame) : State where
  vm := { classes := classes, interned := interned.toArray }
  heap := heap
  slotsUsed := slotsUsed
  threads := #[{ frames := .invoking theMethod args0 :: below }]
def below0 : List Frame := [.native { method := ⟨0, 0⟩, args := #[] }]
def about1 : State := aboutOver below0
def p0 : Program := .bare "" "" ""
def e0 : Env := launch0.env 0 0 0
theorem w_frames : about1.frames = Frame.invoking theMethod args0 :: below0 := rfl
set_option maxRecDepth 65536 in
theorem w_args : argsFit about1.vm theMethod args0 = true := by decide +kernel
set_option maxRecDepth 65536 in
theorem w_heap : heapFits about1 = true := by decide +kernel
set_option maxRecDepth 65536 in
theorem w_runnable : about1.curStatus? = some .runnable := by decide +kernel
set_option maxRecDepth 65536 in
theorem w_alone : about1.alone = true := by decide +kernel
set_option maxRecDepth 65536 in
theorem w_named : about1.methodNamed? x = some theMethod := by decide +kernel
set_option maxRecDepth 65536 in
theorem w_hears : about1.hears theMethod below0 = true := by decide +kernel
set_option maxRecDepth 65536 in
theorem w_ripe : about1.ripe theMethod args0 below0 = true := by decide +kernel
theorem w_running : about1.status = .running := rfl
set_option maxRecDepth 65536 in
theorem w_room : about1.hasRoom e0.platform room_1 = true :=
  launch0.hasRoom_least _ room_1 (by decide +kernel) (by decide +kernel) (by decide +kernel) (by decide +kernel) (by decide +kernel) (by decide +kernel)
theorem allAtoms_all (ts : List Jvm.Cond) (a : Array Jvm.Value) (st : Jvm.State) : (allAtoms ts).before a st = ts.all (fun c => c.before a st) := by
  induction ts with
  | nil => rfl
  | cons c t ih =>
    show (Jvm.Cond.and c (allAtoms t)).before a st = _
    rw [Jvm.Cond.before_and, ih, List.all_cons]
def words1 : List Jvm.Cond := Jvm.Cond.code x code maxLocals ret :: tables_1
/-- a 'code' word, met by the world's own term for the bytes: nothing is compared byte by byte -/
theorem code_word {y : MethodName} {bytes : ByteArray} {mx : Nat} {rt : Option FieldType} {a : Array Value} {s : State} {m : MethodId} {meth : Method} {c : Code} (h1 : s.methodNamed? y = some m) (h2 : s.vm.method? m = some meth) (h3 : meth.code = some c) (h4 : c.code = bytes)
    (h5 : (c.maxLocals == mx && c.exceptionTable.isEmpty && decide (c.maxStack ≤ mostOperands) && decide (meth.sig.returnType = rt) && !meth.locks && decide (parseMethodDescriptor y.desc = some meth.sig)) = true) : (Jvm.Cond.code y bytes mx rt).before a s = true := by
  simp only [Bool.and_eq_true, beq_iff_eq, Bool.not_eq_true', decide_eq_true_eq] at h5
  obtain ⟨⟨⟨⟨⟨g1, g2⟩, g3⟩, g4⟩, g5⟩, g6⟩ := h5
  simp [Cond.before, Cond.holds, Cond.value, h1, h2, h3, h4, g1, g2, g3, g4, g5, g6]
def isCode : Jvm.Cond → Bool
  | .code _ _ _ _ => true
  | _ => false
theorem all_split {L : List Jvm.Cond} {P : Jvm.Cond → Bool} (h1 : L.all (fun c => isCode c || P c) = true) (h2 : ∀ c ∈ L.filter isCode, P c = true) : L.all P = true := by
  refine List.all_eq_true.mpr fun c hc => ?_
  have h := List.all_eq_true.mp h1 c hc
  rcases Bool.eq_false_or_eq_true (isCode c) with hi | hi
  · exact h2 c (List.mem_filter.mpr ⟨hc, hi⟩)
  · simpa [hi] using h
set_option maxRecDepth 65536 in
theorem w_c0 : (Jvm.Cond.code x code maxLocals ret).before args0 about1 = true := code_word (m := ⟨1, 1⟩) (meth := k1m1) (c := k1c1) (by decide +kernel) rfl rfl rfl (by decide +kernel)
set_option maxRecDepth 65536 in
theorem w_c1 : (Jvm.Cond.code ({ cls := "LinearHashLog", name := "<init>", desc := "(III)V" } : Jvm.MethodName) prog_1_method_1_code (4 : Nat) (Option.none : Option Jvm.ClassFile.FieldType)).before args0 about1 = true := code_word (m := ⟨2, 0⟩) (meth := k2m0) (c := k2c0) (by decide +kernel) rfl rfl rfl (by decide +kernel)
set_option maxRecDepth 65536 in
theorem w_c2 : (Jvm.Cond.code ({ cls := "java/lang/Object", name := "<init>", desc := "()V" } : Jvm.MethodName) object_method_1_code (1 : Nat) (Option.none : Option Jvm.ClassFile.FieldType)).before args0 about1 = true := code_word (m := ⟨0, 0⟩) (meth := k0m0) (c := k0c0) (by decide +kernel) rfl rfl rfl (by decide +kernel)
set_option maxRecDepth 65536 in
theorem w_c3 : (Jvm.Cond.code ({ cls := "LinearHashLog", name := "clamp", desc := "(III)I" } : Jvm.MethodName) prog_1_method_18_code (4 : Nat) (Option.some Jvm.ClassFile.FieldType.int)).before args0 about1 = true := code_word (m := ⟨2, 8⟩) (meth := k2m8) (c := k2c8) (by decide +kernel) rfl rfl rfl (by decide +kernel)
set_option maxRecDepth 65536 in
theorem w_c4 : (Jvm.Cond.code ({ cls := "LinearHashLog", name := "formatDisk", desc := "()V" } : Jvm.MethodName) prog_1_method_49_code (2 : Nat) (Option.none : Option Jvm.ClassFile.FieldType)).before args0 about1 = true := code_word (m := ⟨2, 23⟩) (meth := k2m23) (c := k2c23) (by decide +kernel) rfl rfl rfl (by decide +kernel)
set_option maxRecDepth 65536 in
theorem w_c5 : (Jvm.Cond.code ({ cls := "LinearHashLog", name := "clearImage", desc := "(I)V" } : Jvm.MethodName) prog_1_method_47_code (3 : Nat) (Option.none : Option Jvm.ClassFile.FieldType)).before args0 about1 = true := code_word (m := ⟨2, 21⟩) (meth := k2m21) (c := k2c21) (by decide +kernel) rfl rfl rfl (by decide +kernel)
set_option maxRecDepth 65536 in
theorem w_c6 : (Jvm.Cond.code ({ cls := "LinearHashLog", name := "loadMemory", desc := "()V" } : Jvm.MethodName) prog_1_method_50_code (2 : Nat) (Option.none : Option Jvm.ClassFile.FieldType)).before args0 about1 = true := code_word (m := ⟨2, 24⟩) (meth := k2m24) (c := k2c24) (by decide +kernel) rfl rfl rfl (by decide +kernel)
set_option maxRecDepth 65536 in
theorem w_c7 : (Jvm.Cond.code ({ cls := "LinearHashLog", name := "copyPage", desc := "(II)V" } : Jvm.MethodName) prog_1_method_48_code (4 : Nat) (Option.none : Option Jvm.ClassFile.FieldType)).before args0 about1 = true := code_word (m := ⟨2, 22⟩) (meth := k2m22) (c := k2c22) (by decide +kernel) rfl rfl rfl (by decide +kernel)
set_option maxRecDepth 65536 in
theorem w_c8 : (Jvm.Cond.code ({ cls := "LinearHashLog", name := "scanLog", desc := "()V" } : Jvm.MethodName) prog_1_method_69_code (6 : Nat) (Option.none : Option Jvm.ClassFile.FieldType)).before args0 about1 = true := code_word (m := ⟨2, 28⟩) (meth := k2m28) (c := k2c28) (by decide +kernel) rfl rfl rfl (by decide +kernel)
set_option maxRecDepth 65536 in
theorem w_c9 : (Jvm.Cond.code ({ cls := "LinearHashLog", name := "redo", desc := "(IZ)Z" } : Jvm.MethodName) prog_1_method_70_code (6 : Nat) (Option.some Jvm.ClassFile.FieldType.boolean)).before args0 about1 = true := code_word (m := ⟨2, 29⟩) (meth := k2m29) (c := k2c29) (by decide +kernel) rfl rfl rfl (by decide +kernel)
set_option maxRecDepth 65536 in
theorem w_c10 : (Jvm.Cond.code ({ cls := "LinearHashLog", name := "rebuildUsed", desc := "()V" } : Jvm.MethodName) prog_1_method_51_code (2 : Nat) (Option.none : Option Jvm.ClassFile.FieldType)).before args0 about1 = true := code_word (m := ⟨2, 25⟩) (meth := k2m25) (c := k2c25) (by decide +kernel) rfl rfl rfl (by decide +kernel)
set_option maxRecDepth 65536 in
theorem w_c11 : (Jvm.Cond.code ({ cls := "LinearHashLog", name := "markChain", desc := "(I)V" } : Jvm.MethodName) prog_1_method_52_code (4 : Nat) (Option.none : Option Jvm.ClassFile.FieldType)).before args0 about1 = true := code_word (m := ⟨2, 26⟩) (meth := k2m26) (c := k2c26) (by decide +kernel) rfl rfl rfl (by decide +kernel)
set_option maxRecDepth 65536 in
theorem w_c12 : (Jvm.Cond.code ({ cls := "LinearHashLog", name := "nextPage", desc := "(I)I" } : Jvm.MethodName) prog_1_method_26_code (3 : Nat) (Option.some Jvm.ClassFile.FieldType.int)).before args0 about1 = true := code_word (m := ⟨2, 13⟩) (meth := k2m13) (c := k2c13) (by decide +kernel) rfl rfl rfl (by decide +kernel)
set_option maxRecDepth 65536 in
theorem w_c13 : (Jvm.Cond.code ({ cls := "LinearHashLog", name := "countAll", desc := "()I" } : Jvm.MethodName) prog_1_method_30_code (3 : Nat) (Option.some Jvm.ClassFile.FieldType.int)).before args0 about1 = true := code_word (m := ⟨2, 16⟩) (meth := k2m16) (c := k2c16) (by decide +kernel) rfl rfl rfl (by decide +kernel)
set_option maxRecDepth 65536 in
theorem w_c14 : (Jvm.Cond.code ({ cls := "LinearHashLog", name := "chainLen", desc := "(I)I" } : Jvm.MethodName) prog_1_method_29_code (5 : Nat) (Option.some Jvm.ClassFile.FieldType.int)).before args0 about1 = true := code_word (m := ⟨2, 15⟩) (meth := k2m15) (c := k2c15) (by decide +kernel) rfl rfl rfl (by decide +kernel)
set_option maxRecDepth 65536 in
theorem w_c15 : (Jvm.Cond.code ({ cls := "LinearHashLog", name := "entries", desc := "(I)I" } : Jvm.MethodName) prog_1_method_25_code (3 : Nat) (Option.some Jvm.ClassFile.FieldType.int)).before args0 about1 = true := code_word (m := ⟨2, 12⟩) (meth := k2m12) (c := k2c12) (by decide +kernel) rfl rfl rfl (by decide +kernel)
set_option maxRecDepth 65536 in
theorem w_c16 : (Jvm.Cond.code ({ cls := "LinearHashLog", name := "clearDirty", desc := "()V" } : Jvm.MethodName) prog_1_method_53_code (2 : Nat) (Option.none : Option Jvm.ClassFile.FieldType)).before args0 about1 = true := code_word (m := ⟨2, 27⟩) (meth := k2m27) (c := k2c27) (by decide +kernel) rfl rfl rfl (by decide +kernel)
set_option maxRecDepth 65536 in
theorem w_c17 : (Jvm.Cond.code ({ cls := "LinearHashLog", name := "begin", desc := "()I" } : Jvm.MethodName) prog_1_method_2_code (1 : Nat) (Option.some Jvm.ClassFile.FieldType.int)).before args0 about1 = true := code_word (m := ⟨2, 1⟩) (meth := k2m1) (c := k2c1) (by decide +kernel) rfl rfl rfl (by decide +kernel)
set_option maxRecDepth 65536 in
theorem w_c18 : (Jvm.Cond.code ({ cls := "LinearHashLog", name := "put", desc := "(II)I" } : Jvm.MethodName) prog_1_method_3_code (4 : Nat) (Option.some Jvm.ClassFile.FieldType.int)).before args0 about1 = true := code_word (m := ⟨2, 2⟩) (meth := k2m2) (c := k2c2) (by decide +kernel) rfl rfl rfl (by decide +kernel)
set_option maxRecDepth 65536 in
theorem w_c19 : (Jvm.Cond.code ({ cls := "LinearHashLog", name := "findSlot", desc := "(I)I" } : Jvm.MethodName) prog_1_method_31_code (5 : Nat) (Option.some Jvm.ClassFile.FieldType.int)).before args0 about1 = true := code_word (m := ⟨2, 17⟩) (meth := k2m17) (c := k2c17) (by decide +kernel) rfl rfl rfl (by decide +kernel)
set_option maxRecDepth 65536 in
theorem w_c20 : (Jvm.Cond.code ({ cls := "LinearHashLog", name := "designated", desc := "(II)I" } : Jvm.MethodName) prog_1_method_24_code (6 : Nat) (Option.some Jvm.ClassFile.FieldType.int)).before args0 about1 = true := code_word (m := ⟨2, 11⟩) (meth := k2m11) (c := k2c11) (by decide +kernel) rfl rfl rfl (by decide +kernel)
set_option maxRecDepth 65536 in
theorem w_c21 : (Jvm.Cond.code ({ cls := "LinearHashLog", name := "levelBase", desc := "(I)I" } : Jvm.MethodName) prog_1_method_23_code (4 : Nat) (Option.some Jvm.ClassFile.FieldType.int)).before args0 about1 = true := code_word (m := ⟨2, 10⟩) (meth := k2m10) (c := k2c10) (by decide +kernel) rfl rfl rfl (by decide +kernel)
set_option maxRecDepth 65536 in
theorem w_c22 : (Jvm.Cond.code ({ cls := "LinearHashLog", name := "hash", desc := "(I)I" } : Jvm.MethodName) prog_1_method_22_code (2 : Nat) (Option.some Jvm.ClassFile.FieldType.int)).before args0 about1 = true := code_word (m := ⟨2, 9⟩) (meth := k2m9) (c := k2c9) (by decide +kernel) rfl rfl rfl (by decide +kernel)
set_option maxRecDepth 65536 in
theorem w_c23 : (Jvm.Cond.code ({ cls := "LinearHashLog", name := "findInPage", desc := "(II)I" } : Jvm.MethodName) prog_1_method_32_code (5 : Nat) (Option.some Jvm.ClassFile.FieldType.int)).before args0 about1 = true := code_word (m := ⟨2, 18⟩) (meth := k2m18) (c := k2c18) (by decide +kernel) rfl rfl rfl (by decide +kernel)
set_option maxRecDepth 65536 in
theorem w_c24 : (Jvm.Cond.code ({ cls := "LinearHashLog", name := "insertEntry", desc := "(II)Z" } : Jvm.MethodName) prog_1_method_33_code (7 : Nat) (Option.some Jvm.ClassFile.FieldType.boolean)).before args0 about1 = true := code_word (m := ⟨2, 19⟩) (meth := k2m19) (c := k2c19) (by decide +kernel) rfl rfl rfl (by decide +kernel)
set_option maxRecDepth 65536 in
theorem w_c25 : (Jvm.Cond.code ({ cls := "LinearHashLog", name := "lastPage", desc := "(I)I" } : Jvm.MethodName) prog_1_method_27_code (5 : Nat) (Option.some Jvm.ClassFile.FieldType.int)).before args0 about1 = true := code_word (m := ⟨2, 14⟩) (meth := k2m14) (c := k2c14) (by decide +kernel) rfl rfl rfl (by decide +kernel)
set_option maxRecDepth 65536 in
theorem w_c26 : (Jvm.Cond.code ({ cls := "LinearHashLog", name := "growIfNeeded", desc := "()V" } : Jvm.MethodName) prog_1_method_39_code (1 : Nat) (Option.none : Option Jvm.ClassFile.FieldType)).before args0 about1 = true := code_word (m := ⟨2, 20⟩) (meth := k2m20) (c := k2c20) (by decide +kernel) rfl rfl rfl (by decide +kernel)
set_option maxRecDepth 65536 in
theorem w_c27 : (Jvm.Cond.code ({ cls := "LinearHashLog", name := "writesUsed", desc := "()I" } : Jvm.MethodName) prog_1_method_17_code (1 : Nat) (Option.some Jvm.ClassFile.FieldType.int)).before args0 about1 = true := code_word (m := ⟨2, 7⟩) (meth := k2m7) (c := k2c7) (by decide +kernel) rfl rfl rfl (by decide +kernel)
set_option maxRecDepth 65536 in
theorem w_c28 : (Jvm.Cond.code ({ cls := "LinearHashLog", name := "size", desc := "()I" } : Jvm.MethodName) prog_1_method_11_code (1 : Nat) (Option.some Jvm.ClassFile.FieldType.int)).before args0 about1 = true := code_word (m := ⟨2, 4⟩) (meth := k2m4) (c := k2c4) (by decide +kernel) rfl rfl rfl (by decide +kernel)
set_option maxRecDepth 65536 in
theorem w_c29 : (Jvm.Cond.code ({ cls := "LinearHashLog", name := "get", desc := "(I)I" } : Jvm.MethodName) prog_1_method_10_code (3 : Nat) (Option.some Jvm.ClassFile.FieldType.int)).before args0 about1 = true := code_word (m := ⟨2, 3⟩) (meth := k2m3) (c := k2c3) (by decide +kernel) rfl rfl rfl (by decide +kernel)
set_option maxRecDepth 65536 in
theorem w_c30 : (Jvm.Cond.code ({ cls := "LinearHashLog", name := "bucketCount", desc := "()I" } : Jvm.MethodName) prog_1_method_12_code (1 : Nat) (Option.some Jvm.ClassFile.FieldType.int)).before args0 about1 = true := code_word (m := ⟨2, 5⟩) (meth := k2m5) (c := k2c5) (by decide +kernel) rfl rfl rfl (by decide +kernel)
set_option maxRecDepth 65536 in
theorem w_c31 : (Jvm.Cond.code ({ cls := "LinearHashLog", name := "status", desc := "()I" } : Jvm.MethodName) prog_1_method_16_code (2 : Nat) (Option.some Jvm.ClassFile.FieldType.int)).before args0 about1 = true := code_word (m := ⟨2, 6⟩) (meth := k2m6) (c := k2c6) (by decide +kernel) rfl rfl rfl (by decide +kernel)
def codes1 : List Jvm.Cond := [Jvm.Cond.code x code maxLocals ret, Jvm.Cond.code ({ cls := "LinearHashLog", name := "<init>", desc := "(III)V" } : Jvm.MethodName) prog_1_method_1_code (4 : Nat) (Option.none : Option Jvm.ClassFile.FieldType), Jvm.Cond.code ({ cls := "java/lang/Object", name := "<init>", desc := "()V" } : Jvm.MethodName) object_method_1_code (1 : Nat) (Option.none : Option Jvm.ClassFile.FieldType), Jvm.Cond.code ({ cls := "LinearHashLog", name := "clamp", desc := "(III)I" } : Jvm.MethodName) prog_1_method_18_code (4 : Nat) (Option.some Jvm.ClassFile.FieldType.int), Jvm.Cond.code ({ cls := "LinearHashLog", name := "formatDisk", desc := "()V" } : Jvm.MethodName) prog_1_method_49_code (2 : Nat) (Option.none : Option Jvm.ClassFile.FieldType), Jvm.Cond.code ({ cls := "LinearHashLog", name := "clearImage", desc := "(I)V" } : Jvm.MethodName) prog_1_method_47_code (3 : Nat) (Option.none : Option Jvm.ClassFile.FieldType), Jvm.Cond.code ({ cls := "LinearHashLog", name := "loadMemory", desc := "()V" } : Jvm.MethodName) prog_1_method_50_code (2 : Nat) (Option.none : Option Jvm.ClassFile.FieldType), Jvm.Cond.code ({ cls := "LinearHashLog", name := "copyPage", desc := "(II)V" } : Jvm.MethodName) prog_1_method_48_code (4 : Nat) (Option.none : Option Jvm.ClassFile.FieldType), Jvm.Cond.code ({ cls := "LinearHashLog", name := "scanLog", desc := "()V" } : Jvm.MethodName) prog_1_method_69_code (6 : Nat) (Option.none : Option Jvm.ClassFile.FieldType), Jvm.Cond.code ({ cls := "LinearHashLog", name := "redo", desc := "(IZ)Z" } : Jvm.MethodName) prog_1_method_70_code (6 : Nat) (Option.some Jvm.ClassFile.FieldType.boolean), Jvm.Cond.code ({ cls := "LinearHashLog", name := "rebuildUsed", desc := "()V" } : Jvm.MethodName) prog_1_method_51_code (2 : Nat) (Option.none : Option Jvm.ClassFile.FieldType), Jvm.Cond.code ({ cls := "LinearHashLog", name := "markChain", desc := "(I)V" } : Jvm.MethodName) prog_1_method_52_code (4 : Nat) (Option.none : Option Jvm.ClassFile.FieldType), Jvm.Cond.code ({ cls := "LinearHashLog", name := "nextPage", desc := "(I)I" } : Jvm.MethodName) prog_1_method_26_code (3 : Nat) (Option.some Jvm.ClassFile.FieldType.int), Jvm.Cond.code ({ cls := "LinearHashLog", name := "countAll", desc := "()I" } : Jvm.MethodName) prog_1_method_30_code (3 : Nat) (Option.some Jvm.ClassFile.FieldType.int), Jvm.Cond.code ({ cls := "LinearHashLog", name := "chainLen", desc := "(I)I" } : Jvm.MethodName) prog_1_method_29_code (5 : Nat) (Option.some Jvm.ClassFile.FieldType.int), Jvm.Cond.code ({ cls := "LinearHashLog", name := "entries", desc := "(I)I" } : Jvm.MethodName) prog_1_method_25_code (3 : Nat) (Option.some Jvm.ClassFile.FieldType.int), Jvm.Cond.code ({ cls := "LinearHashLog", name := "clearDirty", desc := "()V" } : Jvm.MethodName) prog_1_method_53_code (2 : Nat) (Option.none : Option Jvm.ClassFile.FieldType), Jvm.Cond.code ({ cls := "LinearHashLog", name := "begin", desc := "()I" } : Jvm.MethodName) prog_1_method_2_code (1 : Nat) (Option.some Jvm.ClassFile.FieldType.int), Jvm.Cond.code ({ cls := "LinearHashLog", name := "put", desc := "(II)I" } : Jvm.MethodName) prog_1_method_3_code (4 : Nat) (Option.some Jvm.ClassFile.FieldType.int), Jvm.Cond.code ({ cls := "LinearHashLog", name := "findSlot", desc := "(I)I" } : Jvm.MethodName) prog_1_method_31_code (5 : Nat) (Option.some Jvm.ClassFile.FieldType.int), Jvm.Cond.code ({ cls := "LinearHashLog", name := "designated", desc := "(II)I" } : Jvm.MethodName) prog_1_method_24_code (6 : Nat) (Option.some Jvm.ClassFile.FieldType.int), Jvm.Cond.code ({ cls := "LinearHashLog", name := "levelBase", desc := "(I)I" } : Jvm.MethodName) prog_1_method_23_code (4 : Nat) (Option.some Jvm.ClassFile.FieldType.int), Jvm.Cond.code ({ cls := "LinearHashLog", name := "hash", desc := "(I)I" } : Jvm.MethodName) prog_1_method_22_code (2 : Nat) (Option.some Jvm.ClassFile.FieldType.int), Jvm.Cond.code ({ cls := "LinearHashLog", name := "findInPage", desc := "(II)I" } : Jvm.MethodName) prog_1_method_32_code (5 : Nat) (Option.some Jvm.ClassFile.FieldType.int), Jvm.Cond.code ({ cls := "LinearHashLog", name := "insertEntry", desc := "(II)Z" } : Jvm.MethodName) prog_1_method_33_code (7 : Nat) (Option.some Jvm.ClassFile.FieldType.boolean), Jvm.Cond.code ({ cls := "LinearHashLog", name := "lastPage", desc := "(I)I" } : Jvm.MethodName) prog_1_method_27_code (5 : Nat) (Option.some Jvm.ClassFile.FieldType.int), Jvm.Cond.code ({ cls := "LinearHashLog", name := "growIfNeeded", desc := "()V" } : Jvm.MethodName) prog_1_method_39_code (1 : Nat) (Option.none : Option Jvm.ClassFile.FieldType), Jvm.Cond.code ({ cls := "LinearHashLog", name := "writesUsed", desc := "()I" } : Jvm.MethodName) prog_1_method_17_code (1 : Nat) (Option.some Jvm.ClassFile.FieldType.int), Jvm.Cond.code ({ cls := "LinearHashLog", name := "size", desc := "()I" } : Jvm.MethodName) prog_1_method_11_code (1 : Nat) (Option.some Jvm.ClassFile.FieldType.int), Jvm.Cond.code ({ cls := "LinearHashLog", name := "get", desc := "(I)I" } : Jvm.MethodName) prog_1_method_10_code (3 : Nat) (Option.some Jvm.ClassFile.FieldType.int), Jvm.Cond.code ({ cls := "LinearHashLog", name := "bucketCount", desc := "()I" } : Jvm.MethodName) prog_1_method_12_code (1 : Nat) (Option.some Jvm.ClassFile.FieldType.int), Jvm.Cond.code ({ cls := "LinearHashLog", name := "status", desc := "()I" } : Jvm.MethodName) prog_1_method_16_code (2 : Nat) (Option.some Jvm.ClassFile.FieldType.int)]
set_option maxRecDepth 65536 in
theorem codes_eq : words1.filter isCode = codes1 := rfl
theorem w_codes : ∀ c ∈ words1.filter isCode, c.before args0 about1 = true := by
  rw [codes_eq]
  intro c hc
  simp only [codes1, List.mem_cons, List.not_mem_nil, or_false] at hc
  rcases hc with rfl | rfl | rfl | rfl | rfl | rfl | rfl | rfl | rfl | rfl | rfl | rfl | rfl | rfl | rfl | rfl | rfl | rfl | rfl | rfl | rfl | rfl | rfl | rfl | rfl | rfl | rfl | rfl | rfl | rfl | rfl | rfl
  · exact w_c0
  · exact w_c1
  · exact w_c2
  · exact w_c3
  · exact w_c4
  · exact w_c5
  · exact w_c6
  · exact w_c7
  · exact w_c8
  · exact w_c9
  · exact w_c10
  · exact w_c11
  · exact w_c12
  · exact w_c13
  · exact w_c14
  · exact w_c15
  · exact w_c16
  · exact w_c17
  · exact w_c18
  · exact w_c19
  · exact w_c20
  · exact w_c21
  · exact w_c22
  · exact w_c23
  · exact w_c24
  · exact w_c25
  · exact w_c26
  · exact w_c27
  · exact w_c28
  · exact w_c29
  · exact w_c30
  · exact w_c31
set_option maxRecDepth 65536 in
theorem w_t1 : (words1.take 24).all (fun c => isCode c || c.before args0 about1) = true := by decide +kernel
set_option maxRecDepth 65536 in
theorem w_t2 : ((words1.drop 24).take 24).all (fun c => isCode c || c.before args0 about1) = true := by decide +kernel
set_option maxRecDepth 65536 in
theorem w_t3 : (((words1.drop 24).drop 24).take 24).all (fun c => isCode c || c.before args0 about1) = true := by decide +kernel
set_option maxRecDepth 65536 in
theorem w_t4 : ((((words1.drop 24).drop 24).drop 24).take 24).all (fun c => isCode c || c.before args0 about1) = true := by decide +kernel
set_option maxRecDepth 65536 in
theorem w_t5 : (((((words1.drop 24).drop 24).drop 24).drop 24).take 24).all (fun c => isCode c || c.before args0 about1) = true := by decide +kernel
set_option maxRecDepth 65536 in
theorem w_t6 : ((((((words1.drop 24).drop 24).drop 24).drop 24).drop 24).take 24).all (fun c => isCode c || c.before args0 about1) = true := by decide +kernel
set_option maxRecDepth 65536 in
theorem w_t7 : (((((((words1.drop 24).drop 24).drop 24).drop 24).drop 24).drop 24).take 24).all (fun c => isCode c || c.before args0 about1) = true := by decide +kernel
set_option maxRecDepth 65536 in
theorem w_t8 : ((((((((words1.drop 24).drop 24).drop 24).drop 24).drop 24).drop 24).drop 24).take 24).all (fun c => isCode c || c.before args0 about1) = true := by decide +kernel
set_option maxRecDepth 65536 in
theorem w_t9 : (((((((((words1.drop 24).drop 24).drop 24).drop 24).drop 24).drop 24).drop 24).drop 24).take 24).all (fun c => isCode c || c.before args0 about1) = true := by decide +kernel
set_option maxRecDepth 65536 in
theorem w_t10 : (((((((((words1.drop 24).drop 24).drop 24).drop 24).drop 24).drop 24).drop 24).drop 24).drop 24).all (fun c => isCode c || c.before args0 about1) = true := by decide +kernel
theorem w_tables : (allAtoms (Jvm.Cond.code x code maxLocals ret :: tables_1)).before args0 about1 = true := by
  rw [allAtoms_all]
  show words1.all (fun c => c.before args0 about1) = true
  refine all_split ?_ w_codes
  rw [← List.take_append_drop 24 words1, List.all_append, w_t1, ← List.take_append_drop 24 (words1.drop 24), List.all_append, w_t2, ← List.take_append_drop 24 ((words1.drop 24).drop 24), List.all_append, w_t3, ← List.take_append_drop 24 (((words1.drop 24).drop 24).drop 24), List.all_append, w_t4, ← List.take_append_drop 24 ((((words1.drop 24).drop 24).drop 24).drop 24), List.all_append, w_t5, ← List.take_append_drop 24 (((((words1.drop 24).drop 24).drop 24).drop 24).drop 24), List.all_append, w_t6, ← List.take_append_drop 24 ((((((words1.drop 24).drop 24).drop 24).drop 24).drop 24).drop 24), List.all_append, w_t7, ← List.take_append_drop 24 (((((((words1.drop 24).drop 24).drop 24).drop 24).drop 24).drop 24).drop 24), List.all_append, w_t8, ← List.take_append_drop 24 ((((((((words1.drop 24).drop 24).drop 24).drop 24).drop 24).drop 24).drop 24).drop 24), List.all_append, w_t9, w_t10]
  rfl
set_option maxRecDepth 65536 in
theorem w_case : (Jvm.Cond.and given_1 narrow_1).before args0 about1 = true := by decide +kernel
theorem w_applies : (headSpec (Jvm.Cond.code x code maxLocals ret :: tables_1) room_1).applies x e0.platform about1 = true :=
  (Spec.applies_iff w_frames).mpr ⟨w_running, w_runnable, w_alone, w_named, w_hears, w_ripe, w_room, w_tables⟩
theorem atStart : AtStart classFile x code maxLocals ret World_1 tables_1 room_1 Calls_1 rest_1 Pre_1 launch0 p0 e0 about1 theMethod args0 below0 :=
  ⟨lists_1, trivial, launch0.admits_env _ _ _, launch0.least_env, fairChoices_fair.cas, fairChoices_fair.clock, w_frames, w_args, w_heap, w_applies, trivial, trivial, w_case⟩
end start1
theorem witness_1 : WitnessClaimed_1 := ⟨start1.p0, start1.e0, start1.about1, start1.theMethod, start1.args0, start1.below0, start1.atStart⟩
end Jvm.Pilot.@@N@@
