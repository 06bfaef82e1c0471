import JvmDerived
import JvmDerived.Pilot.@@N@@Statement
import JvmDerived.Pilot.@@N@@Code
set_option linter.unusedVariables false
set_option linter.unusedSimpArgs false
namespace Jvm.OwnEv
open Sem ClassFile Op Lib Jvm.Stand Jvm.Free Jvm.LawKit Jvm.RoadKit
/-! PART 1: a small evaluator of bytecode over a memory of its own (defs alone). A memory: the cells made (kind, class, size), and what they hold: ints, longs, references. -/
abbrev ELay : Type := List (Nat × String × Nat)
abbrev EMem : Type := ELay × (Nat → Nat → Int32) × (Nat → Nat → Int64) × (Nat → Nat → Value)
def up {α : Type} (f : Nat → Nat → α) (a k : Nat) (v : α) : Nat → Nat → α := fun x y => if x = a ∧ y = k then v else f x y
def szL (L : ELay) : Nat := (L.map fun c => c.2.2).sum
def wt (vs : List Value) : Nat := (vs.map fun v => v.category).sum
def setL : List Slot → Nat → Slot → Option (List Slot)
  | [], _, _ => none
  | _ :: t, 0, x => some (x :: t)
  | h :: t, n + 1, x => match setL t n x with
    | some t' => some (h :: t')
    | none => none
def storeSelfL (l : List Slot) (i : Nat) (v : Value) : Option (List Slot) :=
  match setL l i (.val v) with
  | none => none
  | some l1 => if v.category = 2 then
      match l1[i + 1]? with
      | none => none
      | some (.val old) => if old.category = 2 then
          match setL l1 (i + 2) .unset with
          | none => none
          | some l2 => setL l2 (i + 1) .second
        else setL l1 (i + 1) .second
      | some _ => setL l1 (i + 1) .second
    else some l1
def storeL (l : List Slot) (i : Nat) (v : Value) : Option (List Slot) :=
  match l[i]? with
  | none => none
  | some .second => match setL l (i - 1) .unset with
    | none => none
    | some l' => storeSelfL l' i v
  | some (.val old) => if old.category = 2 then
      match setL l (i + 1) .unset with
      | none => none
      | some l' => storeSelfL l' i v
    else storeSelfL l i v
  | some .unset => storeSelfL l i v
def fillL : List Value → List Slot
  | [] => []
  | v :: t => if v.category = 2 then .val v :: .second :: fillL t else .val v :: fillL t
def entryL (as : List Value) (maxL : Nat) : List Slot := fillL as ++ List.replicate (maxL - (fillL as).length) .unset
/-! what the sheet's words say -/
def kindD (d : String) : Nat := match parseFieldDescriptor d with
  | some .int => 1
  | some .boolean => 2
  | some .long => 3
  | some (.array _) => 4
  | some (.object _) => 4
  | _ => 0
def layGo (C n : String) : List Jvm.Cond → Nat → Option (Nat × String × Bool)
  | [], _ => none
  | .lays c o n' d :: t, k => if n' = n ∧ c = C ∧ o = C then some (k, d, false) else layGo C n t (k + 1)
  | .laysFinal c o n' d :: t, k => if n' = n ∧ c = C ∧ o = C then some (k, d, true) else layGo C n t (k + 1)
  | _ :: t, k => layGo C n t (k + 1)
def layAt (W : List Jvm.Cond) (C n : String) : Option (Nat × String × Bool) := layGo C n W 0
def fieldLk (own : String) (idx : Nat) : List Jvm.Cond → Option (String × String × String)
  | [] => none
  | .fieldLink o i r n d :: t => if i = idx ∧ o = own then some (r, n, d) else fieldLk own idx t
  | _ :: t => fieldLk own idx t
/-- the class, the field's place, its kind, final or not -/
def fieldAt (W : List Jvm.Cond) (own : String) (idx : Nat) : Option (String × Nat × Nat × Bool) :=
  match fieldLk own idx W with
  | none => none
  | some (r, n, d) => match layAt W r n with
    | none => none
    | some (k, d', fin) => if d' = d ∧ kindD d ≠ 0 then some (r, k, kindD d, fin) else none
def methodLk (own : String) (idx : Nat) : List Jvm.Cond → Option MethodName
  | [] => none
  | .methodLink o i y :: t => if i = idx ∧ o = own then some y else methodLk own idx t
  | _ :: t => methodLk own idx t
def classLk (own : String) (idx : Nat) : List Jvm.Cond → Option String
  | [] => none
  | .classLink o i C :: t => if i = idx ∧ o = own then some C else classLk own idx t
  | _ :: t => classLk own idx t
def instLk (C : String) : List Jvm.Cond → Option Nat
  | [] => none
  | .instantiable c n :: t => if c = C then some n else instLk C t
  | _ :: t => instLk C t
def meq (z y : MethodName) : Bool := decide (z.name = y.name) && (decide (z.desc = y.desc) && decide (z.cls = y.cls))
def codeLk (y : MethodName) : List Jvm.Cond → Option (ByteArray × Nat × Option FieldType)
  | [] => none
  | .code z b n r :: t => if meq z y = true then some (b, n, r) else codeLk y t
  | _ :: t => codeLk y t
def intLk (own : String) (idx : Nat) : List Jvm.Cond → Option Int32
  | [] => none
  | .constant o i v :: t => if i = idx ∧ o = own then some v else intLk own idx t
  | _ :: t => intLk own idx t
def longLk (own : String) (idx : Nat) : List Jvm.Cond → Option Int64
  | [] => none
  | .constantLong o i v :: t => if i = idx ∧ o = own then some v else longLk own idx t
  | _ :: t => longLk own idx t
def hasInit (C : String) : List Jvm.Cond → Bool
  | [] => false
  | .initialized c :: t => if c = C then true else hasInit C t
  | _ :: t => hasInit C t
def hasInst (y : MethodName) : List Jvm.Cond → Bool
  | [] => false
  | .instanceMethod z :: t => if meq z y = true then true else hasInst y t
  | _ :: t => hasInst y t
def hasPriv (y : MethodName) : List Jvm.Cond → Bool
  | [] => false
  | .privateMethod z :: t => if meq z y = true then true else hasPriv y t
  | _ :: t => hasPriv y t
def hasStat (y : MethodName) : List Jvm.Cond → Bool
  | [] => false
  | .static z :: t => if meq z y = true then true else hasStat y t
  | _ :: t => hasStat y t
def hasDecl (y : MethodName) : List Jvm.Cond → Bool
  | [] => false
  | .declares z :: t => if meq z y = true then true else hasDecl y t
  | _ :: t => hasDecl y t
def hasSel (y : MethodName) : List Jvm.Cond → Bool
  | [] => false
  | .selects C z z' :: t => if meq z y = true ∧ meq z' y = true ∧ C = y.cls then true else hasSel y t
  | _ :: t => hasSel y t
def hasArr (ty : FieldType) : List Jvm.Cond → Bool
  | [] => false
  | .arrayClass z :: t => if z = ty then true else hasArr ty t
  | _ :: t => hasArr ty t
def newAt (W : List Jvm.Cond) (own : String) (idx : Nat) : Option (String × Nat) :=
  match classLk own idx W with
  | none => none
  | some C => match instLk C W with
    | none => none
    | some n => if hasInit C W = true then some (C, n) else none
/-- kind: 0 invokevirtual of a public method, 1 of a private one, 2 a constructor, 3 static; the method, how many arguments, its body -/
def callAt (W : List Jvm.Cond) (own : String) (idx : Nat) (kd : Nat) : Option (MethodName × Nat × ByteArray × Nat × Option FieldType) :=
  match methodLk own idx W with
  | none => none
  | some z => match codeLk z W, parseMethodDescriptor z.desc with
    | some (b, n, r), some sig =>
      if hasInit z.cls W = true ∧ plainName z.cls = true ∧ z.cls ≠ "java/lang/invoke/MethodHandle" ∧ z.cls ≠ "java/lang/invoke/VarHandle" ∧
         ((kd = 0 ∧ hasDecl z W = true ∧ hasSel z W = true ∧ hasInst z W = true) ∨ (kd = 1 ∧ hasPriv z W = true ∧ hasInst z W = true ∧ (instLk z.cls W).isSome = true) ∨ (kd = 2 ∧ z.name = "<init>" ∧ hasInst z W = true ∧ r = none) ∨ (kd = 3 ∧ hasStat z W = true))
      then some (z, sig.parameters.length, b, n, r) else none
    | _, _ => none
def objInitAt (W : List Jvm.Cond) (own : String) (idx : Nat) : Bool :=
  match methodLk own idx W, codeLk Lib.objectInit W with
  | some z, some (b, n, r) => decide (z = Lib.objectInit) && hasInst Lib.objectInit W && decide (b = ⟨#[0xb1]⟩) && decide (n = 1) && decide (r = none)
  | _, _ => false
def jump (pc : Nat) (o : Int) : Option Nat := match (pc : Int) + o with
  | .ofNat n => some n
  | .negSucc _ => none
def getV (kd : Nat) (i : Int32) (j : Int64) (r : Value) : Value := match kd with
  | 1 => .int i
  | 2 => .int i
  | 3 => .long j
  | _ => r
def inb (j : Int32) (n : Nat) : Bool := decide (¬ j < 0) && decide (j.toNatClampNeg < n)
def lenOk (len : Nat) : Instr → Bool
  | .aload _ | .iload _ | .lload _ | .astore _ | .istore _ | .lstore _ | .bipush _ | .ldc _ | .newarray _ => len == 2
  | .sipush _ | .iinc _ _ | .ldc_w _ | .ldc2_w _ | .goto _ | .ifCond _ _ | .if_icmp _ _ | .ifnull _ | .ifnonnull _ | .getfield _ | .putfield _ | .new _ | .invokevirtual _ | .invokespecial _ | .invokestatic _ => len == 3
  | .tableswitch _ _ _ _ => true
  | _ => len == 1
/-- the steps that leave the memory as it is -/
def execP (W : List Jvm.Cond) (F Lb : Nat) (y : MethodName) (ins : Instr) (pc len : Nat) (ls : List Slot) (st : List Value) (M : EMem) : Option (Nat × List Slot × List Value) :=
  match ins with
  | .aload k => match ls[k]? with
    | some (.val (.ref a)) => some (pc + 2, ls, .ref a :: st)
    | some (.val .null) => some (pc + 2, ls, .null :: st)
    | _ => none
  | .aload_n k => match ls[k.val]? with
    | some (.val (.ref a)) => some (pc + 1, ls, .ref a :: st)
    | some (.val .null) => some (pc + 1, ls, .null :: st)
    | _ => none
  | .iload k => match ls[k]? with
    | some (.val (.int v)) => some (pc + 2, ls, .int v :: st)
    | _ => none
  | .iload_n k => match ls[k.val]? with
    | some (.val (.int v)) => some (pc + 1, ls, .int v :: st)
    | _ => none
  | .lload k => match ls[k]? with
    | some (.val (.long v)) => some (pc + 2, ls, .long v :: st)
    | _ => none
  | .lload_n k => match ls[k.val]? with
    | some (.val (.long v)) => some (pc + 1, ls, .long v :: st)
    | _ => none
  | .istore k => match st with
    | .int x :: r => match storeL ls k (.int x) with
      | some l' => some (pc + 2, l', r)
      | none => none
    | _ => none
  | .istore_n k => match st with
    | .int x :: r => match storeL ls k.val (.int x) with
      | some l' => some (pc + 1, l', r)
      | none => none
    | _ => none
  | .lstore k => match st with
    | .long x :: r => match storeL ls k (.long x) with
      | some l' => some (pc + 2, l', r)
      | none => none
    | _ => none
  | .lstore_n k => match st with
    | .long x :: r => match storeL ls k.val (.long x) with
      | some l' => some (pc + 1, l', r)
      | none => none
    | _ => none
  | .astore k => match st with
    | .ref x :: r => match storeL ls k (.ref x) with
      | some l' => some (pc + 2, l', r)
      | none => none
    | _ => none
  | .astore_n k => match st with
    | .ref x :: r => match storeL ls k.val (.ref x) with
      | some l' => some (pc + 1, l', r)
      | none => none
    | _ => none
  | .iinc k d => match ls[k]? with
    | some (.val (.int v)) => match storeL ls k (.int (v + Int32.ofInt d)) with
      | some l' => some (pc + 3, l', st)
      | none => none
    | _ => none
  | .iconst i => some (pc + 1, ls, .int (Int32.ofInt i) :: st)
  | .bipush i => some (pc + 2, ls, .int (Int8.ofInt i).toInt32 :: st)
  | .sipush i => some (pc + 3, ls, .int (Int16.ofInt i).toInt32 :: st)
  | .lconst k => some (pc + 1, ls, .long (Int64.ofNat k) :: st)
  | .ldc i => match intLk y.cls i W with
    | some v => some (pc + 2, ls, .int v :: st)
    | none => none
  | .ldc_w i => match intLk y.cls i W with
    | some v => some (pc + 3, ls, .int v :: st)
    | none => none
  | .ldc2_w i => match longLk y.cls i W with
    | some v => some (pc + 3, ls, .long v :: st)
    | none => none
  | .iadd => match st with
    | .int b :: .int a :: r => some (pc + 1, ls, .int (a + b) :: r)
    | _ => none
  | .isub => match st with
    | .int b :: .int a :: r => some (pc + 1, ls, .int (a - b) :: r)
    | _ => none
  | .imul => match st with
    | .int b :: .int a :: r => some (pc + 1, ls, .int (a * b) :: r)
    | _ => none
  | .iand => match st with
    | .int b :: .int a :: r => some (pc + 1, ls, .int (a &&& b) :: r)
    | _ => none
  | .ior => match st with
    | .int b :: .int a :: r => some (pc + 1, ls, .int (a ||| b) :: r)
    | _ => none
  | .ixor => match st with
    | .int b :: .int a :: r => some (pc + 1, ls, .int (a ^^^ b) :: r)
    | _ => none
  | .ishl => match st with
    | .int b :: .int a :: r => some (pc + 1, ls, .int (a <<< (b &&& 31)) :: r)
    | _ => none
  | .ishr => match st with
    | .int b :: .int a :: r => some (pc + 1, ls, .int (a >>> (b &&& 31)) :: r)
    | _ => none
  | .iushr => match st with
    | .int b :: .int a :: r => some (pc + 1, ls, .int (XT.ushr a b) :: r)
    | _ => none
  | .idiv => match st with
    | .int b :: .int a :: r => if b = 0 then none else some (pc + 1, ls, .int (a / b) :: r)
    | _ => none
  | .irem => match st with
    | .int b :: .int a :: r => if b = 0 then none else some (pc + 1, ls, .int (a - (a / b) * b) :: r)
    | _ => none
  | .ineg => match st with
    | .int a :: r => some (pc + 1, ls, .int (-a) :: r)
    | _ => none
  | .ladd => match st with
    | .long b :: .long a :: r => some (pc + 1, ls, .long (a + b) :: r)
    | _ => none
  | .lsub => match st with
    | .long b :: .long a :: r => some (pc + 1, ls, .long (a - b) :: r)
    | _ => none
  | .lmul => match st with
    | .long b :: .long a :: r => some (pc + 1, ls, .long (a * b) :: r)
    | _ => none
  | .land => match st with
    | .long b :: .long a :: r => some (pc + 1, ls, .long (a &&& b) :: r)
    | _ => none
  | .lor => match st with
    | .long b :: .long a :: r => some (pc + 1, ls, .long (a ||| b) :: r)
    | _ => none
  | .lxor => match st with
    | .long b :: .long a :: r => some (pc + 1, ls, .long (a ^^^ b) :: r)
    | _ => none
  | .lshl => match st with
    | .int b :: .long a :: r => some (pc + 1, ls, .long (a <<< (b.toInt64 &&& 63)) :: r)
    | _ => none
  | .lshr => match st with
    | .int b :: .long a :: r => some (pc + 1, ls, .long (a >>> (b.toInt64 &&& 63)) :: r)
    | _ => none
  | .lushr => match st with
    | .int b :: .long a :: r => some (pc + 1, ls, .long (XT.ushrL a b) :: r)
    | _ => none
  | .ldiv => match st with
    | .long b :: .long a :: r => if b = 0 then none else some (pc + 1, ls, .long (a / b) :: r)
    | _ => none
  | .lrem => match st with
    | .long b :: .long a :: r => if b = 0 then none else some (pc + 1, ls, .long (a - (a / b) * b) :: r)
    | _ => none
  | .lneg => match st with
    | .long a :: r => some (pc + 1, ls, .long (-a) :: r)
    | _ => none
  | .lcmp => match st with
    | .long b :: .long a :: r => some (pc + 1, ls, .int (XT.cmpL a b) :: r)
    | _ => none
  | .i2l => match st with
    | .int a :: r => some (pc + 1, ls, .long a.toInt64 :: r)
    | _ => none
  | .l2i => match st with
    | .long a :: r => some (pc + 1, ls, .int a.toInt32 :: r)
    | _ => none
  | .i2s => match st with
    | .int a :: r => some (pc + 1, ls, .int a.toInt16.toInt32 :: r)
    | _ => none
  | .dup => match st with
    | .int a :: r => some (pc + 1, ls, .int a :: .int a :: r)
    | .ref a :: r => some (pc + 1, ls, .ref a :: .ref a :: r)
    | _ => none
  | .dup2 => match st with
    | .int b :: .int a :: r => some (pc + 1, ls, .int b :: .int a :: .int b :: .int a :: r)
    | .int b :: .ref a :: r => some (pc + 1, ls, .int b :: .ref a :: .int b :: .ref a :: r)
    | .long b :: r => some (pc + 1, ls, .long b :: .long b :: r)
    | _ => none
  | .dup_x1 => match st with
    | .int b :: .ref a :: r => some (pc + 1, ls, .int b :: .ref a :: .int b :: r)
    | _ => none
  | .pop => match st with
    | .int _ :: r => some (pc + 1, ls, r)
    | .ref _ :: r => some (pc + 1, ls, r)
    | _ => none
  | .goto o => match jump pc o with
    | some t => some (t, ls, st)
    | none => none
  | .ifCond cd o => match st with
    | .int a :: r => match jump pc o with
      | some t => some (if ifCond.holds cd a = true then t else pc + 3, ls, r)
      | none => none
    | _ => none
  | .if_icmp cd o => match st with
    | .int b :: .int a :: r => match jump pc o with
      | some t => some (if if_icmp.holds cd a b = true then t else pc + 3, ls, r)
      | none => none
    | _ => none
  | .ifnull o => match st with
    | .null :: r => match jump pc o with
      | some t => some (t, ls, r)
      | none => none
    | .ref _ :: r => some (pc + 3, ls, r)
    | _ => none
  | .ifnonnull o => match st with
    | .ref _ :: r => match jump pc o with
      | some t => some (t, ls, r)
      | none => none
    | .null :: r => some (pc + 3, ls, r)
    | _ => none
  | .tableswitch dflt low high offs => match st with
    | .int i :: r => if i.toInt < low ∨ i.toInt > high then
        match jump pc dflt with
        | some t => some (t, ls, r)
        | none => none
      else match offs[(i.toInt - low).toNat]? with
        | none => none
        | some o => match jump pc o with
          | some t => some (t, ls, r)
          | none => none
    | _ => none
  | .getfield idx => match st with
    | .ref a :: r => match fieldAt W y.cls idx, M.1[a]? with
      | some (C, k, kd, _), some (0, C', _) => if C' = C then some (pc + 3, ls, getV kd (M.2.1 a k) (M.2.2.1 a k) (M.2.2.2 a k) :: r) else none
      | _, _ => none
    | _ => none
  | .arraylength => match st with
    | .ref a :: r => match M.1[a]? with
      | some (1, _, n) => some (pc + 1, ls, .int n.toInt32 :: r)
      | some (2, _, n) => some (pc + 1, ls, .int n.toInt32 :: r)
      | some (3, _, n) => some (pc + 1, ls, .int n.toInt32 :: r)
      | _ => none
    | _ => none
  | .iaload => match st with
    | .int j :: .ref a :: r => match M.1[a]? with
      | some (1, _, n) => if inb j n = true then some (pc + 1, ls, .int (M.2.1 a j.toNatClampNeg) :: r) else none
      | _ => none
    | _ => none
  | .baload => match st with
    | .int j :: .ref a :: r => match M.1[a]? with
      | some (3, _, n) => if inb j n = true then some (pc + 1, ls, .int (M.2.1 a j.toNatClampNeg) :: r) else none
      | _ => none
    | _ => none
  | .laload => match st with
    | .int j :: .ref a :: r => match M.1[a]? with
      | some (2, _, n) => if inb j n = true then some (pc + 1, ls, .long (M.2.2.1 a j.toNatClampNeg) :: r) else none
      | _ => none
    | _ => none
  | .invokespecial idx => match st with
    | .ref _ :: r => if objInitAt W y.cls idx = true ∧ 1 ≤ F ∧ wt r + 12 ≤ Lb then some (pc + 3, ls, r) else none
    | _ => none
  | _ => none
/-- the steps that write or make; ro: the cells below it are not written -/
def execM (W : List Jvm.Cond) (ro : Nat) (y : MethodName) (ins : Instr) (st : List Value) (M : EMem) : Option (List Value × EMem) :=
  match ins with
  | .putfield idx => match st with
    | v :: .ref a :: r => match fieldAt W y.cls idx, M.1[a]? with
      | some (C, k, kd, fin), some (0, C', _) =>
        if C' = C ∧ ro ≤ a ∧ (fin = false ∨ (y.cls = C ∧ y.name = "<init>")) ∧ (instLk C W).isSome = true then
          match kd, v with
          | 1, .int x => some (r, M.1, up M.2.1 a k x, M.2.2.1, M.2.2.2)
          | 2, .int x => some (r, M.1, up M.2.1 a k (x &&& 1), M.2.2.1, M.2.2.2)
          | 3, .long x => some (r, M.1, M.2.1, up M.2.2.1 a k x, M.2.2.2)
          | 4, .ref b => some (r, M.1, M.2.1, M.2.2.1, up M.2.2.2 a k (.ref b))
          | _, _ => none
        else none
      | _, _ => none
    | _ => none
  | .iastore => match st with
    | .int x :: .int j :: .ref a :: r => match M.1[a]? with
      | some (1, _, n) => if inb j n = true ∧ ro ≤ a then some (r, M.1, up M.2.1 a j.toNatClampNeg x, M.2.2.1, M.2.2.2) else none
      | _ => none
    | _ => none
  | .bastore => match st with
    | .int x :: .int j :: .ref a :: r => match M.1[a]? with
      | some (3, _, n) => if inb j n = true ∧ ro ≤ a then some (r, M.1, up M.2.1 a j.toNatClampNeg (x &&& 1), M.2.2.1, M.2.2.2) else none
      | _ => none
    | _ => none
  | .lastore => match st with
    | .long x :: .int j :: .ref a :: r => match M.1[a]? with
      | some (2, _, n) => if inb j n = true ∧ ro ≤ a then some (r, M.1, M.2.1, up M.2.2.1 a j.toNatClampNeg x, M.2.2.2) else none
      | _ => none
    | _ => none
  | .new idx => match newAt W y.cls idx with
    | some (C, n) => some (.ref M.1.length :: st, M.1 ++ [(0, C, n)], M.2.1, M.2.2.1, M.2.2.2)
    | none => none
  | .newarray .int => match st with
    | .int n :: r => if ¬ n < 0 ∧ n.toNatClampNeg * 8 ≤ 536870912 ∧ hasArr .int W = true then some (.ref M.1.length :: r, M.1 ++ [(1, "", n.toNatClampNeg)], M.2.1, M.2.2.1, M.2.2.2) else none
    | _ => none
  | .newarray .long => match st with
    | .int n :: r => if ¬ n < 0 ∧ n.toNatClampNeg * 8 ≤ 536870912 ∧ hasArr .long W = true then some (.ref M.1.length :: r, M.1 ++ [(2, "", n.toNatClampNeg)], M.2.1, M.2.2.1, M.2.2.2) else none
    | _ => none
  | .newarray .boolean => match st with
    | .int n :: r => if ¬ n < 0 ∧ n.toNatClampNeg * 8 ≤ 536870912 ∧ hasArr .boolean W = true then some (.ref M.1.length :: r, M.1 ++ [(3, "", n.toNatClampNeg)], M.2.1, M.2.2.1, M.2.2.2) else none
    | _ => none
  | _ => none
def retOf (ins : Instr) (len : Nat) (ret : Option FieldType) (st : List Value) : Option (Option Value) :=
  if len = 1 then
    match ins, ret, st with
    | .return_, none, [] => some none
    | .ireturn, some .int, [.int z] => some (some (.int z))
    | .ireturn, some .boolean, [.int z] => some (some (.int (z &&& 1)))
    | .lreturn, some .long, [.long z] => some (some (.long z))
    | _, _, _ => none
  else none
/-- the callee, her arguments (the receiver first), what lies under, her body -/
def callOf (W : List Jvm.Cond) (y : MethodName) (ins : Instr) (len : Nat) (st : List Value) (M : EMem) : Option (MethodName × List Value × List Value × ByteArray × Nat × Option FieldType) :=
  if len = 3 then
    match ins with
    | .invokevirtual idx => match callAt W y.cls idx 1 with
      | some (z, na, b, n, r) => match (st.drop na) with
        | .ref a :: rest => match M.1[a]? with
          | some (0, C, _) => if C = z.cls ∧ (st.take na).length = na then some (z, .ref a :: (st.take na).reverse, rest, b, n, r) else none
          | _ => none
        | _ => none
      | none => match callAt W y.cls idx 0 with
        | some (z, na, b, n, r) => match (st.drop na) with
          | .ref a :: rest => match M.1[a]? with
            | some (0, C, _) => if C = z.cls ∧ (st.take na).length = na then some (z, .ref a :: (st.take na).reverse, rest, b, n, r) else none
            | _ => none
          | _ => none
        | none => none
    | .invokespecial idx => match callAt W y.cls idx 2 with
      | some (z, na, b, n, r) => match (st.drop na) with
        | .ref a :: rest => if (st.take na).length = na then some (z, .ref a :: (st.take na).reverse, rest, b, n, r) else none
        | _ => none
      | none => none
    | .invokestatic idx => match callAt W y.cls idx 3 with
      | some (z, na, b, n, r) => if (st.take na).length = na then some (z, (st.take na).reverse, st.drop na, b, n, r) else none
      | none => none
    | _ => none
  else none
def run (W : List Jvm.Cond) (ro : Nat) : Nat → Nat → Nat → MethodName → ByteArray → Option FieldType → Nat → List Slot → List Value → EMem → Option (Option Value × EMem)
  | 0, _, _, _, _, _, _, _, _, _ => none
  | n + 1, F, Lb, y, code, ret, pc, ls, st, M =>
    match decode code pc with
    | .ok (ins, len) =>
      match (if lenOk len ins = true then execP W F Lb y ins pc len ls st M else none) with
      | some (pc', ls', st') => run W ro n F Lb y code ret pc' ls' st' M
      | none => match (if lenOk len ins = true then execM W ro y ins st M else none) with
        | some (st', M') => run W ro n F Lb y code ret (pc + len) ls st' M'
        | none => match retOf ins len ret st with
          | some v => some (v, M)
          | none => match callOf W y ins len st M with
            | some (z, as, rest, b, mx, r) =>
              if 1 ≤ F ∧ wt rest + (mx + 11) ≤ Lb ∧ (fillL as).length ≤ mx then
                match run W ro n (F - 1) (Lb - (wt rest + (mx + 11))) z b r 0 (entryL as mx) [] M with
                | some (v, M') => run W ro n F Lb y code ret (pc + 3) ls (v.toList ++ rest) M'
                | none => none
              else none
            | none => none
    | .error _ => none
end Jvm.OwnEv
namespace Jvm.OwnEv
open Sem ClassFile Op Lib Jvm.Stand Jvm.Free Jvm.LawKit Jvm.RoadKit
/-! PART 2: small facts: the variables, the words -/
def conc (ρ : Nat → Addr) : Value → Value
  | .ref a => .ref (ρ a)
  | v => v
def concS (ρ : Nat → Addr) : Slot → Slot
  | .val v => .val (conc ρ v)
  | s => s
theorem conc_cat (ρ : Nat → Addr) (v : Value) : (conc ρ v).category = v.category := by cases v <;> rfl
theorem wt_conc (ρ : Nat → Addr) (vs : List Value) : ((vs.map (conc ρ)).map fun v => v.category).sum = wt vs := by
  unfold wt
  rw [List.map_map]
  congr 1
  exact List.map_congr_left fun v _ => conc_cat ρ v
abbrev cl (ρ : Nat → Addr) (ls : List Slot) : Array Slot := (ls.map (concS ρ)).toArray
abbrev cs (ρ : Nat → Addr) (st : List Value) : List Value := st.map (conc ρ)
theorem get_cl {ρ : Nat → Addr} {ls : List Slot} {k : Nat} {x : Slot} (h : ls[k]? = some x) : (cl ρ ls)[k]? = some (concS ρ x) := by simp [cl, h]
theorem setL_some : ∀ {l : List Slot} {i : Nat} {x : Slot} {l' : List Slot}, setL l i x = some l' → i < l.length ∧ l' = l.set i x
  | [], _, _, _, h => by simp [setL] at h
  | _ :: t, 0, x, l', h => by simp only [setL, Option.some.injEq] at h; subst h; simp
  | y :: t, n + 1, x, l', h => by
    simp only [setL] at h
    split at h
    · rename_i t' ht
      cases h
      obtain ⟨h1, h2⟩ := setL_some ht
      subst h2
      exact ⟨by simp; omega, by simp⟩
    · cases h
theorem setAt_conc {ρ : Nat → Addr} {l : List Slot} {i : Nat} {x : Slot} {l' : List Slot} (h : setL l i x = some l') : setAt (cl ρ l) i (concS ρ x) = some (cl ρ l') := by
  obtain ⟨hi, rfl⟩ := setL_some h
  simp [setAt, hi, cl, List.map_set]
theorem setL_len {l : List Slot} {i : Nat} {x : Slot} {l' : List Slot} (h : setL l i x = some l') : l'.length = l.length := by
  obtain ⟨-, rfl⟩ := setL_some h; simp
theorem cl_get {ρ : Nat → Addr} {l : List Slot} {i : Nat} : (cl ρ l)[i]? = (l[i]?).map (concS ρ) := by simp [cl]
theorem storeSelf_conc {ρ : Nat → Addr} {l : List Slot} {i : Nat} {v : Value} {l' : List Slot} (h : storeSelfL l i v = some l') : storeSelf (cl ρ l) i (conc ρ v) = some (cl ρ l') := by
  unfold storeSelfL at h
  split at h
  · cases h
  rename_i l1 h1
  have e1 : setAt (cl ρ l) i (.val (conc ρ v)) = some (cl ρ l1) := setAt_conc (ρ := ρ) h1
  unfold storeSelf
  rw [e1]
  simp only [Option.bind_eq_bind, Option.bind_some, conc_cat]
  split at h
  · rename_i hc
    rw [if_pos hc, cl_get]
    split at h
    · cases h
    · rename_i old ho
      rw [ho]
      simp only [Option.map_some, Option.bind_some, concS, conc_cat]
      split at h
      · rename_i hc2
        rw [if_pos hc2]
        split at h
        · cases h
        · rename_i l2 h2
          have e2 : setAt (cl ρ l1) (i + 2) .unset = some (cl ρ l2) := setAt_conc (ρ := ρ) h2
          have e3 : setAt (cl ρ l2) (i + 1) .second = some (cl ρ l') := setAt_conc (ρ := ρ) h
          rw [e2]
          exact e3
      · rename_i hc2
        rw [if_neg hc2]
        exact setAt_conc (ρ := ρ) h
    · rename_i x hx ho
      have e3 : setAt (cl ρ l1) (i + 1) .second = some (cl ρ l') := setAt_conc (ρ := ρ) h
      rw [ho]
      cases x with
      | val w => exact absurd rfl (hx w)
      | unset => exact e3
      | second => exact e3
  · rename_i hc
    rw [if_neg hc]
    cases h
    rfl
theorem storeL_conc {ρ : Nat → Addr} {l : List Slot} {i : Nat} {v : Value} {l' : List Slot} (h : storeL l i v = some l') : storeLocals (cl ρ l) i (conc ρ v) = some (cl ρ l') := by
  unfold storeL at h
  unfold storeLocals
  rw [cl_get]
  split at h
  · cases h
  · rename_i ho
    rw [ho]
    split at h
    · cases h
    · rename_i l1 h1
      have e1 : setAt (cl ρ l) (i - 1) .unset = some (cl ρ l1) := setAt_conc (ρ := ρ) h1
      have e2 := storeSelf_conc (ρ := ρ) h
      simp only [Option.map_some, Option.bind_eq_bind, Option.bind_some, concS, e1]
      exact e2
  · rename_i old ho
    rw [ho]
    simp only [Option.map_some, Option.bind_eq_bind, Option.bind_some, concS, conc_cat]
    split at h
    · rename_i hc
      rw [if_pos hc]
      split at h
      · cases h
      · rename_i l1 h1
        have e1 : setAt (cl ρ l) (i + 1) .unset = some (cl ρ l1) := setAt_conc (ρ := ρ) h1
        rw [e1]
        exact storeSelf_conc (ρ := ρ) h
    · rename_i hc
      rw [if_neg hc]
      exact storeSelf_conc (ρ := ρ) h
  · rename_i ho
    rw [ho]
    exact storeSelf_conc (ρ := ρ) h
theorem storeSelfL_len {l : List Slot} {i : Nat} {v : Value} {l' : List Slot} (h : storeSelfL l i v = some l') : l'.length = l.length := by
  unfold storeSelfL at h
  split at h
  · cases h
  rename_i l1 h1
  have e1 := setL_len h1
  split at h
  · split at h
    · cases h
    · split at h
      · split at h
        · cases h
        · rename_i l2 h2
          rw [setL_len h, setL_len h2, e1]
      · rw [setL_len h, e1]
    · rw [setL_len h, e1]
  · cases h; exact e1
theorem storeL_len {l : List Slot} {i : Nat} {v : Value} {l' : List Slot} (h : storeL l i v = some l') : l'.length = l.length := by
  unfold storeL at h
  split at h
  · cases h
  · split at h
    · cases h
    · rename_i l1 h1
      rw [storeSelfL_len h, setL_len h1]
  · split at h
    · split at h
      · cases h
      · rename_i l1 h1
        rw [storeSelfL_len h, setL_len h1]
    · exact storeSelfL_len h
  · exact storeSelfL_len h
theorem fill_fold (ρ : Nat → Addr) : ∀ (as : List Value) (acc : Array Slot), (as.map (conc ρ)).foldl (fun acc v => if v.category = 2 then (acc.push (Slot.val v)).push .second else acc.push (.val v)) acc = acc ++ ((fillL as).map (concS ρ)).toArray
  | [], acc => by simp [fillL]
  | v :: t, acc => by
    simp only [List.map_cons, List.foldl_cons, conc_cat]
    rw [fill_fold ρ t]
    rw [show fillL (v :: t) = if v.category = 2 then .val v :: .second :: fillL t else .val v :: fillL t from rfl]
    apply Array.ext'
    split
    · simp [concS]
    · simp [concS]
theorem args_conc (ρ : Nat → Addr) (as : List Value) (mx : Nat) : argsToLocals (as.map (conc ρ)).toArray mx = cl ρ (entryL as mx) := by
  unfold argsToLocals
  simp only [List.foldl_toArray, fill_fold ρ as]
  simp [entryL, cl, concS]
theorem entryL_len {as : List Value} {mx : Nat} (h : (fillL as).length ≤ mx) : (entryL as mx).length = mx := by simp [entryL]; omega
theorem meq_eq {z y : MethodName} (h : meq z y = true) : z = y := by
  simp only [meq, Bool.and_eq_true, decide_eq_true_eq] at h
  obtain ⟨h1, h2, h3⟩ := h
  cases z; cases y
  simp only at h1 h2 h3
  subst h1 h2 h3
  rfl
/-! the words -/
theorem fieldLk_mem {own : String} {idx : Nat} {r n d : String} : ∀ {t : List Jvm.Cond}, fieldLk own idx t = some (r, n, d) → Jvm.Cond.fieldLink own idx r n d ∈ t
  | [], h => by simp [fieldLk] at h
  | w :: t, h => by
    unfold fieldLk at h
    split at h
    · rename_i heq; cases heq
    · rename_i heq
      cases heq
      split at h
      · rename_i hc; obtain ⟨rfl, rfl⟩ := hc; cases h; exact List.mem_cons_self
      · exact List.mem_cons_of_mem _ (fieldLk_mem h)
    · rename_i heq; cases heq; exact List.mem_cons_of_mem _ (fieldLk_mem h)
theorem methodLk_mem {own : String} {idx : Nat} {y : MethodName} : ∀ {t : List Jvm.Cond}, methodLk own idx t = some y → Jvm.Cond.methodLink own idx y ∈ t
  | [], h => by simp [methodLk] at h
  | w :: t, h => by
    unfold methodLk at h
    split at h
    · rename_i heq; cases heq
    · rename_i heq
      cases heq
      split at h
      · rename_i hc; obtain ⟨rfl, rfl⟩ := hc; cases h; exact List.mem_cons_self
      · exact List.mem_cons_of_mem _ (methodLk_mem h)
    · rename_i heq; cases heq; exact List.mem_cons_of_mem _ (methodLk_mem h)
theorem classLk_mem {own : String} {idx : Nat} {y : String} : ∀ {t : List Jvm.Cond}, classLk own idx t = some y → Jvm.Cond.classLink own idx y ∈ t
  | [], h => by simp [classLk] at h
  | w :: t, h => by
    unfold classLk at h
    split at h
    · rename_i heq; cases heq
    · rename_i heq
      cases heq
      split at h
      · rename_i hc; obtain ⟨rfl, rfl⟩ := hc; cases h; exact List.mem_cons_self
      · exact List.mem_cons_of_mem _ (classLk_mem h)
    · rename_i heq; cases heq; exact List.mem_cons_of_mem _ (classLk_mem h)
theorem intLk_mem {own : String} {idx : Nat} {y : Int32} : ∀ {t : List Jvm.Cond}, intLk own idx t = some y → Jvm.Cond.constant own idx y ∈ t
  | [], h => by simp [intLk] at h
  | w :: t, h => by
    unfold intLk at h
    split at h
    · rename_i heq; cases heq
    · rename_i heq
      cases heq
      split at h
      · rename_i hc; obtain ⟨rfl, rfl⟩ := hc; cases h; exact List.mem_cons_self
      · exact List.mem_cons_of_mem _ (intLk_mem h)
    · rename_i heq; cases heq; exact List.mem_cons_of_mem _ (intLk_mem h)
theorem longLk_mem {own : String} {idx : Nat} {y : Int64} : ∀ {t : List Jvm.Cond}, longLk own idx t = some y → Jvm.Cond.constantLong own idx y ∈ t
  | [], h => by simp [longLk] at h
  | w :: t, h => by
    unfold longLk at h
    split at h
    · rename_i heq; cases heq
    · rename_i heq
      cases heq
      split at h
      · rename_i hc; obtain ⟨rfl, rfl⟩ := hc; cases h; exact List.mem_cons_self
      · exact List.mem_cons_of_mem _ (longLk_mem h)
    · rename_i heq; cases heq; exact List.mem_cons_of_mem _ (longLk_mem h)
theorem instLk_mem {C : String} {n : Nat} : ∀ {t : List Jvm.Cond}, instLk C t = some n → Jvm.Cond.instantiable C n ∈ t
  | [], h => by simp [instLk] at h
  | w :: t, h => by
    unfold instLk at h
    split at h
    · rename_i heq; cases heq
    · rename_i heq
      cases heq
      split at h
      · rename_i hc; subst hc; cases h; exact List.mem_cons_self
      · exact List.mem_cons_of_mem _ (instLk_mem h)
    · rename_i heq; cases heq; exact List.mem_cons_of_mem _ (instLk_mem h)
theorem codeLk_mem {y : MethodName} {b : ByteArray} {n : Nat} {r : Option FieldType} : ∀ {t : List Jvm.Cond}, codeLk y t = some (b, n, r) → Jvm.Cond.code y b n r ∈ t
  | [], h => by simp [codeLk] at h
  | w :: t, h => by
    unfold codeLk at h
    split at h
    · rename_i heq; cases heq
    · rename_i heq
      cases heq
      split at h
      · rename_i hc; cases meq_eq hc; cases h; exact List.mem_cons_self
      · exact List.mem_cons_of_mem _ (codeLk_mem h)
    · rename_i heq; cases heq; exact List.mem_cons_of_mem _ (codeLk_mem h)
theorem hasInit_mem {y : String} : ∀ {t : List Jvm.Cond}, hasInit y t = true → Jvm.Cond.initialized y ∈ t
  | [], h => by simp [hasInit] at h
  | w :: t, h => by
    unfold hasInit at h
    split at h
    · rename_i heq; cases heq
    · rename_i heq
      cases heq
      split at h
      · rename_i hc; subst hc; exact List.mem_cons_self
      · exact List.mem_cons_of_mem _ (hasInit_mem h)
    · rename_i heq; cases heq; exact List.mem_cons_of_mem _ (hasInit_mem h)
theorem hasInst_mem {y : MethodName} : ∀ {t : List Jvm.Cond}, hasInst y t = true → Jvm.Cond.instanceMethod y ∈ t
  | [], h => by simp [hasInst] at h
  | w :: t, h => by
    unfold hasInst at h
    split at h
    · rename_i heq; cases heq
    · rename_i heq
      cases heq
      split at h
      · rename_i hc; cases meq_eq hc; exact List.mem_cons_self
      · exact List.mem_cons_of_mem _ (hasInst_mem h)
    · rename_i heq; cases heq; exact List.mem_cons_of_mem _ (hasInst_mem h)
theorem hasPriv_mem {y : MethodName} : ∀ {t : List Jvm.Cond}, hasPriv y t = true → Jvm.Cond.privateMethod y ∈ t
  | [], h => by simp [hasPriv] at h
  | w :: t, h => by
    unfold hasPriv at h
    split at h
    · rename_i heq; cases heq
    · rename_i heq
      cases heq
      split at h
      · rename_i hc; cases meq_eq hc; exact List.mem_cons_self
      · exact List.mem_cons_of_mem _ (hasPriv_mem h)
    · rename_i heq; cases heq; exact List.mem_cons_of_mem _ (hasPriv_mem h)
theorem hasStat_mem {y : MethodName} : ∀ {t : List Jvm.Cond}, hasStat y t = true → Jvm.Cond.static y ∈ t
  | [], h => by simp [hasStat] at h
  | w :: t, h => by
    unfold hasStat at h
    split at h
    · rename_i heq; cases heq
    · rename_i heq
      cases heq
      split at h
      · rename_i hc; cases meq_eq hc; exact List.mem_cons_self
      · exact List.mem_cons_of_mem _ (hasStat_mem h)
    · rename_i heq; cases heq; exact List.mem_cons_of_mem _ (hasStat_mem h)
theorem hasDecl_mem {y : MethodName} : ∀ {t : List Jvm.Cond}, hasDecl y t = true → Jvm.Cond.declares y ∈ t
  | [], h => by simp [hasDecl] at h
  | w :: t, h => by
    unfold hasDecl at h
    split at h
    · rename_i heq; cases heq
    · rename_i heq
      cases heq
      split at h
      · rename_i hc; cases meq_eq hc; exact List.mem_cons_self
      · exact List.mem_cons_of_mem _ (hasDecl_mem h)
    · rename_i heq; cases heq; exact List.mem_cons_of_mem _ (hasDecl_mem h)
theorem hasArr_mem {y : FieldType} : ∀ {t : List Jvm.Cond}, hasArr y t = true → Jvm.Cond.arrayClass y ∈ t
  | [], h => by simp [hasArr] at h
  | w :: t, h => by
    unfold hasArr at h
    split at h
    · rename_i heq; cases heq
    · rename_i heq
      cases heq
      split at h
      · rename_i hc; subst hc; exact List.mem_cons_self
      · exact List.mem_cons_of_mem _ (hasArr_mem h)
    · rename_i heq; cases heq; exact List.mem_cons_of_mem _ (hasArr_mem h)
theorem hasSel_mem {y : MethodName} : ∀ {t : List Jvm.Cond}, hasSel y t = true → Jvm.Cond.selects y.cls y y ∈ t
  | [], h => by simp [hasSel] at h
  | w :: t, h => by
    unfold hasSel at h
    split at h
    · rename_i heq; cases heq
    · rename_i heq
      cases heq
      split at h
      · rename_i hc; obtain ⟨c1, c2, rfl⟩ := hc; cases meq_eq c1; cases meq_eq c2; exact List.mem_cons_self
      · exact List.mem_cons_of_mem _ (hasSel_mem h)
    · rename_i heq; cases heq; exact List.mem_cons_of_mem _ (hasSel_mem h)
theorem layGo_spec {C n : String} {k : Nat} {d : String} {fin : Bool} : ∀ {t : List Jvm.Cond} {k0 : Nat}, layGo C n t k0 = some (k, d, fin) → k0 ≤ k ∧ t[k - k0]? = some (if fin = true then Jvm.Cond.laysFinal C C n d else Jvm.Cond.lays C C n d)
  | [], _, h => by simp [layGo] at h
  | w :: t, k0, h => by
    have next : layGo C n t (k0 + 1) = some (k, d, fin) → k0 ≤ k ∧ (w :: t)[k - k0]? = some (if fin = true then Jvm.Cond.laysFinal C C n d else Jvm.Cond.lays C C n d) := fun q => by
      obtain ⟨h1, h2⟩ := layGo_spec q
      refine ⟨by omega, ?_⟩
      have e : k - k0 = (k - (k0 + 1)) + 1 := by omega
      rw [e, List.getElem?_cons_succ]
      exact h2
    unfold layGo at h
    split at h
    · rename_i heq; cases heq
    · rename_i heq
      cases heq
      split at h
      · rename_i hc
        obtain ⟨rfl, rfl, rfl⟩ := hc
        cases h
        exact ⟨Nat.le_refl _, by simp⟩
      · exact next h
    · rename_i heq
      cases heq
      split at h
      · rename_i hc
        obtain ⟨rfl, rfl, rfl⟩ := hc
        cases h
        exact ⟨Nat.le_refl _, by simp⟩
      · exact next h
    · rename_i heq; cases heq; exact next h
theorem layAt_spec {W : List Jvm.Cond} {C n : String} {k : Nat} {d : String} {fin : Bool} (h : layAt W C n = some (k, d, fin)) : W[k]? = some (if fin = true then Jvm.Cond.laysFinal C C n d else Jvm.Cond.lays C C n d) := (layGo_spec h).2
theorem layAt_inj {W : List Jvm.Cond} {C n n' : String} {k : Nat} {d d' : String} {fin fin' : Bool} (h : layAt W C n = some (k, d, fin)) (h' : layAt W C n' = some (k, d', fin')) : n = n' := by
  have e := (layAt_spec h).symm.trans (layAt_spec h')
  cases fin <;> cases fin' <;> simp at e
  · exact e.1
  · exact e.1
theorem layAt_laid {W : List Jvm.Cond} {C n : String} {k : Nat} {d : String} {fin : Bool} {Z : State} {a0 : Array Value} (hw : ∀ d ∈ W, d.before a0 Z = true) (h : layAt W C n = some (k, d, fin)) : Laid Z a0 C C n d := by
  have e := hw _ (List.mem_of_getElem? (layAt_spec h))
  cases fin
  · exact Or.inl e
  · exact Or.inr e
theorem fieldAt_spec {W : List Jvm.Cond} {own : String} {idx : Nat} {C : String} {k kd : Nat} {fin : Bool} (h : fieldAt W own idx = some (C, k, kd, fin)) : ∃ n d, Jvm.Cond.fieldLink own idx C n d ∈ W ∧ layAt W C n = some (k, d, fin) ∧ kd = kindD d ∧ kindD d ≠ 0 := by
  unfold fieldAt at h
  split at h
  · cases h
  · rename_i r n d h1
    split at h
    · cases h
    · rename_i k' d' fin' h2
      split at h
      · rename_i hc
        cases h
        obtain ⟨rfl, hk⟩ := hc
        exact ⟨n, _, fieldLk_mem h1, h2, rfl, hk⟩
      · cases h
theorem kindD_1 {d : String} (h : kindD d = 1) : parseFieldDescriptor d = some .int := by
  unfold kindD at h
  split at h <;> first | assumption | (simp at h)
theorem kindD_2 {d : String} (h : kindD d = 2) : parseFieldDescriptor d = some .boolean := by
  unfold kindD at h
  split at h <;> first | assumption | (simp at h)
theorem kindD_3 {d : String} (h : kindD d = 3) : parseFieldDescriptor d = some .long := by
  unfold kindD at h
  split at h <;> first | assumption | (simp at h)
theorem kindD_4 {d : String} (h : kindD d = 4) : ∃ ty, parseFieldDescriptor d = some ty ∧ (∀ v : Value, narrow ty v = v) ∧ (∀ a, fits ty (.ref a) = true) ∧ defaultValue ty = .null := by
  unfold kindD at h
  split at h
  · simp at h
  · simp at h
  · simp at h
  · rename_i t ht; exact ⟨_, ht, fun _ => rfl, fun _ => rfl, rfl⟩
  · rename_i t ht; exact ⟨_, ht, fun _ => rfl, fun _ => rfl, rfl⟩
  · simp at h
theorem kindD_lt (d : String) : kindD d = 0 ∨ kindD d = 1 ∨ kindD d = 2 ∨ kindD d = 3 ∨ kindD d = 4 := by
  unfold kindD
  split <;> simp
theorem jump_spec {pc : Nat} {o : Int} {t : Nat} (h : jump pc o = some t) : 0 ≤ (pc : Int) + o ∧ ((pc : Int) + o).toNat = t := by
  unfold jump at h
  split at h
  · rename_i n hn
    cases h
    rw [hn]
    exact ⟨Int.natCast_nonneg _, rfl⟩
  · cases h
theorem inb_spec {j : Int32} {n : Nat} (h : inb j n = true) : ¬ (j < 0 ∨ n ≤ j.toNatClampNeg) := by
  simp only [inb, Bool.and_eq_true, decide_eq_true_eq] at h
  rintro (q | q)
  · exact h.1 q
  · omega
end Jvm.OwnEv
namespace Jvm.OwnEv
open Sem ClassFile Op Lib Jvm.Stand Jvm.Free Jvm.LawKit Jvm.RoadKit
/-! PART 3: the memory and the heap -/
def RelC (Z : State) (W : List Jvm.Cond) (ρ : Nat → Addr) (h : Heap) (mi : Nat → Nat → Int32) (ml : Nat → Nat → Int64) (mr : Nat → Nat → Value) (a : Nat) (c : Nat × String × Nat) : Prop :=
  (c.1 = 0 → Exa Z h (ρ a) c.2.1 ∧ ∀ n k d fin, layAt W c.2.1 n = some (k, d, fin) → kindD d ≠ 0 → Fld Z h (ρ a) c.2.1 n d (conc ρ (getV (kindD d) (mi a k) (ml a k) (mr a k)))) ∧
  (c.1 = 1 → ∃ cell : Cell, Arr Z h (ρ a) cell .int ∧ cell.slots.size = c.2.2 ∧ ∀ k, k < c.2.2 → cell.slots[k]? = some (.int (mi a k))) ∧
  (c.1 = 2 → ∃ cell : Cell, Arr Z h (ρ a) cell .long ∧ cell.slots.size = c.2.2 ∧ ∀ k, k < c.2.2 → cell.slots[k]? = some (.long (ml a k))) ∧
  (c.1 = 3 → ∃ cell : Cell, Arr Z h (ρ a) cell .boolean ∧ cell.slots.size = c.2.2 ∧ ∀ k, k < c.2.2 → cell.slots[k]? = some (.int (mi a k)))
def Rel (Z : State) (W : List Jvm.Cond) (ρ : Nat → Addr) (ro n0 : Nat) (h : Heap) (M : EMem) : Prop :=
  h.size = n0 + (M.1.length - ro) ∧ ro ≤ M.1.length ∧ (∀ a c, M.1[a]? = some c → RelC Z W ρ h M.2.1 M.2.2.1 M.2.2.2 a c) ∧
  (∀ a, M.1.length ≤ a → ∀ k, M.2.1 a k = 0 ∧ M.2.2.1 a k = 0 ∧ M.2.2.2 a k = .null)
section R
variable {Z : State} {W : List Jvm.Cond} {ρ : Nat → Addr} {h h' : Heap} {mi mi' : Nat → Nat → Int32} {ml ml' : Nat → Nat → Int64} {mr mr' : Nat → Nat → Value} {a b : Nat} {c : Nat × String × Nat} {a0 : Array Value}
theorem RelC.mono (hE : ∀ C, Exa Z h (ρ a) C → Exa Z h' (ρ a) C) (hF : ∀ C n d v, Fld Z h (ρ a) C n d v → Fld Z h' (ρ a) C n d v) (hA : ∀ cell ty, Arr Z h (ρ a) cell ty → Arr Z h' (ρ a) cell ty)
    (hi : ∀ k, mi' a k = mi a k) (hl : ∀ k, ml' a k = ml a k) (hr : ∀ k, mr' a k = mr a k) (X : RelC Z W ρ h mi ml mr a c) : RelC Z W ρ h' mi' ml' mr' a c := by
  obtain ⟨x0, x1, x2, x3⟩ := X
  refine ⟨fun q => ?_, fun q => ?_, fun q => ?_, fun q => ?_⟩
  · obtain ⟨e1, e2⟩ := x0 q
    exact ⟨hE _ e1, fun n k d fin e3 e4 => by rw [hi, hl, hr]; exact hF _ _ _ _ (e2 n k d fin e3 e4)⟩
  · obtain ⟨cell, e1, e2, e3⟩ := x1 q
    exact ⟨cell, hA _ _ e1, e2, fun k hk => by rw [hi]; exact e3 k hk⟩
  · obtain ⟨cell, e1, e2, e3⟩ := x2 q
    exact ⟨cell, hA _ _ e1, e2, fun k hk => by rw [hl]; exact e3 k hk⟩
  · obtain ⟨cell, e1, e2, e3⟩ := x3 q
    exact ⟨cell, hA _ _ e1, e2, fun k hk => by rw [hi]; exact e3 k hk⟩
theorem up_ne {α : Type} {f : Nat → Nat → α} {a k : Nat} {v : α} {x : Nat} (h : x ≠ a) (y : Nat) : up f a k v x y = f x y := by simp [up, h]
theorem up_eq {α : Type} {f : Nat → Nat → α} {a k : Nat} {v : α} : up f a k v a k = v := by simp [up]
theorem up_ne' {α : Type} {f : Nat → Nat → α} {a k : Nat} {v : α} {y : Nat} (h : y ≠ k) (x : Nat) : up f a k v x y = f x y := by simp [up, h]
theorem RelC.other {sl : Nat} {v : Value} (w : Wr h h' (ρ b) sl v) (ne : ρ a ≠ ρ b) (hi : ∀ k, mi' a k = mi a k) (hl : ∀ k, ml' a k = ml a k) (hr : ∀ k, mr' a k = mr a k) (X : RelC Z W ρ h mi ml mr a c) : RelC Z W ρ h' mi' ml' mr' a c :=
  X.mono (fun _ q => q.wr w) (fun _ _ _ _ q => q.other w (Or.inl ne)) (fun _ _ q => q.other w ne) hi hl hr
theorem RelC.ext (E : Ext h h') (X : RelC Z W ρ h mi ml mr a c) : RelC Z W ρ h' mi ml mr a c :=
  X.mono (fun _ q => q.ext E) (fun _ _ _ _ q => q.ext E) (fun _ _ q => q.ext E) (fun _ => rfl) (fun _ => rfl) (fun _ => rfl)
/-- a field is written -/
theorem RelC.put (hw : ∀ d ∈ W, d.before a0 Z = true) {C n d : String} {k : Nat} {fin : Bool} {u : Nat} {v : Value} (hla : layAt W C n = some (k, d, fin)) (hk0 : kindD d ≠ 0) (w : Wr h h' (ρ a) (Jvm.RoadKit.slotOf Z C n d) v)
    (hv : conc ρ (getV (kindD d) (mi' a k) (ml' a k) (mr' a k)) = v)
    (hi : ∀ j, j ≠ k → mi' a j = mi a j) (hl : ∀ j, j ≠ k → ml' a j = ml a j) (hr : ∀ j, j ≠ k → mr' a j = mr a j) (X : RelC Z W ρ h mi ml mr a (0, C, u)) : RelC Z W ρ h' mi' ml' mr' a (0, C, u) := by
  obtain ⟨x0, -⟩ := X
  refine ⟨fun q => ?_, fun q => (by cases q), fun q => (by cases q), fun q => (by cases q)⟩
  obtain ⟨e1, e2⟩ := x0 q
  refine ⟨e1.wr w, fun n' k' d' fin' e3 e4 => ?_⟩
  by_cases hn : n' = n
  · subst hn
    cases hla.symm.trans e3
    rw [hv]
    exact Fld.same w (e2 _ _ _ _ e3 e4)
  · have hk : k' ≠ k := fun q => by subst q; exact hn (layAt_inj e3 hla)
    rw [hi _ hk, hl _ hk, hr _ hk]
    have pd : ∀ {x : String}, kindD x ≠ 0 → ∃ t, parseFieldDescriptor x = some t := fun {x} q => by
      rcases kindD_lt x with z | z | z | z | z
      · exact absurd z q
      · exact ⟨_, kindD_1 z⟩
      · exact ⟨_, kindD_2 z⟩
      · exact ⟨_, kindD_3 z⟩
      · obtain ⟨t, ht, -⟩ := kindD_4 z; exact ⟨t, ht⟩
    obtain ⟨t1, ht1⟩ := pd e4
    obtain ⟨t2, ht2⟩ := pd hk0
    exact (e2 _ _ _ _ e3 e4).other w (Or.inr (slot_ne (layAt_laid hw e3) (layAt_laid hw hla) hn ht1 ht2))
theorem get_set {cell : Cell} {j k n : Nat} {v : Value} (hs : cell.slots.size = n) (hk : k < n) : (cell.setSlot j v).slots[k]? = if j = k then some v else cell.slots[k]? := by
  by_cases e : j = k
  · subst e
    simp [Cell.setSlot, hs, hk]
  · rw [if_neg e]
    exact Array.getElem?_setIfInBounds_ne e
theorem RelC.st1 {n : Nat} {u : String} {j : Nat} {x : Int32} (w : Wr h h' (ρ a) j (.int x)) (X : RelC Z W ρ h mi ml mr a (1, u, n)) : RelC Z W ρ h' (up mi a j x) ml mr a (1, u, n) := by
  obtain ⟨-, x1, -⟩ := X
  refine ⟨fun q => (by cases q), fun q => ?_, fun q => (by cases q), fun q => (by cases q)⟩
  obtain ⟨cell, e1, e2, e3⟩ := x1 q
  refine ⟨_, e1.same w, (sz_set _ _ _).trans e2, fun k hk => ?_⟩
  rw [get_set e2 hk]
  by_cases e : j = k
  · subst e; simp [up]
  · rw [if_neg e, e3 k hk]; simp [up, Ne.symm e]
theorem RelC.st3 {n : Nat} {u : String} {j : Nat} {x : Int32} (w : Wr h h' (ρ a) j (.int x)) (X : RelC Z W ρ h mi ml mr a (3, u, n)) : RelC Z W ρ h' (up mi a j x) ml mr a (3, u, n) := by
  obtain ⟨-, -, -, x1⟩ := X
  refine ⟨fun q => (by cases q), fun q => (by cases q), fun q => (by cases q), fun q => ?_⟩
  obtain ⟨cell, e1, e2, e3⟩ := x1 q
  refine ⟨_, e1.same w, (sz_set _ _ _).trans e2, fun k hk => ?_⟩
  rw [get_set e2 hk]
  by_cases e : j = k
  · subst e; simp [up]
  · rw [if_neg e, e3 k hk]; simp [up, Ne.symm e]
theorem RelC.st2 {n : Nat} {u : String} {j : Nat} {x : Int64} (w : Wr h h' (ρ a) j (.long x)) (X : RelC Z W ρ h mi ml mr a (2, u, n)) : RelC Z W ρ h' mi (up ml a j x) mr a (2, u, n) := by
  obtain ⟨-, -, x1, -⟩ := X
  refine ⟨fun q => (by cases q), fun q => (by cases q), fun q => ?_, fun q => (by cases q)⟩
  obtain ⟨cell, e1, e2, e3⟩ := x1 q
  refine ⟨_, e1.same w, (sz_set _ _ _).trans e2, fun k hk => ?_⟩
  rw [get_set e2 hk]
  by_cases e : j = k
  · subst e; simp [up]
  · rw [if_neg e, e3 k hk]; simp [up, Ne.symm e]
/-- one cell is written, the others stay -/
theorem Rel.write {ro n0 : Nat} {L : ELay} {sl : Nat} {v : Value} (hρ : ∀ a b, ρ a = ρ b → a = b) (w : Wr h h' (ρ a) sl v) (hc : L[a]? = some c)
    (hi : ∀ x, x ≠ a → ∀ k, mi' x k = mi x k) (hl : ∀ x, x ≠ a → ∀ k, ml' x k = ml x k) (hr : ∀ x, x ≠ a → ∀ k, mr' x k = mr x k)
    (self : RelC Z W ρ h mi ml mr a c → RelC Z W ρ h' mi' ml' mr' a c) (X : Rel Z W ρ ro n0 h (L, mi, ml, mr)) : Rel Z W ρ ro n0 h' (L, mi', ml', mr') := by
  obtain ⟨x1, x2, x3, x4⟩ := X
  have hlt : a < L.length := (List.getElem?_eq_some_iff.mp hc).1
  refine ⟨by rw [w.size]; exact x1, x2, fun b cb hb => ?_, fun b hb k => ?_⟩
  · by_cases e : b = a
    · subst e
      cases hc.symm.trans hb
      exact self (x3 _ _ hc)
    · exact (x3 b cb hb).other w (fun q => e (hρ _ _ q)) (hi b e) (hl b e) (hr b e)
  · have e : b ≠ a := fun q => by
      have hb' : L.length ≤ b := hb
      omega
    obtain ⟨y1, y2, y3⟩ := x4 b hb k
    exact ⟨(hi b e k).trans y1, (hl b e k).trans y2, (hr b e k).trans y3⟩
/-- one cell more -/
theorem Rel.push {ro n0 : Nat} {L : ELay} (E : Ext h h') (hsz : h'.size = h.size + 1) (new : RelC Z W ρ h' mi ml mr L.length c) (X : Rel Z W ρ ro n0 h (L, mi, ml, mr)) : Rel Z W ρ ro n0 h' (L ++ [c], mi, ml, mr) := by
  obtain ⟨x1, x2, x3, x4⟩ := X
  have x2' : ro ≤ L.length := x2
  have x1' : h.size = n0 + (L.length - ro) := x1
  refine ⟨?_, ?_, fun b cb hb => ?_, fun b hb k => ?_⟩
  · show h'.size = n0 + ((L ++ [c]).length - ro)
    rw [hsz, x1', List.length_append]
    simp; omega
  · show ro ≤ (L ++ [c]).length
    rw [List.length_append]; omega
  · have hb' : (L ++ [c])[b]? = some cb := hb
    by_cases e : b < L.length
    · rw [List.getElem?_append_left e] at hb'
      exact (x3 b cb hb').ext E
    · have hlt := (List.getElem?_eq_some_iff.mp hb').1
      rw [List.length_append] at hlt
      have : b = L.length := by simp at hlt; omega
      subst this
      simp at hb'
      subst hb'
      exact new
  · have hb' : (L ++ [c]).length ≤ b := hb
    rw [List.length_append] at hb'
    exact x4 b (by show L.length ≤ b; omega) k
end R
end Jvm.OwnEv
namespace Jvm.OwnEv
open Sem ClassFile Op Lib Jvm.Stand Jvm.Free Jvm.LawKit Jvm.RoadKit
/-! PART 4: the evaluator's plain steps are steps of the model -/
def Here (p : Program) (l : Launch) (e : Env) (R : Room) (s : State) (m : MethodId) (args : Array Value) (below : List Frame) (meth : Method) (c : Code) (Z : State) (W : List Jvm.Cond) (ρ : Nat → Addr) (ro n0 : Nat) (L0 : ELay) (T : State) (M : EMem) : Prop :=
  ∃ locs, Stand p l e R s m args below meth c T locs (M.1.length - L0.length) (szL M.1 - szL L0) ∧ Fr n0 locs ∧ Rel Z W ρ ro n0 T.heap M
theorem objInitAt_spec {W : List Jvm.Cond} {own : String} {idx : Nat} (h : objInitAt W own idx = true) : Jvm.Cond.methodLink own idx Lib.objectInit ∈ W ∧ Jvm.Cond.instanceMethod Lib.objectInit ∈ W ∧ Jvm.Cond.code Lib.objectInit ⟨#[0xb1]⟩ 1 none ∈ W := by
  unfold objInitAt at h
  split at h
  · rename_i z b n r h1 h2
    simp only [Bool.and_eq_true, decide_eq_true_eq] at h
    obtain ⟨⟨⟨⟨rfl, h3⟩, rfl⟩, rfl⟩, rfl⟩ := h
    exact ⟨methodLk_mem h1, hasInst_mem h3, codeLk_mem h2⟩
  · cases h
section S
variable {p : Program} {l : Launch} {e : Env} {R : Room} {s : State} {m : MethodId} {args : Array Value} {below : List Frame} {meth : Method} {c : Code} {Z : State} {a0 : Array Value} {W : List Jvm.Cond} {ρ : Nat → Addr} {ro n0 : Nat} {L0 : ELay} {y : MethodName} {T : State} {M : EMem}
set_option maxRecDepth 65536 in
set_option maxHeartbeats 40000000 in
theorem execP_sound (H : Here p l e R s m args below meth c Z W ρ ro n0 L0 T M) (hx : p.tables.exec = Jvm.exec) (hZ : Z.Warmed39 s.vm) (hw : ∀ d ∈ W, d.before a0 Z = true) (hown : s.vm.findClass y.cls = some m.cls) {F Lb : Nat} (hF : F ≤ R.frames) (hLb : Lb ≤ R.locals)
    {ls ls' : List Slot} {st st' : List Value} {ins : Instr} {pc pc' len : Nat} (hsz : ls.length = c.maxLocals) (hd : decode c.code pc = .ok (ins, len)) (hl : lenOk len ins = true) (h : execP W F Lb y ins pc len ls st M = some (pc', ls', st')) :
    ls'.length = ls.length ∧ ∃ T', Here p l e R s m args below meth c Z W ρ ro n0 L0 T' M ∧ ∀ target, Steps p.tables e below (T'.setTop (mkF m pc' (cl ρ ls') (cs ρ st'))) target → Steps p.tables e below (T.setTop (mkF m pc (cl ρ ls) (cs ρ st))) target := by
  obtain ⟨locs, X, N, Rl⟩ := H
  have A := X.here
  unfold execP at h
  split at h
  · rename_i k
    obtain rfl : len = 2 := by simpa [lenOk] using hl
    split at h
    · rename_i a ha; cases h; exact ⟨rfl, T, ⟨locs, X, N, Rl⟩, fun t k => XS.aload A hx rfl hd (get_cl ha) rfl k⟩
    · rename_i ha; cases h; exact ⟨rfl, T, ⟨locs, X, N, Rl⟩, fun t k => XS.aload A hx rfl hd (get_cl ha) rfl k⟩
    · cases h
  · rename_i k
    obtain rfl : len = 1 := by simpa [lenOk] using hl
    split at h
    · rename_i a ha; cases h; exact ⟨rfl, T, ⟨locs, X, N, Rl⟩, fun t k => XS.aloadN A hx rfl hd (get_cl ha) rfl k⟩
    · rename_i ha; cases h; exact ⟨rfl, T, ⟨locs, X, N, Rl⟩, fun t k => XS.aloadN A hx rfl hd (get_cl ha) rfl k⟩
    · cases h
  · rename_i k
    obtain rfl : len = 2 := by simpa [lenOk] using hl
    split at h
    · rename_i a ha; cases h; exact ⟨rfl, T, ⟨locs, X, N, Rl⟩, fun t k => XS.iload A hx rfl hd (get_cl ha) k⟩
    · cases h
  · rename_i k
    obtain rfl : len = 1 := by simpa [lenOk] using hl
    split at h
    · rename_i a ha; cases h; exact ⟨rfl, T, ⟨locs, X, N, Rl⟩, fun t k => XS.iloadN A hx rfl hd (get_cl ha) k⟩
    · cases h
  · rename_i k
    obtain rfl : len = 2 := by simpa [lenOk] using hl
    split at h
    · rename_i a ha; cases h; exact ⟨rfl, T, ⟨locs, X, N, Rl⟩, fun t k => XT.lload A hx rfl hd (get_cl ha) k⟩
    · cases h
  · rename_i k
    obtain rfl : len = 1 := by simpa [lenOk] using hl
    split at h
    · rename_i a ha; cases h; exact ⟨rfl, T, ⟨locs, X, N, Rl⟩, fun t k => XT.lloadN A hx rfl hd (get_cl ha) k⟩
    · cases h
  · rename_i k
    obtain rfl : len = 2 := by simpa [lenOk] using hl
    split at h
    · split at h
      · rename_i l' hs; cases h; exact ⟨storeL_len hs, T, ⟨locs, X, N, Rl⟩, fun t k => XS.istore A hx rfl hd rfl (storeL_conc (ρ := ρ) hs) k⟩
      · cases h
    · cases h
  · rename_i k
    obtain rfl : len = 1 := by simpa [lenOk] using hl
    split at h
    · split at h
      · rename_i l' hs; cases h; exact ⟨storeL_len hs, T, ⟨locs, X, N, Rl⟩, fun t k => XS.istoreN A hx rfl hd rfl (storeL_conc (ρ := ρ) hs) k⟩
      · cases h
    · cases h
  · rename_i k
    obtain rfl : len = 2 := by simpa [lenOk] using hl
    split at h
    · split at h
      · rename_i l' hs; cases h; exact ⟨storeL_len hs, T, ⟨locs, X, N, Rl⟩, fun t k => XT.lstore A hx rfl hd rfl (storeL_conc (ρ := ρ) hs) k⟩
      · cases h
    · cases h
  · rename_i k
    obtain rfl : len = 1 := by simpa [lenOk] using hl
    split at h
    · split at h
      · rename_i l' hs; cases h; exact ⟨storeL_len hs, T, ⟨locs, X, N, Rl⟩, fun t k => XT.lstoreN A hx rfl hd rfl (storeL_conc (ρ := ρ) hs) k⟩
      · cases h
    · cases h
  · rename_i k
    obtain rfl : len = 2 := by simpa [lenOk] using hl
    split at h
    · split at h
      · rename_i l' hs; cases h; exact ⟨storeL_len hs, T, ⟨locs, X, N, Rl⟩, fun t k => XS.astore A hx rfl hd rfl rfl (storeL_conc (ρ := ρ) hs) k⟩
      · cases h
    · cases h
  · rename_i k
    obtain rfl : len = 1 := by simpa [lenOk] using hl
    split at h
    · split at h
      · rename_i l' hs; cases h; exact ⟨storeL_len hs, T, ⟨locs, X, N, Rl⟩, fun t k => XS.astoreN A hx rfl hd rfl rfl (storeL_conc (ρ := ρ) hs) k⟩
      · cases h
    · cases h
  · rename_i k d
    obtain rfl : len = 3 := by simpa [lenOk] using hl
    split at h
    · rename_i v ha; split at h
      · rename_i l' hs; cases h; exact ⟨storeL_len hs, T, ⟨locs, X, N, Rl⟩, fun t k => XS.iinc A hx rfl hd (get_cl ha) (storeL_conc (ρ := ρ) hs) k⟩
      · cases h
    · cases h
  · rename_i i
    obtain rfl : len = 1 := by simpa [lenOk] using hl
    cases h; exact ⟨rfl, T, ⟨locs, X, N, Rl⟩, fun t k => XS.iconst A hx rfl hd k⟩
  · rename_i i
    obtain rfl : len = 2 := by simpa [lenOk] using hl
    cases h; exact ⟨rfl, T, ⟨locs, X, N, Rl⟩, fun t k => XS.bipush A hx rfl hd k⟩
  · rename_i i
    obtain rfl : len = 3 := by simpa [lenOk] using hl
    cases h; exact ⟨rfl, T, ⟨locs, X, N, Rl⟩, fun t k => XS.sipush A hx rfl hd k⟩
  · rename_i i
    obtain rfl : len = 1 := by simpa [lenOk] using hl
    cases h; exact ⟨rfl, T, ⟨locs, X, N, Rl⟩, fun t k => XT.lconst A hx rfl hd k⟩
  · rename_i i
    obtain rfl : len = 2 := by simpa [lenOk] using hl
    split at h
    · rename_i v hv; cases h; exact ⟨rfl, T, ⟨locs, X, N, Rl⟩, fun t k => X.ldcInt hx hown (mvT hZ (hw _ (intLk_mem hv))) (g := mkF m pc (cl ρ ls) (cs ρ st)) rfl hd t k⟩
    · cases h
  · rename_i i
    obtain rfl : len = 3 := by simpa [lenOk] using hl
    split at h
    · rename_i v hv; cases h; exact ⟨rfl, T, ⟨locs, X, N, Rl⟩, fun t k => X.ldcwInt hx hown (mvT hZ (hw _ (intLk_mem hv))) (g := mkF m pc (cl ρ ls) (cs ρ st)) rfl hd t k⟩
    · cases h
  · rename_i i
    obtain rfl : len = 3 := by simpa [lenOk] using hl
    split at h
    · rename_i v hv; cases h; exact ⟨rfl, T, ⟨locs, X, N, Rl⟩, fun t k => X.ldc2Long hx hown (mvT hZ (hw _ (longLk_mem hv))) (g := mkF m pc (cl ρ ls) (cs ρ st)) rfl hd t k⟩
    · cases h
  · obtain rfl : len = 1 := by simpa [lenOk] using hl
    split at h
    · cases h; exact ⟨rfl, T, ⟨locs, X, N, Rl⟩, fun t k => XS.iadd A hx rfl hd rfl k⟩
    · cases h
  · obtain rfl : len = 1 := by simpa [lenOk] using hl
    split at h
    · cases h; exact ⟨rfl, T, ⟨locs, X, N, Rl⟩, fun t k => XS.isub A hx rfl hd rfl k⟩
    · cases h
  · obtain rfl : len = 1 := by simpa [lenOk] using hl
    split at h
    · cases h; exact ⟨rfl, T, ⟨locs, X, N, Rl⟩, fun t k => XS.imul A hx rfl hd rfl k⟩
    · cases h
  · obtain rfl : len = 1 := by simpa [lenOk] using hl
    split at h
    · cases h; exact ⟨rfl, T, ⟨locs, X, N, Rl⟩, fun t k => XS.iand A hx rfl hd rfl k⟩
    · cases h
  · obtain rfl : len = 1 := by simpa [lenOk] using hl
    split at h
    · cases h; exact ⟨rfl, T, ⟨locs, X, N, Rl⟩, fun t k => XT.ior A hx rfl hd rfl k⟩
    · cases h
  · obtain rfl : len = 1 := by simpa [lenOk] using hl
    split at h
    · cases h; exact ⟨rfl, T, ⟨locs, X, N, Rl⟩, fun t k => XT.ixor A hx rfl hd rfl k⟩
    · cases h
  · obtain rfl : len = 1 := by simpa [lenOk] using hl
    split at h
    · cases h; exact ⟨rfl, T, ⟨locs, X, N, Rl⟩, fun t k => XT.ishl A hx rfl hd rfl k⟩
    · cases h
  · obtain rfl : len = 1 := by simpa [lenOk] using hl
    split at h
    · cases h; exact ⟨rfl, T, ⟨locs, X, N, Rl⟩, fun t k => XT.ishr A hx rfl hd rfl k⟩
    · cases h
  · obtain rfl : len = 1 := by simpa [lenOk] using hl
    split at h
    · cases h; exact ⟨rfl, T, ⟨locs, X, N, Rl⟩, fun t k => XT.iushr A hx rfl hd rfl k⟩
    · cases h
  · obtain rfl : len = 1 := by simpa [lenOk] using hl
    split at h
    · split at h
      · cases h
      · rename_i hb; cases h; exact ⟨rfl, T, ⟨locs, X, N, Rl⟩, fun t k => XS.idiv A hx rfl hd rfl hb k⟩
    · cases h
  · obtain rfl : len = 1 := by simpa [lenOk] using hl
    split at h
    · split at h
      · cases h
      · rename_i hb; cases h; exact ⟨rfl, T, ⟨locs, X, N, Rl⟩, fun t k => XS.irem A hx rfl hd rfl hb k⟩
    · cases h
  · obtain rfl : len = 1 := by simpa [lenOk] using hl
    split at h
    · cases h; exact ⟨rfl, T, ⟨locs, X, N, Rl⟩, fun t k => XS.ineg A hx rfl hd rfl k⟩
    · cases h
  · obtain rfl : len = 1 := by simpa [lenOk] using hl
    split at h
    · cases h; exact ⟨rfl, T, ⟨locs, X, N, Rl⟩, fun t k => XT.ladd A hx rfl hd rfl k⟩
    · cases h
  · obtain rfl : len = 1 := by simpa [lenOk] using hl
    split at h
    · cases h; exact ⟨rfl, T, ⟨locs, X, N, Rl⟩, fun t k => XT.lsub A hx rfl hd rfl k⟩
    · cases h
  · obtain rfl : len = 1 := by simpa [lenOk] using hl
    split at h
    · cases h; exact ⟨rfl, T, ⟨locs, X, N, Rl⟩, fun t k => XT.lmul A hx rfl hd rfl k⟩
    · cases h
  · obtain rfl : len = 1 := by simpa [lenOk] using hl
    split at h
    · cases h; exact ⟨rfl, T, ⟨locs, X, N, Rl⟩, fun t k => XT.land A hx rfl hd rfl k⟩
    · cases h
  · obtain rfl : len = 1 := by simpa [lenOk] using hl
    split at h
    · cases h; exact ⟨rfl, T, ⟨locs, X, N, Rl⟩, fun t k => XT.lor A hx rfl hd rfl k⟩
    · cases h
  · obtain rfl : len = 1 := by simpa [lenOk] using hl
    split at h
    · cases h; exact ⟨rfl, T, ⟨locs, X, N, Rl⟩, fun t k => XT.lxor A hx rfl hd rfl k⟩
    · cases h
  · obtain rfl : len = 1 := by simpa [lenOk] using hl
    split at h
    · cases h; exact ⟨rfl, T, ⟨locs, X, N, Rl⟩, fun t k => XT.lshl A hx rfl hd rfl k⟩
    · cases h
  · obtain rfl : len = 1 := by simpa [lenOk] using hl
    split at h
    · cases h; exact ⟨rfl, T, ⟨locs, X, N, Rl⟩, fun t k => XT.lshr A hx rfl hd rfl k⟩
    · cases h
  · obtain rfl : len = 1 := by simpa [lenOk] using hl
    split at h
    · cases h; exact ⟨rfl, T, ⟨locs, X, N, Rl⟩, fun t k => XT.lushr A hx rfl hd rfl k⟩
    · cases h
  · obtain rfl : len = 1 := by simpa [lenOk] using hl
    split at h
    · split at h
      · cases h
      · rename_i hb; cases h; exact ⟨rfl, T, ⟨locs, X, N, Rl⟩, fun t k => XT.ldiv A hx rfl hd rfl hb k⟩
    · cases h
  · obtain rfl : len = 1 := by simpa [lenOk] using hl
    split at h
    · split at h
      · cases h
      · rename_i hb; cases h; exact ⟨rfl, T, ⟨locs, X, N, Rl⟩, fun t k => XT.lrem A hx rfl hd rfl hb k⟩
    · cases h
  · obtain rfl : len = 1 := by simpa [lenOk] using hl
    split at h
    · cases h; exact ⟨rfl, T, ⟨locs, X, N, Rl⟩, fun t k => XT.lneg A hx rfl hd rfl k⟩
    · cases h
  · obtain rfl : len = 1 := by simpa [lenOk] using hl
    split at h
    · cases h; exact ⟨rfl, T, ⟨locs, X, N, Rl⟩, fun t k => XT.lcmp A hx rfl hd rfl k⟩
    · cases h
  · obtain rfl : len = 1 := by simpa [lenOk] using hl
    split at h
    · cases h; exact ⟨rfl, T, ⟨locs, X, N, Rl⟩, fun t k => XT.i2l A hx rfl hd rfl k⟩
    · cases h
  · obtain rfl : len = 1 := by simpa [lenOk] using hl
    split at h
    · cases h; exact ⟨rfl, T, ⟨locs, X, N, Rl⟩, fun t k => XT.l2i A hx rfl hd rfl k⟩
    · cases h
  · obtain rfl : len = 1 := by simpa [lenOk] using hl
    split at h
    · cases h; exact ⟨rfl, T, ⟨locs, X, N, Rl⟩, fun t k => XT.i2s A hx rfl hd rfl k⟩
    · cases h
  · obtain rfl : len = 1 := by simpa [lenOk] using hl
    split at h
    · cases h; exact ⟨rfl, T, ⟨locs, X, N, Rl⟩, fun t k => XS.dup A hx rfl hd rfl rfl k⟩
    · cases h; exact ⟨rfl, T, ⟨locs, X, N, Rl⟩, fun t k => XS.dup A hx rfl hd rfl rfl k⟩
    · cases h
  · obtain rfl : len = 1 := by simpa [lenOk] using hl
    split at h
    · cases h; exact ⟨rfl, T, ⟨locs, X, N, Rl⟩, fun t k => XT.dup2 A hx rfl hd rfl rfl rfl k⟩
    · cases h; exact ⟨rfl, T, ⟨locs, X, N, Rl⟩, fun t k => XT.dup2 A hx rfl hd rfl rfl rfl k⟩
    · cases h; exact ⟨rfl, T, ⟨locs, X, N, Rl⟩, fun t k => XT.dup2L A hx rfl hd rfl k⟩
    · cases h
  · obtain rfl : len = 1 := by simpa [lenOk] using hl
    split at h
    · cases h; exact ⟨rfl, T, ⟨locs, X, N, Rl⟩, fun t k => XT.dupX1 A hx rfl hd rfl rfl rfl k⟩
    · cases h
  · obtain rfl : len = 1 := by simpa [lenOk] using hl
    split at h
    · cases h; exact ⟨rfl, T, ⟨locs, X, N, Rl⟩, fun t k => XT.pop A hx rfl hd rfl rfl k⟩
    · cases h; exact ⟨rfl, T, ⟨locs, X, N, Rl⟩, fun t k => XT.pop A hx rfl hd rfl rfl k⟩
    · cases h
  · rename_i o
    obtain rfl : len = 3 := by simpa [lenOk] using hl
    split at h
    · rename_i t ht; cases h; obtain ⟨j1, j2⟩ := jump_spec ht
      exact ⟨rfl, T, ⟨locs, X, N, Rl⟩, fun t k => XS.goto A hx rfl rfl hd j1 j2 k⟩
    · cases h
  · rename_i cd o
    obtain rfl : len = 3 := by simpa [lenOk] using hl
    split at h
    · rename_i a r
      split at h
      · rename_i t ht; cases h; obtain ⟨j1, j2⟩ := jump_spec ht
        refine ⟨rfl, T, ⟨locs, X, N, Rl⟩, fun t k => ?_⟩
        cases hb : ifCond.holds cd a with
        | true => rw [hb, if_pos rfl] at k; exact XS.ifYes A hx rfl rfl hd rfl hb j1 j2 k
        | false => rw [hb, if_neg Bool.false_ne_true] at k; exact XS.ifNo A hx rfl hd rfl hb k
      · cases h
    · cases h
  · rename_i cd o
    obtain rfl : len = 3 := by simpa [lenOk] using hl
    split at h
    · rename_i b a r
      split at h
      · rename_i t ht; cases h; obtain ⟨j1, j2⟩ := jump_spec ht
        refine ⟨rfl, T, ⟨locs, X, N, Rl⟩, fun t k => ?_⟩
        cases hb : if_icmp.holds cd a b with
        | true => rw [hb, if_pos rfl] at k; exact XS.icmpYes A hx rfl rfl hd rfl hb j1 j2 k
        | false => rw [hb, if_neg Bool.false_ne_true] at k; exact XS.icmpNo A hx rfl hd rfl hb k
      · cases h
    · cases h
  · rename_i o
    obtain rfl : len = 3 := by simpa [lenOk] using hl
    split at h
    · split at h
      · rename_i t ht; cases h; obtain ⟨j1, j2⟩ := jump_spec ht
        exact ⟨rfl, T, ⟨locs, X, N, Rl⟩, fun t k => XS.ifnullYes A hx rfl rfl hd rfl j1 j2 k⟩
      · cases h
    · cases h; exact ⟨rfl, T, ⟨locs, X, N, Rl⟩, fun t k => XS.ifnullNo A hx rfl hd rfl k⟩
    · cases h
  · rename_i o
    obtain rfl : len = 3 := by simpa [lenOk] using hl
    split at h
    · split at h
      · rename_i t ht; cases h; obtain ⟨j1, j2⟩ := jump_spec ht
        exact ⟨rfl, T, ⟨locs, X, N, Rl⟩, fun t k => XT.ifnonnullYes A hx rfl rfl hd rfl j1 j2 k⟩
      · cases h
    · cases h; exact ⟨rfl, T, ⟨locs, X, N, Rl⟩, fun t k => XT.ifnonnullNo A hx rfl hd rfl k⟩
    · cases h
  · rename_i dflt low high offs
    split at h
    · split at h
      · rename_i hout; split at h
        · rename_i t ht; cases h; obtain ⟨j1, j2⟩ := jump_spec ht
          exact ⟨rfl, T, ⟨locs, X, N, Rl⟩, fun t k => XS.tswOut A hx rfl rfl hd rfl hout j1 j2 k⟩
        · cases h
      · rename_i hin; split at h
        · cases h
        · rename_i off hoff; split at h
          · rename_i t ht; cases h; obtain ⟨j1, j2⟩ := jump_spec ht
            exact ⟨rfl, T, ⟨locs, X, N, Rl⟩, fun t k => XS.tswIn A hx rfl rfl hd rfl hin hoff j1 j2 k⟩
          · cases h
    · cases h
  · rename_i idx
    obtain rfl : len = 3 := by simpa [lenOk] using hl
    split at h
    · rename_i a r; split at h
      · rename_i C k kd fin C' u hf hc
        split at h
        · rename_i hC
          cases h
          subst hC
          obtain ⟨n, d, q1, q2, rfl, q4⟩ := fieldAt_spec hf
          have Fd := ((Rl.2.2.1 _ _ hc).1 rfl).2 _ _ _ _ q2 q4
          obtain ⟨T', X', e', st'⟩ := getF X hx hZ hown (host := "") (Or.inl (hw _ q1)) Via.refl rfl Fd (g := mkF m pc (cl ρ ls) (cs ρ (.ref a :: r))) rfl rfl hd
          exact ⟨rfl, T', ⟨locs, X', N, by rw [e']; exact Rl⟩, fun t k => st' t k⟩
        · cases h
      · cases h
    · cases h
  · obtain rfl : len = 1 := by simpa [lenOk] using hl
    split at h
    · rename_i a r; split at h
      · rename_i u n hc
        cases h
        obtain ⟨cell, Ar, hs, -⟩ := (Rl.2.2.1 _ _ hc).2.1 rfl
        have hs' : cell.slots.size = n := hs
        refine ⟨rfl, T, ⟨locs, X, N, Rl⟩, fun t k => X.arraylength hx Ar.1 (State.isArrayOf_alike hZ.alike Ar.2.1) (g := mkF m pc (cl ρ ls) (cs ρ (.ref a :: r))) rfl rfl hd t ?_⟩
        rw [hs']; exact k
      · rename_i u n hc
        cases h
        obtain ⟨cell, Ar, hs, -⟩ := (Rl.2.2.1 _ _ hc).2.2.1 rfl
        have hs' : cell.slots.size = n := hs
        refine ⟨rfl, T, ⟨locs, X, N, Rl⟩, fun t k => X.arraylength hx Ar.1 (State.isArrayOf_alike hZ.alike Ar.2.1) (g := mkF m pc (cl ρ ls) (cs ρ (.ref a :: r))) rfl rfl hd t ?_⟩
        rw [hs']; exact k
      · rename_i u n hc
        cases h
        obtain ⟨cell, Ar, hs, -⟩ := (Rl.2.2.1 _ _ hc).2.2.2 rfl
        have hs' : cell.slots.size = n := hs
        refine ⟨rfl, T, ⟨locs, X, N, Rl⟩, fun t k => X.arraylength hx Ar.1 (State.isArrayOf_alike hZ.alike Ar.2.1) (g := mkF m pc (cl ρ ls) (cs ρ (.ref a :: r))) rfl rfl hd t ?_⟩
        rw [hs']; exact k
      · cases h
    · cases h
  · obtain rfl : len = 1 := by simpa [lenOk] using hl
    split at h
    · rename_i j a r; split at h
      · rename_i u n hc
        split at h
        · rename_i hj
          cases h
          obtain ⟨cell, Ar, hs, hv⟩ := (Rl.2.2.1 _ _ hc).2.1 rfl
          have hs' : cell.slots.size = n := hs
          have hj' := inb_spec hj
          have hlt : j.toNatClampNeg < n := by
            have := fun q => hj' (Or.inr q)
            omega
          exact ⟨rfl, T, ⟨locs, X, N, Rl⟩, fun t k => X.iaload hx Ar.1 (State.isArrayOf_alike hZ.alike Ar.2.1) Ar.2.2 (by rw [hs']; exact hj') (hv _ hlt) (g := mkF m pc (cl ρ ls) (cs ρ (.int j :: .ref a :: r))) rfl rfl hd t k⟩
        · cases h
      · cases h
    · cases h
  · obtain rfl : len = 1 := by simpa [lenOk] using hl
    split at h
    · rename_i j a r; split at h
      · rename_i u n hc
        split at h
        · rename_i hj
          cases h
          obtain ⟨cell, Ar, hs, hv⟩ := (Rl.2.2.1 _ _ hc).2.2.2 rfl
          have hs' : cell.slots.size = n := hs
          have hj' := inb_spec hj
          have hlt : j.toNatClampNeg < n := by
            have := fun q => hj' (Or.inr q)
            omega
          exact ⟨rfl, T, ⟨locs, X, N, Rl⟩, fun t k => X.baloadBooleans hx Ar.1 (State.isArrayOf_alike hZ.alike Ar.2.1) Ar.2.2 (by rw [hs']; exact hj') (hv _ hlt) (g := mkF m pc (cl ρ ls) (cs ρ (.int j :: .ref a :: r))) rfl rfl hd t k⟩
        · cases h
      · cases h
    · cases h
  · obtain rfl : len = 1 := by simpa [lenOk] using hl
    split at h
    · rename_i j a r; split at h
      · rename_i u n hc
        split at h
        · rename_i hj
          cases h
          obtain ⟨cell, Ar, hs, hv⟩ := (Rl.2.2.1 _ _ hc).2.2.1 rfl
          have hs' : cell.slots.size = n := hs
          have hj' := inb_spec hj
          have hlt : j.toNatClampNeg < n := by
            have := fun q => hj' (Or.inr q)
            omega
          exact ⟨rfl, T, ⟨locs, X, N, Rl⟩, fun t k => X.laload hx Ar.1 (State.isArrayOf_alike hZ.alike Ar.2.1) Ar.2.2 (by rw [hs']; exact hj') (hv _ hlt) (g := mkF m pc (cl ρ ls) (cs ρ (.int j :: .ref a :: r))) rfl rfl hd t k⟩
        · cases h
      · cases h
    · cases h
  · rename_i idx
    obtain rfl : len = 3 := by simpa [lenOk] using hl
    split at h
    · rename_i a r; split at h
      · rename_i hc
        cases h
        obtain ⟨c1, c2, c3⟩ := hc
        obtain ⟨w1, w2, w3⟩ := objInitAt_spec c1
        obtain ⟨T', X', e', stp⟩ := initO X hx hZ hown (hw _ w1) (hw _ w2) (hw _ w3) rfl (g := mkF m pc (cl ρ ls) (cs ρ (.ref a :: st'))) rfl (by simp [hsz]) rfl hd (by omega) (W := wt st') (by show 2 * 0 + ((st'.map (conc ρ)).map fun v => v.category).sum ≤ _; rw [wt_conc]; omega) (by omega)
        exact ⟨rfl, T', ⟨locs, X', N, by rw [e']; exact Rl⟩, fun t k => stp t k⟩
      · cases h
    · cases h
  · cases h
theorem execM_ext {ins : Instr} {st st' : List Value} {M M' : EMem} (h : execM W ro y ins st M = some (st', M')) : M.1.length ≤ M'.1.length ∧ szL M.1 ≤ szL M'.1 := by
  have push : ∀ (L : ELay) (x : Nat × String × Nat), L.length ≤ (L ++ [x]).length ∧ szL L ≤ szL (L ++ [x]) := fun L x => by simp [szL]
  unfold execM at h
  split at h
  · split at h
    · split at h
      · split at h
        · split at h <;> first | (cases h; exact ⟨Nat.le_refl _, Nat.le_refl _⟩) | cases h
        · cases h
      · cases h
    · cases h
  all_goals first
    | (split at h
       · split at h
         · split at h
           · cases h; exact ⟨Nat.le_refl _, Nat.le_refl _⟩
           · cases h
         · cases h
       · cases h)
    | (split at h
       · cases h; exact push _ _
       · cases h)
    | (split at h
       · split at h
         · cases h; exact push _ _
         · cases h
       · cases h)
    | cases h
theorem szL_push (L : ELay) (x : Nat × String × Nat) : szL (L ++ [x]) = szL L + x.2.2 := by simp [szL]
set_option maxRecDepth 65536 in
set_option maxHeartbeats 40000000 in
theorem execM_sound (H : Here p l e R s m args below meth c Z W ρ ro n0 L0 T M) (hx : p.tables.exec = Jvm.exec) (hZ : Z.Warmed39 s.vm) (hw : ∀ d ∈ W, d.before a0 Z = true) (hown : s.vm.findClass y.cls = some m.cls) (hnm : meth.name = y.name)
    (hρ : ∀ a b, ρ a = ρ b → a = b) (hρn : ∀ a, ro ≤ a → ρ a = n0 + (a - ro)) (hL : L0.length ≤ M.1.length) (hS : szL L0 ≤ szL M.1) (hs0 : s.heap.size = n0 + (L0.length - ro)) (hro : ro ≤ L0.length)
    {ls : List Slot} {st st' : List Value} {M' : EMem} {ins : Instr} {pc len : Nat} (hd : decode c.code pc = .ok (ins, len)) (hl : lenOk len ins = true) (hRc : M'.1.length - L0.length ≤ R.cells) (hRs : szL M'.1 - szL L0 ≤ R.slots) (h : execM W ro y ins st M = some (st', M')) :
    ∃ T', Here p l e R s m args below meth c Z W ρ ro n0 L0 T' M' ∧ ∀ target, Steps p.tables e below (T'.setTop (mkF m (pc + len) (cl ρ ls) (cs ρ st'))) target → Steps p.tables e below (T.setTop (mkF m pc (cl ρ ls) (cs ρ st))) target := by
  obtain ⟨locs, X, N, Rl⟩ := H
  obtain ⟨L, mi, ml, mr⟩ := M
  have hL' : L0.length ≤ L.length := hL
  have hS' : szL L0 ≤ szL L := hS
  have hsize : T.heap.size = n0 + (L.length - ro) := Rl.1
  have hnew : T.heap.size = ρ L.length := by rw [hρn _ (Nat.le_trans hro hL'), hsize]
  unfold execM at h
  split at h
  · rename_i idx
    obtain rfl : len = 3 := by simpa [lenOk] using hl
    split at h
    · rename_i v a r
      split at h
      · rename_i C k kd fin C' u hf hc
        split at h
        · rename_i hC
          obtain ⟨rfl, hra, hfin, hinst⟩ := hC
          obtain ⟨n, d, q1, q2, rfl, q4⟩ := fieldAt_spec hf
          obtain ⟨ni, hni⟩ := Option.isSome_iff_exists.mp hinst
          have hcell : L[a]? = some (0, C', u) := hc
          obtain ⟨Ex, Fs⟩ := (Rl.2.2.1 _ _ hc).1 rfl
          have Fd := Fs _ _ _ _ q2 q4
          have hge : n0 ≤ ρ a := by rw [hρn a hra]; omega
          have Lw : (Jvm.Cond.lays C' C' n d).before a0 Z = true ∨ ((Jvm.Cond.laysFinal C' C' n d).before a0 Z = true ∧ y.cls = C' ∧ meth.name = "<init>") := by
            have e := hw _ (List.mem_of_getElem? (layAt_spec q2))
            cases fin with
            | false => exact Or.inl e
            | true =>
              rcases hfin with z | ⟨z1, z2⟩
              · cases z
              · exact Or.inr ⟨e, z1, hnm.trans z2⟩
          split at h
          · rename_i x hk
            cases h
            obtain ⟨T', h', X', e', w, stp⟩ := putFN X hx hZ hown (hw _ q1) Via.refl rfl Fd Ex Lw (hw _ (instLk_mem hni)) (ty := .int) (v' := .int x) (kindD_1 hk) rfl rfl (g := mkF m pc (cl ρ ls) (cs ρ (.int x :: .ref a :: st'))) rfl rfl hd
            refine ⟨T', ⟨_, X', Fr.snoc X' N hge, ?_⟩, fun t k => stp t k⟩
            rw [e']
            exact Rel.write hρ w hcell (fun x hx k => up_ne hx k) (fun _ _ _ => rfl) (fun _ _ _ => rfl) (RelC.put hw q2 q4 w (by rw [hk, up_eq]; rfl) (fun j hj => up_ne' hj a) (fun _ _ => rfl) (fun _ _ => rfl)) Rl
          · rename_i x hk
            cases h
            obtain ⟨T', h', X', e', w, stp⟩ := putFN X hx hZ hown (hw _ q1) Via.refl rfl Fd Ex Lw (hw _ (instLk_mem hni)) (ty := .boolean) (v' := .int (x &&& 1)) (kindD_2 hk) rfl (fits_nar_bool x) (g := mkF m pc (cl ρ ls) (cs ρ (.int x :: .ref a :: st'))) rfl rfl hd
            refine ⟨T', ⟨_, X', Fr.snoc X' N hge, ?_⟩, fun t k => stp t k⟩
            rw [e']
            exact Rel.write hρ w hcell (fun x hx k => up_ne hx k) (fun _ _ _ => rfl) (fun _ _ _ => rfl) (RelC.put hw q2 q4 w (by rw [hk, up_eq]; rfl) (fun j hj => up_ne' hj a) (fun _ _ => rfl) (fun _ _ => rfl)) Rl
          · rename_i x hk
            cases h
            obtain ⟨T', h', X', e', w, stp⟩ := putFN X hx hZ hown (hw _ q1) Via.refl rfl Fd Ex Lw (hw _ (instLk_mem hni)) (ty := .long) (v' := .long x) (kindD_3 hk) rfl rfl (g := mkF m pc (cl ρ ls) (cs ρ (.long x :: .ref a :: st'))) rfl rfl hd
            refine ⟨T', ⟨_, X', Fr.snoc X' N hge, ?_⟩, fun t k => stp t k⟩
            rw [e']
            exact Rel.write hρ w hcell (fun _ _ _ => rfl) (fun x hx k => up_ne hx k) (fun _ _ _ => rfl) (RelC.put hw q2 q4 w (by rw [hk, up_eq]; rfl) (fun _ _ => rfl) (fun j hj => up_ne' hj a) (fun _ _ => rfl)) Rl
          · rename_i b hk
            cases h
            obtain ⟨ty, t1, t2, t3, -⟩ := kindD_4 hk
            obtain ⟨T', h', X', e', w, stp⟩ := putFN X hx hZ hown (hw _ q1) Via.refl rfl Fd Ex Lw (hw _ (instLk_mem hni)) (ty := ty) (v' := .ref (ρ b)) t1 (t2 _) (t3 _) (g := mkF m pc (cl ρ ls) (cs ρ (.ref b :: .ref a :: st'))) rfl rfl hd
            refine ⟨T', ⟨_, X', Fr.snoc X' N hge, ?_⟩, fun t k => stp t k⟩
            rw [e']
            exact Rel.write hρ w hcell (fun _ _ _ => rfl) (fun _ _ _ => rfl) (fun x hx k => up_ne hx k) (RelC.put hw q2 q4 w (by rw [hk, up_eq]; rfl) (fun _ _ => rfl) (fun _ _ => rfl) (fun j hj => up_ne' hj a)) Rl
          · cases h
        · cases h
      · cases h
    · cases h
  · obtain rfl : len = 1 := by simpa [lenOk] using hl
    split at h
    · rename_i x j a r
      split at h
      · rename_i u n hc
        split at h
        · rename_i hj
          obtain ⟨hj, hra⟩ := hj
          cases h
          have hcell : L[a]? = some (_, u, n) := hc
          obtain ⟨cell, Ar, hs, hv⟩ := (Rl.2.2.1 _ _ hc).2.1 rfl
          have hs' : cell.slots.size = n := hs
          have hge : n0 ≤ ρ a := by rw [hρn a hra]; omega
          obtain ⟨T', h', X', e', w, stp⟩ := stI X hx hZ rfl Ar (by rw [hs']; exact inb_spec hj) (g := mkF m pc (cl ρ ls) (cs ρ (.int x :: .int j :: .ref a :: st'))) rfl rfl hd
          refine ⟨T', ⟨_, X', Fr.snoc X' N hge, ?_⟩, fun t k => stp t k⟩
          rw [e']
          exact Rel.write hρ w hcell (fun x hx k => up_ne hx k) (fun _ _ _ => rfl) (fun _ _ _ => rfl) (RelC.st1 w) Rl
        · cases h
      · cases h
    · cases h
  · obtain rfl : len = 1 := by simpa [lenOk] using hl
    split at h
    · rename_i x j a r
      split at h
      · rename_i u n hc
        split at h
        · rename_i hj
          obtain ⟨hj, hra⟩ := hj
          cases h
          have hcell : L[a]? = some (_, u, n) := hc
          obtain ⟨cell, Ar, hs, hv⟩ := (Rl.2.2.1 _ _ hc).2.2.2 rfl
          have hs' : cell.slots.size = n := hs
          have hge : n0 ≤ ρ a := by rw [hρn a hra]; omega
          obtain ⟨T', h', X', e', w, stp⟩ := stZ X hx hZ rfl Ar (by rw [hs']; exact inb_spec hj) (g := mkF m pc (cl ρ ls) (cs ρ (.int x :: .int j :: .ref a :: st'))) rfl rfl hd
          refine ⟨T', ⟨_, X', Fr.snoc X' N hge, ?_⟩, fun t k => stp t k⟩
          rw [e']
          exact Rel.write hρ w hcell (fun x hx k => up_ne hx k) (fun _ _ _ => rfl) (fun _ _ _ => rfl) (RelC.st3 w) Rl
        · cases h
      · cases h
    · cases h
  · obtain rfl : len = 1 := by simpa [lenOk] using hl
    split at h
    · rename_i x j a r
      split at h
      · rename_i u n hc
        split at h
        · rename_i hj
          obtain ⟨hj, hra⟩ := hj
          cases h
          have hcell : L[a]? = some (_, u, n) := hc
          obtain ⟨cell, Ar, hs, hv⟩ := (Rl.2.2.1 _ _ hc).2.2.1 rfl
          have hs' : cell.slots.size = n := hs
          have hge : n0 ≤ ρ a := by rw [hρn a hra]; omega
          obtain ⟨T', h', X', e', w, stp⟩ := stJ X hx hZ rfl Ar (by rw [hs']; exact inb_spec hj) (g := mkF m pc (cl ρ ls) (cs ρ (.long x :: .int j :: .ref a :: st'))) rfl rfl hd
          refine ⟨T', ⟨_, X', Fr.snoc X' N hge, ?_⟩, fun t k => stp t k⟩
          rw [e']
          exact Rel.write hρ w hcell (fun _ _ _ => rfl) (fun x hx k => up_ne hx k) (fun _ _ _ => rfl) (RelC.st2 w) Rl
        · cases h
      · cases h
    · cases h
  · rename_i idx
    obtain rfl : len = 3 := by simpa [lenOk] using hl
    split at h
    · rename_i C n hn
      cases h
      obtain ⟨w1, w2, w3⟩ : Jvm.Cond.classLink y.cls idx C ∈ W ∧ Jvm.Cond.instantiable C n ∈ W ∧ Jvm.Cond.initialized C ∈ W := by
        unfold newAt at hn
        split at hn
        · cases hn
        · rename_i C' h1
          split at hn
          · cases hn
          · rename_i n' h2
            split at hn
            · rename_i h3
              cases hn
              exact ⟨classLk_mem h1, instLk_mem h2, hasInit_mem h3⟩
            · cases hn
      have c1 : (L ++ [((0 : Nat), C, n)]).length - L0.length = L.length - L0.length + 1 := by rw [List.length_append]; simp; omega
      have c2 : szL (L ++ [((0 : Nat), C, n)]) - szL L0 = szL L - szL L0 + n := by rw [szL_push]; simp only; omega
      have hRc' : (L ++ [((0 : Nat), C, n)]).length - L0.length ≤ R.cells := hRc
      have hRs' : szL (L ++ [((0 : Nat), C, n)]) - szL L0 ≤ R.slots := hRs
      obtain ⟨T', h', X', e', E, Ex, D, -, st'⟩ := newO X hx hZ hown (hw _ w1) (hw _ w2) (hw _ w3) rfl (g := mkF m pc (cl ρ ls) (cs ρ st)) rfl hd (by show L.length - L0.length + 1 ≤ _; omega) (by show szL L - szL L0 + n ≤ _; omega)
      have hup : T'.heap.size ≤ s.heap.size + (L.length - L0.length + 1) := X'.heapSize
      have hlo : T.heap.size < h'.size := Ex.lt
      refine ⟨T', ⟨locs, by rw [← c1, ← c2] at X'; exact X', N, ?_⟩, fun t k => st' t ?_⟩
      · rw [e']
        rw [e'] at hup
        refine Rel.push E (by omega) ⟨fun _ => ⟨by rw [← hnew]; exact Ex, fun nm k d fin q1 q2 => ?_⟩, fun q => (by cases q), fun q => (by cases q), fun q => (by cases q)⟩ Rl
        obtain ⟨z1, z2, z3⟩ := Rl.2.2.2 L.length (Nat.le_refl _) k
        have z1' : mi L.length k = 0 := z1
        have z2' : ml L.length k = 0 := z2
        have z3' : mr L.length k = .null := z3
        dsimp only
        rw [z1', z2', z3', ← hnew]
        have Lw := layAt_laid hw q1
        rcases kindD_lt d with z | z | z | z | z
        · exact absurd z q2
        · rw [z]; exact D Lw (kindD_1 z)
        · rw [z]; exact D Lw (kindD_2 z)
        · rw [z]; exact D Lw (kindD_3 z)
        · obtain ⟨ty, t1, -, -, t4⟩ := kindD_4 z
          have q := D Lw t1
          rw [t4] at q
          rw [z]; exact q
      · rw [hnew]; exact k
    · cases h
  · obtain rfl : len = 2 := by simpa [lenOk] using hl
    split at h
    · rename_i n r
      split at h
      · rename_i hc
        obtain ⟨hn, hb, ha⟩ := hc
        cases h
        have c1 : (L ++ [((1 : Nat), "", n.toNatClampNeg)]).length - L0.length = L.length - L0.length + 1 := by rw [List.length_append]; simp; omega
        have c2 : szL (L ++ [((1 : Nat), "", n.toNatClampNeg)]) - szL L0 = szL L - szL L0 + n.toNatClampNeg := by rw [szL_push]; simp only; omega
        have hRc' : (L ++ [((1 : Nat), "", n.toNatClampNeg)]).length - L0.length ≤ R.cells := hRc
        have hRs' : szL (L ++ [((1 : Nat), "", n.toNatClampNeg)]) - szL L0 ≤ R.slots := hRs
        obtain ⟨T', h', cA, X', e', E, Ar, st'⟩ := newP X hx hZ (aty := .int) (hw _ (hasArr_mem ha)) rfl (g := mkF m pc (cl ρ ls) (cs ρ (.int n :: r))) rfl hd rfl hn (cap := n.toNatClampNeg) (Nat.le_refl _) hb (by show L.length - L0.length + 1 ≤ _; omega) (by show szL L - szL L0 + n.toNatClampNeg ≤ _; omega)
        have hup : T'.heap.size ≤ s.heap.size + (L.length - L0.length + 1) := X'.heapSize
        have hlo : T.heap.size < h'.size := Ar.lt
        refine ⟨T', ⟨locs, by rw [← c1, ← c2] at X'; exact X', N, ?_⟩, fun t k => st' t ?_⟩
        · rw [e']
          rw [e'] at hup
          refine Rel.push E (by omega) ⟨fun q => (by cases q), fun _ => ?_, fun q => (by cases q), fun q => (by cases q)⟩ Rl
          refine ⟨_, by rw [← hnew]; exact Ar, sz_new _ _ _, fun k hk => ?_⟩
          have hk' : k < n.toNatClampNeg := hk
          have z1 : mi L.length k = 0 := (Rl.2.2.2 L.length (Nat.le_refl _) k).1
          dsimp only
          rw [z1]
          simp [newA, hk']
          rfl
        · rw [hnew]; exact k
      · cases h
    · cases h
  · obtain rfl : len = 2 := by simpa [lenOk] using hl
    split at h
    · rename_i n r
      split at h
      · rename_i hc
        obtain ⟨hn, hb, ha⟩ := hc
        cases h
        have c1 : (L ++ [((2 : Nat), "", n.toNatClampNeg)]).length - L0.length = L.length - L0.length + 1 := by rw [List.length_append]; simp; omega
        have c2 : szL (L ++ [((2 : Nat), "", n.toNatClampNeg)]) - szL L0 = szL L - szL L0 + n.toNatClampNeg := by rw [szL_push]; simp only; omega
        have hRc' : (L ++ [((2 : Nat), "", n.toNatClampNeg)]).length - L0.length ≤ R.cells := hRc
        have hRs' : szL (L ++ [((2 : Nat), "", n.toNatClampNeg)]) - szL L0 ≤ R.slots := hRs
        obtain ⟨T', h', cA, X', e', E, Ar, st'⟩ := newP X hx hZ (aty := .long) (hw _ (hasArr_mem ha)) rfl (g := mkF m pc (cl ρ ls) (cs ρ (.int n :: r))) rfl hd rfl hn (cap := n.toNatClampNeg) (Nat.le_refl _) hb (by show L.length - L0.length + 1 ≤ _; omega) (by show szL L - szL L0 + n.toNatClampNeg ≤ _; omega)
        have hup : T'.heap.size ≤ s.heap.size + (L.length - L0.length + 1) := X'.heapSize
        have hlo : T.heap.size < h'.size := Ar.lt
        refine ⟨T', ⟨locs, by rw [← c1, ← c2] at X'; exact X', N, ?_⟩, fun t k => st' t ?_⟩
        · rw [e']
          rw [e'] at hup
          refine Rel.push E (by omega) ⟨fun q => (by cases q), fun q => (by cases q), fun _ => ?_, fun q => (by cases q)⟩ Rl
          refine ⟨_, by rw [← hnew]; exact Ar, sz_new _ _ _, fun k hk => ?_⟩
          have hk' : k < n.toNatClampNeg := hk
          have z1 : ml L.length k = 0 := (Rl.2.2.2 L.length (Nat.le_refl _) k).2.1
          dsimp only
          rw [z1]
          simp [newA, hk']
          rfl
        · rw [hnew]; exact k
      · cases h
    · cases h
  · obtain rfl : len = 2 := by simpa [lenOk] using hl
    split at h
    · rename_i n r
      split at h
      · rename_i hc
        obtain ⟨hn, hb, ha⟩ := hc
        cases h
        have c1 : (L ++ [((3 : Nat), "", n.toNatClampNeg)]).length - L0.length = L.length - L0.length + 1 := by rw [List.length_append]; simp; omega
        have c2 : szL (L ++ [((3 : Nat), "", n.toNatClampNeg)]) - szL L0 = szL L - szL L0 + n.toNatClampNeg := by rw [szL_push]; simp only; omega
        have hRc' : (L ++ [((3 : Nat), "", n.toNatClampNeg)]).length - L0.length ≤ R.cells := hRc
        have hRs' : szL (L ++ [((3 : Nat), "", n.toNatClampNeg)]) - szL L0 ≤ R.slots := hRs
        obtain ⟨T', h', cA, X', e', E, Ar, st'⟩ := newP X hx hZ (aty := .boolean) (hw _ (hasArr_mem ha)) rfl (g := mkF m pc (cl ρ ls) (cs ρ (.int n :: r))) rfl hd rfl hn (cap := n.toNatClampNeg) (Nat.le_refl _) hb (by show L.length - L0.length + 1 ≤ _; omega) (by show szL L - szL L0 + n.toNatClampNeg ≤ _; omega)
        have hup : T'.heap.size ≤ s.heap.size + (L.length - L0.length + 1) := X'.heapSize
        have hlo : T.heap.size < h'.size := Ar.lt
        refine ⟨T', ⟨locs, by rw [← c1, ← c2] at X'; exact X', N, ?_⟩, fun t k => st' t ?_⟩
        · rw [e']
          rw [e'] at hup
          refine Rel.push E (by omega) ⟨fun q => (by cases q), fun q => (by cases q), fun q => (by cases q), fun _ => ?_⟩ Rl
          refine ⟨_, by rw [← hnew]; exact Ar, sz_new _ _ _, fun k hk => ?_⟩
          have hk' : k < n.toNatClampNeg := hk
          have z1 : mi L.length k = 0 := (Rl.2.2.2 L.length (Nat.le_refl _) k).1
          dsimp only
          rw [z1]
          simp [newA, hk']
          rfl
        · rw [hnew]; exact k
      · cases h
    · cases h
  · cases h
end S
end Jvm.OwnEv
namespace Jvm.OwnEv
open Sem ClassFile Op Lib Jvm.Stand Jvm.Free Jvm.LawKit Jvm.RoadKit
/-! PART 5: what the evaluator answers, the model does -/
theorem run_ext {W : List Jvm.Cond} {ro : Nat} : ∀ (n : Nat) {F Lb : Nat} {y : MethodName} {code : ByteArray} {ret : Option FieldType} {pc : Nat} {ls : List Slot} {st : List Value} {M M' : EMem} {v : Option Value},
    run W ro n F Lb y code ret pc ls st M = some (v, M') → M.1.length ≤ M'.1.length ∧ szL M.1 ≤ szL M'.1
  | 0, _, _, _, _, _, _, _, _, _, _, _, h => by simp [run] at h
  | n + 1, F, Lb, y, code, ret, pc, ls, st, M, M', v, h => by
    unfold run at h
    split at h
    · split at h
      · exact run_ext n h
      · split at h
        · rename_i he
          split at he
          · have q1 := execM_ext he
            have q2 := run_ext n h
            exact ⟨Nat.le_trans q1.1 q2.1, Nat.le_trans q1.2 q2.2⟩
          · cases he
        · split at h
          · cases h; exact ⟨Nat.le_refl _, Nat.le_refl _⟩
          · split at h
            · split at h
              · split at h
                · rename_i hr
                  have q1 := run_ext n hr
                  have q2 := run_ext n h
                  exact ⟨Nat.le_trans q1.1 q2.1, Nat.le_trans q1.2 q2.2⟩
                · cases h
              · cases h
            · cases h
    · cases h
theorem callAt_spec {W : List Jvm.Cond} {own : String} {idx kd : Nat} {z : MethodName} {na : Nat} {b : ByteArray} {mx : Nat} {r : Option FieldType} (h : callAt W own idx kd = some (z, na, b, mx, r)) :
    Jvm.Cond.methodLink own idx z ∈ W ∧ Jvm.Cond.code z b mx r ∈ W ∧ Jvm.Cond.initialized z.cls ∈ W ∧ plainName z.cls = true ∧ (z.cls ≠ "java/lang/invoke/MethodHandle" ∧ z.cls ≠ "java/lang/invoke/VarHandle") ∧ (∀ sig, parseMethodDescriptor z.desc = some sig → na = sig.parameters.length) ∧
    ((kd = 0 ∧ hasDecl z W = true ∧ hasSel z W = true ∧ hasInst z W = true) ∨ (kd = 1 ∧ hasPriv z W = true ∧ hasInst z W = true ∧ (instLk z.cls W).isSome = true) ∨ (kd = 2 ∧ z.name = "<init>" ∧ hasInst z W = true ∧ r = none) ∨ (kd = 3 ∧ hasStat z W = true)) := by
  unfold callAt at h
  split at h
  · cases h
  · rename_i z' h1
    split at h
    · rename_i b' n' r' sig h2 h3
      split at h
      · rename_i hc
        cases h
        obtain ⟨c2, c3, c4, c5, c6⟩ := hc
        exact ⟨methodLk_mem h1, codeLk_mem h2, hasInit_mem c2, c3, ⟨c4, c5⟩, fun sig' q => by rw [h3] at q; cases q; rfl, c6⟩
      · cases h
    · cases h
section S
variable {l : Launch} {Z : State} {a0 : Array Value} {W : List Jvm.Cond} {ρ : Nat → Addr} {ro n0 : Nat}
/-- what a run of n steps promises -/
def Good (l : Launch) (Z : State) (W : List Jvm.Cond) (ρ : Nat → Addr) (ro n0 : Nat) (n : Nat) : Prop :=
  ∀ ⦃F Lb : Nat⦄ ⦃y : MethodName⦄ ⦃code : ByteArray⦄ ⦃ret : Option FieldType⦄ ⦃pc : Nat⦄ ⦃ls : List Slot⦄ ⦃st : List Value⦄ ⦃M M' : EMem⦄ ⦃v : Option Value⦄, run W ro n F Lb y code ret pc ls st M = some (v, M') →
    ∀ ⦃p : Program⦄ ⦃e : Env⦄ ⦃R : Room⦄ ⦃s : State⦄ ⦃m : MethodId⦄ ⦃args : Array Value⦄ ⦃below : List Frame⦄ ⦃meth : Method⦄ ⦃c : Code⦄ ⦃L0 : ELay⦄ ⦃T : State⦄, p.tables.exec = Jvm.exec → Z.Warmed39 s.vm → s.vm.findClass y.cls = some m.cls → meth.name = y.name → c.code = code → meth.sig.returnType = ret → meth.locks = false → ls.length = c.maxLocals →
      F ≤ R.frames → Lb ≤ R.locals → M'.1.length - L0.length ≤ R.cells → szL M'.1 - szL L0 ≤ R.slots → L0.length ≤ M.1.length → szL L0 ≤ szL M.1 → s.heap.size = n0 + (L0.length - ro) → ro ≤ L0.length → Here p l e R s m args below meth c Z W ρ ro n0 L0 T M →
      ∃ (s₂ : State) (L : List Loc), Steps p.tables e below (T.setTop (mkF m pc (cl ρ ls) (cs ρ st))) s₂ ∧ s₂.status = .running ∧ Ended s₂ below (.returned (v.map (conc ρ))) ∧ Rel Z W ρ ro n0 s₂.heap M' ∧ Fr n0 L ∧ s.WarmedH s₂.vm ∧
        s.sameButNew ({ s₂ with vm := s.vm } : State) L (M'.1.length - L0.length) (szL M'.1 - szL L0)
theorem met_of {n : Nat} (G : Good l Z W ρ ro n0 n) {F Lb : Nat} {z : MethodName} {b : ByteArray} {r : Option FieldType} {as : List Value} {mx : Nat} {M M' : EMem} {v : Option Value} (h : run W ro n F Lb z b r 0 (entryL as mx) [] M = some (v, M'))
    (hfl : (fillL as).length ≤ mx) (hp : plainName z.cls = true) {h0 : Heap} (Rl : Rel Z W ρ ro n0 h0 M) {R : Room} (hF : F ≤ R.frames) (hLb : Lb ≤ R.locals) (hRc : M'.1.length - M.1.length ≤ R.cells) (hRs : szL M'.1 - szL M.1 ≤ R.slots) (ws : List Jvm.Cond) :
    MetFree l z (head1 (Jvm.Cond.code z b mx r :: ws) R) (fun a U => a = (as.map (conc ρ)).toArray ∧ Z.Warmed39 U.vm ∧ U.heap = h0) (fun _ _ _ _ _ => True)
      (fun _ U o U' => ∃ v' L, o = .returned v' ∧ (v' = v.map (conc ρ) ∧ Rel Z W ρ ro n0 U'.heap M' ∧ Fr n0 L) ∧ FrameEnd U o U' L (M'.1.length - M.1.length) (szL M'.1 - szL M.1)) := by
  refine MetFree.of_bodySF (plainFor_of_name hp) hisR ?_
  intro p e s m args below meth c s₁ Bd hml0 hP hK
  obtain ⟨rfl, hZ, hh⟩ := hP
  have hown : s.vm.findClass z.cls = some m.cls := findClass_of_methodNamed Bd.named
  have hnm := (name_of_methodNamed Bd.named Bd.method).1
  have X0 : Stand p l e R s m (as.map (conc ρ)).toArray below meth c s₁ [] 0 0 := Stand.of_body Bd
  have e0 : s₁.heap = h0 := by rw [← hh, Bd.state]; rfl
  have hH : Here p l e R s m (as.map (conc ρ)).toArray below meth c Z W ρ ro n0 M.1 s₁ M := ⟨[], by rw [Nat.sub_self, Nat.sub_self]; exact X0, Fr.nil n0, by rw [e0]; exact Rl⟩
  obtain ⟨s₂, L, q1, q2, q3, q4, q5, q6, q7⟩ := G h (p := p) (e := e) (R := R) (s := s) (m := m) (below := below) (L0 := M.1) (T := s₁) Bd.exec hZ hown hnm Bd.bytes Bd.returns Bd.notSynchronized (by rw [entryL_len hfl, hml0]) hF hLb hRc hRs (Nat.le_refl _) (Nat.le_refl _) (by rw [hh]; exact Rl.1) Rl.2.1 hH
  refine ⟨s₂, _, castTop ?_ q1, q2, q3, _, L, rfl, ⟨rfl, q4, q5⟩, ⟨_, rfl⟩, q6, q7⟩
  show ({ method := m, pc := 0, locals := argsToLocals (as.map (conc ρ)).toArray mx, stack := [], locked := none } : JFrame) = _
  rw [args_conc]
  rfl
theorem toL_conc (v : Option Value) (rest : List Value) : (v.map (conc ρ)).toList ++ cs ρ rest = cs ρ (v.toList ++ rest) := by cases v <;> simp
theorem split_st {st rest : List Value} {na : Nat} {x : Value} (h : st.drop na = x :: rest) : cs ρ st = ((st.take na).reverse.map (conc ρ)).reverse ++ conc ρ x :: cs ρ rest := by
  have e : st = st.take na ++ (x :: rest) := by rw [← h]; exact (List.take_append_drop na st).symm
  rw [← List.map_reverse, List.reverse_reverse]
  conv => lhs; rw [e]
  simp [cs]
theorem split_st0 {st : List Value} {na : Nat} : cs ρ st = ((st.take na).reverse.map (conc ρ)).reverse ++ cs ρ (st.drop na) := by
  rw [← List.map_reverse, List.reverse_reverse]
  conv => lhs; rw [← List.take_append_drop na st]
  simp [cs]
set_option maxRecDepth 65536 in
set_option maxHeartbeats 40000000 in
/-- a call by the callee's own run -/
theorem call_sound {n : Nat} (G : Good l Z W ρ ro n0 n) (hw : ∀ d ∈ W, d.before a0 Z = true) {p : Program} {e : Env} {R : Room} {s : State} {m : MethodId} {args : Array Value} {below : List Frame} {meth : Method} {c : Code} {L0 : ELay} {T : State} {M M' : EMem} {y : MethodName}
    (H : Here p l e R s m args below meth c Z W ρ ro n0 L0 T M) (hx : p.tables.exec = Jvm.exec) (hZ : Z.Warmed39 s.vm) (hown : s.vm.findClass y.cls = some m.cls) {F Lb : Nat} (hF : F ≤ R.frames) (hLb : Lb ≤ R.locals)
    {ls : List Slot} {st : List Value} {ins : Instr} {pc len : Nat} (hsz : ls.length = c.maxLocals) (hd : decode c.code pc = .ok (ins, len)) {z : MethodName} {as rest : List Value} {b : ByteArray} {mx : Nat} {r : Option FieldType} {v : Option Value}
    (hc : callOf W y ins len st M = some (z, as, rest, b, mx, r)) (h1 : 1 ≤ F) (h2 : wt rest + (mx + 11) ≤ Lb) (h3 : (fillL as).length ≤ mx) (hr : run W ro n (F - 1) (Lb - (wt rest + (mx + 11))) z b r 0 (entryL as mx) [] M = some (v, M'))
    (hL : L0.length ≤ M.1.length) (hS : szL L0 ≤ szL M.1) (hRc : M'.1.length - L0.length ≤ R.cells) (hRs : szL M'.1 - szL L0 ≤ R.slots) :
    ∃ T', Here p l e R s m args below meth c Z W ρ ro n0 L0 T' M' ∧ Steps p.tables e below (T.setTop (mkF m pc (cl ρ ls) (cs ρ st))) (T'.setTop (mkF m (pc + 3) (cl ρ ls) (cs ρ (v.toList ++ rest)))) := by
  obtain ⟨locs, X, N, Rl⟩ := H
  have hext := run_ext n hr
  have hsize : (mkF m pc (cl ρ ls) (cs ρ st)).locals.size = c.maxLocals := by simp [hsz]
  have hW : ∀ q : List Value, q = rest → 2 * (mkF m pc (cl ρ ls) (cs ρ st)).monitorRoom + ((cs ρ q).map fun v => v.category).sum ≤ wt rest := fun q e => by
    subst e
    show 2 * 0 + ((q.map (conc ρ)).map fun v => v.category).sum ≤ _
    rw [wt_conc]; omega
  unfold callOf at hc
  split at hc
  · rename_i hlen
    subst hlen
    split at hc
    · rename_i idx
      split at hc
      · rename_i z' na b' n' r' hca
        split at hc
        · rename_i a rest' hdrop
          split at hc
          · rename_i C u hcell
            split at hc
            · rename_i hcond
              cases hc
              obtain ⟨rfl, hna⟩ := hcond
              obtain ⟨k1, k2, k3, k4, k5, k6, k7⟩ := callAt_spec hca
              rcases k7 with ⟨q, -⟩ | ⟨-, g1, g2, g3⟩ | ⟨q, -⟩ | ⟨q, -⟩
              · cases q
              · obtain ⟨ni, hni⟩ := Option.isSome_iff_exists.mp g3
                have E := ((Rl.2.2.1 _ _ hcell).1 rfl).1
                obtain ⟨cq, q1, q2⟩ := E.cell
                have hpriv : s.PrivateAt z := Cond.privateMethod_at (mvP hZ (hw _ (hasPriv_mem g1)) (args := #[]))
                obtain ⟨ci, ki, i1, i2, i3, i4, -⟩ := Cond.instantiable_spec (mvT (args := args) hZ (hw _ (instLk_mem hni)))
                have hsel : (Jvm.Cond.selects z.cls z z).before args s = true := selects_self_of_private i1 i2 (by simp only [Bool.or_eq_false_iff] at i4; exact i4.1) hpriv (mvT hZ (hw _ (hasInst_mem g2))) k5
                have back := backOf (R := R) (p := p) (e := e) (below := below) (s := s) (args := args) (len := 3) (W := wt rest) (rm := { frames := F - 1, cells := M'.1.length - M.1.length, slots := szL M'.1 - szL M.1, locals := Lb - (wt rest + (mx + 11)) }) (Q := fun v' h' L => v' = v.map (conc ρ) ∧ Rel Z W ρ ro n0 h' M' ∧ Fr n0 L) (met_of G hr h3 k4 Rl (R := { frames := F - 1, cells := M'.1.length - M.1.length, slots := szL M'.1 - szL M.1, locals := Lb - (wt rest + (mx + 11)) }) (Nat.le_refl _) (Nat.le_refl _) (Nat.le_refl _) (Nat.le_refl _) []) hZ (hw _ k2) (hw _ k3) (by show F - 1 + 1 ≤ _; omega) (by show wt rest + (mx + 11) + (Lb - (wt rest + (mx + 11))) ≤ _; omega)
                obtain ⟨v', vm₁, ⟨T', Lq, cq', nq⟩, hW₁, X', ⟨L', ⟨rfl, hR', hN'⟩, l', y', z'⟩, st'⟩ := X.privateBack hx (y := z) hown (mvT hZ (hw _ k1)) (mvT hZ (hw _ (hasInst_mem g2))) hsel hpriv (mvT hZ (hw _ k2)) k5 back (g := mkF m pc (cl ρ ls) (cs ρ st)) rfl hsize (Steps.refl _) (a := ρ a) q1 q2 (argsL := (st.take na).reverse.map (conc ρ)) (rest := cs ρ rest)
                  (fun sig hs => by rw [← k6 sig hs]; simpa using hna) (split_st hdrop) (hW _ rfl) hd (fun _ _ => ⟨by simp [conc], rfl, by show M.1.length - L0.length + (M'.1.length - M.1.length) ≤ _; omega, by show szL M.1 - szL L0 + (szL M'.1 - szL M.1) ≤ _; omega⟩)
                dsimp only [Pt.U, Pt.locs, Pt.cells, Pt.slots] at X' l' y' z' st' hR'
                subst l' y' z'
                refine ⟨T', ⟨_, ?_, Fr.app N hN', hR'⟩, ?_⟩
                · have c1 : M'.1.length - L0.length = M.1.length - L0.length + (M'.1.length - M.1.length) := by omega
                  have c2 : szL M'.1 - szL L0 = szL M.1 - szL L0 + (szL M'.1 - szL M.1) := by omega
                  rw [c1, c2]; exact X'
                · rw [← toL_conc]; exact st'
              · cases q
              · cases q
            · cases hc
          · cases hc
        · cases hc
      · split at hc
        · rename_i z' na b' n' r' hca
          split at hc
          · rename_i a rest' hdrop
            split at hc
            · rename_i C u hcell
              split at hc
              · rename_i hcond
                cases hc
                obtain ⟨rfl, hna⟩ := hcond
                obtain ⟨k1, k2, k3, k4, k5, k6, k7⟩ := callAt_spec hca
                rcases k7 with ⟨-, g1, g2, g3⟩ | ⟨q, -⟩ | ⟨q, -⟩ | ⟨q, -⟩
                · have E := ((Rl.2.2.1 _ _ hcell).1 rfl).1
                  obtain ⟨cB, kB, q1, q2, q3⟩ := isOf (T := T) hZ rfl E
                  have back := backOf (R := R) (p := p) (e := e) (below := below) (s := s) (args := args) (len := 3) (W := wt rest) (rm := { frames := F - 1, cells := M'.1.length - M.1.length, slots := szL M'.1 - szL M.1, locals := Lb - (wt rest + (mx + 11)) }) (Q := fun v' h' L => v' = v.map (conc ρ) ∧ Rel Z W ρ ro n0 h' M' ∧ Fr n0 L) (met_of G hr h3 k4 Rl (R := { frames := F - 1, cells := M'.1.length - M.1.length, slots := szL M'.1 - szL M.1, locals := Lb - (wt rest + (mx + 11)) }) (Nat.le_refl _) (Nat.le_refl _) (Nat.le_refl _) (Nat.le_refl _) []) hZ (hw _ k2) (hw _ k3) (by show F - 1 + 1 ≤ _; omega) (by show wt rest + (mx + 11) + (Lb - (wt rest + (mx + 11))) ≤ _; omega)
                  have hsel : (Jvm.Cond.selects z.cls z z).before args s = true := mvT hZ (hw _ (hasSel_mem g2))
                  obtain ⟨v', vm₁, ⟨T', Lq, cq', nq⟩, hW₁, X', ⟨L', ⟨rfl, hR', hN'⟩, l', y', z'⟩, st'⟩ := X.virtualBack hx (y := z) (z := z) hown (mvT hZ (hw _ k1)) (mvT hZ (hw _ (hasDecl_mem g1))) (notFace_of_selects hsel) hsel (mvT hZ (hw _ (hasInst_mem g3))) k5 back q1 q3 (g := mkF m pc (cl ρ ls) (cs ρ st)) rfl hsize (Steps.refl _) (argsL := (st.take na).reverse.map (conc ρ)) (rest := cs ρ rest)
                    (fun sig hs => by rw [← k6 sig hs]; simpa using hna) (split_st hdrop) (hW _ rfl) hd (fun _ _ => ⟨by simp [conc], rfl, by show M.1.length - L0.length + (M'.1.length - M.1.length) ≤ _; omega, by show szL M.1 - szL L0 + (szL M'.1 - szL M.1) ≤ _; omega⟩)
                  dsimp only [Pt.U, Pt.locs, Pt.cells, Pt.slots] at X' l' y' z' st' hR'
                  subst l' y' z'
                  refine ⟨T', ⟨_, ?_, Fr.app N hN', hR'⟩, ?_⟩
                  · have c1 : M'.1.length - L0.length = M.1.length - L0.length + (M'.1.length - M.1.length) := by omega
                    have c2 : szL M'.1 - szL L0 = szL M.1 - szL L0 + (szL M'.1 - szL M.1) := by omega
                    rw [c1, c2]; exact X'
                  · rw [← toL_conc]; exact st'
                · cases q
                · cases q
                · cases q
              · cases hc
            · cases hc
          · cases hc
        · cases hc
    · rename_i idx
      split at hc
      · rename_i z' na b' n' r' hca
        split at hc
        · rename_i a rest' hdrop
          split at hc
          · rename_i hna
            cases hc
            obtain ⟨k1, k2, k3, k4, k5, k6, k7⟩ := callAt_spec hca
            rcases k7 with ⟨q, -⟩ | ⟨q, -⟩ | ⟨-, g1, g2, g3⟩ | ⟨q, -⟩
            · cases q
            · cases q
            · subst g3
              have back := backOf (R := R) (p := p) (e := e) (below := below) (s := s) (args := args) (len := 3) (W := wt rest) (rm := { frames := F - 1, cells := M'.1.length - M.1.length, slots := szL M'.1 - szL M.1, locals := Lb - (wt rest + (mx + 11)) }) (Q := fun v' h' L => v' = v.map (conc ρ) ∧ Rel Z W ρ ro n0 h' M' ∧ Fr n0 L) (met_of G hr h3 k4 Rl (R := { frames := F - 1, cells := M'.1.length - M.1.length, slots := szL M'.1 - szL M.1, locals := Lb - (wt rest + (mx + 11)) }) (Nat.le_refl _) (Nat.le_refl _) (Nat.le_refl _) (Nat.le_refl _) []) hZ (hw _ k2) (hw _ k3) (by show F - 1 + 1 ≤ _; omega) (by show wt rest + (mx + 11) + (Lb - (wt rest + (mx + 11))) ≤ _; omega)
              obtain ⟨v', vm₁, ⟨T', Lq, cq', nq⟩, hW₁, X', ⟨L', ⟨rfl, hR', hN'⟩, l', y', z'⟩, st'⟩ := X.specialBack hx (y := z) g1 hown (mvT hZ (hw _ k1)) (mvT hZ (hw _ (hasInst_mem g2))) (mvT hZ (hw _ k2)) k5 back (g := mkF m pc (cl ρ ls) (cs ρ st)) rfl hsize (Steps.refl _) (a := ρ a) (argsL := (st.take na).reverse.map (conc ρ)) (rest := cs ρ rest)
                (fun sig hs => by rw [← k6 sig hs]; simpa using hna) (split_st hdrop) (hW _ rfl) hd (fun _ _ => ⟨by simp [conc], rfl, by show M.1.length - L0.length + (M'.1.length - M.1.length) ≤ _; omega, by show szL M.1 - szL L0 + (szL M'.1 - szL M.1) ≤ _; omega⟩)
              dsimp only [Pt.U, Pt.locs, Pt.cells, Pt.slots] at X' l' y' z' st' hR'
              subst l' y' z'
              refine ⟨T', ⟨_, ?_, Fr.app N hN', hR'⟩, ?_⟩
              · have c1 : M'.1.length - L0.length = M.1.length - L0.length + (M'.1.length - M.1.length) := by omega
                have c2 : szL M'.1 - szL L0 = szL M.1 - szL L0 + (szL M'.1 - szL M.1) := by omega
                rw [c1, c2]; exact X'
              · rw [← toL_conc]; exact st'
            · cases q
          · cases hc
        · cases hc
      · cases hc
    · rename_i idx
      split at hc
      · rename_i z' na b' n' r' hca
        split at hc
        · rename_i hna
          cases hc
          obtain ⟨k1, k2, k3, k4, k5, k6, k7⟩ := callAt_spec hca
          rcases k7 with ⟨q, -⟩ | ⟨q, -⟩ | ⟨q, -⟩ | ⟨-, g1⟩
          · cases q
          · cases q
          · cases q
          · have back := backOf (R := R) (p := p) (e := e) (below := below) (s := s) (args := args) (len := 3) (W := wt (st.drop na)) (rm := { frames := F - 1, cells := M'.1.length - M.1.length, slots := szL M'.1 - szL M.1, locals := Lb - (wt (st.drop na) + (mx + 11)) }) (Q := fun v' h' L => v' = v.map (conc ρ) ∧ Rel Z W ρ ro n0 h' M' ∧ Fr n0 L) (met_of G hr h3 k4 Rl (R := { frames := F - 1, cells := M'.1.length - M.1.length, slots := szL M'.1 - szL M.1, locals := Lb - (wt (st.drop na) + (mx + 11)) }) (Nat.le_refl _) (Nat.le_refl _) (Nat.le_refl _) (Nat.le_refl _) []) hZ (hw _ k2) (hw _ k3) (by show F - 1 + 1 ≤ _; omega) (by show wt (st.drop na) + (mx + 11) + (Lb - (wt (st.drop na) + (mx + 11))) ≤ _; omega)
            obtain ⟨v', vm₁, ⟨T', Lq, cq', nq⟩, hW₁, X', ⟨L', ⟨rfl, hR', hN'⟩, l', y', z'⟩, st'⟩ := Jvm.LawKit.callS X hx (y := z) hown (mvT hZ (hw _ k1)) (mvT hZ (hw _ (hasStat_mem g1))) (mvT hZ (hw _ k3)) (mvT hZ (hw _ k2)) k5 back (g := mkF m pc (cl ρ ls) (cs ρ st)) rfl hsize (argsL := (st.take na).reverse.map (conc ρ)) (rest := cs ρ (st.drop na))
              (fun sig hs => by rw [← k6 sig hs]; simpa using hna) split_st0 (hW _ rfl) hd (fun _ _ => ⟨rfl, rfl, by show M.1.length - L0.length + (M'.1.length - M.1.length) ≤ _; omega, by show szL M.1 - szL L0 + (szL M'.1 - szL M.1) ≤ _; omega⟩)
            dsimp only [Pt.U, Pt.locs, Pt.cells, Pt.slots] at X' l' y' z' st' hR'
            subst l' y' z'
            refine ⟨T', ⟨_, ?_, Fr.app N hN', hR'⟩, ?_⟩
            · have c1 : M'.1.length - L0.length = M.1.length - L0.length + (M'.1.length - M.1.length) := by omega
              have c2 : szL M'.1 - szL L0 = szL M.1 - szL L0 + (szL M'.1 - szL M.1) := by omega
              rw [c1, c2]; exact X'
            · rw [← toL_conc]; exact st' _ (Steps.refl _)
        · cases hc
      · cases hc
    · cases hc
  · cases hc
set_option maxRecDepth 65536 in
set_option maxHeartbeats 40000000 in
theorem run_good (hw : ∀ d ∈ W, d.before a0 Z = true) (hρ : ∀ a b, ρ a = ρ b → a = b) (hρn : ∀ a, ro ≤ a → ρ a = n0 + (a - ro)) : ∀ n, Good l Z W ρ ro n0 n
  | 0 => fun F Lb y code ret pc ls st M M' v h => by simp [run] at h
  | n + 1 => by
    have G := run_good hw hρ hρn n
    intro F Lb y code ret pc ls st M M' v h p e R s m args below meth c L0 T hx hZ hown hnm hby hret hlocks hsz hF hLb hRc hRs hL hS hs0 hro H
    unfold run at h
    split at h
    · rename_i ins len hdec
      have hd : decode c.code pc = .ok (ins, len) := by rw [hby]; exact hdec
      split at h
      · rename_i pc' ls' st' hP
        split at hP
        · rename_i hlo
          obtain ⟨g1, T', H', g2⟩ := execP_sound H hx hZ hw hown hF hLb hsz hd hlo hP
          obtain ⟨s₂, L, q1, q⟩ := G h hx hZ hown hnm hby hret hlocks (g1.trans hsz) hF hLb hRc hRs hL hS hs0 hro H'
          exact ⟨s₂, L, g2 _ q1, q⟩
        · cases hP
      · split at h
        · rename_i st' M'' hM
          split at hM
          · rename_i hlo
            have q1 := execM_ext hM
            have q2 := run_ext n h
            obtain ⟨T', H', g2⟩ := execM_sound H hx hZ hw hown hnm hρ hρn hL hS hs0 hro (ls := ls) hd hlo (by omega) (by omega) hM
            obtain ⟨s₂, L, q1, q⟩ := G h hx hZ hown hnm hby hret hlocks hsz hF hLb hRc hRs (by omega) (by omega) hs0 hro H'
            exact ⟨s₂, L, g2 _ q1, q⟩
          · cases hM
        · split at h
          · rename_i v' hv
            cases h
            obtain ⟨locs, X, N, Rl⟩ := H
            unfold retOf at hv
            split at hv
            · rename_i hlen
              subst hlen
              split at hv
              · cases hv
                obtain ⟨fs, hr, hrun, hended, hWm, hsame⟩ := X.leave (v := none) (fun _ => rfl) hlocks
                exact ⟨_, locs, X.returnOut hx hret hd hr, hrun, hended, Rl, N, hWm, hsame⟩
              · rename_i zz _ _
                cases hv
                obtain ⟨fs, hr, hrun, hended, hWm, hsame⟩ := X.leave (v := some (.int zz)) (fun q => by rw [hret] at q; cases q) hlocks
                exact ⟨_, locs, X.ireturnOut hx hret rfl (Or.inl rfl) hd hr, hrun, hended, Rl, N, hWm, hsame⟩
              · rename_i zz _ _
                cases hv
                obtain ⟨fs, hr, hrun, hended, hWm, hsame⟩ := X.leave (v := some (.int (zz &&& 1))) (fun q => by rw [hret] at q; cases q) hlocks
                exact ⟨_, locs, retN X hx (t := .boolean) hret (Or.inl rfl) hd hr, hrun, hended, Rl, N, hWm, hsame⟩
              · rename_i zz _ _
                cases hv
                obtain ⟨fs, hr, hrun, hended, hWm, hsame⟩ := X.leave (v := some (.long zz)) (fun q => by rw [hret] at q; cases q) hlocks
                exact ⟨_, locs, X.lreturnOut hx hret hd hr, hrun, hended, Rl, N, hWm, hsame⟩
              · cases hv
            · cases hv
          · split at h
            · rename_i z as rest b mx r hc
              split at h
              · rename_i hcond
                obtain ⟨h1, h2, h3⟩ := hcond
                split at h
                · rename_i v'' M'' hr
                  have q1 := run_ext n hr
                  have q2 := run_ext n h
                  obtain ⟨T', H', g2⟩ := call_sound G hw H hx hZ hown hF hLb hsz hd hc h1 h2 h3 hr hL hS (by omega) (by omega)
                  obtain ⟨s₂, L, q1, q⟩ := G h hx hZ hown hnm hby hret hlocks hsz hF hLb hRc hRs (by omega) (by omega) hs0 hro H'
                  exact ⟨s₂, L, g2.trans q1, q⟩
                · cases h
              · cases h
            · cases h
    · cases h
end S
end Jvm.OwnEv
namespace Jvm.OwnEv
open Sem ClassFile Op Lib Jvm.Stand Jvm.Free Jvm.LawKit Jvm.RoadKit
/-! PART 6: the run comes to an end that Q says: the rules -/
theorem execP_special {W : List Jvm.Cond} {F Lb : Nat} {y : MethodName} {pc len idx : Nat} {ls : List Slot} {st : List Value} {M : EMem} : execP W F Lb y (.invokespecial idx) pc len ls st M = match st with
    | .ref _ :: r => if objInitAt W y.cls idx = true ∧ 1 ≤ F ∧ wt r + 12 ≤ Lb then some (pc + 3, ls, r) else none
    | _ => none := rfl
theorem objInit_no {W : List Jvm.Cond} {own : String} {idx kd : Nat} {z : MethodName} {na : Nat} {b : ByteArray} {mx : Nat} {r : Option FieldType} (h : callAt W own idx kd = some (z, na, b, mx, r)) : objInitAt W own idx = false := by
  cases q : objInitAt W own idx with
  | false => rfl
  | true =>
    have hm : methodLk own idx W = some Lib.objectInit := by
      unfold objInitAt at q
      split at q
      · rename_i z' b' n' r' h1 h2
        simp only [Bool.and_eq_true, decide_eq_true_eq] at q
        rw [h1, q.1.1.1.1]
      · cases q
    have hpn : plainName Lib.objectInit.cls = false := by decide
    unfold callAt at h
    rw [hm] at h
    simp only at h
    split at h
    · split at h
      · rename_i hc
        rw [hpn] at hc
        simp at hc
      · cases h
    · cases h
theorem run_succ {W : List Jvm.Cond} {ro : Nat} : ∀ (n : Nat) {F Lb : Nat} {y : MethodName} {code : ByteArray} {ret : Option FieldType} {pc : Nat} {ls : List Slot} {st : List Value} {M : EMem} {x : Option Value × EMem} {F' Lb' : Nat}, F ≤ F' → Lb ≤ Lb' →
    run W ro n F Lb y code ret pc ls st M = some x → run W ro (n + 1) F' Lb' y code ret pc ls st M = some x
  | 0, _, _, _, _, _, _, _, _, _, _, _, _, _, _, h => by simp [run] at h
  | n + 1, F, Lb, y, code, ret, pc, ls, st, M, x, F', Lb', hF, hL, h => by
    unfold run at h
    unfold run
    split at h
    · rename_i ins len hd
      split at h
      · rename_i pc' ls' st' hP
        have hP' : (if lenOk len ins = true then execP W F' Lb' y ins pc len ls st M else none) = some (pc', ls', st') := by
          split at hP
          · rename_i hl
            rw [if_pos hl]
            by_cases hi : ∃ idx, ins = .invokespecial idx
            · obtain ⟨idx, rfl⟩ := hi
              rw [execP_special] at hP ⊢
              split at hP
              · split at hP
                · rename_i hc
                  rw [if_pos ⟨hc.1, Nat.le_trans hc.2.1 hF, Nat.le_trans hc.2.2 hL⟩]
                  exact hP
                · cases hP
              · cases hP
            · have e : execP W F' Lb' y ins pc len ls st M = execP W F Lb y ins pc len ls st M := by
                cases ins <;> first | rfl | (exact absurd ⟨_, rfl⟩ hi)
              rw [e]; exact hP
          · cases hP
        rw [hP']
        exact run_succ n hF hL h
      · rename_i hP
        split at h
        · rename_i st' M' hM
          have hP' : (if lenOk len ins = true then execP W F' Lb' y ins pc len ls st M else none) = none := by
            split at hP
            · rename_i hl
              rw [if_pos hl]
              rw [if_pos hl] at hM
              cases ins <;> first | exact hP | (simp [execM] at hM)
            · rename_i hl
              rw [if_neg hl]
          rw [hP']
          exact run_succ n hF hL h
        · rename_i hM
          split at h
          · rename_i v hv
            have hP' : (if lenOk len ins = true then execP W F' Lb' y ins pc len ls st M else none) = none := by
              split at hP
              · rename_i hl
                rw [if_pos hl]
                cases ins <;> first | exact hP | (simp [retOf] at hv)
              · rename_i hl
                rw [if_neg hl]
            rw [hP']
            exact h
          · rename_i hv
            split at h
            · rename_i z as rest b mx r hc
              split at h
              · rename_i hcond
                obtain ⟨h1, h2, h3⟩ := hcond
                split at h
                · rename_i v M' hr
                  have hP' : (if lenOk len ins = true then execP W F' Lb' y ins pc len ls st M else none) = none := by
                    split at hP
                    · rename_i hl
                      rw [if_pos hl]
                      by_cases hi : ∃ idx, ins = .invokespecial idx
                      · obtain ⟨idx, rfl⟩ := hi
                        rw [execP_special]
                        split
                        · rw [if_neg]
                          intro q
                          have hcc : ∃ u, callAt W y.cls idx 2 = some u := by
                            cases hcq : callAt W y.cls idx 2 with
                            | some u => exact ⟨u, rfl⟩
                            | none =>
                              have e : ∀ s' : List Value, callOf W y (.invokespecial idx) len s' M = none := fun s' => by
                                unfold callOf
                                split
                                · simp only [hcq]
                                · rfl
                              rw [e] at hc; cases hc
                          obtain ⟨⟨u1, u2, u3, u4, u5⟩, hu⟩ := hcc
                          have q1 := q.1
                          rw [objInit_no hu] at q1
                          cases q1
                        · rfl
                      · have e : execP W F' Lb' y ins pc len ls st M = execP W F Lb y ins pc len ls st M := by
                          cases ins <;> first | rfl | (exact absurd ⟨_, rfl⟩ hi)
                        rw [e]; exact hP
                    · rename_i hl
                      rw [if_neg hl]
                  rw [hP']
                  simp only
                  rw [if_pos ⟨Nat.le_trans h1 hF, Nat.le_trans h2 hL, h3⟩, run_succ n (by omega) (by omega) hr]
                  exact run_succ n hF hL h
                · cases h
              · cases h
            · cases h
    · cases h
theorem run_mono {W : List Jvm.Cond} {ro n n' F Lb : Nat} {y : MethodName} {code : ByteArray} {ret : Option FieldType} {pc : Nat} {ls : List Slot} {st : List Value} {M : EMem} {x : Option Value × EMem} {F' Lb' : Nat} (hn : n < n') (hF : F ≤ F') (hL : Lb ≤ Lb')
    (h : run W ro n F Lb y code ret pc ls st M = some x) : run W ro n' F' Lb' y code ret pc ls st M = some x := by
  have : ∀ k, run W ro (n + 1 + k) F' Lb' y code ret pc ls st M = some x := fun k => by
    induction k with
    | zero => exact run_succ n hF hL h
    | succ k ih => exact run_succ _ (Nat.le_refl _) (Nat.le_refl _) ih
  have e : n' = n + 1 + (n' - (n + 1)) := by omega
  rw [e]; exact this _
def Wp (W : List Jvm.Cond) (ro F Lb : Nat) (y : MethodName) (code : ByteArray) (ret : Option FieldType) (pc : Nat) (ls : List Slot) (st : List Value) (M : EMem) (Q : Option Value → EMem → Prop) : Prop :=
  ∃ n v M', run W ro n F Lb y code ret pc ls st M = some (v, M') ∧ Q v M'
section Rules
variable {W : List Jvm.Cond} {ro F Lb : Nat} {y : MethodName} {code : ByteArray} {ret : Option FieldType} {pc : Nat} {ls : List Slot} {st : List Value} {M : EMem} {Q : Option Value → EMem → Prop}
theorem Wp.mono {Q' : Option Value → EMem → Prop} (h : Wp W ro F Lb y code ret pc ls st M Q) (q : ∀ v M', Q v M' → Q' v M') : Wp W ro F Lb y code ret pc ls st M Q' := by
  obtain ⟨n, v, M', h1, h2⟩ := h; exact ⟨n, v, M', h1, q _ _ h2⟩
theorem Wp.room {F' Lb' : Nat} (hF : F ≤ F') (hL : Lb ≤ Lb') (h : Wp W ro F Lb y code ret pc ls st M Q) : Wp W ro F' Lb' y code ret pc ls st M Q := by
  obtain ⟨n, v, M', h1, h2⟩ := h; exact ⟨n + 1, v, M', run_succ n hF hL h1, h2⟩
theorem Wp.p {ins : Instr} {len pc' : Nat} {ls' : List Slot} {st' : List Value} (hd : decode code pc = .ok (ins, len)) (hl : lenOk len ins = true) (he : execP W F Lb y ins pc len ls st M = some (pc', ls', st')) (k : Wp W ro F Lb y code ret pc' ls' st' M Q) : Wp W ro F Lb y code ret pc ls st M Q := by
  obtain ⟨n, v, M', h1, h2⟩ := k
  refine ⟨n + 1, v, M', ?_, h2⟩
  unfold run
  rw [hd]
  simp only
  rw [if_pos hl, he]
  exact h1
theorem Wp.m {ins : Instr} {len : Nat} {st' : List Value} {M1 : EMem} (hd : decode code pc = .ok (ins, len)) (hl : lenOk len ins = true) (hp : execP W F Lb y ins pc len ls st M = none) (he : execM W ro y ins st M = some (st', M1)) (k : Wp W ro F Lb y code ret (pc + len) ls st' M1 Q) : Wp W ro F Lb y code ret pc ls st M Q := by
  obtain ⟨n, v, M', h1, h2⟩ := k
  refine ⟨n + 1, v, M', ?_, h2⟩
  unfold run
  rw [hd]
  simp only
  rw [if_pos hl, hp]
  simp only
  rw [if_pos hl, he]
  exact h1
theorem Wp.r {ins : Instr} {len : Nat} {v : Option Value} (hd : decode code pc = .ok (ins, len)) (hp : execP W F Lb y ins pc len ls st M = none) (hm : execM W ro y ins st M = none) (hr : retOf ins len ret st = some v) (q : Q v M) : Wp W ro F Lb y code ret pc ls st M Q := by
  refine ⟨1, v, M, ?_, q⟩
  unfold run
  rw [hd]
  simp only
  rw [hp, ite_self, hm, ite_self]
  simp only
  rw [hr]
theorem Wp.c {ins : Instr} {len : Nat} {z : MethodName} {as rest : List Value} {b : ByteArray} {mx : Nat} {r : Option FieldType} {F' Lb' w : Nat} (hd : decode code pc = .ok (ins, len)) (hp : execP W F Lb y ins pc len ls st M = none) (hm : execM W ro y ins st M = none) (hr : retOf ins len ret st = none)
    (hc : callOf W y ins len st M = some (z, as, rest, b, mx, r)) (hw : wt rest = w) (h1 : F' + 1 ≤ F) (h2 : w + (mx + 11) + Lb' ≤ Lb) (h3 : (fillL as).length ≤ mx) (k : Wp W ro F' Lb' z b r 0 (entryL as mx) [] M fun v M' => Wp W ro F Lb y code ret (pc + 3) ls (v.toList ++ rest) M' Q) : Wp W ro F Lb y code ret pc ls st M Q := by
  obtain ⟨n1, v1, M1, k1, n2, v2, M2, k2, hq⟩ := k
  subst hw
  refine ⟨n1 + n2 + 3, v2, M2, ?_, hq⟩
  unfold run
  rw [hd]
  simp only
  rw [hp, ite_self, hm, ite_self]
  simp only
  rw [hr, hc]
  simp only
  rw [if_pos ⟨by omega, by omega, h3⟩, run_mono (n' := n1 + n2 + 2) (by omega) (by omega) (by omega) k1]
  exact run_mono (by omega) (Nat.le_refl _) (Nat.le_refl _) k2
theorem Wp.icmp {cd : ClassFile.Cond} {o : Int} {t : Nat} {a b : Int32} {r : List Value} (hd : decode code pc = .ok (.if_icmp cd o, 3)) (hj : jump pc o = some t) (k1 : if_icmp.holds cd a b = true → Wp W ro F Lb y code ret t ls r M Q) (k2 : if_icmp.holds cd a b = false → Wp W ro F Lb y code ret (pc + 3) ls r M Q) : Wp W ro F Lb y code ret pc ls (.int b :: .int a :: r) M Q := by
  have he : execP W F Lb y (.if_icmp cd o) pc 3 ls (.int b :: .int a :: r) M = some (if if_icmp.holds cd a b = true then t else pc + 3, ls, r) := by simp only [execP, hj]
  refine Wp.p hd rfl he ?_
  cases h : if_icmp.holds cd a b with
  | true => rw [if_pos rfl]; exact k1 h
  | false => rw [if_neg Bool.false_ne_true]; exact k2 h
theorem Wp.if0 {cd : ClassFile.Cond} {o : Int} {t : Nat} {a : Int32} {r : List Value} (hd : decode code pc = .ok (.ifCond cd o, 3)) (hj : jump pc o = some t) (k1 : if_icmp.holds cd a 0 = true → Wp W ro F Lb y code ret t ls r M Q) (k2 : if_icmp.holds cd a 0 = false → Wp W ro F Lb y code ret (pc + 3) ls r M Q) : Wp W ro F Lb y code ret pc ls (.int a :: r) M Q := by
  have he : execP W F Lb y (.ifCond cd o) pc 3 ls (.int a :: r) M = some (if ifCond.holds cd a = true then t else pc + 3, ls, r) := by simp only [execP, hj]
  refine Wp.p hd rfl he ?_
  rw [RoadKit.if0]
  cases h : if_icmp.holds cd a 0 with
  | true => rw [if_pos rfl]; exact k1 h
  | false => rw [if_neg Bool.false_ne_true]; exact k2 h
theorem Wp.icmp_lt {o : Int} {t : Nat} {a b : Int32} {r : List Value} (hd : decode code pc = .ok (.if_icmp .lt o, 3)) (hj : jump pc o = some t) (k1 : a < b → Wp W ro F Lb y code ret t ls r M Q) (k2 : ¬ a < b → Wp W ro F Lb y code ret (pc + 3) ls r M Q) : Wp W ro F Lb y code ret pc ls (.int b :: .int a :: r) M Q :=
  Wp.icmp hd hj (fun h => k1 (Classical.byContradiction fun q => by rw [(flt (x := a) (y := b) (by exact q)).1] at h; cases h)) (fun h => k2 (Classical.byContradiction fun q => by rw [(tlt (x := a) (y := b) (by simpa using q)).1] at h; cases h))
theorem Wp.if_lt {o : Int} {t : Nat} {a : Int32} {r : List Value} (hd : decode code pc = .ok (.ifCond .lt o, 3)) (hj : jump pc o = some t) (k1 : a < 0 → Wp W ro F Lb y code ret t ls r M Q) (k2 : ¬ a < 0 → Wp W ro F Lb y code ret (pc + 3) ls r M Q) : Wp W ro F Lb y code ret pc ls (.int a :: r) M Q :=
  Wp.if0 hd hj (fun h => k1 (Classical.byContradiction fun q => by rw [(flt (x := a) (y := 0) (by exact q)).1] at h; cases h)) (fun h => k2 (Classical.byContradiction fun q => by rw [(tlt (x := a) (y := 0) (by simpa using q)).1] at h; cases h))
theorem Wp.icmp_ge {o : Int} {t : Nat} {a b : Int32} {r : List Value} (hd : decode code pc = .ok (.if_icmp .ge o, 3)) (hj : jump pc o = some t) (k1 : ¬ a < b → Wp W ro F Lb y code ret t ls r M Q) (k2 : a < b → Wp W ro F Lb y code ret (pc + 3) ls r M Q) : Wp W ro F Lb y code ret pc ls (.int b :: .int a :: r) M Q :=
  Wp.icmp hd hj (fun h => k1 (Classical.byContradiction fun q => by rw [(tlt (x := a) (y := b) (by simpa using q)).2.1] at h; cases h)) (fun h => k2 (Classical.byContradiction fun q => by rw [(flt (x := a) (y := b) (by exact q)).2.1] at h; cases h))
theorem Wp.if_ge {o : Int} {t : Nat} {a : Int32} {r : List Value} (hd : decode code pc = .ok (.ifCond .ge o, 3)) (hj : jump pc o = some t) (k1 : ¬ a < 0 → Wp W ro F Lb y code ret t ls r M Q) (k2 : a < 0 → Wp W ro F Lb y code ret (pc + 3) ls r M Q) : Wp W ro F Lb y code ret pc ls (.int a :: r) M Q :=
  Wp.if0 hd hj (fun h => k1 (Classical.byContradiction fun q => by rw [(tlt (x := a) (y := 0) (by simpa using q)).2.1] at h; cases h)) (fun h => k2 (Classical.byContradiction fun q => by rw [(flt (x := a) (y := 0) (by exact q)).2.1] at h; cases h))
theorem Wp.icmp_gt {o : Int} {t : Nat} {a b : Int32} {r : List Value} (hd : decode code pc = .ok (.if_icmp .gt o, 3)) (hj : jump pc o = some t) (k1 : b < a → Wp W ro F Lb y code ret t ls r M Q) (k2 : ¬ b < a → Wp W ro F Lb y code ret (pc + 3) ls r M Q) : Wp W ro F Lb y code ret pc ls (.int b :: .int a :: r) M Q :=
  Wp.icmp hd hj (fun h => k1 (Classical.byContradiction fun q => by rw [(flt (x := b) (y := a) (by exact q)).2.2.1] at h; cases h)) (fun h => k2 (Classical.byContradiction fun q => by rw [(tlt (x := b) (y := a) (by simpa using q)).2.2.1] at h; cases h))
theorem Wp.if_gt {o : Int} {t : Nat} {a : Int32} {r : List Value} (hd : decode code pc = .ok (.ifCond .gt o, 3)) (hj : jump pc o = some t) (k1 : 0 < a → Wp W ro F Lb y code ret t ls r M Q) (k2 : ¬ 0 < a → Wp W ro F Lb y code ret (pc + 3) ls r M Q) : Wp W ro F Lb y code ret pc ls (.int a :: r) M Q :=
  Wp.if0 hd hj (fun h => k1 (Classical.byContradiction fun q => by rw [(flt (x := 0) (y := a) (by exact q)).2.2.1] at h; cases h)) (fun h => k2 (Classical.byContradiction fun q => by rw [(tlt (x := 0) (y := a) (by simpa using q)).2.2.1] at h; cases h))
theorem Wp.icmp_le {o : Int} {t : Nat} {a b : Int32} {r : List Value} (hd : decode code pc = .ok (.if_icmp .le o, 3)) (hj : jump pc o = some t) (k1 : ¬ b < a → Wp W ro F Lb y code ret t ls r M Q) (k2 : b < a → Wp W ro F Lb y code ret (pc + 3) ls r M Q) : Wp W ro F Lb y code ret pc ls (.int b :: .int a :: r) M Q :=
  Wp.icmp hd hj (fun h => k1 (Classical.byContradiction fun q => by rw [(tlt (x := b) (y := a) (by simpa using q)).2.2.2] at h; cases h)) (fun h => k2 (Classical.byContradiction fun q => by rw [(flt (x := b) (y := a) (by exact q)).2.2.2] at h; cases h))
theorem Wp.if_le {o : Int} {t : Nat} {a : Int32} {r : List Value} (hd : decode code pc = .ok (.ifCond .le o, 3)) (hj : jump pc o = some t) (k1 : ¬ 0 < a → Wp W ro F Lb y code ret t ls r M Q) (k2 : 0 < a → Wp W ro F Lb y code ret (pc + 3) ls r M Q) : Wp W ro F Lb y code ret pc ls (.int a :: r) M Q :=
  Wp.if0 hd hj (fun h => k1 (Classical.byContradiction fun q => by rw [(tlt (x := 0) (y := a) (by simpa using q)).2.2.2] at h; cases h)) (fun h => k2 (Classical.byContradiction fun q => by rw [(flt (x := 0) (y := a) (by exact q)).2.2.2] at h; cases h))
theorem Wp.icmp_eq {o : Int} {t : Nat} {a b : Int32} {r : List Value} (hd : decode code pc = .ok (.if_icmp .eq o, 3)) (hj : jump pc o = some t) (k1 : a = b → Wp W ro F Lb y code ret t ls r M Q) (k2 : ¬ a = b → Wp W ro F Lb y code ret (pc + 3) ls r M Q) : Wp W ro F Lb y code ret pc ls (.int b :: .int a :: r) M Q :=
  Wp.icmp hd hj (fun h => k1 (Classical.byContradiction fun q => by rw [(feq (x := a) (y := b) (by exact q)).1] at h; cases h)) (fun h => k2 (Classical.byContradiction fun q => by rw [(teq (x := a) (y := b) (by simpa using q)).1] at h; cases h))
theorem Wp.if_eq {o : Int} {t : Nat} {a : Int32} {r : List Value} (hd : decode code pc = .ok (.ifCond .eq o, 3)) (hj : jump pc o = some t) (k1 : a = 0 → Wp W ro F Lb y code ret t ls r M Q) (k2 : ¬ a = 0 → Wp W ro F Lb y code ret (pc + 3) ls r M Q) : Wp W ro F Lb y code ret pc ls (.int a :: r) M Q :=
  Wp.if0 hd hj (fun h => k1 (Classical.byContradiction fun q => by rw [(feq (x := a) (y := 0) (by exact q)).1] at h; cases h)) (fun h => k2 (Classical.byContradiction fun q => by rw [(teq (x := a) (y := 0) (by simpa using q)).1] at h; cases h))
theorem Wp.icmp_ne {o : Int} {t : Nat} {a b : Int32} {r : List Value} (hd : decode code pc = .ok (.if_icmp .ne o, 3)) (hj : jump pc o = some t) (k1 : ¬ a = b → Wp W ro F Lb y code ret t ls r M Q) (k2 : a = b → Wp W ro F Lb y code ret (pc + 3) ls r M Q) : Wp W ro F Lb y code ret pc ls (.int b :: .int a :: r) M Q :=
  Wp.icmp hd hj (fun h => k1 (Classical.byContradiction fun q => by rw [(teq (x := a) (y := b) (by simpa using q)).2] at h; cases h)) (fun h => k2 (Classical.byContradiction fun q => by rw [(feq (x := a) (y := b) (by exact q)).2] at h; cases h))
theorem Wp.if_ne {o : Int} {t : Nat} {a : Int32} {r : List Value} (hd : decode code pc = .ok (.ifCond .ne o, 3)) (hj : jump pc o = some t) (k1 : ¬ a = 0 → Wp W ro F Lb y code ret t ls r M Q) (k2 : a = 0 → Wp W ro F Lb y code ret (pc + 3) ls r M Q) : Wp W ro F Lb y code ret pc ls (.int a :: r) M Q :=
  Wp.if0 hd hj (fun h => k1 (Classical.byContradiction fun q => by rw [(teq (x := a) (y := 0) (by simpa using q)).2] at h; cases h)) (fun h => k2 (Classical.byContradiction fun q => by rw [(feq (x := a) (y := 0) (by exact q)).2] at h; cases h))
variable {L : ELay} {mi : Nat → Nat → Int32} {ml : Nat → Nat → Int64} {mr : Nat → Nat → Value}
theorem Wp.iconst {i : Int} {r : List Value} (v : Int32) (hd : decode code pc = .ok (.iconst i, 1)) (hv : Int32.ofInt i = v) (k : Wp W ro F Lb y code ret (pc + 1) ls (.int v :: r) M Q) : Wp W ro F Lb y code ret pc ls r M Q := by
  subst hv; exact Wp.p hd rfl rfl k
theorem Wp.bipush {i : Int} {r : List Value} (v : Int32) (hd : decode code pc = .ok (.bipush i, 2)) (hv : (Int8.ofInt i).toInt32 = v) (k : Wp W ro F Lb y code ret (pc + 2) ls (.int v :: r) M Q) : Wp W ro F Lb y code ret pc ls r M Q := by
  subst hv; exact Wp.p hd rfl rfl k
theorem Wp.sipush {i : Int} {r : List Value} (v : Int32) (hd : decode code pc = .ok (.sipush i, 3)) (hv : (Int16.ofInt i).toInt32 = v) (k : Wp W ro F Lb y code ret (pc + 3) ls (.int v :: r) M Q) : Wp W ro F Lb y code ret pc ls r M Q := by
  subst hv; exact Wp.p hd rfl rfl k
theorem Wp.lconst {i : Fin 2} {r : List Value} (v : Int64) (hd : decode code pc = .ok (.lconst i, 1)) (hv : Int64.ofNat i = v) (k : Wp W ro F Lb y code ret (pc + 1) ls (.long v :: r) M Q) : Wp W ro F Lb y code ret pc ls r M Q := by
  subst hv; exact Wp.p hd rfl rfl k
theorem Wp.iinc {i : Nat} {d : Int} {x : Int32} {l' : List Slot} (v : Int32) (hd : decode code pc = .ok (.iinc i d, 3)) (hv : Int32.ofInt d = v) (hl : ls[i]? = some (.val (.int x))) (hs : storeL ls i (.int (x + v)) = some l') (k : Wp W ro F Lb y code ret (pc + 3) l' st M Q) : Wp W ro F Lb y code ret pc ls st M Q := by
  subst hv
  exact Wp.p hd rfl (by simp only [execP, hl, hs]) k
theorem Wp.ldc {i : Nat} {r : List Value} {v : Int32} (hd : decode code pc = .ok (.ldc i, 2)) (hv : intLk y.cls i W = some v) (k : Wp W ro F Lb y code ret (pc + 2) ls (.int v :: r) M Q) : Wp W ro F Lb y code ret pc ls r M Q :=
  Wp.p hd rfl (by simp only [execP, hv]) k
theorem Wp.ldcw {i : Nat} {r : List Value} {v : Int32} (hd : decode code pc = .ok (.ldc_w i, 3)) (hv : intLk y.cls i W = some v) (k : Wp W ro F Lb y code ret (pc + 3) ls (.int v :: r) M Q) : Wp W ro F Lb y code ret pc ls r M Q :=
  Wp.p hd rfl (by simp only [execP, hv]) k
theorem Wp.ldc2 {i : Nat} {r : List Value} {v : Int64} (hd : decode code pc = .ok (.ldc2_w i, 3)) (hv : longLk y.cls i W = some v) (k : Wp W ro F Lb y code ret (pc + 3) ls (.long v :: r) M Q) : Wp W ro F Lb y code ret pc ls r M Q :=
  Wp.p hd rfl (by simp only [execP, hv]) k
theorem Wp.getI {i a k n : Nat} {C : String} {fin : Bool} {r : List Value} (v : Int32) (hd : decode code pc = .ok (.getfield i, 3)) (hf : fieldAt W y.cls i = some (C, k, 1, fin)) (hc : L[a]? = some (0, C, n)) (hv : mi a k = v) (q : Wp W ro F Lb y code ret (pc + 3) ls (.int v :: r) (L, mi, ml, mr) Q) : Wp W ro F Lb y code ret pc ls (.ref a :: r) (L, mi, ml, mr) Q := by
  subst hv
  exact Wp.p hd rfl (by simp only [execP, hf, hc, getV, if_true]) q
theorem Wp.getZ {i a k n : Nat} {C : String} {fin : Bool} {r : List Value} (v : Int32) (hd : decode code pc = .ok (.getfield i, 3)) (hf : fieldAt W y.cls i = some (C, k, 2, fin)) (hc : L[a]? = some (0, C, n)) (hv : mi a k = v) (q : Wp W ro F Lb y code ret (pc + 3) ls (.int v :: r) (L, mi, ml, mr) Q) : Wp W ro F Lb y code ret pc ls (.ref a :: r) (L, mi, ml, mr) Q := by
  subst hv
  exact Wp.p hd rfl (by simp only [execP, hf, hc, getV, if_true]) q
theorem Wp.getJ {i a k n : Nat} {C : String} {fin : Bool} {r : List Value} (v : Int64) (hd : decode code pc = .ok (.getfield i, 3)) (hf : fieldAt W y.cls i = some (C, k, 3, fin)) (hc : L[a]? = some (0, C, n)) (hv : ml a k = v) (q : Wp W ro F Lb y code ret (pc + 3) ls (.long v :: r) (L, mi, ml, mr) Q) : Wp W ro F Lb y code ret pc ls (.ref a :: r) (L, mi, ml, mr) Q := by
  subst hv
  exact Wp.p hd rfl (by simp only [execP, hf, hc, getV, if_true]) q
theorem Wp.getR {i a k n b : Nat} {C : String} {fin : Bool} {r : List Value} (hd : decode code pc = .ok (.getfield i, 3)) (hf : fieldAt W y.cls i = some (C, k, 4, fin)) (hc : L[a]? = some (0, C, n)) (hr : mr a k = .ref b) (q : Wp W ro F Lb y code ret (pc + 3) ls (.ref b :: r) (L, mi, ml, mr) Q) : Wp W ro F Lb y code ret pc ls (.ref a :: r) (L, mi, ml, mr) Q :=
  Wp.p hd rfl (by simp only [execP, hf, hc, getV, if_true, hr]) q
theorem Wp.len {a n kd : Nat} {u : String} {r : List Value} (hd : decode code pc = .ok (.arraylength, 1)) (hc : L[a]? = some (kd, u, n)) (hk : kd = 1 ∨ kd = 2 ∨ kd = 3) (q : Wp W ro F Lb y code ret (pc + 1) ls (.int n.toInt32 :: r) (L, mi, ml, mr) Q) : Wp W ro F Lb y code ret pc ls (.ref a :: r) (L, mi, ml, mr) Q := by
  rcases hk with rfl | rfl | rfl <;> exact Wp.p hd rfl (by simp only [execP, hc]) q
theorem Wp.iaload {a n k : Nat} {u : String} {j : Int32} {r : List Value} (v : Int32) (hd : decode code pc = .ok (.iaload, 1)) (hc : L[a]? = some (1, u, n)) (hk : j.toNatClampNeg = k) (hj : inb j n = true) (hv : mi a k = v) (q : Wp W ro F Lb y code ret (pc + 1) ls (.int v :: r) (L, mi, ml, mr) Q) : Wp W ro F Lb y code ret pc ls (.int j :: .ref a :: r) (L, mi, ml, mr) Q := by
  subst hk hv
  exact Wp.p hd rfl (by simp only [execP, hc, hj, if_true]) q
theorem Wp.baload {a n k : Nat} {u : String} {j : Int32} {r : List Value} (v : Int32) (hd : decode code pc = .ok (.baload, 1)) (hc : L[a]? = some (3, u, n)) (hk : j.toNatClampNeg = k) (hj : inb j n = true) (hv : mi a k = v) (q : Wp W ro F Lb y code ret (pc + 1) ls (.int v :: r) (L, mi, ml, mr) Q) : Wp W ro F Lb y code ret pc ls (.int j :: .ref a :: r) (L, mi, ml, mr) Q := by
  subst hk hv
  exact Wp.p hd rfl (by simp only [execP, hc, hj, if_true]) q
theorem Wp.laload {a n k : Nat} {u : String} {j : Int32} {r : List Value} (v : Int64) (hd : decode code pc = .ok (.laload, 1)) (hc : L[a]? = some (2, u, n)) (hk : j.toNatClampNeg = k) (hj : inb j n = true) (hv : ml a k = v) (q : Wp W ro F Lb y code ret (pc + 1) ls (.long v :: r) (L, mi, ml, mr) Q) : Wp W ro F Lb y code ret pc ls (.int j :: .ref a :: r) (L, mi, ml, mr) Q := by
  subst hk hv
  exact Wp.p hd rfl (by simp only [execP, hc, hj, if_true]) q
theorem Wp.iastore {a n k : Nat} {u : String} {j x : Int32} {r : List Value} (hd : decode code pc = .ok (.iastore, 1)) (hc : L[a]? = some (1, u, n)) (hk : j.toNatClampNeg = k) (hj : inb j n = true) (ha : ro ≤ a) (q : Wp W ro F Lb y code ret (pc + 1) ls r (L, up mi a k x, ml, mr) Q) : Wp W ro F Lb y code ret pc ls (.int x :: .int j :: .ref a :: r) (L, mi, ml, mr) Q := by
  subst hk
  exact Wp.m hd rfl rfl (by simp only [execM, hc]; rw [if_pos ⟨hj, ha⟩]) q
theorem Wp.bastore {a n k : Nat} {u : String} {j x : Int32} {r : List Value} (v : Int32) (hd : decode code pc = .ok (.bastore, 1)) (hc : L[a]? = some (3, u, n)) (hk : j.toNatClampNeg = k) (hj : inb j n = true) (ha : ro ≤ a) (hv : x &&& 1 = v) (q : Wp W ro F Lb y code ret (pc + 1) ls r (L, up mi a k v, ml, mr) Q) : Wp W ro F Lb y code ret pc ls (.int x :: .int j :: .ref a :: r) (L, mi, ml, mr) Q := by
  subst hk hv
  exact Wp.m hd rfl rfl (by simp only [execM, hc]; rw [if_pos ⟨hj, ha⟩]) q
theorem Wp.lastore {a n k : Nat} {u : String} {j : Int32} {x : Int64} {r : List Value} (hd : decode code pc = .ok (.lastore, 1)) (hc : L[a]? = some (2, u, n)) (hk : j.toNatClampNeg = k) (hj : inb j n = true) (ha : ro ≤ a) (q : Wp W ro F Lb y code ret (pc + 1) ls r (L, mi, up ml a k x, mr) Q) : Wp W ro F Lb y code ret pc ls (.long x :: .int j :: .ref a :: r) (L, mi, ml, mr) Q := by
  subst hk
  exact Wp.m hd rfl rfl (by simp only [execM, hc]; rw [if_pos ⟨hj, ha⟩]) q
theorem Wp.putI {i a k n u : Nat} {C : String} {fin : Bool} {x : Int32} {r : List Value} (hd : decode code pc = .ok (.putfield i, 3)) (hf : fieldAt W y.cls i = some (C, k, 1, fin)) (hc : L[a]? = some (0, C, n)) (ha : ro ≤ a) (hi : instLk C W = some u) (hfin : fin = false ∨ (y.cls = C ∧ y.name = "<init>")) (q : Wp W ro F Lb y code ret (pc + 3) ls r (L, up mi a k x, ml, mr) Q) : Wp W ro F Lb y code ret pc ls (.int x :: .ref a :: r) (L, mi, ml, mr) Q :=
  Wp.m hd rfl rfl (by simp only [execM, hf, hc]; rw [if_pos ⟨trivial, ha, hfin, by rw [hi]; rfl⟩]) q
theorem Wp.putZ {i a k n u : Nat} {C : String} {fin : Bool} {x : Int32} {r : List Value} (v : Int32) (hd : decode code pc = .ok (.putfield i, 3)) (hf : fieldAt W y.cls i = some (C, k, 2, fin)) (hc : L[a]? = some (0, C, n)) (ha : ro ≤ a) (hi : instLk C W = some u) (hfin : fin = false ∨ (y.cls = C ∧ y.name = "<init>")) (hv : x &&& 1 = v) (q : Wp W ro F Lb y code ret (pc + 3) ls r (L, up mi a k v, ml, mr) Q) : Wp W ro F Lb y code ret pc ls (.int x :: .ref a :: r) (L, mi, ml, mr) Q := by
  subst hv
  exact Wp.m hd rfl rfl (by simp only [execM, hf, hc]; rw [if_pos ⟨trivial, ha, hfin, by rw [hi]; rfl⟩]) q
theorem Wp.putJ {i a k n u : Nat} {C : String} {fin : Bool} {x : Int64} {r : List Value} (hd : decode code pc = .ok (.putfield i, 3)) (hf : fieldAt W y.cls i = some (C, k, 3, fin)) (hc : L[a]? = some (0, C, n)) (ha : ro ≤ a) (hi : instLk C W = some u) (hfin : fin = false ∨ (y.cls = C ∧ y.name = "<init>")) (q : Wp W ro F Lb y code ret (pc + 3) ls r (L, mi, up ml a k x, mr) Q) : Wp W ro F Lb y code ret pc ls (.long x :: .ref a :: r) (L, mi, ml, mr) Q :=
  Wp.m hd rfl rfl (by simp only [execM, hf, hc]; rw [if_pos ⟨trivial, ha, hfin, by rw [hi]; rfl⟩]) q
theorem Wp.putR {i a k n u b : Nat} {C : String} {fin : Bool} {r : List Value} (hd : decode code pc = .ok (.putfield i, 3)) (hf : fieldAt W y.cls i = some (C, k, 4, fin)) (hc : L[a]? = some (0, C, n)) (ha : ro ≤ a) (hi : instLk C W = some u) (hfin : fin = false ∨ (y.cls = C ∧ y.name = "<init>")) (q : Wp W ro F Lb y code ret (pc + 3) ls r (L, mi, ml, up mr a k (.ref b)) Q) : Wp W ro F Lb y code ret pc ls (.ref b :: .ref a :: r) (L, mi, ml, mr) Q :=
  Wp.m hd rfl rfl (by simp only [execM, hf, hc]; rw [if_pos ⟨trivial, ha, hfin, by rw [hi]; rfl⟩]) q
theorem Wp.new {i n a : Nat} {L' : ELay} {C : String} {r : List Value} (hd : decode code pc = .ok (.new i, 3)) (hn : newAt W y.cls i = some (C, n)) (ha : L.length = a) (hL : L ++ [(0, C, n)] = L') (q : Wp W ro F Lb y code ret (pc + 3) ls (.ref a :: r) (L', mi, ml, mr) Q) : Wp W ro F Lb y code ret pc ls r (L, mi, ml, mr) Q := by
  subst ha hL
  exact Wp.m hd rfl rfl (by simp only [execM, hn]) q
theorem Wp.new_int {n : Int32} {a z : Nat} {L' : ELay} {r : List Value} (hd : decode code pc = .ok (.newarray .int, 2)) (ha : hasArr .int W = true) (hn : ¬ n < 0 ∧ n.toNatClampNeg * 8 ≤ 536870912) (hz : n.toNatClampNeg = z) (he : L.length = a) (hL : L ++ [(1, "", z)] = L') (q : Wp W ro F Lb y code ret (pc + 2) ls (.ref a :: r) (L', mi, ml, mr) Q) : Wp W ro F Lb y code ret pc ls (.int n :: r) (L, mi, ml, mr) Q := by
  subst hz he hL
  exact Wp.m hd rfl rfl (by simp only [execM]; rw [if_pos ⟨hn.1, hn.2, ha⟩]) q
theorem Wp.new_long {n : Int32} {a z : Nat} {L' : ELay} {r : List Value} (hd : decode code pc = .ok (.newarray .long, 2)) (ha : hasArr .long W = true) (hn : ¬ n < 0 ∧ n.toNatClampNeg * 8 ≤ 536870912) (hz : n.toNatClampNeg = z) (he : L.length = a) (hL : L ++ [(2, "", z)] = L') (q : Wp W ro F Lb y code ret (pc + 2) ls (.ref a :: r) (L', mi, ml, mr) Q) : Wp W ro F Lb y code ret pc ls (.int n :: r) (L, mi, ml, mr) Q := by
  subst hz he hL
  exact Wp.m hd rfl rfl (by simp only [execM]; rw [if_pos ⟨hn.1, hn.2, ha⟩]) q
theorem Wp.new_boolean {n : Int32} {a z : Nat} {L' : ELay} {r : List Value} (hd : decode code pc = .ok (.newarray .boolean, 2)) (ha : hasArr .boolean W = true) (hn : ¬ n < 0 ∧ n.toNatClampNeg * 8 ≤ 536870912) (hz : n.toNatClampNeg = z) (he : L.length = a) (hL : L ++ [(3, "", z)] = L') (q : Wp W ro F Lb y code ret (pc + 2) ls (.ref a :: r) (L', mi, ml, mr) Q) : Wp W ro F Lb y code ret pc ls (.int n :: r) (L, mi, ml, mr) Q := by
  subst hz he hL
  exact Wp.m hd rfl rfl (by simp only [execM]; rw [if_pos ⟨hn.1, hn.2, ha⟩]) q
theorem Wp.objInit {i a w : Nat} {r : List Value} (hd : decode code pc = .ok (.invokespecial i, 3)) (ho : objInitAt W y.cls i = true) (hw : wt r = w) (h1 : 1 ≤ F) (h2 : w + 12 ≤ Lb) (q : Wp W ro F Lb y code ret (pc + 3) ls r M Q) : Wp W ro F Lb y code ret pc ls (.ref a :: r) M Q :=
  Wp.p hd rfl (by simp only [execP]; rw [if_pos ⟨ho, h1, by rw [hw]; exact h2⟩]) q
/-- a private method -/
theorem Wp.callP {i na mx a n F' Lb' w : Nat} {z : MethodName} {b : ByteArray} {rt : Option FieldType} {as rest : List Value} (hd : decode code pc = .ok (.invokevirtual i, 3)) (hc : callAt W y.cls i 1 = some (z, na, b, mx, rt)) (hl : L[a]? = some (0, z.cls, n)) (hs : st = as.reverse ++ .ref a :: rest) (hna : as.length = na) (hw : wt rest = w) (h1 : F' + 1 ≤ F) (h2 : w + (mx + 11) + Lb' ≤ Lb) (h3 : (fillL (.ref a :: as)).length ≤ mx)
    (k : Wp W ro F' Lb' z b rt 0 (entryL (.ref a :: as) mx) [] (L, mi, ml, mr) fun v M' => Wp W ro F Lb y code ret (pc + 3) ls (v.toList ++ rest) M' Q) : Wp W ro F Lb y code ret pc ls st (L, mi, ml, mr) Q := by
  subst hs hna
  refine Wp.c hd rfl rfl rfl ?_ hw h1 h2 h3 k
  have e1 : (as.reverse ++ Value.ref a :: rest).drop as.length = .ref a :: rest := by rw [← List.length_reverse (as := as), List.drop_left]
  have e2 : (as.reverse ++ Value.ref a :: rest).take as.length = as.reverse := by rw [← List.length_reverse (as := as), List.take_left]
  simp only [callOf, if_true, hc, e1, e2, hl, List.length_reverse, and_self, List.reverse_reverse]
theorem Wp.callV {i na mx a n F' Lb' w : Nat} {z : MethodName} {b : ByteArray} {rt : Option FieldType} {as rest : List Value} (hd : decode code pc = .ok (.invokevirtual i, 3)) (hc0 : callAt W y.cls i 1 = none) (hc : callAt W y.cls i 0 = some (z, na, b, mx, rt)) (hl : L[a]? = some (0, z.cls, n)) (hs : st = as.reverse ++ .ref a :: rest) (hna : as.length = na) (hw : wt rest = w) (h1 : F' + 1 ≤ F) (h2 : w + (mx + 11) + Lb' ≤ Lb) (h3 : (fillL (.ref a :: as)).length ≤ mx)
    (k : Wp W ro F' Lb' z b rt 0 (entryL (.ref a :: as) mx) [] (L, mi, ml, mr) fun v M' => Wp W ro F Lb y code ret (pc + 3) ls (v.toList ++ rest) M' Q) : Wp W ro F Lb y code ret pc ls st (L, mi, ml, mr) Q := by
  subst hs hna
  refine Wp.c hd rfl rfl rfl ?_ hw h1 h2 h3 k
  have e1 : (as.reverse ++ Value.ref a :: rest).drop as.length = .ref a :: rest := by rw [← List.length_reverse (as := as), List.drop_left]
  have e2 : (as.reverse ++ Value.ref a :: rest).take as.length = as.reverse := by rw [← List.length_reverse (as := as), List.take_left]
  simp only [callOf, if_true, hc0, hc, e1, e2, hl, List.length_reverse, and_self, List.reverse_reverse]
theorem Wp.callI {i na mx a F' Lb' w : Nat} {z : MethodName} {b : ByteArray} {rt : Option FieldType} {as rest : List Value} (hd : decode code pc = .ok (.invokespecial i, 3)) (ho : objInitAt W y.cls i = false) (hc : callAt W y.cls i 2 = some (z, na, b, mx, rt)) (hs : st = as.reverse ++ .ref a :: rest) (hna : as.length = na) (hw : wt rest = w) (h1 : F' + 1 ≤ F) (h2 : w + (mx + 11) + Lb' ≤ Lb) (h3 : (fillL (.ref a :: as)).length ≤ mx)
    (k : Wp W ro F' Lb' z b rt 0 (entryL (.ref a :: as) mx) [] M fun v M' => Wp W ro F Lb y code ret (pc + 3) ls (v.toList ++ rest) M' Q) : Wp W ro F Lb y code ret pc ls st M Q := by
  subst hs hna
  refine Wp.c hd ?_ rfl rfl ?_ hw h1 h2 h3 k
  · have e : ∀ s' : List Value, execP W F Lb y (.invokespecial i) pc 3 ls s' M = none := fun s' => by
      simp only [execP, ho]
      split
      · rw [if_neg]; intro q; cases q.1
      · rfl
    exact e _
  have e1 : (as.reverse ++ Value.ref a :: rest).drop as.length = .ref a :: rest := by rw [← List.length_reverse (as := as), List.drop_left]
  have e2 : (as.reverse ++ Value.ref a :: rest).take as.length = as.reverse := by rw [← List.length_reverse (as := as), List.take_left]
  simp only [callOf, if_true, hc, e1, e2, List.length_reverse, List.reverse_reverse]
theorem Wp.callS {i na mx F' Lb' w : Nat} {z : MethodName} {b : ByteArray} {rt : Option FieldType} {as rest : List Value} (hd : decode code pc = .ok (.invokestatic i, 3)) (hc : callAt W y.cls i 3 = some (z, na, b, mx, rt)) (hs : st = as.reverse ++ rest) (hna : as.length = na) (hw : wt rest = w) (h1 : F' + 1 ≤ F) (h2 : w + (mx + 11) + Lb' ≤ Lb) (h3 : (fillL as).length ≤ mx)
    (k : Wp W ro F' Lb' z b rt 0 (entryL as mx) [] M fun v M' => Wp W ro F Lb y code ret (pc + 3) ls (v.toList ++ rest) M' Q) : Wp W ro F Lb y code ret pc ls st M Q := by
  subst hs hna
  refine Wp.c hd rfl rfl rfl ?_ hw h1 h2 h3 k
  have e1 : (as.reverse ++ rest).drop as.length = rest := by rw [← List.length_reverse (as := as), List.drop_left]
  have e2 : (as.reverse ++ rest).take as.length = as.reverse := by rw [← List.length_reverse (as := as), List.take_left]
  simp only [callOf, if_true, hc, e1, e2, List.length_reverse, List.reverse_reverse]
theorem Wp.top {a : Int32} {r : List Value} (v : Int32) (h : a = v) (k : Wp W ro F Lb y code ret pc ls (.int v :: r) M Q) : Wp W ro F Lb y code ret pc ls (.int a :: r) M Q := by subst h; exact k
theorem Wp.topJ {a : Int64} {r : List Value} (v : Int64) (h : a = v) (k : Wp W ro F Lb y code ret pc ls (.long v :: r) M Q) : Wp W ro F Lb y code ret pc ls (.long a :: r) M Q := by subst h; exact k
theorem Wp.icmpT {cd : ClassFile.Cond} {o : Int} {t : Nat} {a b : Int32} {r : List Value} (hd : decode code pc = .ok (.if_icmp cd o, 3)) (hj : jump pc o = some t) (h : if_icmp.holds cd a b = true) (k : Wp W ro F Lb y code ret t ls r M Q) : Wp W ro F Lb y code ret pc ls (.int b :: .int a :: r) M Q :=
  Wp.icmp hd hj (fun _ => k) (fun q => by rw [h] at q; cases q)
theorem Wp.icmpF {cd : ClassFile.Cond} {o : Int} {t : Nat} {a b : Int32} {r : List Value} (hd : decode code pc = .ok (.if_icmp cd o, 3)) (hj : jump pc o = some t) (h : if_icmp.holds cd a b = false) (k : Wp W ro F Lb y code ret (pc + 3) ls r M Q) : Wp W ro F Lb y code ret pc ls (.int b :: .int a :: r) M Q :=
  Wp.icmp hd hj (fun q => by rw [h] at q; cases q) (fun _ => k)
theorem Wp.ifT {cd : ClassFile.Cond} {o : Int} {t : Nat} {a : Int32} {r : List Value} (hd : decode code pc = .ok (.ifCond cd o, 3)) (hj : jump pc o = some t) (h : if_icmp.holds cd a 0 = true) (k : Wp W ro F Lb y code ret t ls r M Q) : Wp W ro F Lb y code ret pc ls (.int a :: r) M Q :=
  Wp.if0 hd hj (fun _ => k) (fun q => by rw [h] at q; cases q)
theorem Wp.ifF {cd : ClassFile.Cond} {o : Int} {t : Nat} {a : Int32} {r : List Value} (hd : decode code pc = .ok (.ifCond cd o, 3)) (hj : jump pc o = some t) (h : if_icmp.holds cd a 0 = false) (k : Wp W ro F Lb y code ret (pc + 3) ls r M Q) : Wp W ro F Lb y code ret pc ls (.int a :: r) M Q :=
  Wp.if0 hd hj (fun q => by rw [h] at q; cases q) (fun _ => k)
theorem Wp.idiv {a b : Int32} {r : List Value} (hd : decode code pc = .ok (.idiv, 1)) (hb : ¬ b = 0) (k : Wp W ro F Lb y code ret (pc + 1) ls (.int (a / b) :: r) M Q) : Wp W ro F Lb y code ret pc ls (.int b :: .int a :: r) M Q :=
  Wp.p hd rfl (by simp only [execP]; rw [if_neg hb]) k
theorem Wp.irem {a b : Int32} {r : List Value} (hd : decode code pc = .ok (.irem, 1)) (hb : ¬ b = 0) (k : Wp W ro F Lb y code ret (pc + 1) ls (.int (a - (a / b) * b) :: r) M Q) : Wp W ro F Lb y code ret pc ls (.int b :: .int a :: r) M Q :=
  Wp.p hd rfl (by simp only [execP]; rw [if_neg hb]) k
theorem Wp.ldiv {a b : Int64} {r : List Value} (hd : decode code pc = .ok (.ldiv, 1)) (hb : ¬ b = 0) (k : Wp W ro F Lb y code ret (pc + 1) ls (.long (a / b) :: r) M Q) : Wp W ro F Lb y code ret pc ls (.long b :: .long a :: r) M Q :=
  Wp.p hd rfl (by simp only [execP]; rw [if_neg hb]) k
theorem Wp.lrem {a b : Int64} {r : List Value} (hd : decode code pc = .ok (.lrem, 1)) (hb : ¬ b = 0) (k : Wp W ro F Lb y code ret (pc + 1) ls (.long (a - (a / b) * b) :: r) M Q) : Wp W ro F Lb y code ret pc ls (.long b :: .long a :: r) M Q :=
  Wp.p hd rfl (by simp only [execP]; rw [if_neg hb]) k
theorem storeL_one {l l' : List Slot} {i : Nat} {o : Slot} {v : Value} (h : l[i]? = some o) (ho : One o) (hv : v.category = 1) (hs : setL l i (.val v) = some l') : storeL l i v = some l' := by
  unfold storeL
  rw [h]
  have e : storeSelfL l i v = some l' := by
    unfold storeSelfL
    rw [hs]
    simp [hv]
  rcases ho with rfl | ⟨w, rfl, hw⟩
  · exact e
  · simp [hw, e]
theorem Wp.istoreO {ins : Instr} {i len : Nat} {o : Slot} {x : Int32} {l' : List Slot} {r : List Value} (hd : decode code pc = .ok (ins, len)) (hi : (ins = .istore i ∧ len = 2) ∨ (∃ n : Fin 4, ins = .istore_n n ∧ n.val = i ∧ len = 1)) (h : ls[i]? = some o) (ho : One o) (hs : setL ls i (.val (.int x)) = some l') (k : Wp W ro F Lb y code ret (pc + len) l' r M Q) : Wp W ro F Lb y code ret pc ls (.int x :: r) M Q := by
  rcases hi with ⟨rfl, rfl⟩ | ⟨n, rfl, rfl, rfl⟩
  · exact Wp.p hd rfl (by simp only [execP, storeL_one h ho (v := .int x) rfl hs]) k
  · exact Wp.p hd rfl (by simp only [execP, storeL_one h ho (v := .int x) rfl hs]) k
def OneJ (a b : Slot) : Prop := (a = .unset ∧ b = .unset) ∨ (∃ w, a = .val (.long w) ∧ b = .second)
theorem storeL_oneJ {l l1 l2 : List Slot} {i : Nat} {a b : Slot} {x : Int64} (h : l[i]? = some a) (h' : l[i + 1]? = some b) (ho : OneJ a b) (h1 : setL l i (.val (.long x)) = some l1) (h2 : setL l1 (i + 1) .second = some l2) : storeL l i (.long x) = some l2 := by
  obtain ⟨hi, rfl⟩ := setL_some h1
  obtain ⟨hi2, rfl⟩ := setL_some h2
  have hlen : i + 1 < l.length := by simpa using hi2
  have set_ok : ∀ (l : List Slot) (j : Nat) (y : Slot), j < l.length → setL l j y = some (l.set j y) := fun l => by
    induction l with
    | nil => intro j y hj; simp at hj
    | cons q t ih =>
      intro j y hj
      cases j with
      | zero => rfl
      | succ j => simp only [setL, ih j y (by simpa using hj), List.set_cons_succ]
  rcases ho with ⟨rfl, rfl⟩ | ⟨w, rfl, rfl⟩
  · have e : (l.set i (.val (.long x)))[i + 1]? = some .unset := by rw [List.getElem?_set_ne (by omega)]; exact h'
    simp only [storeL, h, storeSelfL, h1, Value.category, if_true, e]
    exact h2
  · have e0 : setL l (i + 1) .unset = some (l.set (i + 1) .unset) := set_ok _ _ _ hlen
    have e1 : setL (l.set (i + 1) .unset) i (.val (.long x)) = some ((l.set (i + 1) .unset).set i (.val (.long x))) := set_ok _ _ _ (by simpa using hi)
    have e2 : ((l.set (i + 1) .unset).set i (.val (.long x)))[i + 1]? = some .unset := by rw [List.getElem?_set_ne (by omega)]; simp [hlen]
    have e3 : setL ((l.set (i + 1) .unset).set i (.val (.long x))) (i + 1) .second = some (((l.set (i + 1) .unset).set i (.val (.long x))).set (i + 1) .second) := set_ok _ _ _ (by simpa using hlen)
    simp only [storeL, h, storeSelfL, Value.category, if_true, e0, e1, e2, e3]
    congr 1
    apply List.ext_getElem?
    intro j
    by_cases q1 : j = i + 1
    · subst q1; simp [hlen]
    · by_cases q2 : j = i
      · subst q2
        have z1 : (((l.set (j + 1) Slot.unset).set j (.val (.long x))).set (j + 1) .second)[j]? = some (.val (.long x)) := by
          rw [List.getElem?_set_ne (by omega)]; exact List.getElem?_set_self (by simpa using hi)
        have z2 : ((l.set j (Slot.val (.long x))).set (j + 1) .second)[j]? = some (.val (.long x)) := by
          rw [List.getElem?_set_ne (by omega)]; exact List.getElem?_set_self hi
        rw [z1, z2]
      · rw [List.getElem?_set_ne (by omega), List.getElem?_set_ne (by omega), List.getElem?_set_ne (by omega), List.getElem?_set_ne (by omega), List.getElem?_set_ne (by omega)]
theorem Wp.lstoreO {ins : Instr} {i len : Nat} {a b : Slot} {x : Int64} {l1 l2 : List Slot} {r : List Value} (hd : decode code pc = .ok (ins, len)) (hi : (ins = .lstore i ∧ len = 2) ∨ (∃ n : Fin 4, ins = .lstore_n n ∧ n.val = i ∧ len = 1)) (h : ls[i]? = some a) (h' : ls[i + 1]? = some b) (ho : OneJ a b) (h1 : setL ls i (.val (.long x)) = some l1) (h2 : setL l1 (i + 1) .second = some l2) (k : Wp W ro F Lb y code ret (pc + len) l2 r M Q) : Wp W ro F Lb y code ret pc ls (.long x :: r) M Q := by
  rcases hi with ⟨rfl, rfl⟩ | ⟨n, rfl, rfl, rfl⟩
  · exact Wp.p hd rfl (by simp only [execP, storeL_oneJ h h' ho h1 h2]) k
  · exact Wp.p hd rfl (by simp only [execP, storeL_oneJ h h' ho h1 h2]) k
theorem Wp.tswD {dflt low high : Int} {offs : Array Int} {len t : Nat} {i : Int32} {r : List Value} (hd : decode code pc = .ok (.tableswitch dflt low high offs, len)) (hout : i.toInt < low ∨ i.toInt > high) (hj : jump pc dflt = some t) (k : Wp W ro F Lb y code ret t ls r M Q) : Wp W ro F Lb y code ret pc ls (.int i :: r) M Q :=
  Wp.p hd rfl (by simp only [execP]; rw [if_pos hout, hj]) k
theorem Wp.retV (hd : decode code pc = .ok (.return_, 1)) (q : Q none M) : Wp W ro F Lb y code none pc ls [] M Q := Wp.r hd rfl rfl rfl q
theorem Wp.retI {x : Int32} (hd : decode code pc = .ok (.ireturn, 1)) (q : Q (some (.int x)) M) : Wp W ro F Lb y code (some .int) pc ls [.int x] M Q := Wp.r hd rfl rfl rfl q
theorem Wp.retJ {x : Int64} (hd : decode code pc = .ok (.lreturn, 1)) (q : Q (some (.long x)) M) : Wp W ro F Lb y code (some .long) pc ls [.long x] M Q := Wp.r hd rfl rfl rfl q
theorem Wp.retZ {x : Int32} (v : Int32) (hd : decode code pc = .ok (.ireturn, 1)) (hv : x &&& 1 = v) (q : Q (some (.int v)) M) : Wp W ro F Lb y code (some .boolean) pc ls [.int x] M Q := by
  subst hv; exact Wp.r hd rfl rfl rfl q
end Rules
end Jvm.OwnEv
namespace Jvm.OwnEv
open Sem ClassFile Op Lib Jvm.Stand Jvm.Free Jvm.LawKit Jvm.RoadKit
/-! PART 7: from a law's run to its claim -/
theorem law_run {l : Launch} {W : List Jvm.Cond} {x : MethodName} {code : ByteArray} {maxL : Nat} {ret : Option FieldType} {R : Room} {as : List Value} {s : State} {a0 : Array Value} (hw : ∀ d ∈ W, d.before a0 s = true) {ro : Nat} {M0 : EMem} {ρ : Nat → Addr} (hρ : ∀ a b, ρ a = ρ b → a = b) (hρn : ∀ a, ro ≤ a → ρ a = s.heap.size + (a - ro))
    (Rl : Rel s W ρ ro s.heap.size s.heap M0) (hp : plainName x.cls = true) (hfl : (fillL as).length ≤ maxL)
    (h : Wp W ro R.frames R.locals x code ret 0 (entryL as maxL) [] M0 fun v M' => v = some (.int 1) ∧ M'.1.length - M0.1.length ≤ R.cells ∧ szL M'.1 - szL M0.1 ≤ R.slots) (ws : List Jvm.Cond) :
    MetFree l x (head1 (Jvm.Cond.code x code maxL ret :: ws) R) (fun a U => a = (as.map (conc ρ)).toArray ∧ s.Warmed39 U.vm ∧ U.heap = s.heap) (fun _ _ _ _ _ => True)
      (fun _ U o U' => ∃ v' L, o = .returned v' ∧ (v' = some (.int 1) ∧ Fr s.heap.size L) ∧ FrameEnd U o U' L R.cells R.slots) := by
  obtain ⟨n, v, M', h1, rfl, h3, h4⟩ := h
  have M1 := met_of (run_good (l := l) hw hρ hρn n) h1 hfl hp Rl (R := R) (Nat.le_refl _) (Nat.le_refl _) h3 h4 ws
  intro p e ha hc hk s' m args below hf happ hP hK
  obtain ⟨n', o, q1, q2, q3, v', L, q4, ⟨q5, q6, q7⟩, q8⟩ := M1 p e ha hc hk s' m args below hf happ hP hK
  exact ⟨n', o, q1, q2, q3, v', L, q4, ⟨q5, q7⟩, q8.1, q8.2.1, q8.2.2.mono h3 h4⟩
/-- the memory ahead of a law of ints -/
abbrev mem0 : EMem := ([], fun _ _ => 0, fun _ _ => 0, fun _ _ => .null)
theorem rel0 (s : State) (W : List Jvm.Cond) : Rel s W (fun a => s.heap.size + a) 0 s.heap.size s.heap mem0 :=
  ⟨rfl, Nat.le_refl _, fun a c h => by simp at h, fun _ _ _ => ⟨rfl, rfl, rfl⟩⟩
/-- the memory ahead of a law that is handed an array of ints -/
abbrev mem1 (n : Nat) (f : Nat → Int32) : EMem := ([(1, "", n)], fun a k => if a = 0 then f k else 0, fun _ _ => 0, fun _ _ => .null)
def rho1 (sa n0 : Nat) : Nat → Nat := fun a => if a = 0 then sa else n0 + (a - 1)
theorem rho1_inj {sa n0 : Nat} (h : sa < n0) (a b : Nat) (e : rho1 sa n0 a = rho1 sa n0 b) : a = b := by
  unfold rho1 at e
  split at e <;> split at e <;> omega
theorem rho1_n {sa n0 : Nat} (a : Nat) (h : 1 ≤ a) : rho1 sa n0 a = n0 + (a - 1) := by
  unfold rho1
  rw [if_neg (by omega)]
theorem rel1 {s : State} (W : List Jvm.Cond) {sa : Addr} {c : Cell} {f : Nat → Int32} (A : Arr s s.heap sa c .int) (hf : ∀ k, k < c.slots.size → c.slots[k]? = some (.int (f k))) : Rel s W (rho1 sa s.heap.size) 1 s.heap.size s.heap (mem1 c.slots.size f) := by
  refine ⟨rfl, Nat.le_refl _, fun a cc h => ?_, fun a h k => ⟨?_, rfl, rfl⟩⟩
  · cases a with
    | zero =>
      simp at h
      subst h
      exact ⟨fun q => (by cases q), fun _ => ⟨c, A, rfl, fun k hk => by simpa using hf k hk⟩, fun q => (by cases q), fun q => (by cases q)⟩
    | succ a => simp at h
  · have h' : 1 ≤ a := h
    exact if_neg (by omega)
theorem script_start {s : State} {a : Addr} {c : Cell} (hf : Fit s) (A : Arr s s.heap a c .int) (hn : c.slots.size < 2 ^ 31) : ∃ f : Nat → Int32, ∀ k, k < c.slots.size → c.slots[k]? = some (.int (f k)) := by
  refine ⟨fun k => atv c k.toInt32, fun k hk => ?_⟩
  obtain ⟨n, -, S⟩ := Scr.start hf A hn
  have h1 := idx_in hk hn
  have e : k.toInt32.toNatClampNeg = k := by
    have q : k.toInt32.toInt = k := len_toInt (by omega)
    simp only [Int32.toNatClampNeg, q]; rfl
  have h2 := S.2.2.2 k.toInt32 h1
  rw [e] at h2
  exact h2
theorem script_len {s : State} {a : Addr} {c : Cell} (A : Arr s s.heap a c .int) (h : (Jvm.Cond.le (Term.length (Term.arg 0)) (Term.int 260)).value #[Value.ref a] s none s [] = some true) : c.slots.size ≤ 260 := by
  have e := A.fin (Vm.Alike.refl _)
  by_cases hn : c.slots.size < 2 ^ 31
  · have el : (Term.length (Term.arg 0)).eval #[Value.ref a] s none [] s = some (.int c.slots.size.toInt32) := by
      simp [Term.eval, e, hn]
    have q := gotT (Cond.le_ints el (Term.int_eval 260)) h
    rw [Int32.le_iff_toInt_le, len_toInt hn] at q
    simp at q
    omega
  · have el : (Term.length (Term.arg 0)).eval #[Value.ref a] s none [] s = none := by
      simp [Term.eval, e, hn]
    simp [Cond.value, el] at h
end Jvm.OwnEv
namespace Jvm.OwnEv
open Sem ClassFile Op Lib Jvm.Stand Jvm.Free Jvm.LawKit Jvm.RoadKit
/-! PART 8: small facts on words and ints -/
theorem codeLk_at {y : MethodName} {b : ByteArray} {n : Nat} {r : Option FieldType} : ∀ {W : List Jvm.Cond} {i : Nat}, W[i]? = some (.code y b n r) → codeLk y (W.take i) = none → codeLk y W = some (b, n, r)
  | [], i, h, _ => by simp at h
  | w :: t, 0, h, _ => by
    simp at h
    subst h
    have : meq y y = true := by simp [meq]
    simp [codeLk, this]
  | w :: t, i + 1, h, h2 => by
    rw [List.getElem?_cons_succ] at h
    rw [List.take_succ_cons] at h2
    have key : codeLk y (t.take i) = none ∧ codeLk y (w :: t) = codeLk y t := by
      unfold codeLk at h2
      split at h2
      · rename_i heq; cases heq
      · rename_i heq
        cases heq
        split at h2
        · cases h2
        · rename_i hm
          exact ⟨h2, by rw [codeLk, if_neg hm]⟩
      · rename_i hno heq
        cases heq
        refine ⟨h2, ?_⟩
        rw [codeLk]
        exact hno
    rw [key.2]
    exact codeLk_at h key.1
theorem callAt_of {W : List Jvm.Cond} {own : String} {idx kd : Nat} {z : MethodName} {b : ByteArray} {n na : Nat} {r : Option FieldType} {sig : MethodDescriptor} (hm : methodLk own idx W = some z) (hc : codeLk z W = some (b, n, r)) (hp : parseMethodDescriptor z.desc = some sig)
    (h : hasInit z.cls W = true ∧ plainName z.cls = true ∧ z.cls ≠ "java/lang/invoke/MethodHandle" ∧ z.cls ≠ "java/lang/invoke/VarHandle" ∧ ((kd = 0 ∧ hasDecl z W = true ∧ hasSel z W = true ∧ hasInst z W = true) ∨ (kd = 1 ∧ hasPriv z W = true ∧ hasInst z W = true ∧ (instLk z.cls W).isSome = true) ∨ (kd = 2 ∧ z.name = "<init>" ∧ hasInst z W = true ∧ r = none) ∨ (kd = 3 ∧ hasStat z W = true)))
    (hn : sig.parameters.length = na) : callAt W own idx kd = some (z, na, b, n, r) := by
  subst hn
  unfold callAt
  rw [hm]
  simp only
  rw [hc, hp]
  simp only
  rw [if_pos h]
theorem callAt_pub {W : List Jvm.Cond} {own : String} {idx : Nat} {z : MethodName} (hm : methodLk own idx W = some z) (hp : hasPriv z W = false) : callAt W own idx 1 = none := by
  unfold callAt
  rw [hm]
  simp only
  split
  · rw [if_neg]
    rintro ⟨-, -, -, -, h⟩
    rcases h with h | h | h | h
    · cases h.1
    · rw [hp] at h; cases h.2.1
    · cases h.1
    · cases h.1
  · rfl
theorem inb_iff {j : Int32} {n : Nat} : inb j n = true ↔ 0 ≤ j.toInt ∧ j.toInt < n := by
  simp only [inb, Bool.and_eq_true, decide_eq_true_eq, Int32.lt_iff_toInt_lt, Int32.toNatClampNeg, Int32.reduceToInt]
  omega
theorem inb_of {j : Int32} {n : Nat} (h : 0 ≤ j.toInt ∧ j.toInt < n) : inb j n = true := inb_iff.mpr h
theorem inb_lt {j : Int32} {n : Nat} (m : Int32) (h1 : ¬ j < 0) (h2 : j < m) (hm : m.toInt = n) : inb j n = true := by
  rw [inb_iff]
  rw [Int32.lt_iff_toInt_lt] at h1 h2
  simp at h1
  omega
theorem clamp_inj {a b : Int32} (ha : ¬ a < 0) (hb : ¬ b < 0) (h : a.toNatClampNeg = b.toNatClampNeg) : a = b := by
  rw [Int32.lt_iff_toInt_lt] at ha hb
  simp at ha hb
  simp only [Int32.toNatClampNeg] at h
  apply Int32.toInt_inj.mp
  omega
theorem clamp_lt {j : Int32} {n : Nat} (m : Int32) (h1 : ¬ j < 0) (h2 : j < m) (hm : m.toInt = n) : j.toNatClampNeg < n := by
  rw [Int32.lt_iff_toInt_lt] at h1 h2
  simp at h1
  simp only [Int32.toNatClampNeg]
  omega
theorem up_at {α : Type} (f : Nat → Nat → α) (a k : Nat) (v : α) (x y : Nat) : up f a k v x y = if x = a ∧ y = k then v else f x y := rfl
theorem succ_int {x n : Int32} (h : x < n) : (x + 1).toInt = x.toInt + 1 := by
  rw [Int32.lt_iff_toInt_lt] at h
  have h1 := c_iadd x 1
  have h2 := rng32 (x + 1)
  have h3 := rng32 x
  have h4 := rng32 n
  have h5 : (1 : Int32).toInt = 1 := by decide
  omega
theorem succ_nn {x n : Int32} (hx : ¬ x < 0) (h : x < n) : ¬ x + 1 < 0 := by
  have hs := succ_int h
  rw [Int32.lt_iff_toInt_lt] at hx ⊢
  have z : (0 : Int32).toInt = 0 := by decide
  rw [z] at hx ⊢
  omega
theorem succ_dec {x n : Int32} (h : x < n) : (n.toInt - (x + 1).toInt).toNat < (n.toInt - x.toInt).toNat := by
  have hs := succ_int h
  rw [Int32.lt_iff_toInt_lt] at h
  omega
theorem lt_of_succ {a x n : Int32} (h : x < n) (h2 : a < x + 1) (q : ¬ a = x) : a < x := by
  have hs := succ_int h
  rw [Int32.lt_iff_toInt_lt] at h2 ⊢
  have : a.toInt ≠ x.toInt := fun z => q (Int32.toInt_inj.mp z)
  omega
theorem pred_int {x : Int32} (hx : ¬ x < 0) : (x + -1).toInt = x.toInt - 1 := by
  have h1 := c_iadd x (-1)
  have h2 := rng32 (x + -1)
  have h3 := rng32 x
  have h5 : (-1 : Int32).toInt = -1 := by decide
  have z : (0 : Int32).toInt = 0 := by decide
  rw [Int32.lt_iff_toInt_lt, z] at hx
  omega
theorem mul_int {a b : Int32} (h1 : -2147483648 ≤ a.toInt * b.toInt) (h2 : a.toInt * b.toInt < 2147483648) : (a * b).toInt = a.toInt * b.toInt := by
  have h3 := c_imul a b
  have h4 := rng32 (a * b)
  generalize a.toInt * b.toInt = p at *
  omega
theorem add_int {a b : Int32} (h1 : -2147483648 ≤ a.toInt + b.toInt) (h2 : a.toInt + b.toInt < 2147483648) : (a + b).toInt = a.toInt + b.toInt := by
  have h3 := c_iadd a b
  have h4 := rng32 (a + b)
  omega
theorem sub_int {a b : Int32} (h1 : -2147483648 ≤ a.toInt - b.toInt) (h2 : a.toInt - b.toInt < 2147483648) : (a - b).toInt = a.toInt - b.toInt := by
  have h3 := c_isub a b
  have h4 := rng32 (a - b)
  omega
theorem nn_int {a : Int32} (h : ¬ a < 0) : 0 ≤ a.toInt := by
  rw [Int32.lt_iff_toInt_lt] at h
  have z : (0 : Int32).toInt = 0 := by decide
  rw [z] at h; omega
theorem lt_int {a b : Int32} (h : a < b) : a.toInt < b.toInt := Int32.lt_iff_toInt_lt.mp h
theorem ge_int {a b : Int32} (h : ¬ a < b) : b.toInt ≤ a.toInt := by rw [Int32.lt_iff_toInt_lt] at h; omega
/-- a place of a table of rows -/
theorem idx2 {x y w h : Int32} (hx : ¬ x < 0) (hxw : x < w) (hy : ¬ y < 0) (hyh : y < h) (hw : ¬ 16 < w) (hh : ¬ 16 < h) : (y * w + x).toInt = y.toInt * w.toInt + x.toInt ∧ 0 ≤ y.toInt * w.toInt + x.toInt ∧ y.toInt * w.toInt + x.toInt < 256 ∧ y.toInt * w.toInt + x.toInt < h.toInt * w.toInt := by
  have a1 := nn_int hx
  have a2 := nn_int hy
  have a3 := lt_int hxw
  have a4 := lt_int hyh
  have a5 := ge_int hw
  have a6 := ge_int hh
  have c16 : (16 : Int32).toInt = 16 := by decide
  rw [c16] at a5 a6
  have m1 : 0 ≤ y.toInt * w.toInt := Int.mul_nonneg a2 (by omega)
  have m2 : (y.toInt + 1) * w.toInt ≤ h.toInt * w.toInt := Int.mul_le_mul_of_nonneg_right (by omega) (by omega)
  have m3 : h.toInt * w.toInt ≤ 16 * w.toInt := Int.mul_le_mul_of_nonneg_right (by omega) (by omega)
  rw [Int.add_mul] at m2
  have e1 : (y * w).toInt = y.toInt * w.toInt := mul_int (by omega) (by omega)
  have e2 : (y * w + x).toInt = (y * w).toInt + x.toInt := add_int (by rw [e1]; omega) (by rw [e1]; omega)
  rw [e2, e1]
  exact ⟨rfl, by omega, by omega, by omega⟩
theorem and1 {z : Int32} (h : z = 0 ∨ z = 1) : z &&& 1 = z := by rcases h with rfl | rfl <;> decide
end Jvm.OwnEv
namespace Jvm.Pilot.@@N@@
open Jvm Jvm.ClassFile Sem Op Lib Jvm.Free Jvm.Stand Jvm.LawKit Jvm.RoadKit Jvm.OwnEv Bundle Jvm.Pilot.@@N@@.Jvm.D
abbrev RR1 : Nat → Nat → Value := (up (up (up (up (up (up (up (up (up (up (up (up (up (up (up (up (fun _ _ => Value.null) 0 33 (.ref 1)) 0 35 (.ref 2)) 0 37 (.ref 3)) 0 39 (.ref 4)) 0 41 (.ref 5)) 0 43 (.ref 6)) 0 45 (.ref 7)) 0 47 (.ref 8)) 0 49 (.ref 9)) 0 52 (.ref 10)) 0 54 (.ref 11)) 0 56 (.ref 12)) 0 58 (.ref 13)) 0 60 (.ref 14)) 0 62 (.ref 15)) 0 64 (.ref 16))
abbrev LL1 : ELay := [(0, "HittingMaxSat", 50), (1, "", 256), (1, "", 32), (1, "", 32), (1, "", 8), (1, "", 13), (1, "", 13), (1, "", 13), (1, "", 14), (1, "", 14), (3, "", 14), (1, "", 128), (1, "", 33), (1, "", 33), (1, "", 33), (1, "", 33), (1, "", 33)]
abbrev QL : Option Value → EMem → Prop := fun v M' => v = some (.int 1) ∧ M'.1.length - 0 ≤ room_1.cells ∧ szL M'.1 - 0 ≤ room_1.slots
theorem ql1 {mi : Nat → Nat → Int32} {ml : Nat → Nat → Int64} {v : Int32} (h : v = 1) : QL (some (.int v)) (LL1, mi, ml, RR1) := ⟨by rw [h], by show LL1.length - 0 ≤ room_1.cells; decide, by show szL LL1 - 0 ≤ room_1.slots; decide⟩
theorem d_clamp_0 : decode prog_1_method_18_code 0 = .ok (.iload_n 1, 1) := by decide +kernel
theorem d_clamp_1 : decode prog_1_method_18_code 1 = .ok (.iload_n 2, 1) := by decide +kernel
theorem d_clamp_2 : decode prog_1_method_18_code 2 = .ok (.if_icmp .ge 5, 3) := by decide +kernel
theorem d_clamp_7 : decode prog_1_method_18_code 7 = .ok (.iload_n 1, 1) := by decide +kernel
theorem d_clamp_8 : decode prog_1_method_18_code 8 = .ok (.iload_n 3, 1) := by decide +kernel
theorem d_clamp_14 : decode prog_1_method_18_code 14 = .ok (.iload_n 1, 1) := by decide +kernel
theorem d_clamp_15 : decode prog_1_method_18_code 15 = .ok (.ireturn, 1) := by decide +kernel
theorem d_clamp_12 : decode prog_1_method_18_code 12 = .ok (.iload_n 3, 1) := by decide +kernel
theorem d_clamp_13 : decode prog_1_method_18_code 13 = .ok (.ireturn, 1) := by decide +kernel
theorem d_clamp_9 : decode prog_1_method_18_code 9 = .ok (.if_icmp .le 5, 3) := by decide +kernel
theorem d_clamp_5 : decode prog_1_method_18_code 5 = .ok (.iload_n 2, 1) := by decide +kernel
theorem d_clamp_6 : decode prog_1_method_18_code 6 = .ok (.ireturn, 1) := by decide +kernel
abbrev W_clamp (pc : Nat) (ls : List Slot) (st : List Value) (M : EMem) (Q : Option Value → EMem → Prop) : Prop := Wp tables_1 0 0 0 (⟨"HittingMaxSat", "clamp", "(III)I"⟩ : MethodName) prog_1_method_18_code (some .int) pc ls st M Q
theorem d_markUnsolved_0 : decode prog_1_method_24_code 0 = .ok (.aload_n 0, 1) := by decide +kernel
theorem d_markUnsolved_1 : decode prog_1_method_24_code 1 = .ok (.iconst 0, 1) := by decide +kernel
theorem d_markUnsolved_2 : decode prog_1_method_24_code 2 = .ok (.putfield 132, 3) := by decide +kernel
theorem fa_c132 : fieldAt tables_1 "HittingMaxSat" 132 = some ("HittingMaxSat", 82, 1, false) := by decide +kernel
theorem in_HittingMaxSat : instLk "HittingMaxSat" tables_1 = some 50 := by decide +kernel
theorem d_markUnsolved_5 : decode prog_1_method_24_code 5 = .ok (.aload_n 0, 1) := by decide +kernel
theorem d_markUnsolved_6 : decode prog_1_method_24_code 6 = .ok (.iconst (-1), 1) := by decide +kernel
theorem d_markUnsolved_7 : decode prog_1_method_24_code 7 = .ok (.putfield 135, 3) := by decide +kernel
theorem fa_c135 : fieldAt tables_1 "HittingMaxSat" 135 = some ("HittingMaxSat", 84, 1, false) := by decide +kernel
theorem d_markUnsolved_10 : decode prog_1_method_24_code 10 = .ok (.aload_n 0, 1) := by decide +kernel
theorem d_markUnsolved_11 : decode prog_1_method_24_code 11 = .ok (.iconst (-1), 1) := by decide +kernel
theorem d_markUnsolved_12 : decode prog_1_method_24_code 12 = .ok (.putfield 138, 3) := by decide +kernel
theorem fa_c138 : fieldAt tables_1 "HittingMaxSat" 138 = some ("HittingMaxSat", 86, 1, false) := by decide +kernel
theorem d_markUnsolved_15 : decode prog_1_method_24_code 15 = .ok (.return_, 1) := by decide +kernel
abbrev W_markUnsolved (pc : Nat) (ls : List Slot) (st : List Value) (M : EMem) (Q : Option Value → EMem → Prop) : Prop := Wp tables_1 0 0 0 (⟨"HittingMaxSat", "markUnsolved", "()V"⟩ : MethodName) prog_1_method_24_code none pc ls st M Q
theorem d_literalInRange_0 : decode prog_1_method_20_code 0 = .ok (.iload_n 1, 1) := by decide +kernel
theorem d_literalInRange_1 : decode prog_1_method_20_code 1 = .ok (.ifCond .ne 5, 3) := by decide +kernel
theorem d_literalInRange_6 : decode prog_1_method_20_code 6 = .ok (.iload_n 1, 1) := by decide +kernel
theorem d_literalInRange_7 : decode prog_1_method_20_code 7 = .ok (.aload_n 0, 1) := by decide +kernel
theorem d_literalInRange_8 : decode prog_1_method_20_code 8 = .ok (.getfield 96, 3) := by decide +kernel
theorem fa_c96 : fieldAt tables_1 "HittingMaxSat" 96 = some ("HittingMaxSat", 70, 1, false) := by decide +kernel
theorem d_literalInRange_11 : decode prog_1_method_20_code 11 = .ok (.ineg, 1) := by decide +kernel
theorem d_literalInRange_27 : decode prog_1_method_20_code 27 = .ok (.iconst 0, 1) := by decide +kernel
theorem d_literalInRange_28 : decode prog_1_method_20_code 28 = .ok (.ireturn, 1) := by decide +kernel
theorem d_literalInRange_15 : decode prog_1_method_20_code 15 = .ok (.iload_n 1, 1) := by decide +kernel
theorem d_literalInRange_16 : decode prog_1_method_20_code 16 = .ok (.aload_n 0, 1) := by decide +kernel
theorem d_literalInRange_17 : decode prog_1_method_20_code 17 = .ok (.getfield 96, 3) := by decide +kernel
theorem d_literalInRange_23 : decode prog_1_method_20_code 23 = .ok (.iconst 1, 1) := by decide +kernel
theorem d_literalInRange_24 : decode prog_1_method_20_code 24 = .ok (.goto 4, 3) := by decide +kernel
theorem d_literalInRange_20 : decode prog_1_method_20_code 20 = .ok (.if_icmp .gt 7, 3) := by decide +kernel
theorem d_literalInRange_12 : decode prog_1_method_20_code 12 = .ok (.if_icmp .lt 15, 3) := by decide +kernel
theorem d_literalInRange_4 : decode prog_1_method_20_code 4 = .ok (.iconst 0, 1) := by decide +kernel
theorem d_literalInRange_5 : decode prog_1_method_20_code 5 = .ok (.ireturn, 1) := by decide +kernel
abbrev W_literalInRange (pc : Nat) (ls : List Slot) (st : List Value) (M : EMem) (Q : Option Value → EMem → Prop) : Prop := Wp tables_1 0 0 0 (⟨"HittingMaxSat", "literalInRange", "(I)Z"⟩ : MethodName) prog_1_method_20_code (some .boolean) pc ls st M Q
theorem d_law_in_0 : decode method_2_code 0 = .ok (.iload_n 0, 1) := by decide +kernel
theorem d_law_in_1 : decode method_2_code 1 = .ok (.ifCond .eq 18, 3) := by decide +kernel
theorem d_law_in_19 : decode method_2_code 19 = .ok (.iconst 0, 1) := by decide +kernel
theorem d_law_in_4 : decode method_2_code 4 = .ok (.iload_n 0, 1) := by decide +kernel
theorem d_law_in_5 : decode method_2_code 5 = .ok (.iload_n 1, 1) := by decide +kernel
theorem d_law_in_6 : decode method_2_code 6 = .ok (.ineg, 1) := by decide +kernel
theorem d_law_in_10 : decode method_2_code 10 = .ok (.iload_n 0, 1) := by decide +kernel
theorem d_law_in_11 : decode method_2_code 11 = .ok (.iload_n 1, 1) := by decide +kernel
theorem d_law_in_15 : decode method_2_code 15 = .ok (.iconst 1, 1) := by decide +kernel
theorem d_law_in_16 : decode method_2_code 16 = .ok (.goto 4, 3) := by decide +kernel
theorem d_law_in_12 : decode method_2_code 12 = .ok (.if_icmp .gt 7, 3) := by decide +kernel
theorem d_law_in_7 : decode method_2_code 7 = .ok (.if_icmp .lt 12, 3) := by decide +kernel
abbrev W_law_in (pc : Nat) (ls : List Slot) (st : List Value) (M : EMem) (Q : Option Value → EMem → Prop) : Prop := Wp tables_1 0 0 0 (⟨"HittingMaxSatL2", "in", "(II)Z"⟩ : MethodName) method_2_code (some .boolean) pc ls st M Q
theorem d_law_in_20 : decode method_2_code 20 = .ok (.ireturn, 1) := by decide +kernel
theorem d_getPendingLength_0 : decode prog_1_method_17_code 0 = .ok (.aload_n 0, 1) := by decide +kernel
theorem d_getPendingLength_1 : decode prog_1_method_17_code 1 = .ok (.getfield 105, 3) := by decide +kernel
theorem fa_c105 : fieldAt tables_1 "HittingMaxSat" 105 = some ("HittingMaxSat", 76, 1, false) := by decide +kernel
theorem d_getPendingLength_4 : decode prog_1_method_17_code 4 = .ok (.ireturn, 1) := by decide +kernel
abbrev W_getPendingLength (pc : Nat) (ls : List Slot) (st : List Value) (M : EMem) (Q : Option Value → EMem → Prop) : Prop := Wp tables_1 0 0 0 (⟨"HittingMaxSat", "getPendingLength", "()I"⟩ : MethodName) prog_1_method_17_code (some .int) pc ls st M Q
theorem d_getStatus_0 : decode prog_1_method_8_code 0 = .ok (.aload_n 0, 1) := by decide +kernel
theorem d_getStatus_1 : decode prog_1_method_8_code 1 = .ok (.getfield 132, 3) := by decide +kernel
theorem d_getStatus_4 : decode prog_1_method_8_code 4 = .ok (.ireturn, 1) := by decide +kernel
abbrev W_getStatus (pc : Nat) (ls : List Slot) (st : List Value) (M : EMem) (Q : Option Value → EMem → Prop) : Prop := Wp tables_1 0 0 0 (⟨"HittingMaxSat", "getStatus", "()I"⟩ : MethodName) prog_1_method_8_code (some .int) pc ls st M Q
theorem d_getClauseCount_0 : decode prog_1_method_13_code 0 = .ok (.aload_n 0, 1) := by decide +kernel
theorem d_getClauseCount_1 : decode prog_1_method_13_code 1 = .ok (.getfield 102, 3) := by decide +kernel
theorem fa_c102 : fieldAt tables_1 "HittingMaxSat" 102 = some ("HittingMaxSat", 74, 1, false) := by decide +kernel
theorem d_getClauseCount_4 : decode prog_1_method_13_code 4 = .ok (.ireturn, 1) := by decide +kernel
abbrev W_getClauseCount (pc : Nat) (ls : List Slot) (st : List Value) (M : EMem) (Q : Option Value → EMem → Prop) : Prop := Wp tables_1 0 0 0 (⟨"HittingMaxSat", "getClauseCount", "()I"⟩ : MethodName) prog_1_method_13_code (some .int) pc ls st M Q
theorem d_clauseIndexValid_0 : decode prog_1_method_22_code 0 = .ok (.iload_n 1, 1) := by decide +kernel
theorem d_clauseIndexValid_1 : decode prog_1_method_22_code 1 = .ok (.ifCond .lt 21, 3) := by decide +kernel
theorem d_clauseIndexValid_22 : decode prog_1_method_22_code 22 = .ok (.iconst 0, 1) := by decide +kernel
theorem d_clauseIndexValid_4 : decode prog_1_method_22_code 4 = .ok (.iload_n 1, 1) := by decide +kernel
theorem d_clauseIndexValid_5 : decode prog_1_method_22_code 5 = .ok (.aload_n 0, 1) := by decide +kernel
theorem d_clauseIndexValid_6 : decode prog_1_method_22_code 6 = .ok (.getfield 102, 3) := by decide +kernel
theorem d_clauseIndexValid_12 : decode prog_1_method_22_code 12 = .ok (.iload_n 1, 1) := by decide +kernel
theorem d_clauseIndexValid_13 : decode prog_1_method_22_code 13 = .ok (.bipush 32, 2) := by decide +kernel
theorem d_clauseIndexValid_18 : decode prog_1_method_22_code 18 = .ok (.iconst 1, 1) := by decide +kernel
theorem d_clauseIndexValid_19 : decode prog_1_method_22_code 19 = .ok (.goto 4, 3) := by decide +kernel
theorem d_clauseIndexValid_15 : decode prog_1_method_22_code 15 = .ok (.if_icmp .ge 7, 3) := by decide +kernel
theorem d_clauseIndexValid_9 : decode prog_1_method_22_code 9 = .ok (.if_icmp .ge 13, 3) := by decide +kernel
abbrev W_clauseIndexValid (pc : Nat) (ls : List Slot) (st : List Value) (M : EMem) (Q : Option Value → EMem → Prop) : Prop := Wp tables_1 0 0 0 (⟨"HittingMaxSat", "clauseIndexValid", "(I)Z"⟩ : MethodName) prog_1_method_22_code (some .boolean) pc ls st M Q
theorem d_clauseIndexValid_23 : decode prog_1_method_22_code 23 = .ok (.ireturn, 1) := by decide +kernel
theorem d_init_0 : decode prog_1_method_1_code 0 = .ok (.aload_n 0, 1) := by decide +kernel
theorem d_init_1 : decode prog_1_method_1_code 1 = .ok (.invokespecial 1, 3) := by decide +kernel
theorem oi_c1 : objInitAt tables_1 "HittingMaxSat" 1 = true := by decide +kernel
theorem d_init_4 : decode prog_1_method_1_code 4 = .ok (.aload_n 0, 1) := by decide +kernel
theorem d_init_5 : decode prog_1_method_1_code 5 = .ok (.iconst (-1), 1) := by decide +kernel
theorem d_init_6 : decode prog_1_method_1_code 6 = .ok (.putfield 7, 3) := by decide +kernel
theorem fa_c7 : fieldAt tables_1 "HittingMaxSat" 7 = some ("HittingMaxSat", 10, 1, true) := by decide +kernel
theorem d_init_9 : decode prog_1_method_1_code 9 = .ok (.aload_n 0, 1) := by decide +kernel
theorem d_init_10 : decode prog_1_method_1_code 10 = .ok (.bipush (-2), 2) := by decide +kernel
theorem d_init_12 : decode prog_1_method_1_code 12 = .ok (.putfield 13, 3) := by decide +kernel
theorem fa_c13 : fieldAt tables_1 "HittingMaxSat" 13 = some ("HittingMaxSat", 12, 1, true) := by decide +kernel
theorem d_init_15 : decode prog_1_method_1_code 15 = .ok (.aload_n 0, 1) := by decide +kernel
theorem d_init_16 : decode prog_1_method_1_code 16 = .ok (.iconst 0, 1) := by decide +kernel
theorem d_init_17 : decode prog_1_method_1_code 17 = .ok (.putfield 16, 3) := by decide +kernel
theorem fa_c16 : fieldAt tables_1 "HittingMaxSat" 16 = some ("HittingMaxSat", 14, 1, true) := by decide +kernel
theorem d_init_20 : decode prog_1_method_1_code 20 = .ok (.aload_n 0, 1) := by decide +kernel
theorem d_init_21 : decode prog_1_method_1_code 21 = .ok (.iconst 1, 1) := by decide +kernel
theorem d_init_22 : decode prog_1_method_1_code 22 = .ok (.putfield 19, 3) := by decide +kernel
theorem fa_c19 : fieldAt tables_1 "HittingMaxSat" 19 = some ("HittingMaxSat", 16, 1, true) := by decide +kernel
theorem d_init_25 : decode prog_1_method_1_code 25 = .ok (.aload_n 0, 1) := by decide +kernel
theorem d_init_26 : decode prog_1_method_1_code 26 = .ok (.iconst 2, 1) := by decide +kernel
theorem d_init_27 : decode prog_1_method_1_code 27 = .ok (.putfield 22, 3) := by decide +kernel
theorem fa_c22 : fieldAt tables_1 "HittingMaxSat" 22 = some ("HittingMaxSat", 18, 1, true) := by decide +kernel
theorem d_init_30 : decode prog_1_method_1_code 30 = .ok (.aload_n 0, 1) := by decide +kernel
theorem d_init_31 : decode prog_1_method_1_code 31 = .ok (.iconst 3, 1) := by decide +kernel
theorem d_init_32 : decode prog_1_method_1_code 32 = .ok (.putfield 25, 3) := by decide +kernel
theorem fa_c25 : fieldAt tables_1 "HittingMaxSat" 25 = some ("HittingMaxSat", 20, 1, true) := by decide +kernel
theorem d_init_35 : decode prog_1_method_1_code 35 = .ok (.aload_n 0, 1) := by decide +kernel
theorem d_init_36 : decode prog_1_method_1_code 36 = .ok (.ldc 28, 2) := by decide +kernel
theorem ik_c28 : intLk "HittingMaxSat" 28 tables_1 = some (1048576 : Int32) := by decide +kernel
theorem d_init_38 : decode prog_1_method_1_code 38 = .ok (.putfield 29, 3) := by decide +kernel
theorem fa_c29 : fieldAt tables_1 "HittingMaxSat" 29 = some ("HittingMaxSat", 23, 1, true) := by decide +kernel
theorem d_init_41 : decode prog_1_method_1_code 41 = .ok (.aload_n 0, 1) := by decide +kernel
theorem d_init_42 : decode prog_1_method_1_code 42 = .ok (.sipush 20000, 3) := by decide +kernel
theorem d_init_45 : decode prog_1_method_1_code 45 = .ok (.putfield 32, 3) := by decide +kernel
theorem fa_c32 : fieldAt tables_1 "HittingMaxSat" 32 = some ("HittingMaxSat", 25, 1, true) := by decide +kernel
theorem d_init_48 : decode prog_1_method_1_code 48 = .ok (.aload_n 0, 1) := by decide +kernel
theorem d_init_49 : decode prog_1_method_1_code 49 = .ok (.ldc 35, 2) := by decide +kernel
theorem ik_c35 : intLk "HittingMaxSat" 35 tables_1 = some (50000 : Int32) := by decide +kernel
theorem d_init_51 : decode prog_1_method_1_code 51 = .ok (.putfield 36, 3) := by decide +kernel
theorem fa_c36 : fieldAt tables_1 "HittingMaxSat" 36 = some ("HittingMaxSat", 28, 1, true) := by decide +kernel
theorem d_init_54 : decode prog_1_method_1_code 54 = .ok (.aload_n 0, 1) := by decide +kernel
theorem d_init_55 : decode prog_1_method_1_code 55 = .ok (.sipush 128, 3) := by decide +kernel
theorem d_init_58 : decode prog_1_method_1_code 58 = .ok (.putfield 39, 3) := by decide +kernel
theorem fa_c39 : fieldAt tables_1 "HittingMaxSat" 39 = some ("HittingMaxSat", 30, 1, true) := by decide +kernel
theorem d_init_61 : decode prog_1_method_1_code 61 = .ok (.aload_n 0, 1) := by decide +kernel
theorem d_init_62 : decode prog_1_method_1_code 62 = .ok (.sipush 256, 3) := by decide +kernel
theorem d_init_65 : decode prog_1_method_1_code 65 = .ok (.newarray .int, 2) := by decide +kernel
theorem ar_int : hasArr .int tables_1 = true := by decide +kernel
theorem d_init_67 : decode prog_1_method_1_code 67 = .ok (.putfield 42, 3) := by decide +kernel
theorem fa_c42 : fieldAt tables_1 "HittingMaxSat" 42 = some ("HittingMaxSat", 33, 4, true) := by decide +kernel
theorem d_init_70 : decode prog_1_method_1_code 70 = .ok (.aload_n 0, 1) := by decide +kernel
theorem d_init_71 : decode prog_1_method_1_code 71 = .ok (.bipush 32, 2) := by decide +kernel
theorem d_init_73 : decode prog_1_method_1_code 73 = .ok (.newarray .int, 2) := by decide +kernel
theorem d_init_75 : decode prog_1_method_1_code 75 = .ok (.putfield 46, 3) := by decide +kernel
theorem fa_c46 : fieldAt tables_1 "HittingMaxSat" 46 = some ("HittingMaxSat", 35, 4, true) := by decide +kernel
theorem d_init_78 : decode prog_1_method_1_code 78 = .ok (.aload_n 0, 1) := by decide +kernel
theorem d_init_79 : decode prog_1_method_1_code 79 = .ok (.bipush 32, 2) := by decide +kernel
theorem d_init_81 : decode prog_1_method_1_code 81 = .ok (.newarray .int, 2) := by decide +kernel
theorem d_init_83 : decode prog_1_method_1_code 83 = .ok (.putfield 49, 3) := by decide +kernel
theorem fa_c49 : fieldAt tables_1 "HittingMaxSat" 49 = some ("HittingMaxSat", 37, 4, true) := by decide +kernel
theorem d_init_86 : decode prog_1_method_1_code 86 = .ok (.aload_n 0, 1) := by decide +kernel
theorem d_init_87 : decode prog_1_method_1_code 87 = .ok (.bipush 8, 2) := by decide +kernel
theorem d_init_89 : decode prog_1_method_1_code 89 = .ok (.newarray .int, 2) := by decide +kernel
theorem d_init_91 : decode prog_1_method_1_code 91 = .ok (.putfield 52, 3) := by decide +kernel
theorem fa_c52 : fieldAt tables_1 "HittingMaxSat" 52 = some ("HittingMaxSat", 39, 4, true) := by decide +kernel
theorem d_init_94 : decode prog_1_method_1_code 94 = .ok (.aload_n 0, 1) := by decide +kernel
theorem d_init_95 : decode prog_1_method_1_code 95 = .ok (.bipush 13, 2) := by decide +kernel
theorem d_init_97 : decode prog_1_method_1_code 97 = .ok (.newarray .int, 2) := by decide +kernel
theorem d_init_99 : decode prog_1_method_1_code 99 = .ok (.putfield 55, 3) := by decide +kernel
theorem fa_c55 : fieldAt tables_1 "HittingMaxSat" 55 = some ("HittingMaxSat", 41, 4, true) := by decide +kernel
theorem d_init_102 : decode prog_1_method_1_code 102 = .ok (.aload_n 0, 1) := by decide +kernel
theorem d_init_103 : decode prog_1_method_1_code 103 = .ok (.bipush 13, 2) := by decide +kernel
theorem d_init_105 : decode prog_1_method_1_code 105 = .ok (.newarray .int, 2) := by decide +kernel
theorem d_init_107 : decode prog_1_method_1_code 107 = .ok (.putfield 58, 3) := by decide +kernel
theorem fa_c58 : fieldAt tables_1 "HittingMaxSat" 58 = some ("HittingMaxSat", 43, 4, true) := by decide +kernel
theorem d_init_110 : decode prog_1_method_1_code 110 = .ok (.aload_n 0, 1) := by decide +kernel
theorem d_init_111 : decode prog_1_method_1_code 111 = .ok (.bipush 13, 2) := by decide +kernel
theorem d_init_113 : decode prog_1_method_1_code 113 = .ok (.newarray .int, 2) := by decide +kernel
theorem d_init_115 : decode prog_1_method_1_code 115 = .ok (.putfield 61, 3) := by decide +kernel
theorem fa_c61 : fieldAt tables_1 "HittingMaxSat" 61 = some ("HittingMaxSat", 45, 4, true) := by decide +kernel
theorem d_init_118 : decode prog_1_method_1_code 118 = .ok (.aload_n 0, 1) := by decide +kernel
theorem d_init_119 : decode prog_1_method_1_code 119 = .ok (.bipush 14, 2) := by decide +kernel
theorem d_init_121 : decode prog_1_method_1_code 121 = .ok (.newarray .int, 2) := by decide +kernel
theorem d_init_123 : decode prog_1_method_1_code 123 = .ok (.putfield 64, 3) := by decide +kernel
theorem fa_c64 : fieldAt tables_1 "HittingMaxSat" 64 = some ("HittingMaxSat", 47, 4, true) := by decide +kernel
theorem d_init_126 : decode prog_1_method_1_code 126 = .ok (.aload_n 0, 1) := by decide +kernel
theorem d_init_127 : decode prog_1_method_1_code 127 = .ok (.bipush 14, 2) := by decide +kernel
theorem d_init_129 : decode prog_1_method_1_code 129 = .ok (.newarray .int, 2) := by decide +kernel
theorem d_init_131 : decode prog_1_method_1_code 131 = .ok (.putfield 67, 3) := by decide +kernel
theorem fa_c67 : fieldAt tables_1 "HittingMaxSat" 67 = some ("HittingMaxSat", 49, 4, true) := by decide +kernel
theorem d_init_134 : decode prog_1_method_1_code 134 = .ok (.aload_n 0, 1) := by decide +kernel
theorem d_init_135 : decode prog_1_method_1_code 135 = .ok (.bipush 14, 2) := by decide +kernel
theorem d_init_137 : decode prog_1_method_1_code 137 = .ok (.newarray .boolean, 2) := by decide +kernel
theorem ar_boolean : hasArr .boolean tables_1 = true := by decide +kernel
theorem d_init_139 : decode prog_1_method_1_code 139 = .ok (.putfield 70, 3) := by decide +kernel
theorem fa_c70 : fieldAt tables_1 "HittingMaxSat" 70 = some ("HittingMaxSat", 52, 4, true) := by decide +kernel
theorem d_init_142 : decode prog_1_method_1_code 142 = .ok (.aload_n 0, 1) := by decide +kernel
theorem d_init_143 : decode prog_1_method_1_code 143 = .ok (.sipush 128, 3) := by decide +kernel
theorem d_init_146 : decode prog_1_method_1_code 146 = .ok (.newarray .int, 2) := by decide +kernel
theorem d_init_148 : decode prog_1_method_1_code 148 = .ok (.putfield 74, 3) := by decide +kernel
theorem fa_c74 : fieldAt tables_1 "HittingMaxSat" 74 = some ("HittingMaxSat", 54, 4, true) := by decide +kernel
theorem d_init_151 : decode prog_1_method_1_code 151 = .ok (.aload_n 0, 1) := by decide +kernel
theorem d_init_152 : decode prog_1_method_1_code 152 = .ok (.bipush 33, 2) := by decide +kernel
theorem d_init_154 : decode prog_1_method_1_code 154 = .ok (.newarray .int, 2) := by decide +kernel
theorem d_init_156 : decode prog_1_method_1_code 156 = .ok (.putfield 77, 3) := by decide +kernel
theorem fa_c77 : fieldAt tables_1 "HittingMaxSat" 77 = some ("HittingMaxSat", 56, 4, true) := by decide +kernel
theorem d_init_159 : decode prog_1_method_1_code 159 = .ok (.aload_n 0, 1) := by decide +kernel
theorem d_init_160 : decode prog_1_method_1_code 160 = .ok (.bipush 33, 2) := by decide +kernel
theorem d_init_162 : decode prog_1_method_1_code 162 = .ok (.newarray .int, 2) := by decide +kernel
theorem d_init_164 : decode prog_1_method_1_code 164 = .ok (.putfield 80, 3) := by decide +kernel
theorem fa_c80 : fieldAt tables_1 "HittingMaxSat" 80 = some ("HittingMaxSat", 58, 4, true) := by decide +kernel
theorem d_init_167 : decode prog_1_method_1_code 167 = .ok (.aload_n 0, 1) := by decide +kernel
theorem d_init_168 : decode prog_1_method_1_code 168 = .ok (.bipush 33, 2) := by decide +kernel
theorem d_init_170 : decode prog_1_method_1_code 170 = .ok (.newarray .int, 2) := by decide +kernel
theorem d_init_172 : decode prog_1_method_1_code 172 = .ok (.putfield 83, 3) := by decide +kernel
theorem fa_c83 : fieldAt tables_1 "HittingMaxSat" 83 = some ("HittingMaxSat", 60, 4, true) := by decide +kernel
theorem d_init_175 : decode prog_1_method_1_code 175 = .ok (.aload_n 0, 1) := by decide +kernel
theorem d_init_176 : decode prog_1_method_1_code 176 = .ok (.bipush 33, 2) := by decide +kernel
theorem d_init_178 : decode prog_1_method_1_code 178 = .ok (.newarray .int, 2) := by decide +kernel
theorem d_init_180 : decode prog_1_method_1_code 180 = .ok (.putfield 86, 3) := by decide +kernel
theorem fa_c86 : fieldAt tables_1 "HittingMaxSat" 86 = some ("HittingMaxSat", 62, 4, true) := by decide +kernel
theorem d_init_183 : decode prog_1_method_1_code 183 = .ok (.aload_n 0, 1) := by decide +kernel
theorem d_init_184 : decode prog_1_method_1_code 184 = .ok (.bipush 33, 2) := by decide +kernel
theorem d_init_186 : decode prog_1_method_1_code 186 = .ok (.newarray .int, 2) := by decide +kernel
theorem d_init_188 : decode prog_1_method_1_code 188 = .ok (.putfield 89, 3) := by decide +kernel
theorem fa_c89 : fieldAt tables_1 "HittingMaxSat" 89 = some ("HittingMaxSat", 64, 4, true) := by decide +kernel
theorem d_init_191 : decode prog_1_method_1_code 191 = .ok (.aload_n 0, 1) := by decide +kernel
theorem d_init_192 : decode prog_1_method_1_code 192 = .ok (.aload_n 0, 1) := by decide +kernel
theorem d_init_193 : decode prog_1_method_1_code 193 = .ok (.iload_n 1, 1) := by decide +kernel
theorem d_init_194 : decode prog_1_method_1_code 194 = .ok (.iconst 1, 1) := by decide +kernel
theorem d_init_195 : decode prog_1_method_1_code 195 = .ok (.bipush 12, 2) := by decide +kernel
theorem d_init_197 : decode prog_1_method_1_code 197 = .ok (.invokevirtual 92, 3) := by decide +kernel
theorem ml_c92 : methodLk "HittingMaxSat" 92 tables_1 = some (⟨"HittingMaxSat", "clamp", "(III)I"⟩ : MethodName) := by decide +kernel
theorem cl_clamp : codeLk (⟨"HittingMaxSat", "clamp", "(III)I"⟩ : MethodName) tables_1 = some (prog_1_method_18_code, 4, (some .int)) := codeLk_at (i := 68) rfl (by decide +kernel)
theorem pd_clamp : parseMethodDescriptor "(III)I" = some ⟨[.int, .int, .int], some .int⟩ := by decide +kernel
theorem cc_clamp_1 : hasInit (⟨"HittingMaxSat", "clamp", "(III)I"⟩ : MethodName).cls tables_1 = true ∧ plainName (⟨"HittingMaxSat", "clamp", "(III)I"⟩ : MethodName).cls = true ∧ (⟨"HittingMaxSat", "clamp", "(III)I"⟩ : MethodName).cls ≠ "java/lang/invoke/MethodHandle" ∧ (⟨"HittingMaxSat", "clamp", "(III)I"⟩ : MethodName).cls ≠ "java/lang/invoke/VarHandle" ∧ (((1 : Nat) = 0 ∧ hasDecl (⟨"HittingMaxSat", "clamp", "(III)I"⟩ : MethodName) tables_1 = true ∧ hasSel (⟨"HittingMaxSat", "clamp", "(III)I"⟩ : MethodName) tables_1 = true ∧ hasInst (⟨"HittingMaxSat", "clamp", "(III)I"⟩ : MethodName) tables_1 = true) ∨ ((1 : Nat) = 1 ∧ hasPriv (⟨"HittingMaxSat", "clamp", "(III)I"⟩ : MethodName) tables_1 = true ∧ hasInst (⟨"HittingMaxSat", "clamp", "(III)I"⟩ : MethodName) tables_1 = true ∧ (instLk (⟨"HittingMaxSat", "clamp", "(III)I"⟩ : MethodName).cls tables_1).isSome = true) ∨ ((1 : Nat) = 2 ∧ (⟨"HittingMaxSat", "clamp", "(III)I"⟩ : MethodName).name = "<init>" ∧ hasInst (⟨"HittingMaxSat", "clamp", "(III)I"⟩ : MethodName) tables_1 = true ∧ ((some .int) : Option FieldType) = none) ∨ ((1 : Nat) = 3 ∧ hasStat (⟨"HittingMaxSat", "clamp", "(III)I"⟩ : MethodName) tables_1 = true)) := by decide +kernel
theorem ca_c92_1 : callAt tables_1 "HittingMaxSat" 92 1 = some ((⟨"HittingMaxSat", "clamp", "(III)I"⟩ : MethodName), 3, prog_1_method_18_code, 4, (some .int)) := callAt_of ml_c92 cl_clamp pd_clamp cc_clamp_1 rfl
abbrev W_init (pc : Nat) (ls : List Slot) (st : List Value) (M : EMem) (Q : Option Value → EMem → Prop) : Prop := Wp tables_1 0 1 16 (⟨"HittingMaxSat", "<init>", "(II)V"⟩ : MethodName) prog_1_method_1_code none pc ls st M Q
theorem d_init_200 : decode prog_1_method_1_code 200 = .ok (.putfield 96, 3) := by decide +kernel
theorem d_init_203 : decode prog_1_method_1_code 203 = .ok (.aload_n 0, 1) := by decide +kernel
theorem d_init_204 : decode prog_1_method_1_code 204 = .ok (.aload_n 0, 1) := by decide +kernel
theorem d_init_205 : decode prog_1_method_1_code 205 = .ok (.iload_n 2, 1) := by decide +kernel
theorem d_init_206 : decode prog_1_method_1_code 206 = .ok (.iconst 4, 1) := by decide +kernel
theorem d_init_207 : decode prog_1_method_1_code 207 = .ok (.bipush 32, 2) := by decide +kernel
theorem d_init_209 : decode prog_1_method_1_code 209 = .ok (.invokevirtual 92, 3) := by decide +kernel
theorem d_init_212 : decode prog_1_method_1_code 212 = .ok (.putfield 99, 3) := by decide +kernel
theorem fa_c99 : fieldAt tables_1 "HittingMaxSat" 99 = some ("HittingMaxSat", 72, 1, false) := by decide +kernel
theorem d_init_215 : decode prog_1_method_1_code 215 = .ok (.aload_n 0, 1) := by decide +kernel
theorem d_init_216 : decode prog_1_method_1_code 216 = .ok (.iconst 0, 1) := by decide +kernel
theorem d_init_217 : decode prog_1_method_1_code 217 = .ok (.putfield 102, 3) := by decide +kernel
theorem d_init_220 : decode prog_1_method_1_code 220 = .ok (.aload_n 0, 1) := by decide +kernel
theorem d_init_221 : decode prog_1_method_1_code 221 = .ok (.iconst 0, 1) := by decide +kernel
theorem d_init_222 : decode prog_1_method_1_code 222 = .ok (.putfield 105, 3) := by decide +kernel
theorem d_init_225 : decode prog_1_method_1_code 225 = .ok (.aload_n 0, 1) := by decide +kernel
theorem d_init_226 : decode prog_1_method_1_code 226 = .ok (.invokevirtual 108, 3) := by decide +kernel
theorem ml_c108 : methodLk "HittingMaxSat" 108 tables_1 = some (⟨"HittingMaxSat", "markUnsolved", "()V"⟩ : MethodName) := by decide +kernel
theorem cl_markUnsolved : codeLk (⟨"HittingMaxSat", "markUnsolved", "()V"⟩ : MethodName) tables_1 = some (prog_1_method_24_code, 1, none) := codeLk_at (i := 80) rfl (by decide +kernel)
theorem pd_markUnsolved : parseMethodDescriptor "()V" = some ⟨[], none⟩ := by decide +kernel
theorem cc_markUnsolved_1 : hasInit (⟨"HittingMaxSat", "markUnsolved", "()V"⟩ : MethodName).cls tables_1 = true ∧ plainName (⟨"HittingMaxSat", "markUnsolved", "()V"⟩ : MethodName).cls = true ∧ (⟨"HittingMaxSat", "markUnsolved", "()V"⟩ : MethodName).cls ≠ "java/lang/invoke/MethodHandle" ∧ (⟨"HittingMaxSat", "markUnsolved", "()V"⟩ : MethodName).cls ≠ "java/lang/invoke/VarHandle" ∧ (((1 : Nat) = 0 ∧ hasDecl (⟨"HittingMaxSat", "markUnsolved", "()V"⟩ : MethodName) tables_1 = true ∧ hasSel (⟨"HittingMaxSat", "markUnsolved", "()V"⟩ : MethodName) tables_1 = true ∧ hasInst (⟨"HittingMaxSat", "markUnsolved", "()V"⟩ : MethodName) tables_1 = true) ∨ ((1 : Nat) = 1 ∧ hasPriv (⟨"HittingMaxSat", "markUnsolved", "()V"⟩ : MethodName) tables_1 = true ∧ hasInst (⟨"HittingMaxSat", "markUnsolved", "()V"⟩ : MethodName) tables_1 = true ∧ (instLk (⟨"HittingMaxSat", "markUnsolved", "()V"⟩ : MethodName).cls tables_1).isSome = true) ∨ ((1 : Nat) = 2 ∧ (⟨"HittingMaxSat", "markUnsolved", "()V"⟩ : MethodName).name = "<init>" ∧ hasInst (⟨"HittingMaxSat", "markUnsolved", "()V"⟩ : MethodName) tables_1 = true ∧ (none : Option FieldType) = none) ∨ ((1 : Nat) = 3 ∧ hasStat (⟨"HittingMaxSat", "markUnsolved", "()V"⟩ : MethodName) tables_1 = true)) := by decide +kernel
theorem ca_c108_1 : callAt tables_1 "HittingMaxSat" 108 1 = some ((⟨"HittingMaxSat", "markUnsolved", "()V"⟩ : MethodName), 0, prog_1_method_24_code, 1, none) := callAt_of ml_c108 cl_markUnsolved pd_markUnsolved cc_markUnsolved_1 rfl
theorem d_init_229 : decode prog_1_method_1_code 229 = .ok (.return_, 1) := by decide +kernel
theorem d_pendingContains_0 : decode prog_1_method_21_code 0 = .ok (.iconst 0, 1) := by decide +kernel
theorem d_pendingContains_1 : decode prog_1_method_21_code 1 = .ok (.istore_n 2, 1) := by decide +kernel
abbrev W_pendingContains (pc : Nat) (ls : List Slot) (st : List Value) (M : EMem) (Q : Option Value → EMem → Prop) : Prop := Wp tables_1 0 0 0 (⟨"HittingMaxSat", "pendingContains", "(I)Z"⟩ : MethodName) prog_1_method_21_code (some .boolean) pc ls st M Q
theorem d_pendingContains_2 : decode prog_1_method_21_code 2 = .ok (.iload_n 2, 1) := by decide +kernel
theorem d_pendingContains_3 : decode prog_1_method_21_code 3 = .ok (.aload_n 0, 1) := by decide +kernel
theorem d_pendingContains_4 : decode prog_1_method_21_code 4 = .ok (.getfield 105, 3) := by decide +kernel
theorem d_pendingContains_7 : decode prog_1_method_21_code 7 = .ok (.if_icmp .ge 27, 3) := by decide +kernel
theorem d_pendingContains_34 : decode prog_1_method_21_code 34 = .ok (.iconst 0, 1) := by decide +kernel
theorem d_pendingContains_35 : decode prog_1_method_21_code 35 = .ok (.ireturn, 1) := by decide +kernel
theorem d_pendingContains_10 : decode prog_1_method_21_code 10 = .ok (.iload_n 2, 1) := by decide +kernel
theorem d_pendingContains_11 : decode prog_1_method_21_code 11 = .ok (.bipush 8, 2) := by decide +kernel
theorem d_pendingContains_16 : decode prog_1_method_21_code 16 = .ok (.aload_n 0, 1) := by decide +kernel
theorem d_pendingContains_17 : decode prog_1_method_21_code 17 = .ok (.getfield 52, 3) := by decide +kernel
theorem d_pendingContains_20 : decode prog_1_method_21_code 20 = .ok (.iload_n 2, 1) := by decide +kernel
theorem d_pendingContains_21 : decode prog_1_method_21_code 21 = .ok (.iaload, 1) := by decide +kernel
theorem d_pendingContains_22 : decode prog_1_method_21_code 22 = .ok (.iload_n 1, 1) := by decide +kernel
theorem d_pendingContains_28 : decode prog_1_method_21_code 28 = .ok (.iinc 2 1, 3) := by decide +kernel
theorem d_pendingContains_31 : decode prog_1_method_21_code 31 = .ok (.goto (-29), 3) := by decide +kernel
theorem d_pendingContains_13 : decode prog_1_method_21_code 13 = .ok (.if_icmp .ge 21, 3) := by decide +kernel
theorem d_pendingContains_23 : decode prog_1_method_21_code 23 = .ok (.if_icmp .ne 5, 3) := by decide +kernel
theorem d_pendingContains_26 : decode prog_1_method_21_code 26 = .ok (.iconst 1, 1) := by decide +kernel
theorem d_pendingContains_27 : decode prog_1_method_21_code 27 = .ok (.ireturn, 1) := by decide +kernel
theorem d_addLiteral_0 : decode prog_1_method_2_code 0 = .ok (.aload_n 0, 1) := by decide +kernel
theorem d_addLiteral_1 : decode prog_1_method_2_code 1 = .ok (.iload_n 1, 1) := by decide +kernel
theorem d_addLiteral_2 : decode prog_1_method_2_code 2 = .ok (.invokevirtual 111, 3) := by decide +kernel
theorem ml_c111 : methodLk "HittingMaxSat" 111 tables_1 = some (⟨"HittingMaxSat", "literalInRange", "(I)Z"⟩ : MethodName) := by decide +kernel
theorem cl_literalInRange : codeLk (⟨"HittingMaxSat", "literalInRange", "(I)Z"⟩ : MethodName) tables_1 = some (prog_1_method_20_code, 2, (some .boolean)) := codeLk_at (i := 99) rfl (by decide +kernel)
theorem pd_literalInRange : parseMethodDescriptor "(I)Z" = some ⟨[.int], some .boolean⟩ := by decide +kernel
theorem cc_literalInRange_1 : hasInit (⟨"HittingMaxSat", "literalInRange", "(I)Z"⟩ : MethodName).cls tables_1 = true ∧ plainName (⟨"HittingMaxSat", "literalInRange", "(I)Z"⟩ : MethodName).cls = true ∧ (⟨"HittingMaxSat", "literalInRange", "(I)Z"⟩ : MethodName).cls ≠ "java/lang/invoke/MethodHandle" ∧ (⟨"HittingMaxSat", "literalInRange", "(I)Z"⟩ : MethodName).cls ≠ "java/lang/invoke/VarHandle" ∧ (((1 : Nat) = 0 ∧ hasDecl (⟨"HittingMaxSat", "literalInRange", "(I)Z"⟩ : MethodName) tables_1 = true ∧ hasSel (⟨"HittingMaxSat", "literalInRange", "(I)Z"⟩ : MethodName) tables_1 = true ∧ hasInst (⟨"HittingMaxSat", "literalInRange", "(I)Z"⟩ : MethodName) tables_1 = true) ∨ ((1 : Nat) = 1 ∧ hasPriv (⟨"HittingMaxSat", "literalInRange", "(I)Z"⟩ : MethodName) tables_1 = true ∧ hasInst (⟨"HittingMaxSat", "literalInRange", "(I)Z"⟩ : MethodName) tables_1 = true ∧ (instLk (⟨"HittingMaxSat", "literalInRange", "(I)Z"⟩ : MethodName).cls tables_1).isSome = true) ∨ ((1 : Nat) = 2 ∧ (⟨"HittingMaxSat", "literalInRange", "(I)Z"⟩ : MethodName).name = "<init>" ∧ hasInst (⟨"HittingMaxSat", "literalInRange", "(I)Z"⟩ : MethodName) tables_1 = true ∧ ((some .boolean) : Option FieldType) = none) ∨ ((1 : Nat) = 3 ∧ hasStat (⟨"HittingMaxSat", "literalInRange", "(I)Z"⟩ : MethodName) tables_1 = true)) := by decide +kernel
theorem ca_c111_1 : callAt tables_1 "HittingMaxSat" 111 1 = some ((⟨"HittingMaxSat", "literalInRange", "(I)Z"⟩ : MethodName), 1, prog_1_method_20_code, 2, (some .boolean)) := callAt_of ml_c111 cl_literalInRange pd_literalInRange cc_literalInRange_1 rfl
abbrev W_addLiteral (pc : Nat) (ls : List Slot) (st : List Value) (M : EMem) (Q : Option Value → EMem → Prop) : Prop := Wp tables_1 0 1 14 (⟨"HittingMaxSat", "addLiteral", "(I)I"⟩ : MethodName) prog_1_method_2_code (some .int) pc ls st M Q
theorem d_addLiteral_5 : decode prog_1_method_2_code 5 = .ok (.ifCond .ne 5, 3) := by decide +kernel
theorem d_addLiteral_10 : decode prog_1_method_2_code 10 = .ok (.aload_n 0, 1) := by decide +kernel
theorem d_addLiteral_11 : decode prog_1_method_2_code 11 = .ok (.iload_n 1, 1) := by decide +kernel
theorem d_addLiteral_12 : decode prog_1_method_2_code 12 = .ok (.invokevirtual 115, 3) := by decide +kernel
theorem ml_c115 : methodLk "HittingMaxSat" 115 tables_1 = some (⟨"HittingMaxSat", "pendingContains", "(I)Z"⟩ : MethodName) := by decide +kernel
theorem cl_pendingContains : codeLk (⟨"HittingMaxSat", "pendingContains", "(I)Z"⟩ : MethodName) tables_1 = some (prog_1_method_21_code, 3, (some .boolean)) := codeLk_at (i := 142) rfl (by decide +kernel)
theorem pd_pendingContains : parseMethodDescriptor "(I)Z" = some ⟨[.int], some .boolean⟩ := by decide +kernel
theorem cc_pendingContains_1 : hasInit (⟨"HittingMaxSat", "pendingContains", "(I)Z"⟩ : MethodName).cls tables_1 = true ∧ plainName (⟨"HittingMaxSat", "pendingContains", "(I)Z"⟩ : MethodName).cls = true ∧ (⟨"HittingMaxSat", "pendingContains", "(I)Z"⟩ : MethodName).cls ≠ "java/lang/invoke/MethodHandle" ∧ (⟨"HittingMaxSat", "pendingContains", "(I)Z"⟩ : MethodName).cls ≠ "java/lang/invoke/VarHandle" ∧ (((1 : Nat) = 0 ∧ hasDecl (⟨"HittingMaxSat", "pendingContains", "(I)Z"⟩ : MethodName) tables_1 = true ∧ hasSel (⟨"HittingMaxSat", "pendingContains", "(I)Z"⟩ : MethodName) tables_1 = true ∧ hasInst (⟨"HittingMaxSat", "pendingContains", "(I)Z"⟩ : MethodName) tables_1 = true) ∨ ((1 : Nat) = 1 ∧ hasPriv (⟨"HittingMaxSat", "pendingContains", "(I)Z"⟩ : MethodName) tables_1 = true ∧ hasInst (⟨"HittingMaxSat", "pendingContains", "(I)Z"⟩ : MethodName) tables_1 = true ∧ (instLk (⟨"HittingMaxSat", "pendingContains", "(I)Z"⟩ : MethodName).cls tables_1).isSome = true) ∨ ((1 : Nat) = 2 ∧ (⟨"HittingMaxSat", "pendingContains", "(I)Z"⟩ : MethodName).name = "<init>" ∧ hasInst (⟨"HittingMaxSat", "pendingContains", "(I)Z"⟩ : MethodName) tables_1 = true ∧ ((some .boolean) : Option FieldType) = none) ∨ ((1 : Nat) = 3 ∧ hasStat (⟨"HittingMaxSat", "pendingContains", "(I)Z"⟩ : MethodName) tables_1 = true)) := by decide +kernel
theorem ca_c115_1 : callAt tables_1 "HittingMaxSat" 115 1 = some ((⟨"HittingMaxSat", "pendingContains", "(I)Z"⟩ : MethodName), 1, prog_1_method_21_code, 3, (some .boolean)) := callAt_of ml_c115 cl_pendingContains pd_pendingContains cc_pendingContains_1 rfl
theorem d_addLiteral_8 : decode prog_1_method_2_code 8 = .ok (.iconst 1, 1) := by decide +kernel
theorem d_addLiteral_9 : decode prog_1_method_2_code 9 = .ok (.ireturn, 1) := by decide +kernel
theorem d_addLiteral_15 : decode prog_1_method_2_code 15 = .ok (.ifCond .eq 5, 3) := by decide +kernel
theorem d_addLiteral_20 : decode prog_1_method_2_code 20 = .ok (.aload_n 0, 1) := by decide +kernel
theorem d_addLiteral_21 : decode prog_1_method_2_code 21 = .ok (.getfield 105, 3) := by decide +kernel
theorem d_addLiteral_24 : decode prog_1_method_2_code 24 = .ok (.bipush 8, 2) := by decide +kernel
theorem d_addLiteral_26 : decode prog_1_method_2_code 26 = .ok (.if_icmp .ge 10, 3) := by decide +kernel
theorem d_addLiteral_36 : decode prog_1_method_2_code 36 = .ok (.iconst 2, 1) := by decide +kernel
theorem d_addLiteral_37 : decode prog_1_method_2_code 37 = .ok (.ireturn, 1) := by decide +kernel
theorem d_addLiteral_29 : decode prog_1_method_2_code 29 = .ok (.aload_n 0, 1) := by decide +kernel
theorem d_addLiteral_30 : decode prog_1_method_2_code 30 = .ok (.getfield 105, 3) := by decide +kernel
theorem d_addLiteral_38 : decode prog_1_method_2_code 38 = .ok (.aload_n 0, 1) := by decide +kernel
theorem d_addLiteral_39 : decode prog_1_method_2_code 39 = .ok (.getfield 52, 3) := by decide +kernel
theorem d_addLiteral_42 : decode prog_1_method_2_code 42 = .ok (.aload_n 0, 1) := by decide +kernel
theorem d_addLiteral_43 : decode prog_1_method_2_code 43 = .ok (.getfield 105, 3) := by decide +kernel
theorem d_addLiteral_46 : decode prog_1_method_2_code 46 = .ok (.iload_n 1, 1) := by decide +kernel
theorem d_addLiteral_33 : decode prog_1_method_2_code 33 = .ok (.ifCond .ge 5, 3) := by decide +kernel
theorem d_addLiteral_47 : decode prog_1_method_2_code 47 = .ok (.iastore, 1) := by decide +kernel
theorem d_addLiteral_48 : decode prog_1_method_2_code 48 = .ok (.aload_n 0, 1) := by decide +kernel
theorem d_addLiteral_49 : decode prog_1_method_2_code 49 = .ok (.dup, 1) := by decide +kernel
theorem d_addLiteral_50 : decode prog_1_method_2_code 50 = .ok (.getfield 105, 3) := by decide +kernel
theorem d_addLiteral_53 : decode prog_1_method_2_code 53 = .ok (.iconst 1, 1) := by decide +kernel
theorem d_addLiteral_54 : decode prog_1_method_2_code 54 = .ok (.iadd, 1) := by decide +kernel
theorem d_addLiteral_55 : decode prog_1_method_2_code 55 = .ok (.putfield 105, 3) := by decide +kernel
theorem d_addLiteral_58 : decode prog_1_method_2_code 58 = .ok (.iconst 0, 1) := by decide +kernel
theorem d_addLiteral_59 : decode prog_1_method_2_code 59 = .ok (.ireturn, 1) := by decide +kernel
theorem d_addLiteral_18 : decode prog_1_method_2_code 18 = .ok (.iconst 4, 1) := by decide +kernel
theorem d_addLiteral_19 : decode prog_1_method_2_code 19 = .ok (.ireturn, 1) := by decide +kernel
theorem d_appendPending_0 : decode prog_1_method_23_code 0 = .ok (.aload_n 0, 1) := by decide +kernel
theorem d_appendPending_1 : decode prog_1_method_23_code 1 = .ok (.getfield 102, 3) := by decide +kernel
theorem d_appendPending_4 : decode prog_1_method_23_code 4 = .ok (.istore_n 2, 1) := by decide +kernel
theorem d_appendPending_5 : decode prog_1_method_23_code 5 = .ok (.iload_n 2, 1) := by decide +kernel
theorem d_appendPending_6 : decode prog_1_method_23_code 6 = .ok (.ifCond .lt 9, 3) := by decide +kernel
theorem d_appendPending_15 : decode prog_1_method_23_code 15 = .ok (.return_, 1) := by decide +kernel
theorem d_appendPending_9 : decode prog_1_method_23_code 9 = .ok (.iload_n 2, 1) := by decide +kernel
theorem d_appendPending_10 : decode prog_1_method_23_code 10 = .ok (.bipush 32, 2) := by decide +kernel
theorem d_appendPending_12 : decode prog_1_method_23_code 12 = .ok (.if_icmp .lt 4, 3) := by decide +kernel
theorem d_appendPending_16 : decode prog_1_method_23_code 16 = .ok (.iload_n 2, 1) := by decide +kernel
theorem d_appendPending_17 : decode prog_1_method_23_code 17 = .ok (.bipush 8, 2) := by decide +kernel
theorem d_appendPending_19 : decode prog_1_method_23_code 19 = .ok (.imul, 1) := by decide +kernel
theorem d_appendPending_20 : decode prog_1_method_23_code 20 = .ok (.istore_n 3, 1) := by decide +kernel
theorem d_appendPending_21 : decode prog_1_method_23_code 21 = .ok (.iconst 0, 1) := by decide +kernel
theorem d_appendPending_22 : decode prog_1_method_23_code 22 = .ok (.istore 4, 2) := by decide +kernel
abbrev W_appendPending (pc : Nat) (ls : List Slot) (st : List Value) (M : EMem) (Q : Option Value → EMem → Prop) : Prop := Wp tables_1 0 1 12 (⟨"HittingMaxSat", "appendPending", "(I)V"⟩ : MethodName) prog_1_method_23_code none pc ls st M Q
theorem d_appendPending_24 : decode prog_1_method_23_code 24 = .ok (.iload 4, 2) := by decide +kernel
theorem d_appendPending_26 : decode prog_1_method_23_code 26 = .ok (.aload_n 0, 1) := by decide +kernel
theorem d_appendPending_27 : decode prog_1_method_23_code 27 = .ok (.getfield 105, 3) := by decide +kernel
theorem d_appendPending_30 : decode prog_1_method_23_code 30 = .ok (.if_icmp .ge 32, 3) := by decide +kernel
theorem d_appendPending_33 : decode prog_1_method_23_code 33 = .ok (.iload 4, 2) := by decide +kernel
theorem d_appendPending_35 : decode prog_1_method_23_code 35 = .ok (.bipush 8, 2) := by decide +kernel
theorem d_appendPending_40 : decode prog_1_method_23_code 40 = .ok (.aload_n 0, 1) := by decide +kernel
theorem d_appendPending_41 : decode prog_1_method_23_code 41 = .ok (.getfield 42, 3) := by decide +kernel
theorem d_appendPending_44 : decode prog_1_method_23_code 44 = .ok (.iload_n 3, 1) := by decide +kernel
theorem d_appendPending_45 : decode prog_1_method_23_code 45 = .ok (.iload 4, 2) := by decide +kernel
theorem d_appendPending_47 : decode prog_1_method_23_code 47 = .ok (.iadd, 1) := by decide +kernel
theorem d_appendPending_48 : decode prog_1_method_23_code 48 = .ok (.aload_n 0, 1) := by decide +kernel
theorem d_appendPending_49 : decode prog_1_method_23_code 49 = .ok (.getfield 52, 3) := by decide +kernel
theorem d_appendPending_52 : decode prog_1_method_23_code 52 = .ok (.iload 4, 2) := by decide +kernel
theorem d_appendPending_54 : decode prog_1_method_23_code 54 = .ok (.iaload, 1) := by decide +kernel
theorem d_appendPending_37 : decode prog_1_method_23_code 37 = .ok (.if_icmp .ge 25, 3) := by decide +kernel
theorem d_appendPending_55 : decode prog_1_method_23_code 55 = .ok (.iastore, 1) := by decide +kernel
theorem d_appendPending_56 : decode prog_1_method_23_code 56 = .ok (.iinc 4 1, 3) := by decide +kernel
theorem d_appendPending_59 : decode prog_1_method_23_code 59 = .ok (.goto (-35), 3) := by decide +kernel
theorem d_appendPending_62 : decode prog_1_method_23_code 62 = .ok (.aload_n 0, 1) := by decide +kernel
theorem d_appendPending_63 : decode prog_1_method_23_code 63 = .ok (.getfield 46, 3) := by decide +kernel
theorem d_appendPending_66 : decode prog_1_method_23_code 66 = .ok (.iload_n 2, 1) := by decide +kernel
theorem d_appendPending_67 : decode prog_1_method_23_code 67 = .ok (.aload_n 0, 1) := by decide +kernel
theorem d_appendPending_68 : decode prog_1_method_23_code 68 = .ok (.getfield 105, 3) := by decide +kernel
theorem d_appendPending_71 : decode prog_1_method_23_code 71 = .ok (.iastore, 1) := by decide +kernel
theorem d_appendPending_72 : decode prog_1_method_23_code 72 = .ok (.aload_n 0, 1) := by decide +kernel
theorem d_appendPending_73 : decode prog_1_method_23_code 73 = .ok (.getfield 49, 3) := by decide +kernel
theorem d_appendPending_76 : decode prog_1_method_23_code 76 = .ok (.iload_n 2, 1) := by decide +kernel
theorem d_appendPending_77 : decode prog_1_method_23_code 77 = .ok (.iload_n 1, 1) := by decide +kernel
theorem d_appendPending_78 : decode prog_1_method_23_code 78 = .ok (.iastore, 1) := by decide +kernel
theorem d_appendPending_79 : decode prog_1_method_23_code 79 = .ok (.aload_n 0, 1) := by decide +kernel
theorem d_appendPending_80 : decode prog_1_method_23_code 80 = .ok (.iload_n 2, 1) := by decide +kernel
theorem d_appendPending_81 : decode prog_1_method_23_code 81 = .ok (.iconst 1, 1) := by decide +kernel
theorem d_appendPending_82 : decode prog_1_method_23_code 82 = .ok (.iadd, 1) := by decide +kernel
theorem d_appendPending_83 : decode prog_1_method_23_code 83 = .ok (.putfield 102, 3) := by decide +kernel
theorem d_appendPending_86 : decode prog_1_method_23_code 86 = .ok (.aload_n 0, 1) := by decide +kernel
theorem d_appendPending_87 : decode prog_1_method_23_code 87 = .ok (.iconst 0, 1) := by decide +kernel
theorem d_appendPending_88 : decode prog_1_method_23_code 88 = .ok (.putfield 105, 3) := by decide +kernel
theorem d_appendPending_91 : decode prog_1_method_23_code 91 = .ok (.aload_n 0, 1) := by decide +kernel
theorem d_appendPending_92 : decode prog_1_method_23_code 92 = .ok (.invokevirtual 108, 3) := by decide +kernel
theorem d_appendPending_95 : decode prog_1_method_23_code 95 = .ok (.return_, 1) := by decide +kernel
theorem d_commitSoft_0 : decode prog_1_method_5_code 0 = .ok (.iload_n 1, 1) := by decide +kernel
theorem d_commitSoft_1 : decode prog_1_method_5_code 1 = .ok (.iconst 1, 1) := by decide +kernel
theorem d_commitSoft_2 : decode prog_1_method_5_code 2 = .ok (.if_icmp .lt 10, 3) := by decide +kernel
theorem d_commitSoft_12 : decode prog_1_method_5_code 12 = .ok (.iconst 1, 1) := by decide +kernel
theorem d_commitSoft_13 : decode prog_1_method_5_code 13 = .ok (.ireturn, 1) := by decide +kernel
theorem d_commitSoft_5 : decode prog_1_method_5_code 5 = .ok (.iload_n 1, 1) := by decide +kernel
theorem d_commitSoft_6 : decode prog_1_method_5_code 6 = .ok (.sipush 1000, 3) := by decide +kernel
theorem d_commitSoft_14 : decode prog_1_method_5_code 14 = .ok (.aload_n 0, 1) := by decide +kernel
theorem d_commitSoft_15 : decode prog_1_method_5_code 15 = .ok (.getfield 105, 3) := by decide +kernel
theorem d_commitSoft_23 : decode prog_1_method_5_code 23 = .ok (.aload_n 0, 1) := by decide +kernel
theorem d_commitSoft_24 : decode prog_1_method_5_code 24 = .ok (.getfield 102, 3) := by decide +kernel
theorem d_commitSoft_27 : decode prog_1_method_5_code 27 = .ok (.aload_n 0, 1) := by decide +kernel
theorem d_commitSoft_28 : decode prog_1_method_5_code 28 = .ok (.getfield 99, 3) := by decide +kernel
theorem d_commitSoft_36 : decode prog_1_method_5_code 36 = .ok (.aload_n 0, 1) := by decide +kernel
theorem d_commitSoft_37 : decode prog_1_method_5_code 37 = .ok (.iload_n 1, 1) := by decide +kernel
theorem d_commitSoft_9 : decode prog_1_method_5_code 9 = .ok (.if_icmp .le 5, 3) := by decide +kernel
theorem d_commitSoft_18 : decode prog_1_method_5_code 18 = .ok (.ifCond .ne 5, 3) := by decide +kernel
theorem d_commitSoft_31 : decode prog_1_method_5_code 31 = .ok (.if_icmp .lt 5, 3) := by decide +kernel
theorem d_commitSoft_38 : decode prog_1_method_5_code 38 = .ok (.invokevirtual 118, 3) := by decide +kernel
theorem ml_c118 : methodLk "HittingMaxSat" 118 tables_1 = some (⟨"HittingMaxSat", "appendPending", "(I)V"⟩ : MethodName) := by decide +kernel
theorem cl_appendPending : codeLk (⟨"HittingMaxSat", "appendPending", "(I)V"⟩ : MethodName) tables_1 = some (prog_1_method_23_code, 5, none) := codeLk_at (i := 146) rfl (by decide +kernel)
theorem pd_appendPending : parseMethodDescriptor "(I)V" = some ⟨[.int], none⟩ := by decide +kernel
theorem cc_appendPending_1 : hasInit (⟨"HittingMaxSat", "appendPending", "(I)V"⟩ : MethodName).cls tables_1 = true ∧ plainName (⟨"HittingMaxSat", "appendPending", "(I)V"⟩ : MethodName).cls = true ∧ (⟨"HittingMaxSat", "appendPending", "(I)V"⟩ : MethodName).cls ≠ "java/lang/invoke/MethodHandle" ∧ (⟨"HittingMaxSat", "appendPending", "(I)V"⟩ : MethodName).cls ≠ "java/lang/invoke/VarHandle" ∧ (((1 : Nat) = 0 ∧ hasDecl (⟨"HittingMaxSat", "appendPending", "(I)V"⟩ : MethodName) tables_1 = true ∧ hasSel (⟨"HittingMaxSat", "appendPending", "(I)V"⟩ : MethodName) tables_1 = true ∧ hasInst (⟨"HittingMaxSat", "appendPending", "(I)V"⟩ : MethodName) tables_1 = true) ∨ ((1 : Nat) = 1 ∧ hasPriv (⟨"HittingMaxSat", "appendPending", "(I)V"⟩ : MethodName) tables_1 = true ∧ hasInst (⟨"HittingMaxSat", "appendPending", "(I)V"⟩ : MethodName) tables_1 = true ∧ (instLk (⟨"HittingMaxSat", "appendPending", "(I)V"⟩ : MethodName).cls tables_1).isSome = true) ∨ ((1 : Nat) = 2 ∧ (⟨"HittingMaxSat", "appendPending", "(I)V"⟩ : MethodName).name = "<init>" ∧ hasInst (⟨"HittingMaxSat", "appendPending", "(I)V"⟩ : MethodName) tables_1 = true ∧ (none : Option FieldType) = none) ∨ ((1 : Nat) = 3 ∧ hasStat (⟨"HittingMaxSat", "appendPending", "(I)V"⟩ : MethodName) tables_1 = true)) := by decide +kernel
theorem ca_c118_1 : callAt tables_1 "HittingMaxSat" 118 1 = some ((⟨"HittingMaxSat", "appendPending", "(I)V"⟩ : MethodName), 1, prog_1_method_23_code, 5, none) := callAt_of ml_c118 cl_appendPending pd_appendPending cc_appendPending_1 rfl
theorem d_commitSoft_34 : decode prog_1_method_5_code 34 = .ok (.iconst 2, 1) := by decide +kernel
theorem d_commitSoft_35 : decode prog_1_method_5_code 35 = .ok (.ireturn, 1) := by decide +kernel
theorem d_commitSoft_21 : decode prog_1_method_5_code 21 = .ok (.iconst 3, 1) := by decide +kernel
theorem d_commitSoft_22 : decode prog_1_method_5_code 22 = .ok (.ireturn, 1) := by decide +kernel
abbrev W_commitSoft (pc : Nat) (ls : List Slot) (st : List Value) (M : EMem) (Q : Option Value → EMem → Prop) : Prop := Wp tables_1 0 2 28 (⟨"HittingMaxSat", "commitSoft", "(I)I"⟩ : MethodName) prog_1_method_5_code (some .int) pc ls st M Q
theorem d_commitSoft_41 : decode prog_1_method_5_code 41 = .ok (.iconst 0, 1) := by decide +kernel
theorem d_commitSoft_42 : decode prog_1_method_5_code 42 = .ok (.ireturn, 1) := by decide +kernel
theorem d_getClauseWeight_0 : decode prog_1_method_14_code 0 = .ok (.aload_n 0, 1) := by decide +kernel
theorem d_getClauseWeight_1 : decode prog_1_method_14_code 1 = .ok (.iload_n 1, 1) := by decide +kernel
theorem d_getClauseWeight_2 : decode prog_1_method_14_code 2 = .ok (.invokevirtual 145, 3) := by decide +kernel
theorem ml_c145 : methodLk "HittingMaxSat" 145 tables_1 = some (⟨"HittingMaxSat", "clauseIndexValid", "(I)Z"⟩ : MethodName) := by decide +kernel
theorem cl_clauseIndexValid : codeLk (⟨"HittingMaxSat", "clauseIndexValid", "(I)Z"⟩ : MethodName) tables_1 = some (prog_1_method_22_code, 2, (some .boolean)) := codeLk_at (i := 118) rfl (by decide +kernel)
theorem pd_clauseIndexValid : parseMethodDescriptor "(I)Z" = some ⟨[.int], some .boolean⟩ := by decide +kernel
theorem cc_clauseIndexValid_1 : hasInit (⟨"HittingMaxSat", "clauseIndexValid", "(I)Z"⟩ : MethodName).cls tables_1 = true ∧ plainName (⟨"HittingMaxSat", "clauseIndexValid", "(I)Z"⟩ : MethodName).cls = true ∧ (⟨"HittingMaxSat", "clauseIndexValid", "(I)Z"⟩ : MethodName).cls ≠ "java/lang/invoke/MethodHandle" ∧ (⟨"HittingMaxSat", "clauseIndexValid", "(I)Z"⟩ : MethodName).cls ≠ "java/lang/invoke/VarHandle" ∧ (((1 : Nat) = 0 ∧ hasDecl (⟨"HittingMaxSat", "clauseIndexValid", "(I)Z"⟩ : MethodName) tables_1 = true ∧ hasSel (⟨"HittingMaxSat", "clauseIndexValid", "(I)Z"⟩ : MethodName) tables_1 = true ∧ hasInst (⟨"HittingMaxSat", "clauseIndexValid", "(I)Z"⟩ : MethodName) tables_1 = true) ∨ ((1 : Nat) = 1 ∧ hasPriv (⟨"HittingMaxSat", "clauseIndexValid", "(I)Z"⟩ : MethodName) tables_1 = true ∧ hasInst (⟨"HittingMaxSat", "clauseIndexValid", "(I)Z"⟩ : MethodName) tables_1 = true ∧ (instLk (⟨"HittingMaxSat", "clauseIndexValid", "(I)Z"⟩ : MethodName).cls tables_1).isSome = true) ∨ ((1 : Nat) = 2 ∧ (⟨"HittingMaxSat", "clauseIndexValid", "(I)Z"⟩ : MethodName).name = "<init>" ∧ hasInst (⟨"HittingMaxSat", "clauseIndexValid", "(I)Z"⟩ : MethodName) tables_1 = true ∧ ((some .boolean) : Option FieldType) = none) ∨ ((1 : Nat) = 3 ∧ hasStat (⟨"HittingMaxSat", "clauseIndexValid", "(I)Z"⟩ : MethodName) tables_1 = true)) := by decide +kernel
theorem ca_c145_1 : callAt tables_1 "HittingMaxSat" 145 1 = some ((⟨"HittingMaxSat", "clauseIndexValid", "(I)Z"⟩ : MethodName), 1, prog_1_method_22_code, 2, (some .boolean)) := callAt_of ml_c145 cl_clauseIndexValid pd_clauseIndexValid cc_clauseIndexValid_1 rfl
abbrev W_getClauseWeight (pc : Nat) (ls : List Slot) (st : List Value) (M : EMem) (Q : Option Value → EMem → Prop) : Prop := Wp tables_1 0 1 13 (⟨"HittingMaxSat", "getClauseWeight", "(I)I"⟩ : MethodName) prog_1_method_14_code (some .int) pc ls st M Q
theorem d_getClauseWeight_5 : decode prog_1_method_14_code 5 = .ok (.ifCond .ne 5, 3) := by decide +kernel
theorem d_getClauseWeight_10 : decode prog_1_method_14_code 10 = .ok (.aload_n 0, 1) := by decide +kernel
theorem d_getClauseWeight_11 : decode prog_1_method_14_code 11 = .ok (.getfield 49, 3) := by decide +kernel
theorem d_getClauseWeight_14 : decode prog_1_method_14_code 14 = .ok (.iload_n 1, 1) := by decide +kernel
theorem d_getClauseWeight_15 : decode prog_1_method_14_code 15 = .ok (.iaload, 1) := by decide +kernel
theorem d_getClauseWeight_16 : decode prog_1_method_14_code 16 = .ok (.ireturn, 1) := by decide +kernel
theorem d_getClauseWeight_8 : decode prog_1_method_14_code 8 = .ok (.iconst (-1), 1) := by decide +kernel
theorem d_getClauseWeight_9 : decode prog_1_method_14_code 9 = .ok (.ireturn, 1) := by decide +kernel
theorem d_getClauseLength_0 : decode prog_1_method_15_code 0 = .ok (.aload_n 0, 1) := by decide +kernel
theorem d_getClauseLength_1 : decode prog_1_method_15_code 1 = .ok (.iload_n 1, 1) := by decide +kernel
theorem d_getClauseLength_2 : decode prog_1_method_15_code 2 = .ok (.invokevirtual 145, 3) := by decide +kernel
abbrev W_getClauseLength (pc : Nat) (ls : List Slot) (st : List Value) (M : EMem) (Q : Option Value → EMem → Prop) : Prop := Wp tables_1 0 1 13 (⟨"HittingMaxSat", "getClauseLength", "(I)I"⟩ : MethodName) prog_1_method_15_code (some .int) pc ls st M Q
theorem d_getClauseLength_5 : decode prog_1_method_15_code 5 = .ok (.ifCond .ne 5, 3) := by decide +kernel
theorem d_getClauseLength_10 : decode prog_1_method_15_code 10 = .ok (.aload_n 0, 1) := by decide +kernel
theorem d_getClauseLength_11 : decode prog_1_method_15_code 11 = .ok (.getfield 46, 3) := by decide +kernel
theorem d_getClauseLength_14 : decode prog_1_method_15_code 14 = .ok (.iload_n 1, 1) := by decide +kernel
theorem d_getClauseLength_15 : decode prog_1_method_15_code 15 = .ok (.iaload, 1) := by decide +kernel
theorem d_getClauseLength_16 : decode prog_1_method_15_code 16 = .ok (.ireturn, 1) := by decide +kernel
theorem d_getClauseLength_8 : decode prog_1_method_15_code 8 = .ok (.iconst (-1), 1) := by decide +kernel
theorem d_getClauseLength_9 : decode prog_1_method_15_code 9 = .ok (.ireturn, 1) := by decide +kernel
theorem d_getClauseLiteral_0 : decode prog_1_method_16_code 0 = .ok (.aload_n 0, 1) := by decide +kernel
theorem d_getClauseLiteral_1 : decode prog_1_method_16_code 1 = .ok (.iload_n 1, 1) := by decide +kernel
theorem d_getClauseLiteral_2 : decode prog_1_method_16_code 2 = .ok (.invokevirtual 145, 3) := by decide +kernel
abbrev W_getClauseLiteral (pc : Nat) (ls : List Slot) (st : List Value) (M : EMem) (Q : Option Value → EMem → Prop) : Prop := Wp tables_1 0 1 13 (⟨"HittingMaxSat", "getClauseLiteral", "(II)I"⟩ : MethodName) prog_1_method_16_code (some .int) pc ls st M Q
theorem d_getClauseLiteral_5 : decode prog_1_method_16_code 5 = .ok (.ifCond .ne 5, 3) := by decide +kernel
theorem d_getClauseLiteral_10 : decode prog_1_method_16_code 10 = .ok (.iload_n 2, 1) := by decide +kernel
theorem d_getClauseLiteral_24 : decode prog_1_method_16_code 24 = .ok (.iconst 0, 1) := by decide +kernel
theorem d_getClauseLiteral_25 : decode prog_1_method_16_code 25 = .ok (.ireturn, 1) := by decide +kernel
theorem d_getClauseLiteral_14 : decode prog_1_method_16_code 14 = .ok (.iload_n 2, 1) := by decide +kernel
theorem d_getClauseLiteral_15 : decode prog_1_method_16_code 15 = .ok (.aload_n 0, 1) := by decide +kernel
theorem d_getClauseLiteral_16 : decode prog_1_method_16_code 16 = .ok (.getfield 46, 3) := by decide +kernel
theorem d_getClauseLiteral_19 : decode prog_1_method_16_code 19 = .ok (.iload_n 1, 1) := by decide +kernel
theorem d_getClauseLiteral_20 : decode prog_1_method_16_code 20 = .ok (.iaload, 1) := by decide +kernel
theorem d_getClauseLiteral_26 : decode prog_1_method_16_code 26 = .ok (.iload_n 1, 1) := by decide +kernel
theorem d_getClauseLiteral_27 : decode prog_1_method_16_code 27 = .ok (.bipush 8, 2) := by decide +kernel
theorem d_getClauseLiteral_29 : decode prog_1_method_16_code 29 = .ok (.imul, 1) := by decide +kernel
theorem d_getClauseLiteral_30 : decode prog_1_method_16_code 30 = .ok (.iload_n 2, 1) := by decide +kernel
theorem d_getClauseLiteral_31 : decode prog_1_method_16_code 31 = .ok (.iadd, 1) := by decide +kernel
theorem d_getClauseLiteral_32 : decode prog_1_method_16_code 32 = .ok (.istore_n 3, 1) := by decide +kernel
theorem d_getClauseLiteral_33 : decode prog_1_method_16_code 33 = .ok (.iload_n 3, 1) := by decide +kernel
theorem d_getClauseLiteral_44 : decode prog_1_method_16_code 44 = .ok (.iconst 0, 1) := by decide +kernel
theorem d_getClauseLiteral_45 : decode prog_1_method_16_code 45 = .ok (.ireturn, 1) := by decide +kernel
theorem d_getClauseLiteral_37 : decode prog_1_method_16_code 37 = .ok (.iload_n 3, 1) := by decide +kernel
theorem d_getClauseLiteral_38 : decode prog_1_method_16_code 38 = .ok (.sipush 256, 3) := by decide +kernel
theorem d_getClauseLiteral_46 : decode prog_1_method_16_code 46 = .ok (.aload_n 0, 1) := by decide +kernel
theorem d_getClauseLiteral_47 : decode prog_1_method_16_code 47 = .ok (.getfield 42, 3) := by decide +kernel
theorem d_getClauseLiteral_50 : decode prog_1_method_16_code 50 = .ok (.iload_n 3, 1) := by decide +kernel
theorem d_getClauseLiteral_51 : decode prog_1_method_16_code 51 = .ok (.iaload, 1) := by decide +kernel
theorem d_getClauseLiteral_52 : decode prog_1_method_16_code 52 = .ok (.ireturn, 1) := by decide +kernel
theorem d_getClauseLiteral_41 : decode prog_1_method_16_code 41 = .ok (.if_icmp .lt 5, 3) := by decide +kernel
theorem d_getClauseLiteral_34 : decode prog_1_method_16_code 34 = .ok (.ifCond .lt 10, 3) := by decide +kernel
theorem d_getClauseLiteral_21 : decode prog_1_method_16_code 21 = .ok (.if_icmp .lt 5, 3) := by decide +kernel
theorem d_getClauseLiteral_11 : decode prog_1_method_16_code 11 = .ok (.ifCond .lt 13, 3) := by decide +kernel
theorem d_getClauseLiteral_8 : decode prog_1_method_16_code 8 = .ok (.iconst 0, 1) := by decide +kernel
theorem d_getClauseLiteral_9 : decode prog_1_method_16_code 9 = .ok (.ireturn, 1) := by decide +kernel
theorem d_law_0 : decode code 0 = .ok (.new 7, 3) := by decide +kernel
theorem na_w7 : newAt tables_1 "HittingMaxSatL2" 7 = some ("HittingMaxSat", 50) := by decide +kernel
theorem d_law_3 : decode code 3 = .ok (.dup, 1) := by decide +kernel
theorem d_law_4 : decode code 4 = .ok (.iload_n 0, 1) := by decide +kernel
theorem d_law_5 : decode code 5 = .ok (.iconst 4, 1) := by decide +kernel
theorem d_law_6 : decode code 6 = .ok (.invokespecial 9, 3) := by decide +kernel
theorem ml_w9 : methodLk "HittingMaxSatL2" 9 tables_1 = some (⟨"HittingMaxSat", "<init>", "(II)V"⟩ : MethodName) := by decide +kernel
theorem cl_init : codeLk (⟨"HittingMaxSat", "<init>", "(II)V"⟩ : MethodName) tables_1 = some (prog_1_method_1_code, 3, none) := codeLk_at (i := 5) rfl (by decide +kernel)
theorem pd_init : parseMethodDescriptor "(II)V" = some ⟨[.int, .int], none⟩ := by decide +kernel
theorem cc_init_2 : hasInit (⟨"HittingMaxSat", "<init>", "(II)V"⟩ : MethodName).cls tables_1 = true ∧ plainName (⟨"HittingMaxSat", "<init>", "(II)V"⟩ : MethodName).cls = true ∧ (⟨"HittingMaxSat", "<init>", "(II)V"⟩ : MethodName).cls ≠ "java/lang/invoke/MethodHandle" ∧ (⟨"HittingMaxSat", "<init>", "(II)V"⟩ : MethodName).cls ≠ "java/lang/invoke/VarHandle" ∧ (((2 : Nat) = 0 ∧ hasDecl (⟨"HittingMaxSat", "<init>", "(II)V"⟩ : MethodName) tables_1 = true ∧ hasSel (⟨"HittingMaxSat", "<init>", "(II)V"⟩ : MethodName) tables_1 = true ∧ hasInst (⟨"HittingMaxSat", "<init>", "(II)V"⟩ : MethodName) tables_1 = true) ∨ ((2 : Nat) = 1 ∧ hasPriv (⟨"HittingMaxSat", "<init>", "(II)V"⟩ : MethodName) tables_1 = true ∧ hasInst (⟨"HittingMaxSat", "<init>", "(II)V"⟩ : MethodName) tables_1 = true ∧ (instLk (⟨"HittingMaxSat", "<init>", "(II)V"⟩ : MethodName).cls tables_1).isSome = true) ∨ ((2 : Nat) = 2 ∧ (⟨"HittingMaxSat", "<init>", "(II)V"⟩ : MethodName).name = "<init>" ∧ hasInst (⟨"HittingMaxSat", "<init>", "(II)V"⟩ : MethodName) tables_1 = true ∧ (none : Option FieldType) = none) ∨ ((2 : Nat) = 3 ∧ hasStat (⟨"HittingMaxSat", "<init>", "(II)V"⟩ : MethodName) tables_1 = true)) := by decide +kernel
theorem ca_w9_2 : callAt tables_1 "HittingMaxSatL2" 9 2 = some ((⟨"HittingMaxSat", "<init>", "(II)V"⟩ : MethodName), 2, prog_1_method_1_code, 3, none) := callAt_of ml_w9 cl_init pd_init cc_init_2 rfl
theorem on_w9 : objInitAt tables_1 "HittingMaxSatL2" 9 = false := by decide +kernel
abbrev W_law (pc : Nat) (ls : List Slot) (st : List Value) (M : EMem) (Q : Option Value → EMem → Prop) : Prop := Wp tables_1 0 6 144 x code (some .boolean) pc ls st M Q
theorem d_law_9 : decode code 9 = .ok (.astore 4, 2) := by decide +kernel
theorem d_law_11 : decode code 11 = .ok (.iload_n 0, 1) := by decide +kernel
theorem d_law_12 : decode code 12 = .ok (.iconst 1, 1) := by decide +kernel
theorem d_law_13 : decode code 13 = .ok (.if_icmp .ge 7, 3) := by decide +kernel
theorem d_law_20 : decode code 20 = .ok (.iload_n 0, 1) := by decide +kernel
theorem d_law_21 : decode code 21 = .ok (.bipush 12, 2) := by decide +kernel
theorem d_law_31 : decode code 31 = .ok (.iload_n 0, 1) := by decide +kernel
theorem d_law_26 : decode code 26 = .ok (.bipush 12, 2) := by decide +kernel
theorem d_law_28 : decode code 28 = .ok (.goto 4, 3) := by decide +kernel
theorem d_law_23 : decode code 23 = .ok (.if_icmp .le 8, 3) := by decide +kernel
theorem d_law_16 : decode code 16 = .ok (.iconst 1, 1) := by decide +kernel
theorem d_law_17 : decode code 17 = .ok (.goto 15, 3) := by decide +kernel
theorem d_law_32 : decode code 32 = .ok (.istore 5, 2) := by decide +kernel
theorem d_law_34 : decode code 34 = .ok (.iload_n 1, 1) := by decide +kernel
theorem d_law_35 : decode code 35 = .ok (.iload 5, 2) := by decide +kernel
theorem d_law_37 : decode code 37 = .ok (.invokestatic 12, 3) := by decide +kernel
theorem ml_w12 : methodLk "HittingMaxSatL2" 12 tables_1 = some (⟨"HittingMaxSatL2", "in", "(II)Z"⟩ : MethodName) := by decide +kernel
theorem cl_law_in : codeLk (⟨"HittingMaxSatL2", "in", "(II)Z"⟩ : MethodName) tables_1 = some (method_2_code, 2, (some .boolean)) := codeLk_at (i := 90) rfl (by decide +kernel)
theorem pd_law_in : parseMethodDescriptor "(II)Z" = some ⟨[.int, .int], some .boolean⟩ := by decide +kernel
theorem cc_law_in_3 : hasInit (⟨"HittingMaxSatL2", "in", "(II)Z"⟩ : MethodName).cls tables_1 = true ∧ plainName (⟨"HittingMaxSatL2", "in", "(II)Z"⟩ : MethodName).cls = true ∧ (⟨"HittingMaxSatL2", "in", "(II)Z"⟩ : MethodName).cls ≠ "java/lang/invoke/MethodHandle" ∧ (⟨"HittingMaxSatL2", "in", "(II)Z"⟩ : MethodName).cls ≠ "java/lang/invoke/VarHandle" ∧ (((3 : Nat) = 0 ∧ hasDecl (⟨"HittingMaxSatL2", "in", "(II)Z"⟩ : MethodName) tables_1 = true ∧ hasSel (⟨"HittingMaxSatL2", "in", "(II)Z"⟩ : MethodName) tables_1 = true ∧ hasInst (⟨"HittingMaxSatL2", "in", "(II)Z"⟩ : MethodName) tables_1 = true) ∨ ((3 : Nat) = 1 ∧ hasPriv (⟨"HittingMaxSatL2", "in", "(II)Z"⟩ : MethodName) tables_1 = true ∧ hasInst (⟨"HittingMaxSatL2", "in", "(II)Z"⟩ : MethodName) tables_1 = true ∧ (instLk (⟨"HittingMaxSatL2", "in", "(II)Z"⟩ : MethodName).cls tables_1).isSome = true) ∨ ((3 : Nat) = 2 ∧ (⟨"HittingMaxSatL2", "in", "(II)Z"⟩ : MethodName).name = "<init>" ∧ hasInst (⟨"HittingMaxSatL2", "in", "(II)Z"⟩ : MethodName) tables_1 = true ∧ ((some .boolean) : Option FieldType) = none) ∨ ((3 : Nat) = 3 ∧ hasStat (⟨"HittingMaxSatL2", "in", "(II)Z"⟩ : MethodName) tables_1 = true)) := by decide +kernel
theorem ca_w12_3 : callAt tables_1 "HittingMaxSatL2" 12 3 = some ((⟨"HittingMaxSatL2", "in", "(II)Z"⟩ : MethodName), 2, method_2_code, 2, (some .boolean)) := callAt_of ml_w12 cl_law_in pd_law_in cc_law_in_3 rfl
theorem d_law_40 : decode code 40 = .ok (.istore 6, 2) := by decide +kernel
theorem d_law_42 : decode code 42 = .ok (.iload 6, 2) := by decide +kernel
theorem d_law_44 : decode code 44 = .ok (.ifCond .eq 12, 3) := by decide +kernel
theorem d_law_56 : decode code 56 = .ok (.iconst 0, 1) := by decide +kernel
theorem d_law_47 : decode code 47 = .ok (.iload_n 2, 1) := by decide +kernel
theorem d_law_48 : decode code 48 = .ok (.iload_n 1, 1) := by decide +kernel
theorem d_law_52 : decode code 52 = .ok (.iconst 1, 1) := by decide +kernel
theorem d_law_53 : decode code 53 = .ok (.goto 4, 3) := by decide +kernel
theorem d_law_49 : decode code 49 = .ok (.if_icmp .ne 7, 3) := by decide +kernel
theorem d_law_57 : decode code 57 = .ok (.istore 7, 2) := by decide +kernel
theorem d_law_59 : decode code 59 = .ok (.iload_n 2, 1) := by decide +kernel
theorem d_law_60 : decode code 60 = .ok (.iload 5, 2) := by decide +kernel
theorem d_law_62 : decode code 62 = .ok (.invokestatic 12, 3) := by decide +kernel
theorem d_law_65 : decode code 65 = .ok (.ifCond .eq 12, 3) := by decide +kernel
theorem d_law_77 : decode code 77 = .ok (.iconst 0, 1) := by decide +kernel
theorem d_law_68 : decode code 68 = .ok (.iload 7, 2) := by decide +kernel
theorem d_law_73 : decode code 73 = .ok (.iconst 1, 1) := by decide +kernel
theorem d_law_74 : decode code 74 = .ok (.goto 4, 3) := by decide +kernel
theorem d_law_70 : decode code 70 = .ok (.ifCond .ne 7, 3) := by decide +kernel
theorem d_law_78 : decode code 78 = .ok (.istore 8, 2) := by decide +kernel
theorem d_law_80 : decode code 80 = .ok (.iload 6, 2) := by decide +kernel
theorem d_law_82 : decode code 82 = .ok (.ifCond .eq 7, 3) := by decide +kernel
theorem d_law_89 : decode code 89 = .ok (.iconst 1, 1) := by decide +kernel
theorem d_law_85 : decode code 85 = .ok (.iconst 0, 1) := by decide +kernel
theorem d_law_86 : decode code 86 = .ok (.goto 4, 3) := by decide +kernel
theorem d_law_90 : decode code 90 = .ok (.istore 9, 2) := by decide +kernel
theorem d_law_92 : decode code 92 = .ok (.iload_n 2, 1) := by decide +kernel
theorem d_law_93 : decode code 93 = .ok (.iload 5, 2) := by decide +kernel
theorem d_law_95 : decode code 95 = .ok (.invokestatic 12, 3) := by decide +kernel
theorem d_law_98 : decode code 98 = .ok (.ifCond .ne 7, 3) := by decide +kernel
theorem d_law_105 : decode code 105 = .ok (.iload 7, 2) := by decide +kernel
theorem d_law_114 : decode code 114 = .ok (.iconst 0, 1) := by decide +kernel
theorem d_law_110 : decode code 110 = .ok (.iconst 4, 1) := by decide +kernel
theorem d_law_111 : decode code 111 = .ok (.goto 4, 3) := by decide +kernel
theorem d_law_107 : decode code 107 = .ok (.ifCond .eq 7, 3) := by decide +kernel
theorem d_law_101 : decode code 101 = .ok (.iconst 1, 1) := by decide +kernel
theorem d_law_102 : decode code 102 = .ok (.goto 13, 3) := by decide +kernel
theorem d_law_115 : decode code 115 = .ok (.istore 10, 2) := by decide +kernel
theorem d_law_117 : decode code 117 = .ok (.iload 6, 2) := by decide +kernel
theorem d_law_119 : decode code 119 = .ok (.ifCond .eq 7, 3) := by decide +kernel
theorem d_law_126 : decode code 126 = .ok (.iconst 0, 1) := by decide +kernel
theorem d_law_122 : decode code 122 = .ok (.iconst 1, 1) := by decide +kernel
theorem d_law_123 : decode code 123 = .ok (.goto 4, 3) := by decide +kernel
theorem d_law_127 : decode code 127 = .ok (.iload 8, 2) := by decide +kernel
theorem d_law_129 : decode code 129 = .ok (.ifCond .eq 7, 3) := by decide +kernel
theorem d_law_136 : decode code 136 = .ok (.iconst 0, 1) := by decide +kernel
theorem d_law_132 : decode code 132 = .ok (.iconst 1, 1) := by decide +kernel
theorem d_law_133 : decode code 133 = .ok (.goto 4, 3) := by decide +kernel
theorem d_law_137 : decode code 137 = .ok (.iadd, 1) := by decide +kernel
theorem d_law_138 : decode code 138 = .ok (.istore 11, 2) := by decide +kernel
theorem d_law_140 : decode code 140 = .ok (.iload_n 3, 1) := by decide +kernel
theorem d_law_141 : decode code 141 = .ok (.iconst 1, 1) := by decide +kernel
theorem d_law_142 : decode code 142 = .ok (.if_icmp .lt 10, 3) := by decide +kernel
theorem d_law_152 : decode code 152 = .ok (.iconst 1, 1) := by decide +kernel
theorem d_law_153 : decode code 153 = .ok (.goto 13, 3) := by decide +kernel
theorem d_law_145 : decode code 145 = .ok (.iload_n 3, 1) := by decide +kernel
theorem d_law_146 : decode code 146 = .ok (.sipush 1000, 3) := by decide +kernel
theorem d_law_156 : decode code 156 = .ok (.iload 11, 2) := by decide +kernel
theorem d_law_165 : decode code 165 = .ok (.iconst 0, 1) := by decide +kernel
theorem d_law_161 : decode code 161 = .ok (.iconst 3, 1) := by decide +kernel
theorem d_law_162 : decode code 162 = .ok (.goto 4, 3) := by decide +kernel
theorem d_law_158 : decode code 158 = .ok (.ifCond .ne 7, 3) := by decide +kernel
theorem d_law_149 : decode code 149 = .ok (.if_icmp .le 7, 3) := by decide +kernel
theorem d_law_166 : decode code 166 = .ok (.istore 12, 2) := by decide +kernel
theorem d_law_168 : decode code 168 = .ok (.iload 12, 2) := by decide +kernel
theorem d_law_170 : decode code 170 = .ok (.ifCond .ne 7, 3) := by decide +kernel
theorem d_law_177 : decode code 177 = .ok (.iconst 0, 1) := by decide +kernel
theorem d_law_173 : decode code 173 = .ok (.iconst 1, 1) := by decide +kernel
theorem d_law_174 : decode code 174 = .ok (.goto 4, 3) := by decide +kernel
theorem d_law_178 : decode code 178 = .ok (.istore 13, 2) := by decide +kernel
theorem d_law_180 : decode code 180 = .ok (.iload 6, 2) := by decide +kernel
theorem d_law_182 : decode code 182 = .ok (.ifCond .eq 7, 3) := by decide +kernel
theorem d_law_189 : decode code 189 = .ok (.iload_n 2, 1) := by decide +kernel
theorem d_law_185 : decode code 185 = .ok (.iload_n 1, 1) := by decide +kernel
theorem d_law_186 : decode code 186 = .ok (.goto 4, 3) := by decide +kernel
theorem d_law_190 : decode code 190 = .ok (.istore 14, 2) := by decide +kernel
theorem d_law_192 : decode code 192 = .ok (.iload 11, 2) := by decide +kernel
theorem d_law_194 : decode code 194 = .ok (.iconst 2, 1) := by decide +kernel
theorem d_law_195 : decode code 195 = .ok (.if_icmp .ne 7, 3) := by decide +kernel
theorem d_law_202 : decode code 202 = .ok (.iconst 0, 1) := by decide +kernel
theorem d_law_198 : decode code 198 = .ok (.iload_n 2, 1) := by decide +kernel
theorem d_law_199 : decode code 199 = .ok (.goto 4, 3) := by decide +kernel
theorem d_law_203 : decode code 203 = .ok (.istore 15, 2) := by decide +kernel
theorem d_law_205 : decode code 205 = .ok (.aload 4, 2) := by decide +kernel
theorem d_law_207 : decode code 207 = .ok (.iload_n 1, 1) := by decide +kernel
theorem d_law_208 : decode code 208 = .ok (.invokevirtual 18, 3) := by decide +kernel
theorem ml_w18 : methodLk "HittingMaxSatL2" 18 tables_1 = some (⟨"HittingMaxSat", "addLiteral", "(I)I"⟩ : MethodName) := by decide +kernel
theorem cl_addLiteral : codeLk (⟨"HittingMaxSat", "addLiteral", "(I)I"⟩ : MethodName) tables_1 = some (prog_1_method_2_code, 2, (some .int)) := codeLk_at (i := 95) rfl (by decide +kernel)
theorem pd_addLiteral : parseMethodDescriptor "(I)I" = some ⟨[.int], some .int⟩ := by decide +kernel
theorem cc_addLiteral_0 : hasInit (⟨"HittingMaxSat", "addLiteral", "(I)I"⟩ : MethodName).cls tables_1 = true ∧ plainName (⟨"HittingMaxSat", "addLiteral", "(I)I"⟩ : MethodName).cls = true ∧ (⟨"HittingMaxSat", "addLiteral", "(I)I"⟩ : MethodName).cls ≠ "java/lang/invoke/MethodHandle" ∧ (⟨"HittingMaxSat", "addLiteral", "(I)I"⟩ : MethodName).cls ≠ "java/lang/invoke/VarHandle" ∧ (((0 : Nat) = 0 ∧ hasDecl (⟨"HittingMaxSat", "addLiteral", "(I)I"⟩ : MethodName) tables_1 = true ∧ hasSel (⟨"HittingMaxSat", "addLiteral", "(I)I"⟩ : MethodName) tables_1 = true ∧ hasInst (⟨"HittingMaxSat", "addLiteral", "(I)I"⟩ : MethodName) tables_1 = true) ∨ ((0 : Nat) = 1 ∧ hasPriv (⟨"HittingMaxSat", "addLiteral", "(I)I"⟩ : MethodName) tables_1 = true ∧ hasInst (⟨"HittingMaxSat", "addLiteral", "(I)I"⟩ : MethodName) tables_1 = true ∧ (instLk (⟨"HittingMaxSat", "addLiteral", "(I)I"⟩ : MethodName).cls tables_1).isSome = true) ∨ ((0 : Nat) = 2 ∧ (⟨"HittingMaxSat", "addLiteral", "(I)I"⟩ : MethodName).name = "<init>" ∧ hasInst (⟨"HittingMaxSat", "addLiteral", "(I)I"⟩ : MethodName) tables_1 = true ∧ ((some .int) : Option FieldType) = none) ∨ ((0 : Nat) = 3 ∧ hasStat (⟨"HittingMaxSat", "addLiteral", "(I)I"⟩ : MethodName) tables_1 = true)) := by decide +kernel
theorem ca_w18_0 : callAt tables_1 "HittingMaxSatL2" 18 0 = some ((⟨"HittingMaxSat", "addLiteral", "(I)I"⟩ : MethodName), 1, prog_1_method_2_code, 2, (some .int)) := callAt_of ml_w18 cl_addLiteral pd_addLiteral cc_addLiteral_0 rfl
theorem np_addLiteral : hasPriv (⟨"HittingMaxSat", "addLiteral", "(I)I"⟩ : MethodName) tables_1 = false := by decide +kernel
theorem ca_w18_0n : callAt tables_1 "HittingMaxSatL2" 18 1 = none := callAt_pub ml_w18 np_addLiteral
theorem d_law_211 : decode code 211 = .ok (.istore 16, 2) := by decide +kernel
theorem d_law_213 : decode code 213 = .ok (.aload 4, 2) := by decide +kernel
theorem d_law_215 : decode code 215 = .ok (.iload_n 2, 1) := by decide +kernel
theorem d_law_216 : decode code 216 = .ok (.invokevirtual 18, 3) := by decide +kernel
theorem d_law_219 : decode code 219 = .ok (.istore 17, 2) := by decide +kernel
theorem d_law_221 : decode code 221 = .ok (.aload 4, 2) := by decide +kernel
theorem d_law_223 : decode code 223 = .ok (.iload_n 3, 1) := by decide +kernel
theorem d_law_224 : decode code 224 = .ok (.invokevirtual 22, 3) := by decide +kernel
theorem ml_w22 : methodLk "HittingMaxSatL2" 22 tables_1 = some (⟨"HittingMaxSat", "commitSoft", "(I)I"⟩ : MethodName) := by decide +kernel
theorem cl_commitSoft : codeLk (⟨"HittingMaxSat", "commitSoft", "(I)I"⟩ : MethodName) tables_1 = some (prog_1_method_5_code, 2, (some .int)) := codeLk_at (i := 104) rfl (by decide +kernel)
theorem pd_commitSoft : parseMethodDescriptor "(I)I" = some ⟨[.int], some .int⟩ := by decide +kernel
theorem cc_commitSoft_0 : hasInit (⟨"HittingMaxSat", "commitSoft", "(I)I"⟩ : MethodName).cls tables_1 = true ∧ plainName (⟨"HittingMaxSat", "commitSoft", "(I)I"⟩ : MethodName).cls = true ∧ (⟨"HittingMaxSat", "commitSoft", "(I)I"⟩ : MethodName).cls ≠ "java/lang/invoke/MethodHandle" ∧ (⟨"HittingMaxSat", "commitSoft", "(I)I"⟩ : MethodName).cls ≠ "java/lang/invoke/VarHandle" ∧ (((0 : Nat) = 0 ∧ hasDecl (⟨"HittingMaxSat", "commitSoft", "(I)I"⟩ : MethodName) tables_1 = true ∧ hasSel (⟨"HittingMaxSat", "commitSoft", "(I)I"⟩ : MethodName) tables_1 = true ∧ hasInst (⟨"HittingMaxSat", "commitSoft", "(I)I"⟩ : MethodName) tables_1 = true) ∨ ((0 : Nat) = 1 ∧ hasPriv (⟨"HittingMaxSat", "commitSoft", "(I)I"⟩ : MethodName) tables_1 = true ∧ hasInst (⟨"HittingMaxSat", "commitSoft", "(I)I"⟩ : MethodName) tables_1 = true ∧ (instLk (⟨"HittingMaxSat", "commitSoft", "(I)I"⟩ : MethodName).cls tables_1).isSome = true) ∨ ((0 : Nat) = 2 ∧ (⟨"HittingMaxSat", "commitSoft", "(I)I"⟩ : MethodName).name = "<init>" ∧ hasInst (⟨"HittingMaxSat", "commitSoft", "(I)I"⟩ : MethodName) tables_1 = true ∧ ((some .int) : Option FieldType) = none) ∨ ((0 : Nat) = 3 ∧ hasStat (⟨"HittingMaxSat", "commitSoft", "(I)I"⟩ : MethodName) tables_1 = true)) := by decide +kernel
theorem ca_w22_0 : callAt tables_1 "HittingMaxSatL2" 22 0 = some ((⟨"HittingMaxSat", "commitSoft", "(I)I"⟩ : MethodName), 1, prog_1_method_5_code, 2, (some .int)) := callAt_of ml_w22 cl_commitSoft pd_commitSoft cc_commitSoft_0 rfl
theorem np_commitSoft : hasPriv (⟨"HittingMaxSat", "commitSoft", "(I)I"⟩ : MethodName) tables_1 = false := by decide +kernel
theorem ca_w22_0n : callAt tables_1 "HittingMaxSatL2" 22 1 = none := callAt_pub ml_w22 np_commitSoft
theorem d_law_227 : decode code 227 = .ok (.istore 18, 2) := by decide +kernel
theorem d_law_229 : decode code 229 = .ok (.aload 4, 2) := by decide +kernel
theorem d_law_231 : decode code 231 = .ok (.invokevirtual 25, 3) := by decide +kernel
theorem ml_w25 : methodLk "HittingMaxSatL2" 25 tables_1 = some (⟨"HittingMaxSat", "getClauseCount", "()I"⟩ : MethodName) := by decide +kernel
theorem cl_getClauseCount : codeLk (⟨"HittingMaxSat", "getClauseCount", "()I"⟩ : MethodName) tables_1 = some (prog_1_method_13_code, 1, (some .int)) := codeLk_at (i := 109) rfl (by decide +kernel)
theorem pd_getClauseCount : parseMethodDescriptor "()I" = some ⟨[], some .int⟩ := by decide +kernel
theorem cc_getClauseCount_0 : hasInit (⟨"HittingMaxSat", "getClauseCount", "()I"⟩ : MethodName).cls tables_1 = true ∧ plainName (⟨"HittingMaxSat", "getClauseCount", "()I"⟩ : MethodName).cls = true ∧ (⟨"HittingMaxSat", "getClauseCount", "()I"⟩ : MethodName).cls ≠ "java/lang/invoke/MethodHandle" ∧ (⟨"HittingMaxSat", "getClauseCount", "()I"⟩ : MethodName).cls ≠ "java/lang/invoke/VarHandle" ∧ (((0 : Nat) = 0 ∧ hasDecl (⟨"HittingMaxSat", "getClauseCount", "()I"⟩ : MethodName) tables_1 = true ∧ hasSel (⟨"HittingMaxSat", "getClauseCount", "()I"⟩ : MethodName) tables_1 = true ∧ hasInst (⟨"HittingMaxSat", "getClauseCount", "()I"⟩ : MethodName) tables_1 = true) ∨ ((0 : Nat) = 1 ∧ hasPriv (⟨"HittingMaxSat", "getClauseCount", "()I"⟩ : MethodName) tables_1 = true ∧ hasInst (⟨"HittingMaxSat", "getClauseCount", "()I"⟩ : MethodName) tables_1 = true ∧ (instLk (⟨"HittingMaxSat", "getClauseCount", "()I"⟩ : MethodName).cls tables_1).isSome = true) ∨ ((0 : Nat) = 2 ∧ (⟨"HittingMaxSat", "getClauseCount", "()I"⟩ : MethodName).name = "<init>" ∧ hasInst (⟨"HittingMaxSat", "getClauseCount", "()I"⟩ : MethodName) tables_1 = true ∧ ((some .int) : Option FieldType) = none) ∨ ((0 : Nat) = 3 ∧ hasStat (⟨"HittingMaxSat", "getClauseCount", "()I"⟩ : MethodName) tables_1 = true)) := by decide +kernel
theorem ca_w25_0 : callAt tables_1 "HittingMaxSatL2" 25 0 = some ((⟨"HittingMaxSat", "getClauseCount", "()I"⟩ : MethodName), 0, prog_1_method_13_code, 1, (some .int)) := callAt_of ml_w25 cl_getClauseCount pd_getClauseCount cc_getClauseCount_0 rfl
theorem np_getClauseCount : hasPriv (⟨"HittingMaxSat", "getClauseCount", "()I"⟩ : MethodName) tables_1 = false := by decide +kernel
theorem ca_w25_0n : callAt tables_1 "HittingMaxSatL2" 25 1 = none := callAt_pub ml_w25 np_getClauseCount
theorem d_law_234 : decode code 234 = .ok (.istore 19, 2) := by decide +kernel
theorem d_law_236 : decode code 236 = .ok (.aload 4, 2) := by decide +kernel
theorem d_law_238 : decode code 238 = .ok (.iconst 0, 1) := by decide +kernel
theorem d_law_239 : decode code 239 = .ok (.invokevirtual 29, 3) := by decide +kernel
theorem ml_w29 : methodLk "HittingMaxSatL2" 29 tables_1 = some (⟨"HittingMaxSat", "getClauseWeight", "(I)I"⟩ : MethodName) := by decide +kernel
theorem cl_getClauseWeight : codeLk (⟨"HittingMaxSat", "getClauseWeight", "(I)I"⟩ : MethodName) tables_1 = some (prog_1_method_14_code, 2, (some .int)) := codeLk_at (i := 114) rfl (by decide +kernel)
theorem pd_getClauseWeight : parseMethodDescriptor "(I)I" = some ⟨[.int], some .int⟩ := by decide +kernel
theorem cc_getClauseWeight_0 : hasInit (⟨"HittingMaxSat", "getClauseWeight", "(I)I"⟩ : MethodName).cls tables_1 = true ∧ plainName (⟨"HittingMaxSat", "getClauseWeight", "(I)I"⟩ : MethodName).cls = true ∧ (⟨"HittingMaxSat", "getClauseWeight", "(I)I"⟩ : MethodName).cls ≠ "java/lang/invoke/MethodHandle" ∧ (⟨"HittingMaxSat", "getClauseWeight", "(I)I"⟩ : MethodName).cls ≠ "java/lang/invoke/VarHandle" ∧ (((0 : Nat) = 0 ∧ hasDecl (⟨"HittingMaxSat", "getClauseWeight", "(I)I"⟩ : MethodName) tables_1 = true ∧ hasSel (⟨"HittingMaxSat", "getClauseWeight", "(I)I"⟩ : MethodName) tables_1 = true ∧ hasInst (⟨"HittingMaxSat", "getClauseWeight", "(I)I"⟩ : MethodName) tables_1 = true) ∨ ((0 : Nat) = 1 ∧ hasPriv (⟨"HittingMaxSat", "getClauseWeight", "(I)I"⟩ : MethodName) tables_1 = true ∧ hasInst (⟨"HittingMaxSat", "getClauseWeight", "(I)I"⟩ : MethodName) tables_1 = true ∧ (instLk (⟨"HittingMaxSat", "getClauseWeight", "(I)I"⟩ : MethodName).cls tables_1).isSome = true) ∨ ((0 : Nat) = 2 ∧ (⟨"HittingMaxSat", "getClauseWeight", "(I)I"⟩ : MethodName).name = "<init>" ∧ hasInst (⟨"HittingMaxSat", "getClauseWeight", "(I)I"⟩ : MethodName) tables_1 = true ∧ ((some .int) : Option FieldType) = none) ∨ ((0 : Nat) = 3 ∧ hasStat (⟨"HittingMaxSat", "getClauseWeight", "(I)I"⟩ : MethodName) tables_1 = true)) := by decide +kernel
theorem ca_w29_0 : callAt tables_1 "HittingMaxSatL2" 29 0 = some ((⟨"HittingMaxSat", "getClauseWeight", "(I)I"⟩ : MethodName), 1, prog_1_method_14_code, 2, (some .int)) := callAt_of ml_w29 cl_getClauseWeight pd_getClauseWeight cc_getClauseWeight_0 rfl
theorem np_getClauseWeight : hasPriv (⟨"HittingMaxSat", "getClauseWeight", "(I)I"⟩ : MethodName) tables_1 = false := by decide +kernel
theorem ca_w29_0n : callAt tables_1 "HittingMaxSatL2" 29 1 = none := callAt_pub ml_w29 np_getClauseWeight
theorem d_law_242 : decode code 242 = .ok (.istore 20, 2) := by decide +kernel
theorem d_law_244 : decode code 244 = .ok (.aload 4, 2) := by decide +kernel
theorem d_law_246 : decode code 246 = .ok (.iconst 0, 1) := by decide +kernel
theorem d_law_247 : decode code 247 = .ok (.invokevirtual 32, 3) := by decide +kernel
theorem ml_w32 : methodLk "HittingMaxSatL2" 32 tables_1 = some (⟨"HittingMaxSat", "getClauseLength", "(I)I"⟩ : MethodName) := by decide +kernel
theorem cl_getClauseLength : codeLk (⟨"HittingMaxSat", "getClauseLength", "(I)I"⟩ : MethodName) tables_1 = some (prog_1_method_15_code, 2, (some .int)) := codeLk_at (i := 123) rfl (by decide +kernel)
theorem pd_getClauseLength : parseMethodDescriptor "(I)I" = some ⟨[.int], some .int⟩ := by decide +kernel
theorem cc_getClauseLength_0 : hasInit (⟨"HittingMaxSat", "getClauseLength", "(I)I"⟩ : MethodName).cls tables_1 = true ∧ plainName (⟨"HittingMaxSat", "getClauseLength", "(I)I"⟩ : MethodName).cls = true ∧ (⟨"HittingMaxSat", "getClauseLength", "(I)I"⟩ : MethodName).cls ≠ "java/lang/invoke/MethodHandle" ∧ (⟨"HittingMaxSat", "getClauseLength", "(I)I"⟩ : MethodName).cls ≠ "java/lang/invoke/VarHandle" ∧ (((0 : Nat) = 0 ∧ hasDecl (⟨"HittingMaxSat", "getClauseLength", "(I)I"⟩ : MethodName) tables_1 = true ∧ hasSel (⟨"HittingMaxSat", "getClauseLength", "(I)I"⟩ : MethodName) tables_1 = true ∧ hasInst (⟨"HittingMaxSat", "getClauseLength", "(I)I"⟩ : MethodName) tables_1 = true) ∨ ((0 : Nat) = 1 ∧ hasPriv (⟨"HittingMaxSat", "getClauseLength", "(I)I"⟩ : MethodName) tables_1 = true ∧ hasInst (⟨"HittingMaxSat", "getClauseLength", "(I)I"⟩ : MethodName) tables_1 = true ∧ (instLk (⟨"HittingMaxSat", "getClauseLength", "(I)I"⟩ : MethodName).cls tables_1).isSome = true) ∨ ((0 : Nat) = 2 ∧ (⟨"HittingMaxSat", "getClauseLength", "(I)I"⟩ : MethodName).name = "<init>" ∧ hasInst (⟨"HittingMaxSat", "getClauseLength", "(I)I"⟩ : MethodName) tables_1 = true ∧ ((some .int) : Option FieldType) = none) ∨ ((0 : Nat) = 3 ∧ hasStat (⟨"HittingMaxSat", "getClauseLength", "(I)I"⟩ : MethodName) tables_1 = true)) := by decide +kernel
theorem ca_w32_0 : callAt tables_1 "HittingMaxSatL2" 32 0 = some ((⟨"HittingMaxSat", "getClauseLength", "(I)I"⟩ : MethodName), 1, prog_1_method_15_code, 2, (some .int)) := callAt_of ml_w32 cl_getClauseLength pd_getClauseLength cc_getClauseLength_0 rfl
theorem np_getClauseLength : hasPriv (⟨"HittingMaxSat", "getClauseLength", "(I)I"⟩ : MethodName) tables_1 = false := by decide +kernel
theorem ca_w32_0n : callAt tables_1 "HittingMaxSatL2" 32 1 = none := callAt_pub ml_w32 np_getClauseLength
theorem d_law_250 : decode code 250 = .ok (.istore 21, 2) := by decide +kernel
theorem d_law_252 : decode code 252 = .ok (.aload 4, 2) := by decide +kernel
theorem d_law_254 : decode code 254 = .ok (.iconst 0, 1) := by decide +kernel
theorem d_law_255 : decode code 255 = .ok (.iconst 0, 1) := by decide +kernel
theorem d_law_256 : decode code 256 = .ok (.invokevirtual 35, 3) := by decide +kernel
theorem ml_w35 : methodLk "HittingMaxSatL2" 35 tables_1 = some (⟨"HittingMaxSat", "getClauseLiteral", "(II)I"⟩ : MethodName) := by decide +kernel
theorem cl_getClauseLiteral : codeLk (⟨"HittingMaxSat", "getClauseLiteral", "(II)I"⟩ : MethodName) tables_1 = some (prog_1_method_16_code, 4, (some .int)) := codeLk_at (i := 128) rfl (by decide +kernel)
theorem pd_getClauseLiteral : parseMethodDescriptor "(II)I" = some ⟨[.int, .int], some .int⟩ := by decide +kernel
theorem cc_getClauseLiteral_0 : hasInit (⟨"HittingMaxSat", "getClauseLiteral", "(II)I"⟩ : MethodName).cls tables_1 = true ∧ plainName (⟨"HittingMaxSat", "getClauseLiteral", "(II)I"⟩ : MethodName).cls = true ∧ (⟨"HittingMaxSat", "getClauseLiteral", "(II)I"⟩ : MethodName).cls ≠ "java/lang/invoke/MethodHandle" ∧ (⟨"HittingMaxSat", "getClauseLiteral", "(II)I"⟩ : MethodName).cls ≠ "java/lang/invoke/VarHandle" ∧ (((0 : Nat) = 0 ∧ hasDecl (⟨"HittingMaxSat", "getClauseLiteral", "(II)I"⟩ : MethodName) tables_1 = true ∧ hasSel (⟨"HittingMaxSat", "getClauseLiteral", "(II)I"⟩ : MethodName) tables_1 = true ∧ hasInst (⟨"HittingMaxSat", "getClauseLiteral", "(II)I"⟩ : MethodName) tables_1 = true) ∨ ((0 : Nat) = 1 ∧ hasPriv (⟨"HittingMaxSat", "getClauseLiteral", "(II)I"⟩ : MethodName) tables_1 = true ∧ hasInst (⟨"HittingMaxSat", "getClauseLiteral", "(II)I"⟩ : MethodName) tables_1 = true ∧ (instLk (⟨"HittingMaxSat", "getClauseLiteral", "(II)I"⟩ : MethodName).cls tables_1).isSome = true) ∨ ((0 : Nat) = 2 ∧ (⟨"HittingMaxSat", "getClauseLiteral", "(II)I"⟩ : MethodName).name = "<init>" ∧ hasInst (⟨"HittingMaxSat", "getClauseLiteral", "(II)I"⟩ : MethodName) tables_1 = true ∧ ((some .int) : Option FieldType) = none) ∨ ((0 : Nat) = 3 ∧ hasStat (⟨"HittingMaxSat", "getClauseLiteral", "(II)I"⟩ : MethodName) tables_1 = true)) := by decide +kernel
theorem ca_w35_0 : callAt tables_1 "HittingMaxSatL2" 35 0 = some ((⟨"HittingMaxSat", "getClauseLiteral", "(II)I"⟩ : MethodName), 2, prog_1_method_16_code, 4, (some .int)) := callAt_of ml_w35 cl_getClauseLiteral pd_getClauseLiteral cc_getClauseLiteral_0 rfl
theorem np_getClauseLiteral : hasPriv (⟨"HittingMaxSat", "getClauseLiteral", "(II)I"⟩ : MethodName) tables_1 = false := by decide +kernel
theorem ca_w35_0n : callAt tables_1 "HittingMaxSatL2" 35 1 = none := callAt_pub ml_w35 np_getClauseLiteral
theorem d_law_259 : decode code 259 = .ok (.istore 22, 2) := by decide +kernel
theorem d_law_261 : decode code 261 = .ok (.aload 4, 2) := by decide +kernel
theorem d_law_263 : decode code 263 = .ok (.iconst 0, 1) := by decide +kernel
theorem d_law_264 : decode code 264 = .ok (.iconst 1, 1) := by decide +kernel
theorem d_law_265 : decode code 265 = .ok (.invokevirtual 35, 3) := by decide +kernel
theorem d_law_268 : decode code 268 = .ok (.istore 23, 2) := by decide +kernel
theorem d_law_270 : decode code 270 = .ok (.aload 4, 2) := by decide +kernel
theorem d_law_272 : decode code 272 = .ok (.invokevirtual 39, 3) := by decide +kernel
theorem ml_w39 : methodLk "HittingMaxSatL2" 39 tables_1 = some (⟨"HittingMaxSat", "getPendingLength", "()I"⟩ : MethodName) := by decide +kernel
theorem cl_getPendingLength : codeLk (⟨"HittingMaxSat", "getPendingLength", "()I"⟩ : MethodName) tables_1 = some (prog_1_method_17_code, 1, (some .int)) := codeLk_at (i := 133) rfl (by decide +kernel)
theorem pd_getPendingLength : parseMethodDescriptor "()I" = some ⟨[], some .int⟩ := by decide +kernel
theorem cc_getPendingLength_0 : hasInit (⟨"HittingMaxSat", "getPendingLength", "()I"⟩ : MethodName).cls tables_1 = true ∧ plainName (⟨"HittingMaxSat", "getPendingLength", "()I"⟩ : MethodName).cls = true ∧ (⟨"HittingMaxSat", "getPendingLength", "()I"⟩ : MethodName).cls ≠ "java/lang/invoke/MethodHandle" ∧ (⟨"HittingMaxSat", "getPendingLength", "()I"⟩ : MethodName).cls ≠ "java/lang/invoke/VarHandle" ∧ (((0 : Nat) = 0 ∧ hasDecl (⟨"HittingMaxSat", "getPendingLength", "()I"⟩ : MethodName) tables_1 = true ∧ hasSel (⟨"HittingMaxSat", "getPendingLength", "()I"⟩ : MethodName) tables_1 = true ∧ hasInst (⟨"HittingMaxSat", "getPendingLength", "()I"⟩ : MethodName) tables_1 = true) ∨ ((0 : Nat) = 1 ∧ hasPriv (⟨"HittingMaxSat", "getPendingLength", "()I"⟩ : MethodName) tables_1 = true ∧ hasInst (⟨"HittingMaxSat", "getPendingLength", "()I"⟩ : MethodName) tables_1 = true ∧ (instLk (⟨"HittingMaxSat", "getPendingLength", "()I"⟩ : MethodName).cls tables_1).isSome = true) ∨ ((0 : Nat) = 2 ∧ (⟨"HittingMaxSat", "getPendingLength", "()I"⟩ : MethodName).name = "<init>" ∧ hasInst (⟨"HittingMaxSat", "getPendingLength", "()I"⟩ : MethodName) tables_1 = true ∧ ((some .int) : Option FieldType) = none) ∨ ((0 : Nat) = 3 ∧ hasStat (⟨"HittingMaxSat", "getPendingLength", "()I"⟩ : MethodName) tables_1 = true)) := by decide +kernel
theorem ca_w39_0 : callAt tables_1 "HittingMaxSatL2" 39 0 = some ((⟨"HittingMaxSat", "getPendingLength", "()I"⟩ : MethodName), 0, prog_1_method_17_code, 1, (some .int)) := callAt_of ml_w39 cl_getPendingLength pd_getPendingLength cc_getPendingLength_0 rfl
theorem np_getPendingLength : hasPriv (⟨"HittingMaxSat", "getPendingLength", "()I"⟩ : MethodName) tables_1 = false := by decide +kernel
theorem ca_w39_0n : callAt tables_1 "HittingMaxSatL2" 39 1 = none := callAt_pub ml_w39 np_getPendingLength
theorem d_law_275 : decode code 275 = .ok (.istore 24, 2) := by decide +kernel
theorem d_law_277 : decode code 277 = .ok (.aload 4, 2) := by decide +kernel
theorem d_law_279 : decode code 279 = .ok (.invokevirtual 42, 3) := by decide +kernel
theorem ml_w42 : methodLk "HittingMaxSatL2" 42 tables_1 = some (⟨"HittingMaxSat", "getStatus", "()I"⟩ : MethodName) := by decide +kernel
theorem cl_getStatus : codeLk (⟨"HittingMaxSat", "getStatus", "()I"⟩ : MethodName) tables_1 = some (prog_1_method_8_code, 1, (some .int)) := codeLk_at (i := 138) rfl (by decide +kernel)
theorem pd_getStatus : parseMethodDescriptor "()I" = some ⟨[], some .int⟩ := by decide +kernel
theorem cc_getStatus_0 : hasInit (⟨"HittingMaxSat", "getStatus", "()I"⟩ : MethodName).cls tables_1 = true ∧ plainName (⟨"HittingMaxSat", "getStatus", "()I"⟩ : MethodName).cls = true ∧ (⟨"HittingMaxSat", "getStatus", "()I"⟩ : MethodName).cls ≠ "java/lang/invoke/MethodHandle" ∧ (⟨"HittingMaxSat", "getStatus", "()I"⟩ : MethodName).cls ≠ "java/lang/invoke/VarHandle" ∧ (((0 : Nat) = 0 ∧ hasDecl (⟨"HittingMaxSat", "getStatus", "()I"⟩ : MethodName) tables_1 = true ∧ hasSel (⟨"HittingMaxSat", "getStatus", "()I"⟩ : MethodName) tables_1 = true ∧ hasInst (⟨"HittingMaxSat", "getStatus", "()I"⟩ : MethodName) tables_1 = true) ∨ ((0 : Nat) = 1 ∧ hasPriv (⟨"HittingMaxSat", "getStatus", "()I"⟩ : MethodName) tables_1 = true ∧ hasInst (⟨"HittingMaxSat", "getStatus", "()I"⟩ : MethodName) tables_1 = true ∧ (instLk (⟨"HittingMaxSat", "getStatus", "()I"⟩ : MethodName).cls tables_1).isSome = true) ∨ ((0 : Nat) = 2 ∧ (⟨"HittingMaxSat", "getStatus", "()I"⟩ : MethodName).name = "<init>" ∧ hasInst (⟨"HittingMaxSat", "getStatus", "()I"⟩ : MethodName) tables_1 = true ∧ ((some .int) : Option FieldType) = none) ∨ ((0 : Nat) = 3 ∧ hasStat (⟨"HittingMaxSat", "getStatus", "()I"⟩ : MethodName) tables_1 = true)) := by decide +kernel
theorem ca_w42_0 : callAt tables_1 "HittingMaxSatL2" 42 0 = some ((⟨"HittingMaxSat", "getStatus", "()I"⟩ : MethodName), 0, prog_1_method_8_code, 1, (some .int)) := callAt_of ml_w42 cl_getStatus pd_getStatus cc_getStatus_0 rfl
theorem np_getStatus : hasPriv (⟨"HittingMaxSat", "getStatus", "()I"⟩ : MethodName) tables_1 = false := by decide +kernel
theorem ca_w42_0n : callAt tables_1 "HittingMaxSatL2" 42 1 = none := callAt_pub ml_w42 np_getStatus
theorem d_law_282 : decode code 282 = .ok (.istore 25, 2) := by decide +kernel
theorem d_law_284 : decode code 284 = .ok (.iload 16, 2) := by decide +kernel
theorem d_law_286 : decode code 286 = .ok (.iload 9, 2) := by decide +kernel
theorem d_law_288 : decode code 288 = .ok (.if_icmp .ne 120, 3) := by decide +kernel
theorem d_law_408 : decode code 408 = .ok (.iconst 0, 1) := by decide +kernel
theorem d_law_291 : decode code 291 = .ok (.iload 17, 2) := by decide +kernel
theorem d_law_293 : decode code 293 = .ok (.iload 10, 2) := by decide +kernel
theorem d_law_298 : decode code 298 = .ok (.iload 18, 2) := by decide +kernel
theorem d_law_300 : decode code 300 = .ok (.iload 12, 2) := by decide +kernel
theorem d_law_305 : decode code 305 = .ok (.iload 19, 2) := by decide +kernel
theorem d_law_307 : decode code 307 = .ok (.iload 13, 2) := by decide +kernel
theorem d_law_316 : decode code 316 = .ok (.iconst 0, 1) := by decide +kernel
theorem d_law_320 : decode code 320 = .ok (.iload 20, 2) := by decide +kernel
theorem d_law_322 : decode code 322 = .ok (.iload 13, 2) := by decide +kernel
theorem d_law_331 : decode code 331 = .ok (.iconst (-1), 1) := by decide +kernel
theorem d_law_335 : decode code 335 = .ok (.iload 21, 2) := by decide +kernel
theorem d_law_337 : decode code 337 = .ok (.iload 13, 2) := by decide +kernel
theorem d_law_347 : decode code 347 = .ok (.iconst (-1), 1) := by decide +kernel
theorem d_law_351 : decode code 351 = .ok (.iload 22, 2) := by decide +kernel
theorem d_law_353 : decode code 353 = .ok (.iload 13, 2) := by decide +kernel
theorem d_law_363 : decode code 363 = .ok (.iconst 0, 1) := by decide +kernel
theorem d_law_367 : decode code 367 = .ok (.iload 23, 2) := by decide +kernel
theorem d_law_369 : decode code 369 = .ok (.iload 13, 2) := by decide +kernel
theorem d_law_379 : decode code 379 = .ok (.iconst 0, 1) := by decide +kernel
theorem d_law_383 : decode code 383 = .ok (.iload 24, 2) := by decide +kernel
theorem d_law_385 : decode code 385 = .ok (.iload 13, 2) := by decide +kernel
theorem d_law_394 : decode code 394 = .ok (.iload 11, 2) := by decide +kernel
theorem d_law_399 : decode code 399 = .ok (.iload 25, 2) := by decide +kernel
theorem d_law_409 : decode code 409 = .ok (.ireturn, 1) := by decide +kernel
theorem d_law_295 : decode code 295 = .ok (.if_icmp .ne 113, 3) := by decide +kernel
theorem d_law_404 : decode code 404 = .ok (.iconst 1, 1) := by decide +kernel
theorem d_law_405 : decode code 405 = .ok (.goto 4, 3) := by decide +kernel
theorem d_law_401 : decode code 401 = .ok (.ifCond .ne 7, 3) := by decide +kernel
theorem d_law_396 : decode code 396 = .ok (.if_icmp .ne 12, 3) := by decide +kernel
theorem d_law_390 : decode code 390 = .ok (.iconst 0, 1) := by decide +kernel
theorem d_law_391 : decode code 391 = .ok (.goto 5, 3) := by decide +kernel
theorem d_law_387 : decode code 387 = .ok (.ifCond .eq 7, 3) := by decide +kernel
theorem d_law_380 : decode code 380 = .ok (.if_icmp .ne 28, 3) := by decide +kernel
theorem d_law_374 : decode code 374 = .ok (.iload 15, 2) := by decide +kernel
theorem d_law_376 : decode code 376 = .ok (.goto 4, 3) := by decide +kernel
theorem d_law_371 : decode code 371 = .ok (.ifCond .eq 8, 3) := by decide +kernel
theorem d_law_364 : decode code 364 = .ok (.if_icmp .ne 44, 3) := by decide +kernel
theorem d_law_358 : decode code 358 = .ok (.iload 14, 2) := by decide +kernel
theorem d_law_360 : decode code 360 = .ok (.goto 4, 3) := by decide +kernel
theorem d_law_355 : decode code 355 = .ok (.ifCond .eq 8, 3) := by decide +kernel
theorem d_law_348 : decode code 348 = .ok (.if_icmp .ne 60, 3) := by decide +kernel
theorem d_law_342 : decode code 342 = .ok (.iload 11, 2) := by decide +kernel
theorem d_law_344 : decode code 344 = .ok (.goto 4, 3) := by decide +kernel
theorem d_law_339 : decode code 339 = .ok (.ifCond .eq 8, 3) := by decide +kernel
theorem d_law_332 : decode code 332 = .ok (.if_icmp .ne 76, 3) := by decide +kernel
theorem d_law_327 : decode code 327 = .ok (.iload_n 3, 1) := by decide +kernel
theorem d_law_328 : decode code 328 = .ok (.goto 4, 3) := by decide +kernel
theorem d_law_324 : decode code 324 = .ok (.ifCond .eq 7, 3) := by decide +kernel
theorem d_law_317 : decode code 317 = .ok (.if_icmp .ne 91, 3) := by decide +kernel
theorem d_law_312 : decode code 312 = .ok (.iconst 1, 1) := by decide +kernel
theorem d_law_313 : decode code 313 = .ok (.goto 4, 3) := by decide +kernel
theorem d_law_302 : decode code 302 = .ok (.if_icmp .ne 106, 3) := by decide +kernel
theorem d_law_309 : decode code 309 = .ok (.ifCond .eq 7, 3) := by decide +kernel
set_option maxRecDepth 65536 in
set_option maxHeartbeats 4000000 in
theorem L_clamp_0 {x1 x2 x3 : Int32} {mi : Nat → Nat → Int32} {ml : Nat → Nat → Int64} {Q : Option Value → EMem → Prop}
    (h1 : ∀ v1 : Int32, v1 = (if x1 < x2 then x2 else (if x3 < x1 then x3 else x1)) → Q (some (.int v1)) (LL1, mi, ml, RR1)) :
    W_clamp 0 [.val (.ref 0), .val (.int x1), .val (.int x2), .val (.int x3)] [] (LL1, mi, ml, RR1) Q := by
  refine Wp.p (pc' := 1) d_clamp_0 rfl rfl ?_
  refine Wp.p (pc' := 2) d_clamp_1 rfl rfl ?_
  obtain ⟨v1, e1⟩ : ∃ z : Int32, z = (if x1 < x2 then x2 else (if x3 < x1 then x3 else x1)) := ⟨_, rfl⟩
  suffices K : Q (some (.int v1)) (LL1, mi, ml, RR1) by
    refine Wp.icmp_ge d_clamp_2 rfl (fun q0 => ?_) (fun q0 => ?_)
    ·
      refine Wp.p (pc' := 8) d_clamp_7 rfl rfl ?_
      refine Wp.p (pc' := 9) d_clamp_8 rfl rfl ?_
      refine Wp.icmp_le d_clamp_9 rfl (fun q1 => ?_) (fun q1 => ?_)
      ·
        refine Wp.p (pc' := 15) d_clamp_14 rfl rfl ?_
        refine Wp.retI d_clamp_15 ?_
        rw [if_neg q0, if_neg q1] at e1; subst e1
        exact K
      ·
        refine Wp.p (pc' := 13) d_clamp_12 rfl rfl ?_
        refine Wp.retI d_clamp_13 ?_
        rw [if_neg q0, if_pos q1] at e1; subst e1
        exact K
    ·
      refine Wp.p (pc' := 6) d_clamp_5 rfl rfl ?_
      refine Wp.retI d_clamp_6 ?_
      rw [if_pos q0] at e1; subst e1
      exact K
  exact (h1 v1 e1)
set_option maxRecDepth 65536 in
set_option maxHeartbeats 4000000 in
theorem L_markUnsolved_0 {mi : Nat → Nat → Int32} {ml : Nat → Nat → Int64} {Q : Option Value → EMem → Prop}
    (h1 : Q none (LL1, (up (up (up mi 0 82 (0 : Int32)) 0 84 (-1 : Int32)) 0 86 (-1 : Int32)), ml, RR1)) :
    W_markUnsolved 0 [.val (.ref 0)] [] (LL1, mi, ml, RR1) Q := by
  refine Wp.p (pc' := 1) d_markUnsolved_0 rfl rfl ?_
  refine Wp.iconst (0 : Int32) d_markUnsolved_1 (by decide) ?_
  refine Wp.putI d_markUnsolved_2 fa_c132 rfl (by decide) in_HittingMaxSat (Or.inl rfl) ?_
  refine Wp.p (pc' := 6) d_markUnsolved_5 rfl rfl ?_
  refine Wp.iconst (-1 : Int32) d_markUnsolved_6 (by decide) ?_
  refine Wp.putI d_markUnsolved_7 fa_c135 rfl (by decide) in_HittingMaxSat (Or.inl rfl) ?_
  refine Wp.p (pc' := 11) d_markUnsolved_10 rfl rfl ?_
  refine Wp.iconst (-1 : Int32) d_markUnsolved_11 (by decide) ?_
  refine Wp.putI d_markUnsolved_12 fa_c138 rfl (by decide) in_HittingMaxSat (Or.inl rfl) ?_
  refine Wp.retV d_markUnsolved_15 ?_
  exact h1
set_option maxRecDepth 65536 in
set_option maxHeartbeats 4000000 in
theorem L_literalInRange_0 {x1 : Int32} {mi : Nat → Nat → Int32} {ml : Nat → Nat → Int64} {Q : Option Value → EMem → Prop}
    (h1 : ∀ v1 : Int32, v1 = (if x1 = (0 : Int32) then (0 : Int32) else (if x1 < (-(mi 0 70)) then (0 : Int32) else (if (mi 0 70) < x1 then (0 : Int32) else (1 : Int32)))) → Q (some (.int v1)) (LL1, mi, ml, RR1)) :
    W_literalInRange 0 [.val (.ref 0), .val (.int x1)] [] (LL1, mi, ml, RR1) Q := by
  refine Wp.p (pc' := 1) d_literalInRange_0 rfl rfl ?_
  obtain ⟨v1, e1⟩ : ∃ z : Int32, z = (if x1 = (0 : Int32) then (0 : Int32) else (if x1 < (-(mi 0 70)) then (0 : Int32) else (if (mi 0 70) < x1 then (0 : Int32) else (1 : Int32)))) := ⟨_, rfl⟩
  suffices K : Q (some (.int v1)) (LL1, mi, ml, RR1) by
    refine Wp.if_ne d_literalInRange_1 rfl (fun q0 => ?_) (fun q0 => ?_)
    ·
      refine Wp.p (pc' := 7) d_literalInRange_6 rfl rfl ?_
      refine Wp.p (pc' := 8) d_literalInRange_7 rfl rfl ?_
      refine Wp.getI (mi 0 70) d_literalInRange_8 fa_c96 rfl rfl ?_
      refine Wp.p (pc' := 12) d_literalInRange_11 rfl rfl ?_
      refine Wp.icmp_lt d_literalInRange_12 rfl (fun q1 => ?_) (fun q1 => ?_)
      ·
        refine Wp.iconst (0 : Int32) d_literalInRange_27 (by decide) ?_
        refine Wp.retZ (0 : Int32) d_literalInRange_28 (by decide) ?_
        rw [if_neg q0, if_pos q1] at e1; subst e1
        exact K
      ·
        refine Wp.p (pc' := 16) d_literalInRange_15 rfl rfl ?_
        refine Wp.p (pc' := 17) d_literalInRange_16 rfl rfl ?_
        refine Wp.getI (mi 0 70) d_literalInRange_17 fa_c96 rfl rfl ?_
        refine Wp.icmp_gt d_literalInRange_20 rfl (fun q2 => ?_) (fun q2 => ?_)
        ·
          refine Wp.iconst (0 : Int32) d_literalInRange_27 (by decide) ?_
          refine Wp.retZ (0 : Int32) d_literalInRange_28 (by decide) ?_
          rw [if_neg q0, if_neg q1, if_pos q2] at e1; subst e1
          exact K
        ·
          refine Wp.iconst (1 : Int32) d_literalInRange_23 (by decide) ?_
          refine Wp.p (pc' := 28) d_literalInRange_24 rfl rfl ?_
          refine Wp.retZ (1 : Int32) d_literalInRange_28 (by decide) ?_
          rw [if_neg q0, if_neg q1, if_neg q2] at e1; subst e1
          exact K
    ·
      refine Wp.iconst (0 : Int32) d_literalInRange_4 (by decide) ?_
      refine Wp.retZ (0 : Int32) d_literalInRange_5 (by decide) ?_
      rw [if_pos q0] at e1; subst e1
      exact K
  exact (h1 v1 e1)
set_option maxRecDepth 65536 in
set_option maxHeartbeats 4000000 in
theorem L_law_in_0 {x0 x1 : Int32} {mi : Nat → Nat → Int32} {ml : Nat → Nat → Int64} {Q : Option Value → EMem → Prop}
    (h1 : ∀ v1 : Int32, v1 = (if x0 = (0 : Int32) then (0 : Int32) else (if x0 < (-x1) then (0 : Int32) else (if x1 < x0 then (0 : Int32) else (1 : Int32)))) → Q (some (.int (v1 &&& 1))) (LL1, mi, ml, RR1)) :
    W_law_in 0 [.val (.int x0), .val (.int x1)] [] (LL1, mi, ml, RR1) Q := by
  refine Wp.p (pc' := 1) d_law_in_0 rfl rfl ?_
  obtain ⟨v1, e1⟩ : ∃ z : Int32, z = (if x0 = (0 : Int32) then (0 : Int32) else (if x0 < (-x1) then (0 : Int32) else (if x1 < x0 then (0 : Int32) else (1 : Int32)))) := ⟨_, rfl⟩
  suffices K : W_law_in 20 [.val (.int x0), .val (.int x1)] [.int v1] (LL1, mi, ml, RR1) Q by
    refine Wp.if_eq d_law_in_1 rfl (fun q0 => ?_) (fun q0 => ?_)
    ·
      refine Wp.iconst (0 : Int32) d_law_in_19 (by decide) ?_
      rw [if_pos q0] at e1; subst e1
      exact K
    ·
      refine Wp.p (pc' := 5) d_law_in_4 rfl rfl ?_
      refine Wp.p (pc' := 6) d_law_in_5 rfl rfl ?_
      refine Wp.p (pc' := 7) d_law_in_6 rfl rfl ?_
      refine Wp.icmp_lt d_law_in_7 rfl (fun q1 => ?_) (fun q1 => ?_)
      ·
        refine Wp.iconst (0 : Int32) d_law_in_19 (by decide) ?_
        rw [if_neg q0, if_pos q1] at e1; subst e1
        exact K
      ·
        refine Wp.p (pc' := 11) d_law_in_10 rfl rfl ?_
        refine Wp.p (pc' := 12) d_law_in_11 rfl rfl ?_
        refine Wp.icmp_gt d_law_in_12 rfl (fun q2 => ?_) (fun q2 => ?_)
        ·
          refine Wp.iconst (0 : Int32) d_law_in_19 (by decide) ?_
          rw [if_neg q0, if_neg q1, if_pos q2] at e1; subst e1
          exact K
        ·
          refine Wp.iconst (1 : Int32) d_law_in_15 (by decide) ?_
          refine Wp.p (pc' := 20) d_law_in_16 rfl rfl ?_
          rw [if_neg q0, if_neg q1, if_neg q2] at e1; subst e1
          exact K
  refine Wp.retZ (v1 &&& 1) d_law_in_20 (by rfl) ?_
  exact (h1 v1 e1)
set_option maxRecDepth 65536 in
set_option maxHeartbeats 4000000 in
theorem L_getPendingLength_0 {mi : Nat → Nat → Int32} {ml : Nat → Nat → Int64} {Q : Option Value → EMem → Prop}
    (h1 : Q (some (.int (mi 0 76))) (LL1, mi, ml, RR1)) :
    W_getPendingLength 0 [.val (.ref 0)] [] (LL1, mi, ml, RR1) Q := by
  refine Wp.p (pc' := 1) d_getPendingLength_0 rfl rfl ?_
  refine Wp.getI (mi 0 76) d_getPendingLength_1 fa_c105 rfl rfl ?_
  refine Wp.retI d_getPendingLength_4 ?_
  exact h1
set_option maxRecDepth 65536 in
set_option maxHeartbeats 4000000 in
theorem L_getStatus_0 {mi : Nat → Nat → Int32} {ml : Nat → Nat → Int64} {Q : Option Value → EMem → Prop}
    (h1 : Q (some (.int (mi 0 82))) (LL1, mi, ml, RR1)) :
    W_getStatus 0 [.val (.ref 0)] [] (LL1, mi, ml, RR1) Q := by
  refine Wp.p (pc' := 1) d_getStatus_0 rfl rfl ?_
  refine Wp.getI (mi 0 82) d_getStatus_1 fa_c132 rfl rfl ?_
  refine Wp.retI d_getStatus_4 ?_
  exact h1
set_option maxRecDepth 65536 in
set_option maxHeartbeats 4000000 in
theorem L_getClauseCount_0 {mi : Nat → Nat → Int32} {ml : Nat → Nat → Int64} {Q : Option Value → EMem → Prop}
    (h1 : Q (some (.int (mi 0 74))) (LL1, mi, ml, RR1)) :
    W_getClauseCount 0 [.val (.ref 0)] [] (LL1, mi, ml, RR1) Q := by
  refine Wp.p (pc' := 1) d_getClauseCount_0 rfl rfl ?_
  refine Wp.getI (mi 0 74) d_getClauseCount_1 fa_c102 rfl rfl ?_
  refine Wp.retI d_getClauseCount_4 ?_
  exact h1
set_option maxRecDepth 65536 in
set_option maxHeartbeats 4000000 in
theorem L_clauseIndexValid_0 {x1 : Int32} {mi : Nat → Nat → Int32} {ml : Nat → Nat → Int64} {Q : Option Value → EMem → Prop}
    (h1 : ∀ v1 : Int32, v1 = (if x1 < (0 : Int32) then (0 : Int32) else (if x1 < (mi 0 74) then (if x1 < (32 : Int32) then (1 : Int32) else (0 : Int32)) else (0 : Int32))) → Q (some (.int (v1 &&& 1))) (LL1, mi, ml, RR1)) :
    W_clauseIndexValid 0 [.val (.ref 0), .val (.int x1)] [] (LL1, mi, ml, RR1) Q := by
  refine Wp.p (pc' := 1) d_clauseIndexValid_0 rfl rfl ?_
  obtain ⟨v1, e1⟩ : ∃ z : Int32, z = (if x1 < (0 : Int32) then (0 : Int32) else (if x1 < (mi 0 74) then (if x1 < (32 : Int32) then (1 : Int32) else (0 : Int32)) else (0 : Int32))) := ⟨_, rfl⟩
  suffices K : W_clauseIndexValid 23 [.val (.ref 0), .val (.int x1)] [.int v1] (LL1, mi, ml, RR1) Q by
    refine Wp.if_lt d_clauseIndexValid_1 rfl (fun q0 => ?_) (fun q0 => ?_)
    ·
      refine Wp.iconst (0 : Int32) d_clauseIndexValid_22 (by decide) ?_
      rw [if_pos q0] at e1; subst e1
      exact K
    ·
      refine Wp.p (pc' := 5) d_clauseIndexValid_4 rfl rfl ?_
      refine Wp.p (pc' := 6) d_clauseIndexValid_5 rfl rfl ?_
      refine Wp.getI (mi 0 74) d_clauseIndexValid_6 fa_c102 rfl rfl ?_
      refine Wp.icmp_ge d_clauseIndexValid_9 rfl (fun q1 => ?_) (fun q1 => ?_)
      ·
        refine Wp.iconst (0 : Int32) d_clauseIndexValid_22 (by decide) ?_
        rw [if_neg q0, if_neg q1] at e1; subst e1
        exact K
      ·
        refine Wp.p (pc' := 13) d_clauseIndexValid_12 rfl rfl ?_
        refine Wp.bipush (32 : Int32) d_clauseIndexValid_13 (by decide) ?_
        refine Wp.icmp_ge d_clauseIndexValid_15 rfl (fun q2 => ?_) (fun q2 => ?_)
        ·
          refine Wp.iconst (0 : Int32) d_clauseIndexValid_22 (by decide) ?_
          rw [if_neg q0, if_pos q1, if_neg q2] at e1; subst e1
          exact K
        ·
          refine Wp.iconst (1 : Int32) d_clauseIndexValid_18 (by decide) ?_
          refine Wp.p (pc' := 23) d_clauseIndexValid_19 rfl rfl ?_
          rw [if_neg q0, if_pos q1, if_pos q2] at e1; subst e1
          exact K
  refine Wp.retZ (v1 &&& 1) d_clauseIndexValid_23 (by rfl) ?_
  exact (h1 v1 e1)
set_option maxRecDepth 65536 in
set_option maxHeartbeats 4000000 in
theorem L_init_0 {x1 x2 : Int32} {mi : Nat → Nat → Int32} {ml : Nat → Nat → Int64} {Q : Option Value → EMem → Prop}
    (h1 : ∀ v1 : Int32, v1 = (if x1 < (1 : Int32) then (1 : Int32) else (if (12 : Int32) < x1 then (12 : Int32) else x1)) → ∀ v2 : Int32, v2 = (if x2 < (4 : Int32) then (4 : Int32) else (if (32 : Int32) < x2 then (32 : Int32) else x2)) → Q none (LL1, (up (up (up (up (up (up (up (up (up (up (up (up (up (up (up (up (up mi 0 10 (-1 : Int32)) 0 12 (-2 : Int32)) 0 14 (0 : Int32)) 0 16 (1 : Int32)) 0 18 (2 : Int32)) 0 20 (3 : Int32)) 0 23 (1048576 : Int32)) 0 25 (20000 : Int32)) 0 28 (50000 : Int32)) 0 30 (128 : Int32)) 0 70 v1) 0 72 v2) 0 74 (0 : Int32)) 0 76 (0 : Int32)) 0 82 (0 : Int32)) 0 84 (-1 : Int32)) 0 86 (-1 : Int32)), ml, RR1)) :
    W_init 0 [.val (.ref 0), .val (.int x1), .val (.int x2)] [] ([(0, "HittingMaxSat", 50)], mi, ml, (fun _ _ => Value.null)) Q := by
  refine Wp.p (pc' := 1) d_init_0 rfl rfl ?_
  refine Wp.objInit (w := 0) d_init_1 oi_c1 rfl (by decide) (by decide) ?_
  refine Wp.p (pc' := 5) d_init_4 rfl rfl ?_
  refine Wp.iconst (-1 : Int32) d_init_5 (by decide) ?_
  refine Wp.putI d_init_6 fa_c7 rfl (by decide) in_HittingMaxSat (Or.inr ⟨rfl, rfl⟩) ?_
  refine Wp.p (pc' := 10) d_init_9 rfl rfl ?_
  refine Wp.bipush (-2 : Int32) d_init_10 (by decide) ?_
  refine Wp.putI d_init_12 fa_c13 rfl (by decide) in_HittingMaxSat (Or.inr ⟨rfl, rfl⟩) ?_
  refine Wp.p (pc' := 16) d_init_15 rfl rfl ?_
  refine Wp.iconst (0 : Int32) d_init_16 (by decide) ?_
  refine Wp.putI d_init_17 fa_c16 rfl (by decide) in_HittingMaxSat (Or.inr ⟨rfl, rfl⟩) ?_
  refine Wp.p (pc' := 21) d_init_20 rfl rfl ?_
  refine Wp.iconst (1 : Int32) d_init_21 (by decide) ?_
  refine Wp.putI d_init_22 fa_c19 rfl (by decide) in_HittingMaxSat (Or.inr ⟨rfl, rfl⟩) ?_
  refine Wp.p (pc' := 26) d_init_25 rfl rfl ?_
  refine Wp.iconst (2 : Int32) d_init_26 (by decide) ?_
  refine Wp.putI d_init_27 fa_c22 rfl (by decide) in_HittingMaxSat (Or.inr ⟨rfl, rfl⟩) ?_
  refine Wp.p (pc' := 31) d_init_30 rfl rfl ?_
  refine Wp.iconst (3 : Int32) d_init_31 (by decide) ?_
  refine Wp.putI d_init_32 fa_c25 rfl (by decide) in_HittingMaxSat (Or.inr ⟨rfl, rfl⟩) ?_
  refine Wp.p (pc' := 36) d_init_35 rfl rfl ?_
  refine Wp.ldc d_init_36 ik_c28 ?_
  refine Wp.putI d_init_38 fa_c29 rfl (by decide) in_HittingMaxSat (Or.inr ⟨rfl, rfl⟩) ?_
  refine Wp.p (pc' := 42) d_init_41 rfl rfl ?_
  refine Wp.sipush (20000 : Int32) d_init_42 (by decide) ?_
  refine Wp.putI d_init_45 fa_c32 rfl (by decide) in_HittingMaxSat (Or.inr ⟨rfl, rfl⟩) ?_
  refine Wp.p (pc' := 49) d_init_48 rfl rfl ?_
  refine Wp.ldc d_init_49 ik_c35 ?_
  refine Wp.putI d_init_51 fa_c36 rfl (by decide) in_HittingMaxSat (Or.inr ⟨rfl, rfl⟩) ?_
  refine Wp.p (pc' := 55) d_init_54 rfl rfl ?_
  refine Wp.sipush (128 : Int32) d_init_55 (by decide) ?_
  refine Wp.putI d_init_58 fa_c39 rfl (by decide) in_HittingMaxSat (Or.inr ⟨rfl, rfl⟩) ?_
  refine Wp.p (pc' := 62) d_init_61 rfl rfl ?_
  refine Wp.sipush (256 : Int32) d_init_62 (by decide) ?_
  refine Wp.new_int (a := 1) (z := 256) (L' := [(0, "HittingMaxSat", 50), (1, "", 256)]) d_init_65 ar_int (by decide) (by decide) rfl rfl ?_
  refine Wp.putR d_init_67 fa_c42 rfl (by decide) in_HittingMaxSat (Or.inr ⟨rfl, rfl⟩) ?_
  refine Wp.p (pc' := 71) d_init_70 rfl rfl ?_
  refine Wp.bipush (32 : Int32) d_init_71 (by decide) ?_
  refine Wp.new_int (a := 2) (z := 32) (L' := [(0, "HittingMaxSat", 50), (1, "", 256), (1, "", 32)]) d_init_73 ar_int (by decide) (by decide) rfl rfl ?_
  refine Wp.putR d_init_75 fa_c46 rfl (by decide) in_HittingMaxSat (Or.inr ⟨rfl, rfl⟩) ?_
  refine Wp.p (pc' := 79) d_init_78 rfl rfl ?_
  refine Wp.bipush (32 : Int32) d_init_79 (by decide) ?_
  refine Wp.new_int (a := 3) (z := 32) (L' := [(0, "HittingMaxSat", 50), (1, "", 256), (1, "", 32), (1, "", 32)]) d_init_81 ar_int (by decide) (by decide) rfl rfl ?_
  refine Wp.putR d_init_83 fa_c49 rfl (by decide) in_HittingMaxSat (Or.inr ⟨rfl, rfl⟩) ?_
  refine Wp.p (pc' := 87) d_init_86 rfl rfl ?_
  refine Wp.bipush (8 : Int32) d_init_87 (by decide) ?_
  refine Wp.new_int (a := 4) (z := 8) (L' := [(0, "HittingMaxSat", 50), (1, "", 256), (1, "", 32), (1, "", 32), (1, "", 8)]) d_init_89 ar_int (by decide) (by decide) rfl rfl ?_
  refine Wp.putR d_init_91 fa_c52 rfl (by decide) in_HittingMaxSat (Or.inr ⟨rfl, rfl⟩) ?_
  refine Wp.p (pc' := 95) d_init_94 rfl rfl ?_
  refine Wp.bipush (13 : Int32) d_init_95 (by decide) ?_
  refine Wp.new_int (a := 5) (z := 13) (L' := [(0, "HittingMaxSat", 50), (1, "", 256), (1, "", 32), (1, "", 32), (1, "", 8), (1, "", 13)]) d_init_97 ar_int (by decide) (by decide) rfl rfl ?_
  refine Wp.putR d_init_99 fa_c55 rfl (by decide) in_HittingMaxSat (Or.inr ⟨rfl, rfl⟩) ?_
  refine Wp.p (pc' := 103) d_init_102 rfl rfl ?_
  refine Wp.bipush (13 : Int32) d_init_103 (by decide) ?_
  refine Wp.new_int (a := 6) (z := 13) (L' := [(0, "HittingMaxSat", 50), (1, "", 256), (1, "", 32), (1, "", 32), (1, "", 8), (1, "", 13), (1, "", 13)]) d_init_105 ar_int (by decide) (by decide) rfl rfl ?_
  refine Wp.putR d_init_107 fa_c58 rfl (by decide) in_HittingMaxSat (Or.inr ⟨rfl, rfl⟩) ?_
  refine Wp.p (pc' := 111) d_init_110 rfl rfl ?_
  refine Wp.bipush (13 : Int32) d_init_111 (by decide) ?_
  refine Wp.new_int (a := 7) (z := 13) (L' := [(0, "HittingMaxSat", 50), (1, "", 256), (1, "", 32), (1, "", 32), (1, "", 8), (1, "", 13), (1, "", 13), (1, "", 13)]) d_init_113 ar_int (by decide) (by decide) rfl rfl ?_
  refine Wp.putR d_init_115 fa_c61 rfl (by decide) in_HittingMaxSat (Or.inr ⟨rfl, rfl⟩) ?_
  refine Wp.p (pc' := 119) d_init_118 rfl rfl ?_
  refine Wp.bipush (14 : Int32) d_init_119 (by decide) ?_
  refine Wp.new_int (a := 8) (z := 14) (L' := [(0, "HittingMaxSat", 50), (1, "", 256), (1, "", 32), (1, "", 32), (1, "", 8), (1, "", 13), (1, "", 13), (1, "", 13), (1, "", 14)]) d_init_121 ar_int (by decide) (by decide) rfl rfl ?_
  refine Wp.putR d_init_123 fa_c64 rfl (by decide) in_HittingMaxSat (Or.inr ⟨rfl, rfl⟩) ?_
  refine Wp.p (pc' := 127) d_init_126 rfl rfl ?_
  refine Wp.bipush (14 : Int32) d_init_127 (by decide) ?_
  refine Wp.new_int (a := 9) (z := 14) (L' := [(0, "HittingMaxSat", 50), (1, "", 256), (1, "", 32), (1, "", 32), (1, "", 8), (1, "", 13), (1, "", 13), (1, "", 13), (1, "", 14), (1, "", 14)]) d_init_129 ar_int (by decide) (by decide) rfl rfl ?_
  refine Wp.putR d_init_131 fa_c67 rfl (by decide) in_HittingMaxSat (Or.inr ⟨rfl, rfl⟩) ?_
  refine Wp.p (pc' := 135) d_init_134 rfl rfl ?_
  refine Wp.bipush (14 : Int32) d_init_135 (by decide) ?_
  refine Wp.new_boolean (a := 10) (z := 14) (L' := [(0, "HittingMaxSat", 50), (1, "", 256), (1, "", 32), (1, "", 32), (1, "", 8), (1, "", 13), (1, "", 13), (1, "", 13), (1, "", 14), (1, "", 14), (3, "", 14)]) d_init_137 ar_boolean (by decide) (by decide) rfl rfl ?_
  refine Wp.putR d_init_139 fa_c70 rfl (by decide) in_HittingMaxSat (Or.inr ⟨rfl, rfl⟩) ?_
  refine Wp.p (pc' := 143) d_init_142 rfl rfl ?_
  refine Wp.sipush (128 : Int32) d_init_143 (by decide) ?_
  refine Wp.new_int (a := 11) (z := 128) (L' := [(0, "HittingMaxSat", 50), (1, "", 256), (1, "", 32), (1, "", 32), (1, "", 8), (1, "", 13), (1, "", 13), (1, "", 13), (1, "", 14), (1, "", 14), (3, "", 14), (1, "", 128)]) d_init_146 ar_int (by decide) (by decide) rfl rfl ?_
  refine Wp.putR d_init_148 fa_c74 rfl (by decide) in_HittingMaxSat (Or.inr ⟨rfl, rfl⟩) ?_
  refine Wp.p (pc' := 152) d_init_151 rfl rfl ?_
  refine Wp.bipush (33 : Int32) d_init_152 (by decide) ?_
  refine Wp.new_int (a := 12) (z := 33) (L' := [(0, "HittingMaxSat", 50), (1, "", 256), (1, "", 32), (1, "", 32), (1, "", 8), (1, "", 13), (1, "", 13), (1, "", 13), (1, "", 14), (1, "", 14), (3, "", 14), (1, "", 128), (1, "", 33)]) d_init_154 ar_int (by decide) (by decide) rfl rfl ?_
  refine Wp.putR d_init_156 fa_c77 rfl (by decide) in_HittingMaxSat (Or.inr ⟨rfl, rfl⟩) ?_
  refine Wp.p (pc' := 160) d_init_159 rfl rfl ?_
  refine Wp.bipush (33 : Int32) d_init_160 (by decide) ?_
  refine Wp.new_int (a := 13) (z := 33) (L' := [(0, "HittingMaxSat", 50), (1, "", 256), (1, "", 32), (1, "", 32), (1, "", 8), (1, "", 13), (1, "", 13), (1, "", 13), (1, "", 14), (1, "", 14), (3, "", 14), (1, "", 128), (1, "", 33), (1, "", 33)]) d_init_162 ar_int (by decide) (by decide) rfl rfl ?_
  refine Wp.putR d_init_164 fa_c80 rfl (by decide) in_HittingMaxSat (Or.inr ⟨rfl, rfl⟩) ?_
  refine Wp.p (pc' := 168) d_init_167 rfl rfl ?_
  refine Wp.bipush (33 : Int32) d_init_168 (by decide) ?_
  refine Wp.new_int (a := 14) (z := 33) (L' := [(0, "HittingMaxSat", 50), (1, "", 256), (1, "", 32), (1, "", 32), (1, "", 8), (1, "", 13), (1, "", 13), (1, "", 13), (1, "", 14), (1, "", 14), (3, "", 14), (1, "", 128), (1, "", 33), (1, "", 33), (1, "", 33)]) d_init_170 ar_int (by decide) (by decide) rfl rfl ?_
  refine Wp.putR d_init_172 fa_c83 rfl (by decide) in_HittingMaxSat (Or.inr ⟨rfl, rfl⟩) ?_
  refine Wp.p (pc' := 176) d_init_175 rfl rfl ?_
  refine Wp.bipush (33 : Int32) d_init_176 (by decide) ?_
  refine Wp.new_int (a := 15) (z := 33) (L' := [(0, "HittingMaxSat", 50), (1, "", 256), (1, "", 32), (1, "", 32), (1, "", 8), (1, "", 13), (1, "", 13), (1, "", 13), (1, "", 14), (1, "", 14), (3, "", 14), (1, "", 128), (1, "", 33), (1, "", 33), (1, "", 33), (1, "", 33)]) d_init_178 ar_int (by decide) (by decide) rfl rfl ?_
  refine Wp.putR d_init_180 fa_c86 rfl (by decide) in_HittingMaxSat (Or.inr ⟨rfl, rfl⟩) ?_
  refine Wp.p (pc' := 184) d_init_183 rfl rfl ?_
  refine Wp.bipush (33 : Int32) d_init_184 (by decide) ?_
  refine Wp.new_int (a := 16) (z := 33) (L' := [(0, "HittingMaxSat", 50), (1, "", 256), (1, "", 32), (1, "", 32), (1, "", 8), (1, "", 13), (1, "", 13), (1, "", 13), (1, "", 14), (1, "", 14), (3, "", 14), (1, "", 128), (1, "", 33), (1, "", 33), (1, "", 33), (1, "", 33), (1, "", 33)]) d_init_186 ar_int (by decide) (by decide) rfl rfl ?_
  refine Wp.putR d_init_188 fa_c89 rfl (by decide) in_HittingMaxSat (Or.inr ⟨rfl, rfl⟩) ?_
  refine Wp.p (pc' := 192) d_init_191 rfl rfl ?_
  refine Wp.p (pc' := 193) d_init_192 rfl rfl ?_
  refine Wp.p (pc' := 194) d_init_193 rfl rfl ?_
  refine Wp.iconst (1 : Int32) d_init_194 (by decide) ?_
  refine Wp.bipush (12 : Int32) d_init_195 (by decide) ?_
  refine Wp.callP (a := 0) (as := [.int x1, .int (1 : Int32), .int (12 : Int32)]) (rest := [.ref 0]) (w := 1) (F' := 0) (Lb' := 0) d_init_197 ca_c92_1 rfl rfl rfl rfl (by decide) (by decide) (Nat.le_of_ble_eq_true rfl) ?_
  refine L_clamp_0 ?_
  intro v1 e1
  show W_init 200 [.val (.ref 0), .val (.int x1), .val (.int x2)] [.int v1, .ref 0] (LL1, (up (up (up (up (up (up (up (up (up (up mi 0 10 (-1 : Int32)) 0 12 (-2 : Int32)) 0 14 (0 : Int32)) 0 16 (1 : Int32)) 0 18 (2 : Int32)) 0 20 (3 : Int32)) 0 23 (1048576 : Int32)) 0 25 (20000 : Int32)) 0 28 (50000 : Int32)) 0 30 (128 : Int32)), ml, RR1) Q
  refine Wp.putI d_init_200 fa_c96 rfl (by decide) in_HittingMaxSat (Or.inl rfl) ?_
  refine Wp.p (pc' := 204) d_init_203 rfl rfl ?_
  refine Wp.p (pc' := 205) d_init_204 rfl rfl ?_
  refine Wp.p (pc' := 206) d_init_205 rfl rfl ?_
  refine Wp.iconst (4 : Int32) d_init_206 (by decide) ?_
  refine Wp.bipush (32 : Int32) d_init_207 (by decide) ?_
  refine Wp.callP (a := 0) (as := [.int x2, .int (4 : Int32), .int (32 : Int32)]) (rest := [.ref 0]) (w := 1) (F' := 0) (Lb' := 0) d_init_209 ca_c92_1 rfl rfl rfl rfl (by decide) (by decide) (Nat.le_of_ble_eq_true rfl) ?_
  refine L_clamp_0 ?_
  intro v2 e2
  show W_init 212 [.val (.ref 0), .val (.int x1), .val (.int x2)] [.int v2, .ref 0] (LL1, (up (up (up (up (up (up (up (up (up (up (up mi 0 10 (-1 : Int32)) 0 12 (-2 : Int32)) 0 14 (0 : Int32)) 0 16 (1 : Int32)) 0 18 (2 : Int32)) 0 20 (3 : Int32)) 0 23 (1048576 : Int32)) 0 25 (20000 : Int32)) 0 28 (50000 : Int32)) 0 30 (128 : Int32)) 0 70 v1), ml, RR1) Q
  refine Wp.putI d_init_212 fa_c99 rfl (by decide) in_HittingMaxSat (Or.inl rfl) ?_
  refine Wp.p (pc' := 216) d_init_215 rfl rfl ?_
  refine Wp.iconst (0 : Int32) d_init_216 (by decide) ?_
  refine Wp.putI d_init_217 fa_c102 rfl (by decide) in_HittingMaxSat (Or.inl rfl) ?_
  refine Wp.p (pc' := 221) d_init_220 rfl rfl ?_
  refine Wp.iconst (0 : Int32) d_init_221 (by decide) ?_
  refine Wp.putI d_init_222 fa_c105 rfl (by decide) in_HittingMaxSat (Or.inl rfl) ?_
  refine Wp.p (pc' := 226) d_init_225 rfl rfl ?_
  refine Wp.callP (a := 0) (as := []) (rest := []) (w := 0) (F' := 0) (Lb' := 0) d_init_226 ca_c108_1 rfl rfl rfl rfl (by decide) (by decide) (Nat.le_of_ble_eq_true rfl) ?_
  refine L_markUnsolved_0 ?_
  show W_init 229 [.val (.ref 0), .val (.int x1), .val (.int x2)] [] (LL1, (up (up (up (up (up (up (up (up (up (up (up (up (up (up (up (up (up mi 0 10 (-1 : Int32)) 0 12 (-2 : Int32)) 0 14 (0 : Int32)) 0 16 (1 : Int32)) 0 18 (2 : Int32)) 0 20 (3 : Int32)) 0 23 (1048576 : Int32)) 0 25 (20000 : Int32)) 0 28 (50000 : Int32)) 0 30 (128 : Int32)) 0 70 v1) 0 72 v2) 0 74 (0 : Int32)) 0 76 (0 : Int32)) 0 82 (0 : Int32)) 0 84 (-1 : Int32)) 0 86 (-1 : Int32)), ml, RR1) Q
  refine Wp.retV d_init_229 ?_
  exact (h1 v1 e1 v2 e2)
set_option maxRecDepth 65536 in
set_option maxHeartbeats 4000000 in
theorem L_pendingContains_0 {x1 : Int32} {mi : Nat → Nat → Int32} {ml : Nat → Nat → Int64} {Q : Option Value → EMem → Prop}
    (h1 : W_pendingContains 2 [.val (.ref 0), .val (.int x1), .val (.int (0 : Int32))] [] (LL1, mi, ml, RR1) Q) :
    W_pendingContains 0 [.val (.ref 0), .val (.int x1), .unset] [] (LL1, mi, ml, RR1) Q := by
  refine Wp.iconst (0 : Int32) d_pendingContains_0 (by decide) ?_
  refine Wp.p (pc' := 2) d_pendingContains_1 rfl rfl ?_
  exact h1
set_option maxRecDepth 65536 in
set_option maxHeartbeats 4000000 in
theorem L_pendingContains_2 {x1 x2 : Int32} {mi : Nat → Nat → Int32} {ml : Nat → Nat → Int64} {Q : Option Value → EMem → Prop}
    (h1 : ¬ x2 < (mi 0 76) → Q (some (.int (0 : Int32))) (LL1, mi, ml, RR1))
    (h2 : x2 < (mi 0 76) → ¬ x2 < (8 : Int32) → Q (some (.int (0 : Int32))) (LL1, mi, ml, RR1))
    (b1 : x2 < (mi 0 76) → x2 < (8 : Int32) → inb x2 8 = true)
    (h3 : x2 < (mi 0 76) → x2 < (8 : Int32) → ¬ (mi 4 (Int32.toNatClampNeg x2)) = x1 → W_pendingContains 2 [.val (.ref 0), .val (.int x1), .val (.int (x2 + (1 : Int32)))] [] (LL1, mi, ml, RR1) Q)
    (h4 : x2 < (mi 0 76) → x2 < (8 : Int32) → (mi 4 (Int32.toNatClampNeg x2)) = x1 → Q (some (.int (1 : Int32))) (LL1, mi, ml, RR1)) :
    W_pendingContains 2 [.val (.ref 0), .val (.int x1), .val (.int x2)] [] (LL1, mi, ml, RR1) Q := by
  refine Wp.p (pc' := 3) d_pendingContains_2 rfl rfl ?_
  refine Wp.p (pc' := 4) d_pendingContains_3 rfl rfl ?_
  refine Wp.getI (mi 0 76) d_pendingContains_4 fa_c105 rfl rfl ?_
  refine Wp.icmp_ge d_pendingContains_7 rfl (fun c1 => ?_) (fun c1 => ?_)
  ·
    refine Wp.iconst (0 : Int32) d_pendingContains_34 (by decide) ?_
    refine Wp.retZ (0 : Int32) d_pendingContains_35 (by decide) ?_
    exact (h1 c1)
  ·
    refine Wp.p (pc' := 11) d_pendingContains_10 rfl rfl ?_
    refine Wp.bipush (8 : Int32) d_pendingContains_11 (by decide) ?_
    refine Wp.icmp_ge d_pendingContains_13 rfl (fun c2 => ?_) (fun c2 => ?_)
    ·
      refine Wp.iconst (0 : Int32) d_pendingContains_34 (by decide) ?_
      refine Wp.retZ (0 : Int32) d_pendingContains_35 (by decide) ?_
      exact (h2 c1 c2)
    ·
      refine Wp.p (pc' := 17) d_pendingContains_16 rfl rfl ?_
      refine Wp.getR (b := 4) d_pendingContains_17 fa_c52 rfl rfl ?_
      refine Wp.p (pc' := 21) d_pendingContains_20 rfl rfl ?_
      refine Wp.iaload (mi 4 (Int32.toNatClampNeg x2)) d_pendingContains_21 rfl (k := (Int32.toNatClampNeg x2)) rfl (b1 c1 c2) rfl ?_
      refine Wp.p (pc' := 23) d_pendingContains_22 rfl rfl ?_
      refine Wp.icmp_ne d_pendingContains_23 rfl (fun c3 => ?_) (fun c3 => ?_)
      ·
        refine Wp.iinc (1 : Int32) d_pendingContains_28 (by decide) rfl rfl ?_
        refine Wp.p (pc' := 2) d_pendingContains_31 rfl rfl ?_
        exact (h3 c1 c2 c3)
      ·
        refine Wp.iconst (1 : Int32) d_pendingContains_26 (by decide) ?_
        refine Wp.retZ (1 : Int32) d_pendingContains_27 (by decide) ?_
        exact (h4 c1 c2 c3)
set_option maxRecDepth 65536 in
set_option maxHeartbeats 4000000 in
theorem L_addLiteral_0 {x1 : Int32} {mi : Nat → Nat → Int32} {ml : Nat → Nat → Int64} {Q : Option Value → EMem → Prop}
    (h1 : ∀ v1 : Int32, v1 = (if x1 = (0 : Int32) then (0 : Int32) else (if x1 < (-(mi 0 70)) then (0 : Int32) else (if (mi 0 70) < x1 then (0 : Int32) else (1 : Int32)))) → ¬ v1 = (0 : Int32) → W_pendingContains 0 [.val (.ref 0), .val (.int x1), .unset] [] (LL1, mi, ml, RR1) (fun v M' => W_addLiteral 15 [.val (.ref 0), .val (.int x1)] (v.toList ++ []) M' Q))
    (h2 : ∀ v1 : Int32, v1 = (if x1 = (0 : Int32) then (0 : Int32) else (if x1 < (-(mi 0 70)) then (0 : Int32) else (if (mi 0 70) < x1 then (0 : Int32) else (1 : Int32)))) → v1 = (0 : Int32) → Q (some (.int (1 : Int32))) (LL1, mi, ml, RR1)) :
    W_addLiteral 0 [.val (.ref 0), .val (.int x1)] [] (LL1, mi, ml, RR1) Q := by
  refine Wp.p (pc' := 1) d_addLiteral_0 rfl rfl ?_
  refine Wp.p (pc' := 2) d_addLiteral_1 rfl rfl ?_
  refine Wp.callP (a := 0) (as := [.int x1]) (rest := []) (w := 0) (F' := 0) (Lb' := 0) d_addLiteral_2 ca_c111_1 rfl rfl rfl rfl (by decide) (by decide) (Nat.le_of_ble_eq_true rfl) ?_
  refine L_literalInRange_0 ?_
  intro v1 e1
  show W_addLiteral 5 [.val (.ref 0), .val (.int x1)] [.int v1] (LL1, mi, ml, RR1) Q
  refine Wp.if_ne d_addLiteral_5 rfl (fun c2 => ?_) (fun c2 => ?_)
  ·
    refine Wp.p (pc' := 11) d_addLiteral_10 rfl rfl ?_
    refine Wp.p (pc' := 12) d_addLiteral_11 rfl rfl ?_
    refine Wp.callP (a := 0) (as := [.int x1]) (rest := []) (w := 0) (F' := 0) (Lb' := 0) d_addLiteral_12 ca_c115_1 rfl rfl rfl rfl (by decide) (by decide) (Nat.le_of_ble_eq_true rfl) ?_
    exact (h1 v1 e1 c2)
  ·
    refine Wp.iconst (1 : Int32) d_addLiteral_8 (by decide) ?_
    refine Wp.retI d_addLiteral_9 ?_
    exact (h2 v1 e1 c2)
set_option maxRecDepth 65536 in
set_option maxHeartbeats 4000000 in
theorem L_addLiteral_15 {x1 y0 : Int32} {mi : Nat → Nat → Int32} {ml : Nat → Nat → Int64} {Q : Option Value → EMem → Prop}
    (h1 : y0 = (0 : Int32) → ¬ (mi 0 76) < (8 : Int32) → Q (some (.int (2 : Int32))) (LL1, mi, ml, RR1))
    (b1 : y0 = (0 : Int32) → (mi 0 76) < (8 : Int32) → ¬ (mi 0 76) < (0 : Int32) → inb (mi 0 76) 8 = true)
    (h2 : y0 = (0 : Int32) → (mi 0 76) < (8 : Int32) → ¬ (mi 0 76) < (0 : Int32) → Q (some (.int (0 : Int32))) (LL1, (up (up mi 4 (Int32.toNatClampNeg (mi 0 76)) x1) 0 76 ((mi 0 76) + (1 : Int32))), ml, RR1))
    (h3 : y0 = (0 : Int32) → (mi 0 76) < (8 : Int32) → (mi 0 76) < (0 : Int32) → Q (some (.int (2 : Int32))) (LL1, mi, ml, RR1))
    (h4 : ¬ y0 = (0 : Int32) → Q (some (.int (4 : Int32))) (LL1, mi, ml, RR1)) :
    W_addLiteral 15 [.val (.ref 0), .val (.int x1)] [.int y0] (LL1, mi, ml, RR1) Q := by
  refine Wp.if_eq d_addLiteral_15 rfl (fun c1 => ?_) (fun c1 => ?_)
  ·
    refine Wp.p (pc' := 21) d_addLiteral_20 rfl rfl ?_
    refine Wp.getI (mi 0 76) d_addLiteral_21 fa_c105 rfl rfl ?_
    refine Wp.bipush (8 : Int32) d_addLiteral_24 (by decide) ?_
    refine Wp.icmp_ge d_addLiteral_26 rfl (fun c2 => ?_) (fun c2 => ?_)
    ·
      refine Wp.iconst (2 : Int32) d_addLiteral_36 (by decide) ?_
      refine Wp.retI d_addLiteral_37 ?_
      exact (h1 c1 c2)
    ·
      refine Wp.p (pc' := 30) d_addLiteral_29 rfl rfl ?_
      refine Wp.getI (mi 0 76) d_addLiteral_30 fa_c105 rfl rfl ?_
      refine Wp.if_ge d_addLiteral_33 rfl (fun c3 => ?_) (fun c3 => ?_)
      ·
        refine Wp.p (pc' := 39) d_addLiteral_38 rfl rfl ?_
        refine Wp.getR (b := 4) d_addLiteral_39 fa_c52 rfl rfl ?_
        refine Wp.p (pc' := 43) d_addLiteral_42 rfl rfl ?_
        refine Wp.getI (mi 0 76) d_addLiteral_43 fa_c105 rfl rfl ?_
        refine Wp.p (pc' := 47) d_addLiteral_46 rfl rfl ?_
        refine Wp.iastore d_addLiteral_47 rfl (k := (Int32.toNatClampNeg (mi 0 76))) rfl (b1 c1 c2 c3) (by decide) ?_
        refine Wp.p (pc' := 49) d_addLiteral_48 rfl rfl ?_
        refine Wp.p (pc' := 50) d_addLiteral_49 rfl rfl ?_
        refine Wp.getI (mi 0 76) d_addLiteral_50 fa_c105 rfl rfl ?_
        refine Wp.iconst (1 : Int32) d_addLiteral_53 (by decide) ?_
        refine Wp.p (pc' := 55) d_addLiteral_54 rfl rfl ?_
        refine Wp.putI d_addLiteral_55 fa_c105 rfl (by decide) in_HittingMaxSat (Or.inl rfl) ?_
        refine Wp.iconst (0 : Int32) d_addLiteral_58 (by decide) ?_
        refine Wp.retI d_addLiteral_59 ?_
        exact (h2 c1 c2 c3)
      ·
        refine Wp.iconst (2 : Int32) d_addLiteral_36 (by decide) ?_
        refine Wp.retI d_addLiteral_37 ?_
        exact (h3 c1 c2 c3)
  ·
    refine Wp.iconst (4 : Int32) d_addLiteral_18 (by decide) ?_
    refine Wp.retI d_addLiteral_19 ?_
    exact (h4 c1)
set_option maxRecDepth 65536 in
set_option maxHeartbeats 4000000 in
theorem L_appendPending_0 {x1 : Int32} {mi : Nat → Nat → Int32} {ml : Nat → Nat → Int64} {Q : Option Value → EMem → Prop}
    (h1 : (mi 0 74) < (0 : Int32) → Q none (LL1, mi, ml, RR1))
    (h2 : ¬ (mi 0 74) < (0 : Int32) → (mi 0 74) < (32 : Int32) → W_appendPending 24 [.val (.ref 0), .val (.int x1), .val (.int (mi 0 74)), .val (.int ((mi 0 74) * (8 : Int32))), .val (.int (0 : Int32))] [] (LL1, mi, ml, RR1) Q)
    (h3 : ¬ (mi 0 74) < (0 : Int32) → ¬ (mi 0 74) < (32 : Int32) → Q none (LL1, mi, ml, RR1)) :
    W_appendPending 0 [.val (.ref 0), .val (.int x1), .unset, .unset, .unset] [] (LL1, mi, ml, RR1) Q := by
  refine Wp.p (pc' := 1) d_appendPending_0 rfl rfl ?_
  refine Wp.getI (mi 0 74) d_appendPending_1 fa_c102 rfl rfl ?_
  refine Wp.p (pc' := 5) d_appendPending_4 rfl rfl ?_
  refine Wp.p (pc' := 6) d_appendPending_5 rfl rfl ?_
  refine Wp.if_lt d_appendPending_6 rfl (fun c1 => ?_) (fun c1 => ?_)
  ·
    refine Wp.retV d_appendPending_15 ?_
    exact (h1 c1)
  ·
    refine Wp.p (pc' := 10) d_appendPending_9 rfl rfl ?_
    refine Wp.bipush (32 : Int32) d_appendPending_10 (by decide) ?_
    refine Wp.icmp_lt d_appendPending_12 rfl (fun c2 => ?_) (fun c2 => ?_)
    ·
      refine Wp.p (pc' := 17) d_appendPending_16 rfl rfl ?_
      refine Wp.bipush (8 : Int32) d_appendPending_17 (by decide) ?_
      refine Wp.p (pc' := 20) d_appendPending_19 rfl rfl ?_
      refine Wp.p (pc' := 21) d_appendPending_20 rfl rfl ?_
      refine Wp.iconst (0 : Int32) d_appendPending_21 (by decide) ?_
      refine Wp.p (pc' := 24) d_appendPending_22 rfl rfl ?_
      exact (h2 c1 c2)
    ·
      refine Wp.retV d_appendPending_15 ?_
      exact (h3 c1 c2)
set_option maxRecDepth 65536 in
set_option maxHeartbeats 4000000 in
theorem L_appendPending_24 {x1 x2 x3 x4 : Int32} {mi : Nat → Nat → Int32} {ml : Nat → Nat → Int64} {Q : Option Value → EMem → Prop}
    (h1 : ¬ x4 < (mi 0 76) → W_appendPending 62 [.val (.ref 0), .val (.int x1), .val (.int x2), .val (.int x3), .val (.int x4)] [] (LL1, mi, ml, RR1) Q)
    (h2 : x4 < (mi 0 76) → ¬ x4 < (8 : Int32) → W_appendPending 62 [.val (.ref 0), .val (.int x1), .val (.int x2), .val (.int x3), .val (.int x4)] [] (LL1, mi, ml, RR1) Q)
    (b1 : x4 < (mi 0 76) → x4 < (8 : Int32) → inb x4 8 = true)
    (b2 : x4 < (mi 0 76) → x4 < (8 : Int32) → inb (x3 + x4) 256 = true)
    (h3 : x4 < (mi 0 76) → x4 < (8 : Int32) → W_appendPending 24 [.val (.ref 0), .val (.int x1), .val (.int x2), .val (.int x3), .val (.int (x4 + (1 : Int32)))] [] (LL1, (up mi 1 (Int32.toNatClampNeg (x3 + x4)) (mi 4 (Int32.toNatClampNeg x4))), ml, RR1) Q) :
    W_appendPending 24 [.val (.ref 0), .val (.int x1), .val (.int x2), .val (.int x3), .val (.int x4)] [] (LL1, mi, ml, RR1) Q := by
  refine Wp.p (pc' := 26) d_appendPending_24 rfl rfl ?_
  refine Wp.p (pc' := 27) d_appendPending_26 rfl rfl ?_
  refine Wp.getI (mi 0 76) d_appendPending_27 fa_c105 rfl rfl ?_
  refine Wp.icmp_ge d_appendPending_30 rfl (fun c1 => ?_) (fun c1 => ?_)
  ·
    exact (h1 c1)
  ·
    refine Wp.p (pc' := 35) d_appendPending_33 rfl rfl ?_
    refine Wp.bipush (8 : Int32) d_appendPending_35 (by decide) ?_
    refine Wp.icmp_ge d_appendPending_37 rfl (fun c2 => ?_) (fun c2 => ?_)
    ·
      exact (h2 c1 c2)
    ·
      refine Wp.p (pc' := 41) d_appendPending_40 rfl rfl ?_
      refine Wp.getR (b := 1) d_appendPending_41 fa_c42 rfl rfl ?_
      refine Wp.p (pc' := 45) d_appendPending_44 rfl rfl ?_
      refine Wp.p (pc' := 47) d_appendPending_45 rfl rfl ?_
      refine Wp.p (pc' := 48) d_appendPending_47 rfl rfl ?_
      refine Wp.p (pc' := 49) d_appendPending_48 rfl rfl ?_
      refine Wp.getR (b := 4) d_appendPending_49 fa_c52 rfl rfl ?_
      refine Wp.p (pc' := 54) d_appendPending_52 rfl rfl ?_
      refine Wp.iaload (mi 4 (Int32.toNatClampNeg x4)) d_appendPending_54 rfl (k := (Int32.toNatClampNeg x4)) rfl (b1 c1 c2) rfl ?_
      refine Wp.iastore d_appendPending_55 rfl (k := (Int32.toNatClampNeg (x3 + x4))) rfl (b2 c1 c2) (by decide) ?_
      refine Wp.iinc (1 : Int32) d_appendPending_56 (by decide) rfl rfl ?_
      refine Wp.p (pc' := 24) d_appendPending_59 rfl rfl ?_
      exact (h3 c1 c2)
set_option maxRecDepth 65536 in
set_option maxHeartbeats 4000000 in
theorem L_appendPending_62 {x1 x2 x3 x4 : Int32} {mi : Nat → Nat → Int32} {ml : Nat → Nat → Int64} {Q : Option Value → EMem → Prop}
    (b1 : inb x2 32 = true)
    (h1 : Q none (LL1, (up (up (up (up (up (up (up mi 2 (Int32.toNatClampNeg x2) (mi 0 76)) 3 (Int32.toNatClampNeg x2) x1) 0 74 (x2 + (1 : Int32))) 0 76 (0 : Int32)) 0 82 (0 : Int32)) 0 84 (-1 : Int32)) 0 86 (-1 : Int32)), ml, RR1)) :
    W_appendPending 62 [.val (.ref 0), .val (.int x1), .val (.int x2), .val (.int x3), .val (.int x4)] [] (LL1, mi, ml, RR1) Q := by
  refine Wp.p (pc' := 63) d_appendPending_62 rfl rfl ?_
  refine Wp.getR (b := 2) d_appendPending_63 fa_c46 rfl rfl ?_
  refine Wp.p (pc' := 67) d_appendPending_66 rfl rfl ?_
  refine Wp.p (pc' := 68) d_appendPending_67 rfl rfl ?_
  refine Wp.getI (mi 0 76) d_appendPending_68 fa_c105 rfl rfl ?_
  refine Wp.iastore d_appendPending_71 rfl (k := (Int32.toNatClampNeg x2)) rfl b1 (by decide) ?_
  refine Wp.p (pc' := 73) d_appendPending_72 rfl rfl ?_
  refine Wp.getR (b := 3) d_appendPending_73 fa_c49 rfl rfl ?_
  refine Wp.p (pc' := 77) d_appendPending_76 rfl rfl ?_
  refine Wp.p (pc' := 78) d_appendPending_77 rfl rfl ?_
  refine Wp.iastore d_appendPending_78 rfl (k := (Int32.toNatClampNeg x2)) rfl b1 (by decide) ?_
  refine Wp.p (pc' := 80) d_appendPending_79 rfl rfl ?_
  refine Wp.p (pc' := 81) d_appendPending_80 rfl rfl ?_
  refine Wp.iconst (1 : Int32) d_appendPending_81 (by decide) ?_
  refine Wp.p (pc' := 83) d_appendPending_82 rfl rfl ?_
  refine Wp.putI d_appendPending_83 fa_c102 rfl (by decide) in_HittingMaxSat (Or.inl rfl) ?_
  refine Wp.p (pc' := 87) d_appendPending_86 rfl rfl ?_
  refine Wp.iconst (0 : Int32) d_appendPending_87 (by decide) ?_
  refine Wp.putI d_appendPending_88 fa_c105 rfl (by decide) in_HittingMaxSat (Or.inl rfl) ?_
  refine Wp.p (pc' := 92) d_appendPending_91 rfl rfl ?_
  refine Wp.callP (a := 0) (as := []) (rest := []) (w := 0) (F' := 0) (Lb' := 0) d_appendPending_92 ca_c108_1 rfl rfl rfl rfl (by decide) (by decide) (Nat.le_of_ble_eq_true rfl) ?_
  refine L_markUnsolved_0 ?_
  show W_appendPending 95 [.val (.ref 0), .val (.int x1), .val (.int x2), .val (.int x3), .val (.int x4)] [] (LL1, (up (up (up (up (up (up (up mi 2 (Int32.toNatClampNeg x2) (mi 0 76)) 3 (Int32.toNatClampNeg x2) x1) 0 74 (x2 + (1 : Int32))) 0 76 (0 : Int32)) 0 82 (0 : Int32)) 0 84 (-1 : Int32)) 0 86 (-1 : Int32)), ml, RR1) Q
  refine Wp.retV d_appendPending_95 ?_
  exact h1
set_option maxRecDepth 65536 in
set_option maxHeartbeats 4000000 in
theorem L_commitSoft_0 {x1 : Int32} {mi : Nat → Nat → Int32} {ml : Nat → Nat → Int64} {Q : Option Value → EMem → Prop}
    (h1 : x1 < (1 : Int32) → Q (some (.int (1 : Int32))) (LL1, mi, ml, RR1))
    (h2 : ¬ x1 < (1 : Int32) → ¬ (1000 : Int32) < x1 → ¬ (mi 0 76) = (0 : Int32) → (mi 0 74) < (mi 0 72) → W_appendPending 0 [.val (.ref 0), .val (.int x1), .unset, .unset, .unset] [] (LL1, mi, ml, RR1) (fun v M' => W_commitSoft 41 [.val (.ref 0), .val (.int x1)] (v.toList ++ []) M' Q))
    (h3 : ¬ x1 < (1 : Int32) → ¬ (1000 : Int32) < x1 → ¬ (mi 0 76) = (0 : Int32) → ¬ (mi 0 74) < (mi 0 72) → Q (some (.int (2 : Int32))) (LL1, mi, ml, RR1))
    (h4 : ¬ x1 < (1 : Int32) → ¬ (1000 : Int32) < x1 → (mi 0 76) = (0 : Int32) → Q (some (.int (3 : Int32))) (LL1, mi, ml, RR1))
    (h5 : ¬ x1 < (1 : Int32) → (1000 : Int32) < x1 → Q (some (.int (1 : Int32))) (LL1, mi, ml, RR1)) :
    W_commitSoft 0 [.val (.ref 0), .val (.int x1)] [] (LL1, mi, ml, RR1) Q := by
  refine Wp.p (pc' := 1) d_commitSoft_0 rfl rfl ?_
  refine Wp.iconst (1 : Int32) d_commitSoft_1 (by decide) ?_
  refine Wp.icmp_lt d_commitSoft_2 rfl (fun c1 => ?_) (fun c1 => ?_)
  ·
    refine Wp.iconst (1 : Int32) d_commitSoft_12 (by decide) ?_
    refine Wp.retI d_commitSoft_13 ?_
    exact (h1 c1)
  ·
    refine Wp.p (pc' := 6) d_commitSoft_5 rfl rfl ?_
    refine Wp.sipush (1000 : Int32) d_commitSoft_6 (by decide) ?_
    refine Wp.icmp_le d_commitSoft_9 rfl (fun c2 => ?_) (fun c2 => ?_)
    ·
      refine Wp.p (pc' := 15) d_commitSoft_14 rfl rfl ?_
      refine Wp.getI (mi 0 76) d_commitSoft_15 fa_c105 rfl rfl ?_
      refine Wp.if_ne d_commitSoft_18 rfl (fun c3 => ?_) (fun c3 => ?_)
      ·
        refine Wp.p (pc' := 24) d_commitSoft_23 rfl rfl ?_
        refine Wp.getI (mi 0 74) d_commitSoft_24 fa_c102 rfl rfl ?_
        refine Wp.p (pc' := 28) d_commitSoft_27 rfl rfl ?_
        refine Wp.getI (mi 0 72) d_commitSoft_28 fa_c99 rfl rfl ?_
        refine Wp.icmp_lt d_commitSoft_31 rfl (fun c4 => ?_) (fun c4 => ?_)
        ·
          refine Wp.p (pc' := 37) d_commitSoft_36 rfl rfl ?_
          refine Wp.p (pc' := 38) d_commitSoft_37 rfl rfl ?_
          refine Wp.callP (a := 0) (as := [.int x1]) (rest := []) (w := 0) (F' := 1) (Lb' := 12) d_commitSoft_38 ca_c118_1 rfl rfl rfl rfl (by decide) (by decide) (Nat.le_of_ble_eq_true rfl) ?_
          exact (h2 c1 c2 c3 c4)
        ·
          refine Wp.iconst (2 : Int32) d_commitSoft_34 (by decide) ?_
          refine Wp.retI d_commitSoft_35 ?_
          exact (h3 c1 c2 c3 c4)
      ·
        refine Wp.iconst (3 : Int32) d_commitSoft_21 (by decide) ?_
        refine Wp.retI d_commitSoft_22 ?_
        exact (h4 c1 c2 c3)
    ·
      refine Wp.iconst (1 : Int32) d_commitSoft_12 (by decide) ?_
      refine Wp.retI d_commitSoft_13 ?_
      exact (h5 c1 c2)
set_option maxRecDepth 65536 in
set_option maxHeartbeats 4000000 in
theorem L_commitSoft_41 {x1 : Int32} {mi : Nat → Nat → Int32} {ml : Nat → Nat → Int64} {Q : Option Value → EMem → Prop}
    (h1 : Q (some (.int (0 : Int32))) (LL1, mi, ml, RR1)) :
    W_commitSoft 41 [.val (.ref 0), .val (.int x1)] [] (LL1, mi, ml, RR1) Q := by
  refine Wp.iconst (0 : Int32) d_commitSoft_41 (by decide) ?_
  refine Wp.retI d_commitSoft_42 ?_
  exact h1
set_option maxRecDepth 65536 in
set_option maxHeartbeats 4000000 in
theorem L_getClauseWeight_0 {x1 : Int32} {mi : Nat → Nat → Int32} {ml : Nat → Nat → Int64} {Q : Option Value → EMem → Prop}
    (b1 : ∀ v1 : Int32, v1 = (if x1 < (0 : Int32) then (0 : Int32) else (if x1 < (mi 0 74) then (if x1 < (32 : Int32) then (1 : Int32) else (0 : Int32)) else (0 : Int32))) → ¬ (v1 &&& 1) = (0 : Int32) → inb x1 32 = true)
    (h1 : ∀ v1 : Int32, v1 = (if x1 < (0 : Int32) then (0 : Int32) else (if x1 < (mi 0 74) then (if x1 < (32 : Int32) then (1 : Int32) else (0 : Int32)) else (0 : Int32))) → ∀ v2 : Int32, v2 = (if (v1 &&& 1) = (0 : Int32) then (-1 : Int32) else (mi 3 (Int32.toNatClampNeg x1))) → Q (some (.int v2)) (LL1, mi, ml, RR1)) :
    W_getClauseWeight 0 [.val (.ref 0), .val (.int x1)] [] (LL1, mi, ml, RR1) Q := by
  refine Wp.p (pc' := 1) d_getClauseWeight_0 rfl rfl ?_
  refine Wp.p (pc' := 2) d_getClauseWeight_1 rfl rfl ?_
  refine Wp.callP (a := 0) (as := [.int x1]) (rest := []) (w := 0) (F' := 0) (Lb' := 0) d_getClauseWeight_2 ca_c145_1 rfl rfl rfl rfl (by decide) (by decide) (Nat.le_of_ble_eq_true rfl) ?_
  refine L_clauseIndexValid_0 ?_
  intro v1 e1
  show W_getClauseWeight 5 [.val (.ref 0), .val (.int x1)] [.int (v1 &&& 1)] (LL1, mi, ml, RR1) Q
  obtain ⟨v2, e2⟩ : ∃ z : Int32, z = (if (v1 &&& 1) = (0 : Int32) then (-1 : Int32) else (mi 3 (Int32.toNatClampNeg x1))) := ⟨_, rfl⟩
  suffices K : Q (some (.int v2)) (LL1, mi, ml, RR1) by
    refine Wp.if_ne d_getClauseWeight_5 rfl (fun q0 => ?_) (fun q0 => ?_)
    ·
      refine Wp.p (pc' := 11) d_getClauseWeight_10 rfl rfl ?_
      refine Wp.getR (b := 3) d_getClauseWeight_11 fa_c49 rfl rfl ?_
      refine Wp.p (pc' := 15) d_getClauseWeight_14 rfl rfl ?_
      refine Wp.iaload (mi 3 (Int32.toNatClampNeg x1)) d_getClauseWeight_15 rfl (k := (Int32.toNatClampNeg x1)) rfl (b1 v1 e1 q0) rfl ?_
      refine Wp.retI d_getClauseWeight_16 ?_
      rw [if_neg q0] at e2; subst e2
      exact K
    ·
      refine Wp.iconst (-1 : Int32) d_getClauseWeight_8 (by decide) ?_
      refine Wp.retI d_getClauseWeight_9 ?_
      rw [if_pos q0] at e2; subst e2
      exact K
  exact (h1 v1 e1 v2 e2)
set_option maxRecDepth 65536 in
set_option maxHeartbeats 4000000 in
theorem L_getClauseLength_0 {x1 : Int32} {mi : Nat → Nat → Int32} {ml : Nat → Nat → Int64} {Q : Option Value → EMem → Prop}
    (b1 : ∀ v1 : Int32, v1 = (if x1 < (0 : Int32) then (0 : Int32) else (if x1 < (mi 0 74) then (if x1 < (32 : Int32) then (1 : Int32) else (0 : Int32)) else (0 : Int32))) → ¬ (v1 &&& 1) = (0 : Int32) → inb x1 32 = true)
    (h1 : ∀ v1 : Int32, v1 = (if x1 < (0 : Int32) then (0 : Int32) else (if x1 < (mi 0 74) then (if x1 < (32 : Int32) then (1 : Int32) else (0 : Int32)) else (0 : Int32))) → ∀ v2 : Int32, v2 = (if (v1 &&& 1) = (0 : Int32) then (-1 : Int32) else (mi 2 (Int32.toNatClampNeg x1))) → Q (some (.int v2)) (LL1, mi, ml, RR1)) :
    W_getClauseLength 0 [.val (.ref 0), .val (.int x1)] [] (LL1, mi, ml, RR1) Q := by
  refine Wp.p (pc' := 1) d_getClauseLength_0 rfl rfl ?_
  refine Wp.p (pc' := 2) d_getClauseLength_1 rfl rfl ?_
  refine Wp.callP (a := 0) (as := [.int x1]) (rest := []) (w := 0) (F' := 0) (Lb' := 0) d_getClauseLength_2 ca_c145_1 rfl rfl rfl rfl (by decide) (by decide) (Nat.le_of_ble_eq_true rfl) ?_
  refine L_clauseIndexValid_0 ?_
  intro v1 e1
  show W_getClauseLength 5 [.val (.ref 0), .val (.int x1)] [.int (v1 &&& 1)] (LL1, mi, ml, RR1) Q
  obtain ⟨v2, e2⟩ : ∃ z : Int32, z = (if (v1 &&& 1) = (0 : Int32) then (-1 : Int32) else (mi 2 (Int32.toNatClampNeg x1))) := ⟨_, rfl⟩
  suffices K : Q (some (.int v2)) (LL1, mi, ml, RR1) by
    refine Wp.if_ne d_getClauseLength_5 rfl (fun q0 => ?_) (fun q0 => ?_)
    ·
      refine Wp.p (pc' := 11) d_getClauseLength_10 rfl rfl ?_
      refine Wp.getR (b := 2) d_getClauseLength_11 fa_c46 rfl rfl ?_
      refine Wp.p (pc' := 15) d_getClauseLength_14 rfl rfl ?_
      refine Wp.iaload (mi 2 (Int32.toNatClampNeg x1)) d_getClauseLength_15 rfl (k := (Int32.toNatClampNeg x1)) rfl (b1 v1 e1 q0) rfl ?_
      refine Wp.retI d_getClauseLength_16 ?_
      rw [if_neg q0] at e2; subst e2
      exact K
    ·
      refine Wp.iconst (-1 : Int32) d_getClauseLength_8 (by decide) ?_
      refine Wp.retI d_getClauseLength_9 ?_
      rw [if_pos q0] at e2; subst e2
      exact K
  exact (h1 v1 e1 v2 e2)
set_option maxRecDepth 65536 in
set_option maxHeartbeats 4000000 in
theorem L_getClauseLiteral_0 {x1 x2 : Int32} {mi : Nat → Nat → Int32} {ml : Nat → Nat → Int64} {Q : Option Value → EMem → Prop}
    (b1 : ∀ v1 : Int32, v1 = (if x1 < (0 : Int32) then (0 : Int32) else (if x1 < (mi 0 74) then (if x1 < (32 : Int32) then (1 : Int32) else (0 : Int32)) else (0 : Int32))) → ¬ (v1 &&& 1) = (0 : Int32) → ¬ x2 < (0 : Int32) → inb x1 32 = true)
    (b2 : ∀ v1 : Int32, v1 = (if x1 < (0 : Int32) then (0 : Int32) else (if x1 < (mi 0 74) then (if x1 < (32 : Int32) then (1 : Int32) else (0 : Int32)) else (0 : Int32))) → ¬ (v1 &&& 1) = (0 : Int32) → ¬ x2 < (0 : Int32) → x2 < (mi 2 (Int32.toNatClampNeg x1)) → ¬ ((x1 * (8 : Int32)) + x2) < (0 : Int32) → ((x1 * (8 : Int32)) + x2) < (256 : Int32) → inb ((x1 * (8 : Int32)) + x2) 256 = true)
    (h1 : ∀ v1 : Int32, v1 = (if x1 < (0 : Int32) then (0 : Int32) else (if x1 < (mi 0 74) then (if x1 < (32 : Int32) then (1 : Int32) else (0 : Int32)) else (0 : Int32))) → ∀ v2 : Int32, v2 = (if (v1 &&& 1) = (0 : Int32) then (0 : Int32) else (if x2 < (0 : Int32) then (0 : Int32) else (if x2 < (mi 2 (Int32.toNatClampNeg x1)) then (if ((x1 * (8 : Int32)) + x2) < (0 : Int32) then (0 : Int32) else (if ((x1 * (8 : Int32)) + x2) < (256 : Int32) then (mi 1 (Int32.toNatClampNeg ((x1 * (8 : Int32)) + x2))) else (0 : Int32))) else (0 : Int32)))) → Q (some (.int v2)) (LL1, mi, ml, RR1)) :
    W_getClauseLiteral 0 [.val (.ref 0), .val (.int x1), .val (.int x2), .unset] [] (LL1, mi, ml, RR1) Q := by
  refine Wp.p (pc' := 1) d_getClauseLiteral_0 rfl rfl ?_
  refine Wp.p (pc' := 2) d_getClauseLiteral_1 rfl rfl ?_
  refine Wp.callP (a := 0) (as := [.int x1]) (rest := []) (w := 0) (F' := 0) (Lb' := 0) d_getClauseLiteral_2 ca_c145_1 rfl rfl rfl rfl (by decide) (by decide) (Nat.le_of_ble_eq_true rfl) ?_
  refine L_clauseIndexValid_0 ?_
  intro v1 e1
  show W_getClauseLiteral 5 [.val (.ref 0), .val (.int x1), .val (.int x2), .unset] [.int (v1 &&& 1)] (LL1, mi, ml, RR1) Q
  obtain ⟨v2, e2⟩ : ∃ z : Int32, z = (if (v1 &&& 1) = (0 : Int32) then (0 : Int32) else (if x2 < (0 : Int32) then (0 : Int32) else (if x2 < (mi 2 (Int32.toNatClampNeg x1)) then (if ((x1 * (8 : Int32)) + x2) < (0 : Int32) then (0 : Int32) else (if ((x1 * (8 : Int32)) + x2) < (256 : Int32) then (mi 1 (Int32.toNatClampNeg ((x1 * (8 : Int32)) + x2))) else (0 : Int32))) else (0 : Int32)))) := ⟨_, rfl⟩
  suffices K : Q (some (.int v2)) (LL1, mi, ml, RR1) by
    refine Wp.if_ne d_getClauseLiteral_5 rfl (fun q0 => ?_) (fun q0 => ?_)
    ·
      refine Wp.p (pc' := 11) d_getClauseLiteral_10 rfl rfl ?_
      refine Wp.if_lt d_getClauseLiteral_11 rfl (fun q1 => ?_) (fun q1 => ?_)
      ·
        refine Wp.iconst (0 : Int32) d_getClauseLiteral_24 (by decide) ?_
        refine Wp.retI d_getClauseLiteral_25 ?_
        rw [if_neg q0, if_pos q1] at e2; subst e2
        exact K
      ·
        refine Wp.p (pc' := 15) d_getClauseLiteral_14 rfl rfl ?_
        refine Wp.p (pc' := 16) d_getClauseLiteral_15 rfl rfl ?_
        refine Wp.getR (b := 2) d_getClauseLiteral_16 fa_c46 rfl rfl ?_
        refine Wp.p (pc' := 20) d_getClauseLiteral_19 rfl rfl ?_
        refine Wp.iaload (mi 2 (Int32.toNatClampNeg x1)) d_getClauseLiteral_20 rfl (k := (Int32.toNatClampNeg x1)) rfl (b1 v1 e1 q0 q1) rfl ?_
        refine Wp.icmp_lt d_getClauseLiteral_21 rfl (fun q2 => ?_) (fun q2 => ?_)
        ·
          refine Wp.p (pc' := 27) d_getClauseLiteral_26 rfl rfl ?_
          refine Wp.bipush (8 : Int32) d_getClauseLiteral_27 (by decide) ?_
          refine Wp.p (pc' := 30) d_getClauseLiteral_29 rfl rfl ?_
          refine Wp.p (pc' := 31) d_getClauseLiteral_30 rfl rfl ?_
          refine Wp.p (pc' := 32) d_getClauseLiteral_31 rfl rfl ?_
          refine Wp.p (pc' := 33) d_getClauseLiteral_32 rfl rfl ?_
          refine Wp.p (pc' := 34) d_getClauseLiteral_33 rfl rfl ?_
          refine Wp.if_lt d_getClauseLiteral_34 rfl (fun q3 => ?_) (fun q3 => ?_)
          ·
            refine Wp.iconst (0 : Int32) d_getClauseLiteral_44 (by decide) ?_
            refine Wp.retI d_getClauseLiteral_45 ?_
            rw [if_neg q0, if_neg q1, if_pos q2, if_pos q3] at e2; subst e2
            exact K
          ·
            refine Wp.p (pc' := 38) d_getClauseLiteral_37 rfl rfl ?_
            refine Wp.sipush (256 : Int32) d_getClauseLiteral_38 (by decide) ?_
            refine Wp.icmp_lt d_getClauseLiteral_41 rfl (fun q4 => ?_) (fun q4 => ?_)
            ·
              refine Wp.p (pc' := 47) d_getClauseLiteral_46 rfl rfl ?_
              refine Wp.getR (b := 1) d_getClauseLiteral_47 fa_c42 rfl rfl ?_
              refine Wp.p (pc' := 51) d_getClauseLiteral_50 rfl rfl ?_
              refine Wp.iaload (mi 1 (Int32.toNatClampNeg ((x1 * (8 : Int32)) + x2))) d_getClauseLiteral_51 rfl (k := (Int32.toNatClampNeg ((x1 * (8 : Int32)) + x2))) rfl (b2 v1 e1 q0 q1 q2 q3 q4) rfl ?_
              refine Wp.retI d_getClauseLiteral_52 ?_
              rw [if_neg q0, if_neg q1, if_pos q2, if_neg q3, if_pos q4] at e2; subst e2
              exact K
            ·
              refine Wp.iconst (0 : Int32) d_getClauseLiteral_44 (by decide) ?_
              refine Wp.retI d_getClauseLiteral_45 ?_
              rw [if_neg q0, if_neg q1, if_pos q2, if_neg q3, if_neg q4] at e2; subst e2
              exact K
        ·
          refine Wp.iconst (0 : Int32) d_getClauseLiteral_24 (by decide) ?_
          refine Wp.retI d_getClauseLiteral_25 ?_
          rw [if_neg q0, if_neg q1, if_neg q2] at e2; subst e2
          exact K
    ·
      refine Wp.iconst (0 : Int32) d_getClauseLiteral_8 (by decide) ?_
      refine Wp.retI d_getClauseLiteral_9 ?_
      rw [if_pos q0] at e2; subst e2
      exact K
  exact (h1 v1 e1 v2 e2)
set_option maxRecDepth 65536 in
set_option maxHeartbeats 4000000 in
theorem L_law_0 {x0 x1 x2 x3 : Int32} {mi : Nat → Nat → Int32} {ml : Nat → Nat → Int64} {Q : Option Value → EMem → Prop}
    (h1 : W_init 0 [.val (.ref 0), .val (.int x0), .val (.int (4 : Int32))] [] ([(0, "HittingMaxSat", 50)], mi, ml, (fun _ _ => Value.null)) (fun v M' => W_law 9 [.val (.int x0), .val (.int x1), .val (.int x2), .val (.int x3), .unset, .unset, .unset, .unset, .unset, .unset, .unset, .unset, .unset, .unset, .unset, .unset, .unset, .unset, .unset, .unset, .unset, .unset, .unset, .unset, .unset, .unset] (v.toList ++ [.ref 0]) M' Q)) :
    W_law 0 [.val (.int x0), .val (.int x1), .val (.int x2), .val (.int x3), .unset, .unset, .unset, .unset, .unset, .unset, .unset, .unset, .unset, .unset, .unset, .unset, .unset, .unset, .unset, .unset, .unset, .unset, .unset, .unset, .unset, .unset] [] ([], mi, ml, (fun _ _ => Value.null)) Q := by
  refine Wp.new (a := 0) (L' := [(0, "HittingMaxSat", 50)]) d_law_0 na_w7 rfl rfl ?_
  refine Wp.p (pc' := 4) d_law_3 rfl rfl ?_
  refine Wp.p (pc' := 5) d_law_4 rfl rfl ?_
  refine Wp.iconst (4 : Int32) d_law_5 (by decide) ?_
  refine Wp.callI (a := 0) (as := [.int x0, .int (4 : Int32)]) (rest := [.ref 0]) (w := 1) (F' := 1) (Lb' := 16) d_law_6 on_w9 ca_w9_2 rfl rfl rfl (by decide) (by decide) (Nat.le_of_ble_eq_true rfl) ?_
  exact h1
set_option maxRecDepth 65536 in
set_option maxHeartbeats 4000000 in
theorem L_law_9 {x0 x1 x2 x3 : Int32} {mi : Nat → Nat → Int32} {ml : Nat → Nat → Int64} {Q : Option Value → EMem → Prop}
    (h1 : ∀ v1 : Int32, v1 = (if x0 < (1 : Int32) then (1 : Int32) else (if (12 : Int32) < x0 then (12 : Int32) else x0)) → ∀ v2 : Int32, v2 = (if x1 = (0 : Int32) then (0 : Int32) else (if x1 < (-v1) then (0 : Int32) else (if v1 < x1 then (0 : Int32) else (1 : Int32)))) → ∀ v3 : Int32, v3 = (if (v2 &&& 1) = (0 : Int32) then (0 : Int32) else (if x2 = x1 then (1 : Int32) else (0 : Int32))) → ∀ v4 : Int32, v4 = (if x2 = (0 : Int32) then (0 : Int32) else (if x2 < (-v1) then (0 : Int32) else (if v1 < x2 then (0 : Int32) else (1 : Int32)))) → ∀ v5 : Int32, v5 = (if (v4 &&& 1) = (0 : Int32) then (0 : Int32) else (if v3 = (0 : Int32) then (1 : Int32) else (0 : Int32))) → ∀ v6 : Int32, v6 = (if (v2 &&& 1) = (0 : Int32) then (1 : Int32) else (0 : Int32)) → ∀ v7 : Int32, v7 = (if x2 = (0 : Int32) then (0 : Int32) else (if x2 < (-v1) then (0 : Int32) else (if v1 < x2 then (0 : Int32) else (1 : Int32)))) → ∀ v8 : Int32, v8 = (if (v7 &&& 1) = (0 : Int32) then (1 : Int32) else (if v3 = (0 : Int32) then (0 : Int32) else (4 : Int32))) → ∀ v9 : Int32, v9 = (if (v2 &&& 1) = (0 : Int32) then (0 : Int32) else (1 : Int32)) → ∀ v10 : Int32, v10 = (if v5 = (0 : Int32) then (0 : Int32) else (1 : Int32)) → ∀ v11 : Int32, v11 = (if x3 < (1 : Int32) then (1 : Int32) else (if (1000 : Int32) < x3 then (1 : Int32) else (if (v9 + v10) = (0 : Int32) then (3 : Int32) else (0 : Int32)))) → ∀ v12 : Int32, v12 = (if v11 = (0 : Int32) then (1 : Int32) else (0 : Int32)) → ∀ v13 : Int32, v13 = (if (v2 &&& 1) = (0 : Int32) then x2 else x1) → ∀ v14 : Int32, v14 = (if (v9 + v10) = (2 : Int32) then x2 else (0 : Int32)) → W_addLiteral 0 [.val (.ref 0), .val (.int x1)] [] (LL1, mi, ml, RR1) (fun v M' => W_law 211 [.val (.int x0), .val (.int x1), .val (.int x2), .val (.int x3), .val (.ref 0), .val (.int v1), .val (.int (v2 &&& 1)), .val (.int v3), .val (.int v5), .val (.int v6), .val (.int v8), .val (.int (v9 + v10)), .val (.int v11), .val (.int v12), .val (.int v13), .val (.int v14), .unset, .unset, .unset, .unset, .unset, .unset, .unset, .unset, .unset, .unset] (v.toList ++ []) M' Q)) :
    W_law 9 [.val (.int x0), .val (.int x1), .val (.int x2), .val (.int x3), .unset, .unset, .unset, .unset, .unset, .unset, .unset, .unset, .unset, .unset, .unset, .unset, .unset, .unset, .unset, .unset, .unset, .unset, .unset, .unset, .unset, .unset] [.ref 0] (LL1, mi, ml, RR1) Q := by
  refine Wp.p (pc' := 11) d_law_9 rfl rfl ?_
  refine Wp.p (pc' := 12) d_law_11 rfl rfl ?_
  refine Wp.iconst (1 : Int32) d_law_12 (by decide) ?_
  obtain ⟨v1, e1⟩ : ∃ z : Int32, z = (if x0 < (1 : Int32) then (1 : Int32) else (if (12 : Int32) < x0 then (12 : Int32) else x0)) := ⟨_, rfl⟩
  suffices K : W_law 32 [.val (.int x0), .val (.int x1), .val (.int x2), .val (.int x3), .val (.ref 0), .unset, .unset, .unset, .unset, .unset, .unset, .unset, .unset, .unset, .unset, .unset, .unset, .unset, .unset, .unset, .unset, .unset, .unset, .unset, .unset, .unset] [.int v1] (LL1, mi, ml, RR1) Q by
    refine Wp.icmp_ge d_law_13 rfl (fun q0 => ?_) (fun q0 => ?_)
    ·
      refine Wp.p (pc' := 21) d_law_20 rfl rfl ?_
      refine Wp.bipush (12 : Int32) d_law_21 (by decide) ?_
      refine Wp.icmp_le d_law_23 rfl (fun q1 => ?_) (fun q1 => ?_)
      ·
        refine Wp.p (pc' := 32) d_law_31 rfl rfl ?_
        rw [if_neg q0, if_neg q1] at e1; subst e1
        exact K
      ·
        refine Wp.bipush (12 : Int32) d_law_26 (by decide) ?_
        refine Wp.p (pc' := 32) d_law_28 rfl rfl ?_
        rw [if_neg q0, if_pos q1] at e1; subst e1
        exact K
    ·
      refine Wp.iconst (1 : Int32) d_law_16 (by decide) ?_
      refine Wp.p (pc' := 32) d_law_17 rfl rfl ?_
      rw [if_pos q0] at e1; subst e1
      exact K
  refine Wp.p (pc' := 34) d_law_32 rfl rfl ?_
  refine Wp.p (pc' := 35) d_law_34 rfl rfl ?_
  refine Wp.p (pc' := 37) d_law_35 rfl rfl ?_
  refine Wp.callS (as := [.int x1, .int v1]) (rest := []) (w := 0) (F' := 0) (Lb' := 0) d_law_37 ca_w12_3 rfl rfl rfl (by decide) (by decide) (Nat.le_of_ble_eq_true rfl) ?_
  refine L_law_in_0 ?_
  intro v2 e2
  show W_law 40 [.val (.int x0), .val (.int x1), .val (.int x2), .val (.int x3), .val (.ref 0), .val (.int v1), .unset, .unset, .unset, .unset, .unset, .unset, .unset, .unset, .unset, .unset, .unset, .unset, .unset, .unset, .unset, .unset, .unset, .unset, .unset, .unset] [.int (v2 &&& 1)] (LL1, mi, ml, RR1) Q
  refine Wp.p (pc' := 42) d_law_40 rfl rfl ?_
  refine Wp.p (pc' := 44) d_law_42 rfl rfl ?_
  obtain ⟨v3, e3⟩ : ∃ z : Int32, z = (if (v2 &&& 1) = (0 : Int32) then (0 : Int32) else (if x2 = x1 then (1 : Int32) else (0 : Int32))) := ⟨_, rfl⟩
  suffices K : W_law 57 [.val (.int x0), .val (.int x1), .val (.int x2), .val (.int x3), .val (.ref 0), .val (.int v1), .val (.int (v2 &&& 1)), .unset, .unset, .unset, .unset, .unset, .unset, .unset, .unset, .unset, .unset, .unset, .unset, .unset, .unset, .unset, .unset, .unset, .unset, .unset] [.int v3] (LL1, mi, ml, RR1) Q by
    refine Wp.if_eq d_law_44 rfl (fun q0 => ?_) (fun q0 => ?_)
    ·
      refine Wp.iconst (0 : Int32) d_law_56 (by decide) ?_
      rw [if_pos q0] at e3; subst e3
      exact K
    ·
      refine Wp.p (pc' := 48) d_law_47 rfl rfl ?_
      refine Wp.p (pc' := 49) d_law_48 rfl rfl ?_
      refine Wp.icmp_ne d_law_49 rfl (fun q1 => ?_) (fun q1 => ?_)
      ·
        refine Wp.iconst (0 : Int32) d_law_56 (by decide) ?_
        rw [if_neg q0, if_neg q1] at e3; subst e3
        exact K
      ·
        refine Wp.iconst (1 : Int32) d_law_52 (by decide) ?_
        refine Wp.p (pc' := 57) d_law_53 rfl rfl ?_
        rw [if_neg q0, if_pos q1] at e3; subst e3
        exact K
  refine Wp.p (pc' := 59) d_law_57 rfl rfl ?_
  refine Wp.p (pc' := 60) d_law_59 rfl rfl ?_
  refine Wp.p (pc' := 62) d_law_60 rfl rfl ?_
  refine Wp.callS (as := [.int x2, .int v1]) (rest := []) (w := 0) (F' := 0) (Lb' := 0) d_law_62 ca_w12_3 rfl rfl rfl (by decide) (by decide) (Nat.le_of_ble_eq_true rfl) ?_
  refine L_law_in_0 ?_
  intro v4 e4
  show W_law 65 [.val (.int x0), .val (.int x1), .val (.int x2), .val (.int x3), .val (.ref 0), .val (.int v1), .val (.int (v2 &&& 1)), .val (.int v3), .unset, .unset, .unset, .unset, .unset, .unset, .unset, .unset, .unset, .unset, .unset, .unset, .unset, .unset, .unset, .unset, .unset, .unset] [.int (v4 &&& 1)] (LL1, mi, ml, RR1) Q
  obtain ⟨v5, e5⟩ : ∃ z : Int32, z = (if (v4 &&& 1) = (0 : Int32) then (0 : Int32) else (if v3 = (0 : Int32) then (1 : Int32) else (0 : Int32))) := ⟨_, rfl⟩
  suffices K : W_law 78 [.val (.int x0), .val (.int x1), .val (.int x2), .val (.int x3), .val (.ref 0), .val (.int v1), .val (.int (v2 &&& 1)), .val (.int v3), .unset, .unset, .unset, .unset, .unset, .unset, .unset, .unset, .unset, .unset, .unset, .unset, .unset, .unset, .unset, .unset, .unset, .unset] [.int v5] (LL1, mi, ml, RR1) Q by
    refine Wp.if_eq d_law_65 rfl (fun q0 => ?_) (fun q0 => ?_)
    ·
      refine Wp.iconst (0 : Int32) d_law_77 (by decide) ?_
      rw [if_pos q0] at e5; subst e5
      exact K
    ·
      refine Wp.p (pc' := 70) d_law_68 rfl rfl ?_
      refine Wp.if_ne d_law_70 rfl (fun q1 => ?_) (fun q1 => ?_)
      ·
        refine Wp.iconst (0 : Int32) d_law_77 (by decide) ?_
        rw [if_neg q0, if_neg q1] at e5; subst e5
        exact K
      ·
        refine Wp.iconst (1 : Int32) d_law_73 (by decide) ?_
        refine Wp.p (pc' := 78) d_law_74 rfl rfl ?_
        rw [if_neg q0, if_pos q1] at e5; subst e5
        exact K
  refine Wp.p (pc' := 80) d_law_78 rfl rfl ?_
  refine Wp.p (pc' := 82) d_law_80 rfl rfl ?_
  obtain ⟨v6, e6⟩ : ∃ z : Int32, z = (if (v2 &&& 1) = (0 : Int32) then (1 : Int32) else (0 : Int32)) := ⟨_, rfl⟩
  suffices K : W_law 90 [.val (.int x0), .val (.int x1), .val (.int x2), .val (.int x3), .val (.ref 0), .val (.int v1), .val (.int (v2 &&& 1)), .val (.int v3), .val (.int v5), .unset, .unset, .unset, .unset, .unset, .unset, .unset, .unset, .unset, .unset, .unset, .unset, .unset, .unset, .unset, .unset, .unset] [.int v6] (LL1, mi, ml, RR1) Q by
    refine Wp.if_eq d_law_82 rfl (fun q0 => ?_) (fun q0 => ?_)
    ·
      refine Wp.iconst (1 : Int32) d_law_89 (by decide) ?_
      rw [if_pos q0] at e6; subst e6
      exact K
    ·
      refine Wp.iconst (0 : Int32) d_law_85 (by decide) ?_
      refine Wp.p (pc' := 90) d_law_86 rfl rfl ?_
      rw [if_neg q0] at e6; subst e6
      exact K
  refine Wp.p (pc' := 92) d_law_90 rfl rfl ?_
  refine Wp.p (pc' := 93) d_law_92 rfl rfl ?_
  refine Wp.p (pc' := 95) d_law_93 rfl rfl ?_
  refine Wp.callS (as := [.int x2, .int v1]) (rest := []) (w := 0) (F' := 0) (Lb' := 0) d_law_95 ca_w12_3 rfl rfl rfl (by decide) (by decide) (Nat.le_of_ble_eq_true rfl) ?_
  refine L_law_in_0 ?_
  intro v7 e7
  show W_law 98 [.val (.int x0), .val (.int x1), .val (.int x2), .val (.int x3), .val (.ref 0), .val (.int v1), .val (.int (v2 &&& 1)), .val (.int v3), .val (.int v5), .val (.int v6), .unset, .unset, .unset, .unset, .unset, .unset, .unset, .unset, .unset, .unset, .unset, .unset, .unset, .unset, .unset, .unset] [.int (v7 &&& 1)] (LL1, mi, ml, RR1) Q
  obtain ⟨v8, e8⟩ : ∃ z : Int32, z = (if (v7 &&& 1) = (0 : Int32) then (1 : Int32) else (if v3 = (0 : Int32) then (0 : Int32) else (4 : Int32))) := ⟨_, rfl⟩
  suffices K : W_law 115 [.val (.int x0), .val (.int x1), .val (.int x2), .val (.int x3), .val (.ref 0), .val (.int v1), .val (.int (v2 &&& 1)), .val (.int v3), .val (.int v5), .val (.int v6), .unset, .unset, .unset, .unset, .unset, .unset, .unset, .unset, .unset, .unset, .unset, .unset, .unset, .unset, .unset, .unset] [.int v8] (LL1, mi, ml, RR1) Q by
    refine Wp.if_ne d_law_98 rfl (fun q0 => ?_) (fun q0 => ?_)
    ·
      refine Wp.p (pc' := 107) d_law_105 rfl rfl ?_
      refine Wp.if_eq d_law_107 rfl (fun q1 => ?_) (fun q1 => ?_)
      ·
        refine Wp.iconst (0 : Int32) d_law_114 (by decide) ?_
        rw [if_neg q0, if_pos q1] at e8; subst e8
        exact K
      ·
        refine Wp.iconst (4 : Int32) d_law_110 (by decide) ?_
        refine Wp.p (pc' := 115) d_law_111 rfl rfl ?_
        rw [if_neg q0, if_neg q1] at e8; subst e8
        exact K
    ·
      refine Wp.iconst (1 : Int32) d_law_101 (by decide) ?_
      refine Wp.p (pc' := 115) d_law_102 rfl rfl ?_
      rw [if_pos q0] at e8; subst e8
      exact K
  refine Wp.p (pc' := 117) d_law_115 rfl rfl ?_
  refine Wp.p (pc' := 119) d_law_117 rfl rfl ?_
  obtain ⟨v9, e9⟩ : ∃ z : Int32, z = (if (v2 &&& 1) = (0 : Int32) then (0 : Int32) else (1 : Int32)) := ⟨_, rfl⟩
  suffices K : W_law 127 [.val (.int x0), .val (.int x1), .val (.int x2), .val (.int x3), .val (.ref 0), .val (.int v1), .val (.int (v2 &&& 1)), .val (.int v3), .val (.int v5), .val (.int v6), .val (.int v8), .unset, .unset, .unset, .unset, .unset, .unset, .unset, .unset, .unset, .unset, .unset, .unset, .unset, .unset, .unset] [.int v9] (LL1, mi, ml, RR1) Q by
    refine Wp.if_eq d_law_119 rfl (fun q0 => ?_) (fun q0 => ?_)
    ·
      refine Wp.iconst (0 : Int32) d_law_126 (by decide) ?_
      rw [if_pos q0] at e9; subst e9
      exact K
    ·
      refine Wp.iconst (1 : Int32) d_law_122 (by decide) ?_
      refine Wp.p (pc' := 127) d_law_123 rfl rfl ?_
      rw [if_neg q0] at e9; subst e9
      exact K
  refine Wp.p (pc' := 129) d_law_127 rfl rfl ?_
  obtain ⟨v10, e10⟩ : ∃ z : Int32, z = (if v5 = (0 : Int32) then (0 : Int32) else (1 : Int32)) := ⟨_, rfl⟩
  suffices K : W_law 137 [.val (.int x0), .val (.int x1), .val (.int x2), .val (.int x3), .val (.ref 0), .val (.int v1), .val (.int (v2 &&& 1)), .val (.int v3), .val (.int v5), .val (.int v6), .val (.int v8), .unset, .unset, .unset, .unset, .unset, .unset, .unset, .unset, .unset, .unset, .unset, .unset, .unset, .unset, .unset] [.int v10, .int v9] (LL1, mi, ml, RR1) Q by
    refine Wp.if_eq d_law_129 rfl (fun q0 => ?_) (fun q0 => ?_)
    ·
      refine Wp.iconst (0 : Int32) d_law_136 (by decide) ?_
      rw [if_pos q0] at e10; subst e10
      exact K
    ·
      refine Wp.iconst (1 : Int32) d_law_132 (by decide) ?_
      refine Wp.p (pc' := 137) d_law_133 rfl rfl ?_
      rw [if_neg q0] at e10; subst e10
      exact K
  refine Wp.p (pc' := 138) d_law_137 rfl rfl ?_
  refine Wp.p (pc' := 140) d_law_138 rfl rfl ?_
  refine Wp.p (pc' := 141) d_law_140 rfl rfl ?_
  refine Wp.iconst (1 : Int32) d_law_141 (by decide) ?_
  obtain ⟨v11, e11⟩ : ∃ z : Int32, z = (if x3 < (1 : Int32) then (1 : Int32) else (if (1000 : Int32) < x3 then (1 : Int32) else (if (v9 + v10) = (0 : Int32) then (3 : Int32) else (0 : Int32)))) := ⟨_, rfl⟩
  suffices K : W_law 166 [.val (.int x0), .val (.int x1), .val (.int x2), .val (.int x3), .val (.ref 0), .val (.int v1), .val (.int (v2 &&& 1)), .val (.int v3), .val (.int v5), .val (.int v6), .val (.int v8), .val (.int (v9 + v10)), .unset, .unset, .unset, .unset, .unset, .unset, .unset, .unset, .unset, .unset, .unset, .unset, .unset, .unset] [.int v11] (LL1, mi, ml, RR1) Q by
    refine Wp.icmp_lt d_law_142 rfl (fun q0 => ?_) (fun q0 => ?_)
    ·
      refine Wp.iconst (1 : Int32) d_law_152 (by decide) ?_
      refine Wp.p (pc' := 166) d_law_153 rfl rfl ?_
      rw [if_pos q0] at e11; subst e11
      exact K
    ·
      refine Wp.p (pc' := 146) d_law_145 rfl rfl ?_
      refine Wp.sipush (1000 : Int32) d_law_146 (by decide) ?_
      refine Wp.icmp_le d_law_149 rfl (fun q1 => ?_) (fun q1 => ?_)
      ·
        refine Wp.p (pc' := 158) d_law_156 rfl rfl ?_
        refine Wp.if_ne d_law_158 rfl (fun q2 => ?_) (fun q2 => ?_)
        ·
          refine Wp.iconst (0 : Int32) d_law_165 (by decide) ?_
          rw [if_neg q0, if_neg q1, if_neg q2] at e11; subst e11
          exact K
        ·
          refine Wp.iconst (3 : Int32) d_law_161 (by decide) ?_
          refine Wp.p (pc' := 166) d_law_162 rfl rfl ?_
          rw [if_neg q0, if_neg q1, if_pos q2] at e11; subst e11
          exact K
      ·
        refine Wp.iconst (1 : Int32) d_law_152 (by decide) ?_
        refine Wp.p (pc' := 166) d_law_153 rfl rfl ?_
        rw [if_neg q0, if_pos q1] at e11; subst e11
        exact K
  refine Wp.p (pc' := 168) d_law_166 rfl rfl ?_
  refine Wp.p (pc' := 170) d_law_168 rfl rfl ?_
  obtain ⟨v12, e12⟩ : ∃ z : Int32, z = (if v11 = (0 : Int32) then (1 : Int32) else (0 : Int32)) := ⟨_, rfl⟩
  suffices K : W_law 178 [.val (.int x0), .val (.int x1), .val (.int x2), .val (.int x3), .val (.ref 0), .val (.int v1), .val (.int (v2 &&& 1)), .val (.int v3), .val (.int v5), .val (.int v6), .val (.int v8), .val (.int (v9 + v10)), .val (.int v11), .unset, .unset, .unset, .unset, .unset, .unset, .unset, .unset, .unset, .unset, .unset, .unset, .unset] [.int v12] (LL1, mi, ml, RR1) Q by
    refine Wp.if_ne d_law_170 rfl (fun q0 => ?_) (fun q0 => ?_)
    ·
      refine Wp.iconst (0 : Int32) d_law_177 (by decide) ?_
      rw [if_neg q0] at e12; subst e12
      exact K
    ·
      refine Wp.iconst (1 : Int32) d_law_173 (by decide) ?_
      refine Wp.p (pc' := 178) d_law_174 rfl rfl ?_
      rw [if_pos q0] at e12; subst e12
      exact K
  refine Wp.p (pc' := 180) d_law_178 rfl rfl ?_
  refine Wp.p (pc' := 182) d_law_180 rfl rfl ?_
  obtain ⟨v13, e13⟩ : ∃ z : Int32, z = (if (v2 &&& 1) = (0 : Int32) then x2 else x1) := ⟨_, rfl⟩
  suffices K : W_law 190 [.val (.int x0), .val (.int x1), .val (.int x2), .val (.int x3), .val (.ref 0), .val (.int v1), .val (.int (v2 &&& 1)), .val (.int v3), .val (.int v5), .val (.int v6), .val (.int v8), .val (.int (v9 + v10)), .val (.int v11), .val (.int v12), .unset, .unset, .unset, .unset, .unset, .unset, .unset, .unset, .unset, .unset, .unset, .unset] [.int v13] (LL1, mi, ml, RR1) Q by
    refine Wp.if_eq d_law_182 rfl (fun q0 => ?_) (fun q0 => ?_)
    ·
      refine Wp.p (pc' := 190) d_law_189 rfl rfl ?_
      rw [if_pos q0] at e13; subst e13
      exact K
    ·
      refine Wp.p (pc' := 186) d_law_185 rfl rfl ?_
      refine Wp.p (pc' := 190) d_law_186 rfl rfl ?_
      rw [if_neg q0] at e13; subst e13
      exact K
  refine Wp.p (pc' := 192) d_law_190 rfl rfl ?_
  refine Wp.p (pc' := 194) d_law_192 rfl rfl ?_
  refine Wp.iconst (2 : Int32) d_law_194 (by decide) ?_
  obtain ⟨v14, e14⟩ : ∃ z : Int32, z = (if (v9 + v10) = (2 : Int32) then x2 else (0 : Int32)) := ⟨_, rfl⟩
  suffices K : W_law 203 [.val (.int x0), .val (.int x1), .val (.int x2), .val (.int x3), .val (.ref 0), .val (.int v1), .val (.int (v2 &&& 1)), .val (.int v3), .val (.int v5), .val (.int v6), .val (.int v8), .val (.int (v9 + v10)), .val (.int v11), .val (.int v12), .val (.int v13), .unset, .unset, .unset, .unset, .unset, .unset, .unset, .unset, .unset, .unset, .unset] [.int v14] (LL1, mi, ml, RR1) Q by
    refine Wp.icmp_ne d_law_195 rfl (fun q0 => ?_) (fun q0 => ?_)
    ·
      refine Wp.iconst (0 : Int32) d_law_202 (by decide) ?_
      rw [if_neg q0] at e14; subst e14
      exact K
    ·
      refine Wp.p (pc' := 199) d_law_198 rfl rfl ?_
      refine Wp.p (pc' := 203) d_law_199 rfl rfl ?_
      rw [if_pos q0] at e14; subst e14
      exact K
  refine Wp.p (pc' := 205) d_law_203 rfl rfl ?_
  refine Wp.p (pc' := 207) d_law_205 rfl rfl ?_
  refine Wp.p (pc' := 208) d_law_207 rfl rfl ?_
  refine Wp.callV (a := 0) (as := [.int x1]) (rest := []) (w := 0) (F' := 1) (Lb' := 14) d_law_208 ca_w18_0n ca_w18_0 rfl rfl rfl rfl (by decide) (by decide) (Nat.le_of_ble_eq_true rfl) ?_
  exact (h1 v1 e1 v2 e2 v3 e3 v4 e4 v5 e5 v6 e6 v7 e7 v8 e8 v9 e9 v10 e10 v11 e11 v12 e12 v13 e13 v14 e14)
set_option maxRecDepth 65536 in
set_option maxHeartbeats 4000000 in
theorem L_law_211 {x0 x1 x2 x3 x5 x6 x7 x8 x9 x10 x11 x12 x13 x14 x15 y0 : Int32} {mi : Nat → Nat → Int32} {ml : Nat → Nat → Int64} {Q : Option Value → EMem → Prop}
    (h1 : W_addLiteral 0 [.val (.ref 0), .val (.int x2)] [] (LL1, mi, ml, RR1) (fun v M' => W_law 219 [.val (.int x0), .val (.int x1), .val (.int x2), .val (.int x3), .val (.ref 0), .val (.int x5), .val (.int x6), .val (.int x7), .val (.int x8), .val (.int x9), .val (.int x10), .val (.int x11), .val (.int x12), .val (.int x13), .val (.int x14), .val (.int x15), .val (.int y0), .unset, .unset, .unset, .unset, .unset, .unset, .unset, .unset, .unset] (v.toList ++ []) M' Q)) :
    W_law 211 [.val (.int x0), .val (.int x1), .val (.int x2), .val (.int x3), .val (.ref 0), .val (.int x5), .val (.int x6), .val (.int x7), .val (.int x8), .val (.int x9), .val (.int x10), .val (.int x11), .val (.int x12), .val (.int x13), .val (.int x14), .val (.int x15), .unset, .unset, .unset, .unset, .unset, .unset, .unset, .unset, .unset, .unset] [.int y0] (LL1, mi, ml, RR1) Q := by
  refine Wp.p (pc' := 213) d_law_211 rfl rfl ?_
  refine Wp.p (pc' := 215) d_law_213 rfl rfl ?_
  refine Wp.p (pc' := 216) d_law_215 rfl rfl ?_
  refine Wp.callV (a := 0) (as := [.int x2]) (rest := []) (w := 0) (F' := 1) (Lb' := 14) d_law_216 ca_w18_0n ca_w18_0 rfl rfl rfl rfl (by decide) (by decide) (Nat.le_of_ble_eq_true rfl) ?_
  exact h1
set_option maxRecDepth 65536 in
set_option maxHeartbeats 4000000 in
theorem L_law_219 {x0 x1 x2 x3 x5 x6 x7 x8 x9 x10 x11 x12 x13 x14 x15 x16 y0 : Int32} {mi : Nat → Nat → Int32} {ml : Nat → Nat → Int64} {Q : Option Value → EMem → Prop}
    (h1 : W_commitSoft 0 [.val (.ref 0), .val (.int x3)] [] (LL1, mi, ml, RR1) (fun v M' => W_law 227 [.val (.int x0), .val (.int x1), .val (.int x2), .val (.int x3), .val (.ref 0), .val (.int x5), .val (.int x6), .val (.int x7), .val (.int x8), .val (.int x9), .val (.int x10), .val (.int x11), .val (.int x12), .val (.int x13), .val (.int x14), .val (.int x15), .val (.int x16), .val (.int y0), .unset, .unset, .unset, .unset, .unset, .unset, .unset, .unset] (v.toList ++ []) M' Q)) :
    W_law 219 [.val (.int x0), .val (.int x1), .val (.int x2), .val (.int x3), .val (.ref 0), .val (.int x5), .val (.int x6), .val (.int x7), .val (.int x8), .val (.int x9), .val (.int x10), .val (.int x11), .val (.int x12), .val (.int x13), .val (.int x14), .val (.int x15), .val (.int x16), .unset, .unset, .unset, .unset, .unset, .unset, .unset, .unset, .unset] [.int y0] (LL1, mi, ml, RR1) Q := by
  refine Wp.p (pc' := 221) d_law_219 rfl rfl ?_
  refine Wp.p (pc' := 223) d_law_221 rfl rfl ?_
  refine Wp.p (pc' := 224) d_law_223 rfl rfl ?_
  refine Wp.callV (a := 0) (as := [.int x3]) (rest := []) (w := 0) (F' := 2) (Lb' := 28) d_law_224 ca_w22_0n ca_w22_0 rfl rfl rfl rfl (by decide) (by decide) (Nat.le_of_ble_eq_true rfl) ?_
  exact h1
set_option maxRecDepth 65536 in
set_option maxHeartbeats 4000000 in
theorem L_law_227 {x0 x1 x2 x3 x5 x6 x7 x8 x9 x10 x11 x12 x13 x14 x15 x16 x17 y0 : Int32} {mi : Nat → Nat → Int32} {ml : Nat → Nat → Int64} {Q : Option Value → EMem → Prop}
    (h1 : W_getClauseWeight 0 [.val (.ref 0), .val (.int (0 : Int32))] [] (LL1, mi, ml, RR1) (fun v M' => W_law 242 [.val (.int x0), .val (.int x1), .val (.int x2), .val (.int x3), .val (.ref 0), .val (.int x5), .val (.int x6), .val (.int x7), .val (.int x8), .val (.int x9), .val (.int x10), .val (.int x11), .val (.int x12), .val (.int x13), .val (.int x14), .val (.int x15), .val (.int x16), .val (.int x17), .val (.int y0), .val (.int (mi 0 74)), .unset, .unset, .unset, .unset, .unset, .unset] (v.toList ++ []) M' Q)) :
    W_law 227 [.val (.int x0), .val (.int x1), .val (.int x2), .val (.int x3), .val (.ref 0), .val (.int x5), .val (.int x6), .val (.int x7), .val (.int x8), .val (.int x9), .val (.int x10), .val (.int x11), .val (.int x12), .val (.int x13), .val (.int x14), .val (.int x15), .val (.int x16), .val (.int x17), .unset, .unset, .unset, .unset, .unset, .unset, .unset, .unset] [.int y0] (LL1, mi, ml, RR1) Q := by
  refine Wp.p (pc' := 229) d_law_227 rfl rfl ?_
  refine Wp.p (pc' := 231) d_law_229 rfl rfl ?_
  refine Wp.callV (a := 0) (as := []) (rest := []) (w := 0) (F' := 0) (Lb' := 0) d_law_231 ca_w25_0n ca_w25_0 rfl rfl rfl rfl (by decide) (by decide) (Nat.le_of_ble_eq_true rfl) ?_
  refine L_getClauseCount_0 ?_
  show W_law 234 [.val (.int x0), .val (.int x1), .val (.int x2), .val (.int x3), .val (.ref 0), .val (.int x5), .val (.int x6), .val (.int x7), .val (.int x8), .val (.int x9), .val (.int x10), .val (.int x11), .val (.int x12), .val (.int x13), .val (.int x14), .val (.int x15), .val (.int x16), .val (.int x17), .val (.int y0), .unset, .unset, .unset, .unset, .unset, .unset, .unset] [.int (mi 0 74)] (LL1, mi, ml, RR1) Q
  refine Wp.p (pc' := 236) d_law_234 rfl rfl ?_
  refine Wp.p (pc' := 238) d_law_236 rfl rfl ?_
  refine Wp.iconst (0 : Int32) d_law_238 (by decide) ?_
  refine Wp.callV (a := 0) (as := [.int (0 : Int32)]) (rest := []) (w := 0) (F' := 1) (Lb' := 13) d_law_239 ca_w29_0n ca_w29_0 rfl rfl rfl rfl (by decide) (by decide) (Nat.le_of_ble_eq_true rfl) ?_
  exact h1
set_option maxRecDepth 65536 in
set_option maxHeartbeats 4000000 in
theorem L_law_242 {x0 x1 x2 x3 x5 x6 x7 x8 x9 x10 x11 x12 x13 x14 x15 x16 x17 x18 x19 y0 : Int32} {mi : Nat → Nat → Int32} {ml : Nat → Nat → Int64} {Q : Option Value → EMem → Prop}
    (h1 : W_getClauseLength 0 [.val (.ref 0), .val (.int (0 : Int32))] [] (LL1, mi, ml, RR1) (fun v M' => W_law 250 [.val (.int x0), .val (.int x1), .val (.int x2), .val (.int x3), .val (.ref 0), .val (.int x5), .val (.int x6), .val (.int x7), .val (.int x8), .val (.int x9), .val (.int x10), .val (.int x11), .val (.int x12), .val (.int x13), .val (.int x14), .val (.int x15), .val (.int x16), .val (.int x17), .val (.int x18), .val (.int x19), .val (.int y0), .unset, .unset, .unset, .unset, .unset] (v.toList ++ []) M' Q)) :
    W_law 242 [.val (.int x0), .val (.int x1), .val (.int x2), .val (.int x3), .val (.ref 0), .val (.int x5), .val (.int x6), .val (.int x7), .val (.int x8), .val (.int x9), .val (.int x10), .val (.int x11), .val (.int x12), .val (.int x13), .val (.int x14), .val (.int x15), .val (.int x16), .val (.int x17), .val (.int x18), .val (.int x19), .unset, .unset, .unset, .unset, .unset, .unset] [.int y0] (LL1, mi, ml, RR1) Q := by
  refine Wp.p (pc' := 244) d_law_242 rfl rfl ?_
  refine Wp.p (pc' := 246) d_law_244 rfl rfl ?_
  refine Wp.iconst (0 : Int32) d_law_246 (by decide) ?_
  refine Wp.callV (a := 0) (as := [.int (0 : Int32)]) (rest := []) (w := 0) (F' := 1) (Lb' := 13) d_law_247 ca_w32_0n ca_w32_0 rfl rfl rfl rfl (by decide) (by decide) (Nat.le_of_ble_eq_true rfl) ?_
  exact h1
set_option maxRecDepth 65536 in
set_option maxHeartbeats 4000000 in
theorem L_law_250 {x0 x1 x2 x3 x5 x6 x7 x8 x9 x10 x11 x12 x13 x14 x15 x16 x17 x18 x19 x20 y0 : Int32} {mi : Nat → Nat → Int32} {ml : Nat → Nat → Int64} {Q : Option Value → EMem → Prop}
    (h1 : W_getClauseLiteral 0 [.val (.ref 0), .val (.int (0 : Int32)), .val (.int (0 : Int32)), .unset] [] (LL1, mi, ml, RR1) (fun v M' => W_law 259 [.val (.int x0), .val (.int x1), .val (.int x2), .val (.int x3), .val (.ref 0), .val (.int x5), .val (.int x6), .val (.int x7), .val (.int x8), .val (.int x9), .val (.int x10), .val (.int x11), .val (.int x12), .val (.int x13), .val (.int x14), .val (.int x15), .val (.int x16), .val (.int x17), .val (.int x18), .val (.int x19), .val (.int x20), .val (.int y0), .unset, .unset, .unset, .unset] (v.toList ++ []) M' Q)) :
    W_law 250 [.val (.int x0), .val (.int x1), .val (.int x2), .val (.int x3), .val (.ref 0), .val (.int x5), .val (.int x6), .val (.int x7), .val (.int x8), .val (.int x9), .val (.int x10), .val (.int x11), .val (.int x12), .val (.int x13), .val (.int x14), .val (.int x15), .val (.int x16), .val (.int x17), .val (.int x18), .val (.int x19), .val (.int x20), .unset, .unset, .unset, .unset, .unset] [.int y0] (LL1, mi, ml, RR1) Q := by
  refine Wp.p (pc' := 252) d_law_250 rfl rfl ?_
  refine Wp.p (pc' := 254) d_law_252 rfl rfl ?_
  refine Wp.iconst (0 : Int32) d_law_254 (by decide) ?_
  refine Wp.iconst (0 : Int32) d_law_255 (by decide) ?_
  refine Wp.callV (a := 0) (as := [.int (0 : Int32), .int (0 : Int32)]) (rest := []) (w := 0) (F' := 1) (Lb' := 13) d_law_256 ca_w35_0n ca_w35_0 rfl rfl rfl rfl (by decide) (by decide) (Nat.le_of_ble_eq_true rfl) ?_
  exact h1
set_option maxRecDepth 65536 in
set_option maxHeartbeats 4000000 in
theorem L_law_259 {x0 x1 x2 x3 x5 x6 x7 x8 x9 x10 x11 x12 x13 x14 x15 x16 x17 x18 x19 x20 x21 y0 : Int32} {mi : Nat → Nat → Int32} {ml : Nat → Nat → Int64} {Q : Option Value → EMem → Prop}
    (h1 : W_getClauseLiteral 0 [.val (.ref 0), .val (.int (0 : Int32)), .val (.int (1 : Int32)), .unset] [] (LL1, mi, ml, RR1) (fun v M' => W_law 268 [.val (.int x0), .val (.int x1), .val (.int x2), .val (.int x3), .val (.ref 0), .val (.int x5), .val (.int x6), .val (.int x7), .val (.int x8), .val (.int x9), .val (.int x10), .val (.int x11), .val (.int x12), .val (.int x13), .val (.int x14), .val (.int x15), .val (.int x16), .val (.int x17), .val (.int x18), .val (.int x19), .val (.int x20), .val (.int x21), .val (.int y0), .unset, .unset, .unset] (v.toList ++ []) M' Q)) :
    W_law 259 [.val (.int x0), .val (.int x1), .val (.int x2), .val (.int x3), .val (.ref 0), .val (.int x5), .val (.int x6), .val (.int x7), .val (.int x8), .val (.int x9), .val (.int x10), .val (.int x11), .val (.int x12), .val (.int x13), .val (.int x14), .val (.int x15), .val (.int x16), .val (.int x17), .val (.int x18), .val (.int x19), .val (.int x20), .val (.int x21), .unset, .unset, .unset, .unset] [.int y0] (LL1, mi, ml, RR1) Q := by
  refine Wp.p (pc' := 261) d_law_259 rfl rfl ?_
  refine Wp.p (pc' := 263) d_law_261 rfl rfl ?_
  refine Wp.iconst (0 : Int32) d_law_263 (by decide) ?_
  refine Wp.iconst (1 : Int32) d_law_264 (by decide) ?_
  refine Wp.callV (a := 0) (as := [.int (0 : Int32), .int (1 : Int32)]) (rest := []) (w := 0) (F' := 1) (Lb' := 13) d_law_265 ca_w35_0n ca_w35_0 rfl rfl rfl rfl (by decide) (by decide) (Nat.le_of_ble_eq_true rfl) ?_
  exact h1
set_option maxRecDepth 65536 in
set_option maxHeartbeats 4000000 in
theorem L_law_268 {x0 x1 x2 x3 x5 x6 x7 x8 x9 x10 x11 x12 x13 x14 x15 x16 x17 x18 x19 x20 x21 x22 y0 : Int32} {mi : Nat → Nat → Int32} {ml : Nat → Nat → Int64} {Q : Option Value → EMem → Prop}
    (h1 : ¬ x16 = x9 → Q (some (.int (0 : Int32))) (LL1, mi, ml, RR1))
    (h2 : x16 = x9 → ¬ x17 = x10 → Q (some (.int (0 : Int32))) (LL1, mi, ml, RR1))
    (h3 : x16 = x9 → x17 = x10 → ¬ x18 = x12 → Q (some (.int (0 : Int32))) (LL1, mi, ml, RR1))
    (h4 : x16 = x9 → x17 = x10 → x18 = x12 → ∀ v4 : Int32, v4 = (if x13 = (0 : Int32) then (0 : Int32) else (1 : Int32)) → ∀ v5 : Int32, v5 = (if x19 = v4 then (if x13 = (0 : Int32) then (if x20 = (-1 : Int32) then (if x13 = (0 : Int32) then (if x21 = (-1 : Int32) then (if x13 = (0 : Int32) then (if x22 = (0 : Int32) then (if x13 = (0 : Int32) then (if y0 = (0 : Int32) then (if x13 = (0 : Int32) then (if (mi 0 76) = x11 then (if (mi 0 82) = (0 : Int32) then (1 : Int32) else (0 : Int32)) else (0 : Int32)) else (if (mi 0 76) = (0 : Int32) then (if (mi 0 82) = (0 : Int32) then (1 : Int32) else (0 : Int32)) else (0 : Int32))) else (0 : Int32)) else (if y0 = x15 then (if x13 = (0 : Int32) then (if (mi 0 76) = x11 then (if (mi 0 82) = (0 : Int32) then (1 : Int32) else (0 : Int32)) else (0 : Int32)) else (if (mi 0 76) = (0 : Int32) then (if (mi 0 82) = (0 : Int32) then (1 : Int32) else (0 : Int32)) else (0 : Int32))) else (0 : Int32))) else (0 : Int32)) else (if x22 = x14 then (if x13 = (0 : Int32) then (if y0 = (0 : Int32) then (if x13 = (0 : Int32) then (if (mi 0 76) = x11 then (if (mi 0 82) = (0 : Int32) then (1 : Int32) else (0 : Int32)) else (0 : Int32)) else (if (mi 0 76) = (0 : Int32) then (if (mi 0 82) = (0 : Int32) then (1 : Int32) else (0 : Int32)) else (0 : Int32))) else (0 : Int32)) else (if y0 = x15 then (if x13 = (0 : Int32) then (if (mi 0 76) = x11 then (if (mi 0 82) = (0 : Int32) then (1 : Int32) else (0 : Int32)) else (0 : Int32)) else (if (mi 0 76) = (0 : Int32) then (if (mi 0 82) = (0 : Int32) then (1 : Int32) else (0 : Int32)) else (0 : Int32))) else (0 : Int32))) else (0 : Int32))) else (0 : Int32)) else (if x21 = x11 then (if x13 = (0 : Int32) then (if x22 = (0 : Int32) then (if x13 = (0 : Int32) then (if y0 = (0 : Int32) then (if x13 = (0 : Int32) then (if (mi 0 76) = x11 then (if (mi 0 82) = (0 : Int32) then (1 : Int32) else (0 : Int32)) else (0 : Int32)) else (if (mi 0 76) = (0 : Int32) then (if (mi 0 82) = (0 : Int32) then (1 : Int32) else (0 : Int32)) else (0 : Int32))) else (0 : Int32)) else (if y0 = x15 then (if x13 = (0 : Int32) then (if (mi 0 76) = x11 then (if (mi 0 82) = (0 : Int32) then (1 : Int32) else (0 : Int32)) else (0 : Int32)) else (if (mi 0 76) = (0 : Int32) then (if (mi 0 82) = (0 : Int32) then (1 : Int32) else (0 : Int32)) else (0 : Int32))) else (0 : Int32))) else (0 : Int32)) else (if x22 = x14 then (if x13 = (0 : Int32) then (if y0 = (0 : Int32) then (if x13 = (0 : Int32) then (if (mi 0 76) = x11 then (if (mi 0 82) = (0 : Int32) then (1 : Int32) else (0 : Int32)) else (0 : Int32)) else (if (mi 0 76) = (0 : Int32) then (if (mi 0 82) = (0 : Int32) then (1 : Int32) else (0 : Int32)) else (0 : Int32))) else (0 : Int32)) else (if y0 = x15 then (if x13 = (0 : Int32) then (if (mi 0 76) = x11 then (if (mi 0 82) = (0 : Int32) then (1 : Int32) else (0 : Int32)) else (0 : Int32)) else (if (mi 0 76) = (0 : Int32) then (if (mi 0 82) = (0 : Int32) then (1 : Int32) else (0 : Int32)) else (0 : Int32))) else (0 : Int32))) else (0 : Int32))) else (0 : Int32))) else (0 : Int32)) else (if x20 = x3 then (if x13 = (0 : Int32) then (if x21 = (-1 : Int32) then (if x13 = (0 : Int32) then (if x22 = (0 : Int32) then (if x13 = (0 : Int32) then (if y0 = (0 : Int32) then (if x13 = (0 : Int32) then (if (mi 0 76) = x11 then (if (mi 0 82) = (0 : Int32) then (1 : Int32) else (0 : Int32)) else (0 : Int32)) else (if (mi 0 76) = (0 : Int32) then (if (mi 0 82) = (0 : Int32) then (1 : Int32) else (0 : Int32)) else (0 : Int32))) else (0 : Int32)) else (if y0 = x15 then (if x13 = (0 : Int32) then (if (mi 0 76) = x11 then (if (mi 0 82) = (0 : Int32) then (1 : Int32) else (0 : Int32)) else (0 : Int32)) else (if (mi 0 76) = (0 : Int32) then (if (mi 0 82) = (0 : Int32) then (1 : Int32) else (0 : Int32)) else (0 : Int32))) else (0 : Int32))) else (0 : Int32)) else (if x22 = x14 then (if x13 = (0 : Int32) then (if y0 = (0 : Int32) then (if x13 = (0 : Int32) then (if (mi 0 76) = x11 then (if (mi 0 82) = (0 : Int32) then (1 : Int32) else (0 : Int32)) else (0 : Int32)) else (if (mi 0 76) = (0 : Int32) then (if (mi 0 82) = (0 : Int32) then (1 : Int32) else (0 : Int32)) else (0 : Int32))) else (0 : Int32)) else (if y0 = x15 then (if x13 = (0 : Int32) then (if (mi 0 76) = x11 then (if (mi 0 82) = (0 : Int32) then (1 : Int32) else (0 : Int32)) else (0 : Int32)) else (if (mi 0 76) = (0 : Int32) then (if (mi 0 82) = (0 : Int32) then (1 : Int32) else (0 : Int32)) else (0 : Int32))) else (0 : Int32))) else (0 : Int32))) else (0 : Int32)) else (if x21 = x11 then (if x13 = (0 : Int32) then (if x22 = (0 : Int32) then (if x13 = (0 : Int32) then (if y0 = (0 : Int32) then (if x13 = (0 : Int32) then (if (mi 0 76) = x11 then (if (mi 0 82) = (0 : Int32) then (1 : Int32) else (0 : Int32)) else (0 : Int32)) else (if (mi 0 76) = (0 : Int32) then (if (mi 0 82) = (0 : Int32) then (1 : Int32) else (0 : Int32)) else (0 : Int32))) else (0 : Int32)) else (if y0 = x15 then (if x13 = (0 : Int32) then (if (mi 0 76) = x11 then (if (mi 0 82) = (0 : Int32) then (1 : Int32) else (0 : Int32)) else (0 : Int32)) else (if (mi 0 76) = (0 : Int32) then (if (mi 0 82) = (0 : Int32) then (1 : Int32) else (0 : Int32)) else (0 : Int32))) else (0 : Int32))) else (0 : Int32)) else (if x22 = x14 then (if x13 = (0 : Int32) then (if y0 = (0 : Int32) then (if x13 = (0 : Int32) then (if (mi 0 76) = x11 then (if (mi 0 82) = (0 : Int32) then (1 : Int32) else (0 : Int32)) else (0 : Int32)) else (if (mi 0 76) = (0 : Int32) then (if (mi 0 82) = (0 : Int32) then (1 : Int32) else (0 : Int32)) else (0 : Int32))) else (0 : Int32)) else (if y0 = x15 then (if x13 = (0 : Int32) then (if (mi 0 76) = x11 then (if (mi 0 82) = (0 : Int32) then (1 : Int32) else (0 : Int32)) else (0 : Int32)) else (if (mi 0 76) = (0 : Int32) then (if (mi 0 82) = (0 : Int32) then (1 : Int32) else (0 : Int32)) else (0 : Int32))) else (0 : Int32))) else (0 : Int32))) else (0 : Int32))) else (0 : Int32))) else (0 : Int32)) → Q (some (.int (v5 &&& 1))) (LL1, mi, ml, RR1)) :
    W_law 268 [.val (.int x0), .val (.int x1), .val (.int x2), .val (.int x3), .val (.ref 0), .val (.int x5), .val (.int x6), .val (.int x7), .val (.int x8), .val (.int x9), .val (.int x10), .val (.int x11), .val (.int x12), .val (.int x13), .val (.int x14), .val (.int x15), .val (.int x16), .val (.int x17), .val (.int x18), .val (.int x19), .val (.int x20), .val (.int x21), .val (.int x22), .unset, .unset, .unset] [.int y0] (LL1, mi, ml, RR1) Q := by
  refine Wp.p (pc' := 270) d_law_268 rfl rfl ?_
  refine Wp.p (pc' := 272) d_law_270 rfl rfl ?_
  refine Wp.callV (a := 0) (as := []) (rest := []) (w := 0) (F' := 0) (Lb' := 0) d_law_272 ca_w39_0n ca_w39_0 rfl rfl rfl rfl (by decide) (by decide) (Nat.le_of_ble_eq_true rfl) ?_
  refine L_getPendingLength_0 ?_
  show W_law 275 [.val (.int x0), .val (.int x1), .val (.int x2), .val (.int x3), .val (.ref 0), .val (.int x5), .val (.int x6), .val (.int x7), .val (.int x8), .val (.int x9), .val (.int x10), .val (.int x11), .val (.int x12), .val (.int x13), .val (.int x14), .val (.int x15), .val (.int x16), .val (.int x17), .val (.int x18), .val (.int x19), .val (.int x20), .val (.int x21), .val (.int x22), .val (.int y0), .unset, .unset] [.int (mi 0 76)] (LL1, mi, ml, RR1) Q
  refine Wp.p (pc' := 277) d_law_275 rfl rfl ?_
  refine Wp.p (pc' := 279) d_law_277 rfl rfl ?_
  refine Wp.callV (a := 0) (as := []) (rest := []) (w := 0) (F' := 0) (Lb' := 0) d_law_279 ca_w42_0n ca_w42_0 rfl rfl rfl rfl (by decide) (by decide) (Nat.le_of_ble_eq_true rfl) ?_
  refine L_getStatus_0 ?_
  show W_law 282 [.val (.int x0), .val (.int x1), .val (.int x2), .val (.int x3), .val (.ref 0), .val (.int x5), .val (.int x6), .val (.int x7), .val (.int x8), .val (.int x9), .val (.int x10), .val (.int x11), .val (.int x12), .val (.int x13), .val (.int x14), .val (.int x15), .val (.int x16), .val (.int x17), .val (.int x18), .val (.int x19), .val (.int x20), .val (.int x21), .val (.int x22), .val (.int y0), .val (.int (mi 0 76)), .unset] [.int (mi 0 82)] (LL1, mi, ml, RR1) Q
  refine Wp.p (pc' := 284) d_law_282 rfl rfl ?_
  refine Wp.p (pc' := 286) d_law_284 rfl rfl ?_
  refine Wp.p (pc' := 288) d_law_286 rfl rfl ?_
  refine Wp.icmp_ne d_law_288 rfl (fun c1 => ?_) (fun c1 => ?_)
  ·
    refine Wp.iconst (0 : Int32) d_law_408 (by decide) ?_
    refine Wp.retZ (0 : Int32) d_law_409 (by decide) ?_
    exact (h1 c1)
  ·
    refine Wp.p (pc' := 293) d_law_291 rfl rfl ?_
    refine Wp.p (pc' := 295) d_law_293 rfl rfl ?_
    refine Wp.icmp_ne d_law_295 rfl (fun c2 => ?_) (fun c2 => ?_)
    ·
      refine Wp.iconst (0 : Int32) d_law_408 (by decide) ?_
      refine Wp.retZ (0 : Int32) d_law_409 (by decide) ?_
      exact (h2 c1 c2)
    ·
      refine Wp.p (pc' := 300) d_law_298 rfl rfl ?_
      refine Wp.p (pc' := 302) d_law_300 rfl rfl ?_
      refine Wp.icmp_ne d_law_302 rfl (fun c3 => ?_) (fun c3 => ?_)
      ·
        refine Wp.iconst (0 : Int32) d_law_408 (by decide) ?_
        refine Wp.retZ (0 : Int32) d_law_409 (by decide) ?_
        exact (h3 c1 c2 c3)
      ·
        refine Wp.p (pc' := 307) d_law_305 rfl rfl ?_
        refine Wp.p (pc' := 309) d_law_307 rfl rfl ?_
        obtain ⟨v4, e4⟩ : ∃ z : Int32, z = (if x13 = (0 : Int32) then (0 : Int32) else (1 : Int32)) := ⟨_, rfl⟩
        suffices K : W_law 317 [.val (.int x0), .val (.int x1), .val (.int x2), .val (.int x3), .val (.ref 0), .val (.int x5), .val (.int x6), .val (.int x7), .val (.int x8), .val (.int x9), .val (.int x10), .val (.int x11), .val (.int x12), .val (.int x13), .val (.int x14), .val (.int x15), .val (.int x16), .val (.int x17), .val (.int x18), .val (.int x19), .val (.int x20), .val (.int x21), .val (.int x22), .val (.int y0), .val (.int (mi 0 76)), .val (.int (mi 0 82))] [.int v4, .int x19] (LL1, mi, ml, RR1) Q by
          refine Wp.if_eq d_law_309 rfl (fun q0 => ?_) (fun q0 => ?_)
          ·
            refine Wp.iconst (0 : Int32) d_law_316 (by decide) ?_
            rw [if_pos q0] at e4; subst e4
            exact K
          ·
            refine Wp.iconst (1 : Int32) d_law_312 (by decide) ?_
            refine Wp.p (pc' := 317) d_law_313 rfl rfl ?_
            rw [if_neg q0] at e4; subst e4
            exact K
        obtain ⟨v5, e5⟩ : ∃ z : Int32, z = (if x19 = v4 then (if x13 = (0 : Int32) then (if x20 = (-1 : Int32) then (if x13 = (0 : Int32) then (if x21 = (-1 : Int32) then (if x13 = (0 : Int32) then (if x22 = (0 : Int32) then (if x13 = (0 : Int32) then (if y0 = (0 : Int32) then (if x13 = (0 : Int32) then (if (mi 0 76) = x11 then (if (mi 0 82) = (0 : Int32) then (1 : Int32) else (0 : Int32)) else (0 : Int32)) else (if (mi 0 76) = (0 : Int32) then (if (mi 0 82) = (0 : Int32) then (1 : Int32) else (0 : Int32)) else (0 : Int32))) else (0 : Int32)) else (if y0 = x15 then (if x13 = (0 : Int32) then (if (mi 0 76) = x11 then (if (mi 0 82) = (0 : Int32) then (1 : Int32) else (0 : Int32)) else (0 : Int32)) else (if (mi 0 76) = (0 : Int32) then (if (mi 0 82) = (0 : Int32) then (1 : Int32) else (0 : Int32)) else (0 : Int32))) else (0 : Int32))) else (0 : Int32)) else (if x22 = x14 then (if x13 = (0 : Int32) then (if y0 = (0 : Int32) then (if x13 = (0 : Int32) then (if (mi 0 76) = x11 then (if (mi 0 82) = (0 : Int32) then (1 : Int32) else (0 : Int32)) else (0 : Int32)) else (if (mi 0 76) = (0 : Int32) then (if (mi 0 82) = (0 : Int32) then (1 : Int32) else (0 : Int32)) else (0 : Int32))) else (0 : Int32)) else (if y0 = x15 then (if x13 = (0 : Int32) then (if (mi 0 76) = x11 then (if (mi 0 82) = (0 : Int32) then (1 : Int32) else (0 : Int32)) else (0 : Int32)) else (if (mi 0 76) = (0 : Int32) then (if (mi 0 82) = (0 : Int32) then (1 : Int32) else (0 : Int32)) else (0 : Int32))) else (0 : Int32))) else (0 : Int32))) else (0 : Int32)) else (if x21 = x11 then (if x13 = (0 : Int32) then (if x22 = (0 : Int32) then (if x13 = (0 : Int32) then (if y0 = (0 : Int32) then (if x13 = (0 : Int32) then (if (mi 0 76) = x11 then (if (mi 0 82) = (0 : Int32) then (1 : Int32) else (0 : Int32)) else (0 : Int32)) else (if (mi 0 76) = (0 : Int32) then (if (mi 0 82) = (0 : Int32) then (1 : Int32) else (0 : Int32)) else (0 : Int32))) else (0 : Int32)) else (if y0 = x15 then (if x13 = (0 : Int32) then (if (mi 0 76) = x11 then (if (mi 0 82) = (0 : Int32) then (1 : Int32) else (0 : Int32)) else (0 : Int32)) else (if (mi 0 76) = (0 : Int32) then (if (mi 0 82) = (0 : Int32) then (1 : Int32) else (0 : Int32)) else (0 : Int32))) else (0 : Int32))) else (0 : Int32)) else (if x22 = x14 then (if x13 = (0 : Int32) then (if y0 = (0 : Int32) then (if x13 = (0 : Int32) then (if (mi 0 76) = x11 then (if (mi 0 82) = (0 : Int32) then (1 : Int32) else (0 : Int32)) else (0 : Int32)) else (if (mi 0 76) = (0 : Int32) then (if (mi 0 82) = (0 : Int32) then (1 : Int32) else (0 : Int32)) else (0 : Int32))) else (0 : Int32)) else (if y0 = x15 then (if x13 = (0 : Int32) then (if (mi 0 76) = x11 then (if (mi 0 82) = (0 : Int32) then (1 : Int32) else (0 : Int32)) else (0 : Int32)) else (if (mi 0 76) = (0 : Int32) then (if (mi 0 82) = (0 : Int32) then (1 : Int32) else (0 : Int32)) else (0 : Int32))) else (0 : Int32))) else (0 : Int32))) else (0 : Int32))) else (0 : Int32)) else (if x20 = x3 then (if x13 = (0 : Int32) then (if x21 = (-1 : Int32) then (if x13 = (0 : Int32) then (if x22 = (0 : Int32) then (if x13 = (0 : Int32) then (if y0 = (0 : Int32) then (if x13 = (0 : Int32) then (if (mi 0 76) = x11 then (if (mi 0 82) = (0 : Int32) then (1 : Int32) else (0 : Int32)) else (0 : Int32)) else (if (mi 0 76) = (0 : Int32) then (if (mi 0 82) = (0 : Int32) then (1 : Int32) else (0 : Int32)) else (0 : Int32))) else (0 : Int32)) else (if y0 = x15 then (if x13 = (0 : Int32) then (if (mi 0 76) = x11 then (if (mi 0 82) = (0 : Int32) then (1 : Int32) else (0 : Int32)) else (0 : Int32)) else (if (mi 0 76) = (0 : Int32) then (if (mi 0 82) = (0 : Int32) then (1 : Int32) else (0 : Int32)) else (0 : Int32))) else (0 : Int32))) else (0 : Int32)) else (if x22 = x14 then (if x13 = (0 : Int32) then (if y0 = (0 : Int32) then (if x13 = (0 : Int32) then (if (mi 0 76) = x11 then (if (mi 0 82) = (0 : Int32) then (1 : Int32) else (0 : Int32)) else (0 : Int32)) else (if (mi 0 76) = (0 : Int32) then (if (mi 0 82) = (0 : Int32) then (1 : Int32) else (0 : Int32)) else (0 : Int32))) else (0 : Int32)) else (if y0 = x15 then (if x13 = (0 : Int32) then (if (mi 0 76) = x11 then (if (mi 0 82) = (0 : Int32) then (1 : Int32) else (0 : Int32)) else (0 : Int32)) else (if (mi 0 76) = (0 : Int32) then (if (mi 0 82) = (0 : Int32) then (1 : Int32) else (0 : Int32)) else (0 : Int32))) else (0 : Int32))) else (0 : Int32))) else (0 : Int32)) else (if x21 = x11 then (if x13 = (0 : Int32) then (if x22 = (0 : Int32) then (if x13 = (0 : Int32) then (if y0 = (0 : Int32) then (if x13 = (0 : Int32) then (if (mi 0 76) = x11 then (if (mi 0 82) = (0 : Int32) then (1 : Int32) else (0 : Int32)) else (0 : Int32)) else (if (mi 0 76) = (0 : Int32) then (if (mi 0 82) = (0 : Int32) then (1 : Int32) else (0 : Int32)) else (0 : Int32))) else (0 : Int32)) else (if y0 = x15 then (if x13 = (0 : Int32) then (if (mi 0 76) = x11 then (if (mi 0 82) = (0 : Int32) then (1 : Int32) else (0 : Int32)) else (0 : Int32)) else (if (mi 0 76) = (0 : Int32) then (if (mi 0 82) = (0 : Int32) then (1 : Int32) else (0 : Int32)) else (0 : Int32))) else (0 : Int32))) else (0 : Int32)) else (if x22 = x14 then (if x13 = (0 : Int32) then (if y0 = (0 : Int32) then (if x13 = (0 : Int32) then (if (mi 0 76) = x11 then (if (mi 0 82) = (0 : Int32) then (1 : Int32) else (0 : Int32)) else (0 : Int32)) else (if (mi 0 76) = (0 : Int32) then (if (mi 0 82) = (0 : Int32) then (1 : Int32) else (0 : Int32)) else (0 : Int32))) else (0 : Int32)) else (if y0 = x15 then (if x13 = (0 : Int32) then (if (mi 0 76) = x11 then (if (mi 0 82) = (0 : Int32) then (1 : Int32) else (0 : Int32)) else (0 : Int32)) else (if (mi 0 76) = (0 : Int32) then (if (mi 0 82) = (0 : Int32) then (1 : Int32) else (0 : Int32)) else (0 : Int32))) else (0 : Int32))) else (0 : Int32))) else (0 : Int32))) else (0 : Int32))) else (0 : Int32)) := ⟨_, rfl⟩
        suffices K : W_law 409 [.val (.int x0), .val (.int x1), .val (.int x2), .val (.int x3), .val (.ref 0), .val (.int x5), .val (.int x6), .val (.int x7), .val (.int x8), .val (.int x9), .val (.int x10), .val (.int x11), .val (.int x12), .val (.int x13), .val (.int x14), .val (.int x15), .val (.int x16), .val (.int x17), .val (.int x18), .val (.int x19), .val (.int x20), .val (.int x21), .val (.int x22), .val (.int y0), .val (.int (mi 0 76)), .val (.int (mi 0 82))] [.int v5] (LL1, mi, ml, RR1) Q by
          refine Wp.icmp_ne d_law_317 rfl (fun q0 => ?_) (fun q0 => ?_)
          ·
            refine Wp.iconst (0 : Int32) d_law_408 (by decide) ?_
            rw [if_neg q0] at e5; subst e5
            exact K
          ·
            refine Wp.p (pc' := 322) d_law_320 rfl rfl ?_
            refine Wp.p (pc' := 324) d_law_322 rfl rfl ?_
            refine Wp.if_eq d_law_324 rfl (fun q1 => ?_) (fun q1 => ?_)
            ·
              refine Wp.iconst (-1 : Int32) d_law_331 (by decide) ?_
              refine Wp.icmp_ne d_law_332 rfl (fun q2 => ?_) (fun q2 => ?_)
              ·
                refine Wp.iconst (0 : Int32) d_law_408 (by decide) ?_
                rw [if_pos q0, if_pos q1, if_neg q2] at e5; subst e5
                exact K
              ·
                refine Wp.p (pc' := 337) d_law_335 rfl rfl ?_
                refine Wp.p (pc' := 339) d_law_337 rfl rfl ?_
                refine Wp.if_eq d_law_339 rfl (fun q3 => ?_) (fun q3 => ?_)
                ·
                  refine Wp.iconst (-1 : Int32) d_law_347 (by decide) ?_
                  refine Wp.icmp_ne d_law_348 rfl (fun q4 => ?_) (fun q4 => ?_)
                  ·
                    refine Wp.iconst (0 : Int32) d_law_408 (by decide) ?_
                    rw [if_pos q0, if_pos q1, if_pos q2, if_pos q3, if_neg q4] at e5; subst e5
                    exact K
                  ·
                    refine Wp.p (pc' := 353) d_law_351 rfl rfl ?_
                    refine Wp.p (pc' := 355) d_law_353 rfl rfl ?_
                    refine Wp.if_eq d_law_355 rfl (fun q5 => ?_) (fun q5 => ?_)
                    ·
                      refine Wp.iconst (0 : Int32) d_law_363 (by decide) ?_
                      refine Wp.icmp_ne d_law_364 rfl (fun q6 => ?_) (fun q6 => ?_)
                      ·
                        refine Wp.iconst (0 : Int32) d_law_408 (by decide) ?_
                        rw [if_pos q0, if_pos q1, if_pos q2, if_pos q3, if_pos q4, if_pos q5, if_neg q6] at e5; subst e5
                        exact K
                      ·
                        refine Wp.p (pc' := 369) d_law_367 rfl rfl ?_
                        refine Wp.p (pc' := 371) d_law_369 rfl rfl ?_
                        refine Wp.if_eq d_law_371 rfl (fun q7 => ?_) (fun q7 => ?_)
                        ·
                          refine Wp.iconst (0 : Int32) d_law_379 (by decide) ?_
                          refine Wp.icmp_ne d_law_380 rfl (fun q8 => ?_) (fun q8 => ?_)
                          ·
                            refine Wp.iconst (0 : Int32) d_law_408 (by decide) ?_
                            rw [if_pos q0, if_pos q1, if_pos q2, if_pos q3, if_pos q4, if_pos q5, if_pos q6, if_pos q7, if_neg q8] at e5; subst e5
                            exact K
                          ·
                            refine Wp.p (pc' := 385) d_law_383 rfl rfl ?_
                            refine Wp.p (pc' := 387) d_law_385 rfl rfl ?_
                            refine Wp.if_eq d_law_387 rfl (fun q9 => ?_) (fun q9 => ?_)
                            ·
                              refine Wp.p (pc' := 396) d_law_394 rfl rfl ?_
                              refine Wp.icmp_ne d_law_396 rfl (fun q10 => ?_) (fun q10 => ?_)
                              ·
                                refine Wp.iconst (0 : Int32) d_law_408 (by decide) ?_
                                rw [if_pos q0, if_pos q1, if_pos q2, if_pos q3, if_pos q4, if_pos q5, if_pos q6, if_pos q7, if_pos q8, if_pos q9, if_neg q10] at e5; subst e5
                                exact K
                              ·
                                refine Wp.p (pc' := 401) d_law_399 rfl rfl ?_
                                refine Wp.if_ne d_law_401 rfl (fun q11 => ?_) (fun q11 => ?_)
                                ·
                                  refine Wp.iconst (0 : Int32) d_law_408 (by decide) ?_
                                  rw [if_pos q0, if_pos q1, if_pos q2, if_pos q3, if_pos q4, if_pos q5, if_pos q6, if_pos q7, if_pos q8, if_pos q9, if_pos q10, if_neg q11] at e5; subst e5
                                  exact K
                                ·
                                  refine Wp.iconst (1 : Int32) d_law_404 (by decide) ?_
                                  refine Wp.p (pc' := 409) d_law_405 rfl rfl ?_
                                  rw [if_pos q0, if_pos q1, if_pos q2, if_pos q3, if_pos q4, if_pos q5, if_pos q6, if_pos q7, if_pos q8, if_pos q9, if_pos q10, if_pos q11] at e5; subst e5
                                  exact K
                            ·
                              refine Wp.iconst (0 : Int32) d_law_390 (by decide) ?_
                              refine Wp.p (pc' := 396) d_law_391 rfl rfl ?_
                              refine Wp.icmp_ne d_law_396 rfl (fun q10 => ?_) (fun q10 => ?_)
                              ·
                                refine Wp.iconst (0 : Int32) d_law_408 (by decide) ?_
                                rw [if_pos q0, if_pos q1, if_pos q2, if_pos q3, if_pos q4, if_pos q5, if_pos q6, if_pos q7, if_pos q8, if_neg q9, if_neg q10] at e5; subst e5
                                exact K
                              ·
                                refine Wp.p (pc' := 401) d_law_399 rfl rfl ?_
                                refine Wp.if_ne d_law_401 rfl (fun q11 => ?_) (fun q11 => ?_)
                                ·
                                  refine Wp.iconst (0 : Int32) d_law_408 (by decide) ?_
                                  rw [if_pos q0, if_pos q1, if_pos q2, if_pos q3, if_pos q4, if_pos q5, if_pos q6, if_pos q7, if_pos q8, if_neg q9, if_pos q10, if_neg q11] at e5; subst e5
                                  exact K
                                ·
                                  refine Wp.iconst (1 : Int32) d_law_404 (by decide) ?_
                                  refine Wp.p (pc' := 409) d_law_405 rfl rfl ?_
                                  rw [if_pos q0, if_pos q1, if_pos q2, if_pos q3, if_pos q4, if_pos q5, if_pos q6, if_pos q7, if_pos q8, if_neg q9, if_pos q10, if_pos q11] at e5; subst e5
                                  exact K
                        ·
                          refine Wp.p (pc' := 376) d_law_374 rfl rfl ?_
                          refine Wp.p (pc' := 380) d_law_376 rfl rfl ?_
                          refine Wp.icmp_ne d_law_380 rfl (fun q8 => ?_) (fun q8 => ?_)
                          ·
                            refine Wp.iconst (0 : Int32) d_law_408 (by decide) ?_
                            rw [if_pos q0, if_pos q1, if_pos q2, if_pos q3, if_pos q4, if_pos q5, if_pos q6, if_neg q7, if_neg q8] at e5; subst e5
                            exact K
                          ·
                            refine Wp.p (pc' := 385) d_law_383 rfl rfl ?_
                            refine Wp.p (pc' := 387) d_law_385 rfl rfl ?_
                            refine Wp.if_eq d_law_387 rfl (fun q9 => ?_) (fun q9 => ?_)
                            ·
                              refine Wp.p (pc' := 396) d_law_394 rfl rfl ?_
                              refine Wp.icmp_ne d_law_396 rfl (fun q10 => ?_) (fun q10 => ?_)
                              ·
                                refine Wp.iconst (0 : Int32) d_law_408 (by decide) ?_
                                rw [if_pos q0, if_pos q1, if_pos q2, if_pos q3, if_pos q4, if_pos q5, if_pos q6, if_neg q7, if_pos q8, if_pos q9, if_neg q10] at e5; subst e5
                                exact K
                              ·
                                refine Wp.p (pc' := 401) d_law_399 rfl rfl ?_
                                refine Wp.if_ne d_law_401 rfl (fun q11 => ?_) (fun q11 => ?_)
                                ·
                                  refine Wp.iconst (0 : Int32) d_law_408 (by decide) ?_
                                  rw [if_pos q0, if_pos q1, if_pos q2, if_pos q3, if_pos q4, if_pos q5, if_pos q6, if_neg q7, if_pos q8, if_pos q9, if_pos q10, if_neg q11] at e5; subst e5
                                  exact K
                                ·
                                  refine Wp.iconst (1 : Int32) d_law_404 (by decide) ?_
                                  refine Wp.p (pc' := 409) d_law_405 rfl rfl ?_
                                  rw [if_pos q0, if_pos q1, if_pos q2, if_pos q3, if_pos q4, if_pos q5, if_pos q6, if_neg q7, if_pos q8, if_pos q9, if_pos q10, if_pos q11] at e5; subst e5
                                  exact K
                            ·
                              refine Wp.iconst (0 : Int32) d_law_390 (by decide) ?_
                              refine Wp.p (pc' := 396) d_law_391 rfl rfl ?_
                              refine Wp.icmp_ne d_law_396 rfl (fun q10 => ?_) (fun q10 => ?_)
                              ·
                                refine Wp.iconst (0 : Int32) d_law_408 (by decide) ?_
                                rw [if_pos q0, if_pos q1, if_pos q2, if_pos q3, if_pos q4, if_pos q5, if_pos q6, if_neg q7, if_pos q8, if_neg q9, if_neg q10] at e5; subst e5
                                exact K
                              ·
                                refine Wp.p (pc' := 401) d_law_399 rfl rfl ?_
                                refine Wp.if_ne d_law_401 rfl (fun q11 => ?_) (fun q11 => ?_)
                                ·
                                  refine Wp.iconst (0 : Int32) d_law_408 (by decide) ?_
                                  rw [if_pos q0, if_pos q1, if_pos q2, if_pos q3, if_pos q4, if_pos q5, if_pos q6, if_neg q7, if_pos q8, if_neg q9, if_pos q10, if_neg q11] at e5; subst e5
                                  exact K
                                ·
                                  refine Wp.iconst (1 : Int32) d_law_404 (by decide) ?_
                                  refine Wp.p (pc' := 409) d_law_405 rfl rfl ?_
                                  rw [if_pos q0, if_pos q1, if_pos q2, if_pos q3, if_pos q4, if_pos q5, if_pos q6, if_neg q7, if_pos q8, if_neg q9, if_pos q10, if_pos q11] at e5; subst e5
                                  exact K
                    ·
                      refine Wp.p (pc' := 360) d_law_358 rfl rfl ?_
                      refine Wp.p (pc' := 364) d_law_360 rfl rfl ?_
                      refine Wp.icmp_ne d_law_364 rfl (fun q6 => ?_) (fun q6 => ?_)
                      ·
                        refine Wp.iconst (0 : Int32) d_law_408 (by decide) ?_
                        rw [if_pos q0, if_pos q1, if_pos q2, if_pos q3, if_pos q4, if_neg q5, if_neg q6] at e5; subst e5
                        exact K
                      ·
                        refine Wp.p (pc' := 369) d_law_367 rfl rfl ?_
                        refine Wp.p (pc' := 371) d_law_369 rfl rfl ?_
                        refine Wp.if_eq d_law_371 rfl (fun q7 => ?_) (fun q7 => ?_)
                        ·
                          refine Wp.iconst (0 : Int32) d_law_379 (by decide) ?_
                          refine Wp.icmp_ne d_law_380 rfl (fun q8 => ?_) (fun q8 => ?_)
                          ·
                            refine Wp.iconst (0 : Int32) d_law_408 (by decide) ?_
                            rw [if_pos q0, if_pos q1, if_pos q2, if_pos q3, if_pos q4, if_neg q5, if_pos q6, if_pos q7, if_neg q8] at e5; subst e5
                            exact K
                          ·
                            refine Wp.p (pc' := 385) d_law_383 rfl rfl ?_
                            refine Wp.p (pc' := 387) d_law_385 rfl rfl ?_
                            refine Wp.if_eq d_law_387 rfl (fun q9 => ?_) (fun q9 => ?_)
                            ·
                              refine Wp.p (pc' := 396) d_law_394 rfl rfl ?_
                              refine Wp.icmp_ne d_law_396 rfl (fun q10 => ?_) (fun q10 => ?_)
                              ·
                                refine Wp.iconst (0 : Int32) d_law_408 (by decide) ?_
                                rw [if_pos q0, if_pos q1, if_pos q2, if_pos q3, if_pos q4, if_neg q5, if_pos q6, if_pos q7, if_pos q8, if_pos q9, if_neg q10] at e5; subst e5
                                exact K
                              ·
                                refine Wp.p (pc' := 401) d_law_399 rfl rfl ?_
                                refine Wp.if_ne d_law_401 rfl (fun q11 => ?_) (fun q11 => ?_)
                                ·
                                  refine Wp.iconst (0 : Int32) d_law_408 (by decide) ?_
                                  rw [if_pos q0, if_pos q1, if_pos q2, if_pos q3, if_pos q4, if_neg q5, if_pos q6, if_pos q7, if_pos q8, if_pos q9, if_pos q10, if_neg q11] at e5; subst e5
                                  exact K
                                ·
                                  refine Wp.iconst (1 : Int32) d_law_404 (by decide) ?_
                                  refine Wp.p (pc' := 409) d_law_405 rfl rfl ?_
                                  rw [if_pos q0, if_pos q1, if_pos q2, if_pos q3, if_pos q4, if_neg q5, if_pos q6, if_pos q7, if_pos q8, if_pos q9, if_pos q10, if_pos q11] at e5; subst e5
                                  exact K
                            ·
                              refine Wp.iconst (0 : Int32) d_law_390 (by decide) ?_
                              refine Wp.p (pc' := 396) d_law_391 rfl rfl ?_
                              refine Wp.icmp_ne d_law_396 rfl (fun q10 => ?_) (fun q10 => ?_)
                              ·
                                refine Wp.iconst (0 : Int32) d_law_408 (by decide) ?_
                                rw [if_pos q0, if_pos q1, if_pos q2, if_pos q3, if_pos q4, if_neg q5, if_pos q6, if_pos q7, if_pos q8, if_neg q9, if_neg q10] at e5; subst e5
                                exact K
                              ·
                                refine Wp.p (pc' := 401) d_law_399 rfl rfl ?_
                                refine Wp.if_ne d_law_401 rfl (fun q11 => ?_) (fun q11 => ?_)
                                ·
                                  refine Wp.iconst (0 : Int32) d_law_408 (by decide) ?_
                                  rw [if_pos q0, if_pos q1, if_pos q2, if_pos q3, if_pos q4, if_neg q5, if_pos q6, if_pos q7, if_pos q8, if_neg q9, if_pos q10, if_neg q11] at e5; subst e5
                                  exact K
                                ·
                                  refine Wp.iconst (1 : Int32) d_law_404 (by decide) ?_
                                  refine Wp.p (pc' := 409) d_law_405 rfl rfl ?_
                                  rw [if_pos q0, if_pos q1, if_pos q2, if_pos q3, if_pos q4, if_neg q5, if_pos q6, if_pos q7, if_pos q8, if_neg q9, if_pos q10, if_pos q11] at e5; subst e5
                                  exact K
                        ·
                          refine Wp.p (pc' := 376) d_law_374 rfl rfl ?_
                          refine Wp.p (pc' := 380) d_law_376 rfl rfl ?_
                          refine Wp.icmp_ne d_law_380 rfl (fun q8 => ?_) (fun q8 => ?_)
                          ·
                            refine Wp.iconst (0 : Int32) d_law_408 (by decide) ?_
                            rw [if_pos q0, if_pos q1, if_pos q2, if_pos q3, if_pos q4, if_neg q5, if_pos q6, if_neg q7, if_neg q8] at e5; subst e5
                            exact K
                          ·
                            refine Wp.p (pc' := 385) d_law_383 rfl rfl ?_
                            refine Wp.p (pc' := 387) d_law_385 rfl rfl ?_
                            refine Wp.if_eq d_law_387 rfl (fun q9 => ?_) (fun q9 => ?_)
                            ·
                              refine Wp.p (pc' := 396) d_law_394 rfl rfl ?_
                              refine Wp.icmp_ne d_law_396 rfl (fun q10 => ?_) (fun q10 => ?_)
                              ·
                                refine Wp.iconst (0 : Int32) d_law_408 (by decide) ?_
                                rw [if_pos q0, if_pos q1, if_pos q2, if_pos q3, if_pos q4, if_neg q5, if_pos q6, if_neg q7, if_pos q8, if_pos q9, if_neg q10] at e5; subst e5
                                exact K
                              ·
                                refine Wp.p (pc' := 401) d_law_399 rfl rfl ?_
                                refine Wp.if_ne d_law_401 rfl (fun q11 => ?_) (fun q11 => ?_)
                                ·
                                  refine Wp.iconst (0 : Int32) d_law_408 (by decide) ?_
                                  rw [if_pos q0, if_pos q1, if_pos q2, if_pos q3, if_pos q4, if_neg q5, if_pos q6, if_neg q7, if_pos q8, if_pos q9, if_pos q10, if_neg q11] at e5; subst e5
                                  exact K
                                ·
                                  refine Wp.iconst (1 : Int32) d_law_404 (by decide) ?_
                                  refine Wp.p (pc' := 409) d_law_405 rfl rfl ?_
                                  rw [if_pos q0, if_pos q1, if_pos q2, if_pos q3, if_pos q4, if_neg q5, if_pos q6, if_neg q7, if_pos q8, if_pos q9, if_pos q10, if_pos q11] at e5; subst e5
                                  exact K
                            ·
                              refine Wp.iconst (0 : Int32) d_law_390 (by decide) ?_
                              refine Wp.p (pc' := 396) d_law_391 rfl rfl ?_
                              refine Wp.icmp_ne d_law_396 rfl (fun q10 => ?_) (fun q10 => ?_)
                              ·
                                refine Wp.iconst (0 : Int32) d_law_408 (by decide) ?_
                                rw [if_pos q0, if_pos q1, if_pos q2, if_pos q3, if_pos q4, if_neg q5, if_pos q6, if_neg q7, if_pos q8, if_neg q9, if_neg q10] at e5; subst e5
                                exact K
                              ·
                                refine Wp.p (pc' := 401) d_law_399 rfl rfl ?_
                                refine Wp.if_ne d_law_401 rfl (fun q11 => ?_) (fun q11 => ?_)
                                ·
                                  refine Wp.iconst (0 : Int32) d_law_408 (by decide) ?_
                                  rw [if_pos q0, if_pos q1, if_pos q2, if_pos q3, if_pos q4, if_neg q5, if_pos q6, if_neg q7, if_pos q8, if_neg q9, if_pos q10, if_neg q11] at e5; subst e5
                                  exact K
                                ·
                                  refine Wp.iconst (1 : Int32) d_law_404 (by decide) ?_
                                  refine Wp.p (pc' := 409) d_law_405 rfl rfl ?_
                                  rw [if_pos q0, if_pos q1, if_pos q2, if_pos q3, if_pos q4, if_neg q5, if_pos q6, if_neg q7, if_pos q8, if_neg q9, if_pos q10, if_pos q11] at e5; subst e5
                                  exact K
                ·
                  refine Wp.p (pc' := 344) d_law_342 rfl rfl ?_
                  refine Wp.p (pc' := 348) d_law_344 rfl rfl ?_
                  refine Wp.icmp_ne d_law_348 rfl (fun q4 => ?_) (fun q4 => ?_)
                  ·
                    refine Wp.iconst (0 : Int32) d_law_408 (by decide) ?_
                    rw [if_pos q0, if_pos q1, if_pos q2, if_neg q3, if_neg q4] at e5; subst e5
                    exact K
                  ·
                    refine Wp.p (pc' := 353) d_law_351 rfl rfl ?_
                    refine Wp.p (pc' := 355) d_law_353 rfl rfl ?_
                    refine Wp.if_eq d_law_355 rfl (fun q5 => ?_) (fun q5 => ?_)
                    ·
                      refine Wp.iconst (0 : Int32) d_law_363 (by decide) ?_
                      refine Wp.icmp_ne d_law_364 rfl (fun q6 => ?_) (fun q6 => ?_)
                      ·
                        refine Wp.iconst (0 : Int32) d_law_408 (by decide) ?_
                        rw [if_pos q0, if_pos q1, if_pos q2, if_neg q3, if_pos q4, if_pos q5, if_neg q6] at e5; subst e5
                        exact K
                      ·
                        refine Wp.p (pc' := 369) d_law_367 rfl rfl ?_
                        refine Wp.p (pc' := 371) d_law_369 rfl rfl ?_
                        refine Wp.if_eq d_law_371 rfl (fun q7 => ?_) (fun q7 => ?_)
                        ·
                          refine Wp.iconst (0 : Int32) d_law_379 (by decide) ?_
                          refine Wp.icmp_ne d_law_380 rfl (fun q8 => ?_) (fun q8 => ?_)
                          ·
                            refine Wp.iconst (0 : Int32) d_law_408 (by decide) ?_
                            rw [if_pos q0, if_pos q1, if_pos q2, if_neg q3, if_pos q4, if_pos q5, if_pos q6, if_pos q7, if_neg q8] at e5; subst e5
                            exact K
                          ·
                            refine Wp.p (pc' := 385) d_law_383 rfl rfl ?_
                            refine Wp.p (pc' := 387) d_law_385 rfl rfl ?_
                            refine Wp.if_eq d_law_387 rfl (fun q9 => ?_) (fun q9 => ?_)
                            ·
                              refine Wp.p (pc' := 396) d_law_394 rfl rfl ?_
                              refine Wp.icmp_ne d_law_396 rfl (fun q10 => ?_) (fun q10 => ?_)
                              ·
                                refine Wp.iconst (0 : Int32) d_law_408 (by decide) ?_
                                rw [if_pos q0, if_pos q1, if_pos q2, if_neg q3, if_pos q4, if_pos q5, if_pos q6, if_pos q7, if_pos q8, if_pos q9, if_neg q10] at e5; subst e5
                                exact K
                              ·
                                refine Wp.p (pc' := 401) d_law_399 rfl rfl ?_
                                refine Wp.if_ne d_law_401 rfl (fun q11 => ?_) (fun q11 => ?_)
                                ·
                                  refine Wp.iconst (0 : Int32) d_law_408 (by decide) ?_
                                  rw [if_pos q0, if_pos q1, if_pos q2, if_neg q3, if_pos q4, if_pos q5, if_pos q6, if_pos q7, if_pos q8, if_pos q9, if_pos q10, if_neg q11] at e5; subst e5
                                  exact K
                                ·
                                  refine Wp.iconst (1 : Int32) d_law_404 (by decide) ?_
                                  refine Wp.p (pc' := 409) d_law_405 rfl rfl ?_
                                  rw [if_pos q0, if_pos q1, if_pos q2, if_neg q3, if_pos q4, if_pos q5, if_pos q6, if_pos q7, if_pos q8, if_pos q9, if_pos q10, if_pos q11] at e5; subst e5
                                  exact K
                            ·
                              refine Wp.iconst (0 : Int32) d_law_390 (by decide) ?_
                              refine Wp.p (pc' := 396) d_law_391 rfl rfl ?_
                              refine Wp.icmp_ne d_law_396 rfl (fun q10 => ?_) (fun q10 => ?_)
                              ·
                                refine Wp.iconst (0 : Int32) d_law_408 (by decide) ?_
                                rw [if_pos q0, if_pos q1, if_pos q2, if_neg q3, if_pos q4, if_pos q5, if_pos q6, if_pos q7, if_pos q8, if_neg q9, if_neg q10] at e5; subst e5
                                exact K
                              ·
                                refine Wp.p (pc' := 401) d_law_399 rfl rfl ?_
                                refine Wp.if_ne d_law_401 rfl (fun q11 => ?_) (fun q11 => ?_)
                                ·
                                  refine Wp.iconst (0 : Int32) d_law_408 (by decide) ?_
                                  rw [if_pos q0, if_pos q1, if_pos q2, if_neg q3, if_pos q4, if_pos q5, if_pos q6, if_pos q7, if_pos q8, if_neg q9, if_pos q10, if_neg q11] at e5; subst e5
                                  exact K
                                ·
                                  refine Wp.iconst (1 : Int32) d_law_404 (by decide) ?_
                                  refine Wp.p (pc' := 409) d_law_405 rfl rfl ?_
                                  rw [if_pos q0, if_pos q1, if_pos q2, if_neg q3, if_pos q4, if_pos q5, if_pos q6, if_pos q7, if_pos q8, if_neg q9, if_pos q10, if_pos q11] at e5; subst e5
                                  exact K
                        ·
                          refine Wp.p (pc' := 376) d_law_374 rfl rfl ?_
                          refine Wp.p (pc' := 380) d_law_376 rfl rfl ?_
                          refine Wp.icmp_ne d_law_380 rfl (fun q8 => ?_) (fun q8 => ?_)
                          ·
                            refine Wp.iconst (0 : Int32) d_law_408 (by decide) ?_
                            rw [if_pos q0, if_pos q1, if_pos q2, if_neg q3, if_pos q4, if_pos q5, if_pos q6, if_neg q7, if_neg q8] at e5; subst e5
                            exact K
                          ·
                            refine Wp.p (pc' := 385) d_law_383 rfl rfl ?_
                            refine Wp.p (pc' := 387) d_law_385 rfl rfl ?_
                            refine Wp.if_eq d_law_387 rfl (fun q9 => ?_) (fun q9 => ?_)
                            ·
                              refine Wp.p (pc' := 396) d_law_394 rfl rfl ?_
                              refine Wp.icmp_ne d_law_396 rfl (fun q10 => ?_) (fun q10 => ?_)
                              ·
                                refine Wp.iconst (0 : Int32) d_law_408 (by decide) ?_
                                rw [if_pos q0, if_pos q1, if_pos q2, if_neg q3, if_pos q4, if_pos q5, if_pos q6, if_neg q7, if_pos q8, if_pos q9, if_neg q10] at e5; subst e5
                                exact K
                              ·
                                refine Wp.p (pc' := 401) d_law_399 rfl rfl ?_
                                refine Wp.if_ne d_law_401 rfl (fun q11 => ?_) (fun q11 => ?_)
                                ·
                                  refine Wp.iconst (0 : Int32) d_law_408 (by decide) ?_
                                  rw [if_pos q0, if_pos q1, if_pos q2, if_neg q3, if_pos q4, if_pos q5, if_pos q6, if_neg q7, if_pos q8, if_pos q9, if_pos q10, if_neg q11] at e5; subst e5
                                  exact K
                                ·
                                  refine Wp.iconst (1 : Int32) d_law_404 (by decide) ?_
                                  refine Wp.p (pc' := 409) d_law_405 rfl rfl ?_
                                  rw [if_pos q0, if_pos q1, if_pos q2, if_neg q3, if_pos q4, if_pos q5, if_pos q6, if_neg q7, if_pos q8, if_pos q9, if_pos q10, if_pos q11] at e5; subst e5
                                  exact K
                            ·
                              refine Wp.iconst (0 : Int32) d_law_390 (by decide) ?_
                              refine Wp.p (pc' := 396) d_law_391 rfl rfl ?_
                              refine Wp.icmp_ne d_law_396 rfl (fun q10 => ?_) (fun q10 => ?_)
                              ·
                                refine Wp.iconst (0 : Int32) d_law_408 (by decide) ?_
                                rw [if_pos q0, if_pos q1, if_pos q2, if_neg q3, if_pos q4, if_pos q5, if_pos q6, if_neg q7, if_pos q8, if_neg q9, if_neg q10] at e5; subst e5
                                exact K
                              ·
                                refine Wp.p (pc' := 401) d_law_399 rfl rfl ?_
                                refine Wp.if_ne d_law_401 rfl (fun q11 => ?_) (fun q11 => ?_)
                                ·
                                  refine Wp.iconst (0 : Int32) d_law_408 (by decide) ?_
                                  rw [if_pos q0, if_pos q1, if_pos q2, if_neg q3, if_pos q4, if_pos q5, if_pos q6, if_neg q7, if_pos q8, if_neg q9, if_pos q10, if_neg q11] at e5; subst e5
                                  exact K
                                ·
                                  refine Wp.iconst (1 : Int32) d_law_404 (by decide) ?_
                                  refine Wp.p (pc' := 409) d_law_405 rfl rfl ?_
                                  rw [if_pos q0, if_pos q1, if_pos q2, if_neg q3, if_pos q4, if_pos q5, if_pos q6, if_neg q7, if_pos q8, if_neg q9, if_pos q10, if_pos q11] at e5; subst e5
                                  exact K
                    ·
                      refine Wp.p (pc' := 360) d_law_358 rfl rfl ?_
                      refine Wp.p (pc' := 364) d_law_360 rfl rfl ?_
                      refine Wp.icmp_ne d_law_364 rfl (fun q6 => ?_) (fun q6 => ?_)
                      ·
                        refine Wp.iconst (0 : Int32) d_law_408 (by decide) ?_
                        rw [if_pos q0, if_pos q1, if_pos q2, if_neg q3, if_pos q4, if_neg q5, if_neg q6] at e5; subst e5
                        exact K
                      ·
                        refine Wp.p (pc' := 369) d_law_367 rfl rfl ?_
                        refine Wp.p (pc' := 371) d_law_369 rfl rfl ?_
                        refine Wp.if_eq d_law_371 rfl (fun q7 => ?_) (fun q7 => ?_)
                        ·
                          refine Wp.iconst (0 : Int32) d_law_379 (by decide) ?_
                          refine Wp.icmp_ne d_law_380 rfl (fun q8 => ?_) (fun q8 => ?_)
                          ·
                            refine Wp.iconst (0 : Int32) d_law_408 (by decide) ?_
                            rw [if_pos q0, if_pos q1, if_pos q2, if_neg q3, if_pos q4, if_neg q5, if_pos q6, if_pos q7, if_neg q8] at e5; subst e5
                            exact K
                          ·
                            refine Wp.p (pc' := 385) d_law_383 rfl rfl ?_
                            refine Wp.p (pc' := 387) d_law_385 rfl rfl ?_
                            refine Wp.if_eq d_law_387 rfl (fun q9 => ?_) (fun q9 => ?_)
                            ·
                              refine Wp.p (pc' := 396) d_law_394 rfl rfl ?_
                              refine Wp.icmp_ne d_law_396 rfl (fun q10 => ?_) (fun q10 => ?_)
                              ·
                                refine Wp.iconst (0 : Int32) d_law_408 (by decide) ?_
                                rw [if_pos q0, if_pos q1, if_pos q2, if_neg q3, if_pos q4, if_neg q5, if_pos q6, if_pos q7, if_pos q8, if_pos q9, if_neg q10] at e5; subst e5
                                exact K
                              ·
                                refine Wp.p (pc' := 401) d_law_399 rfl rfl ?_
                                refine Wp.if_ne d_law_401 rfl (fun q11 => ?_) (fun q11 => ?_)
                                ·
                                  refine Wp.iconst (0 : Int32) d_law_408 (by decide) ?_
                                  rw [if_pos q0, if_pos q1, if_pos q2, if_neg q3, if_pos q4, if_neg q5, if_pos q6, if_pos q7, if_pos q8, if_pos q9, if_pos q10, if_neg q11] at e5; subst e5
                                  exact K
                                ·
                                  refine Wp.iconst (1 : Int32) d_law_404 (by decide) ?_
                                  refine Wp.p (pc' := 409) d_law_405 rfl rfl ?_
                                  rw [if_pos q0, if_pos q1, if_pos q2, if_neg q3, if_pos q4, if_neg q5, if_pos q6, if_pos q7, if_pos q8, if_pos q9, if_pos q10, if_pos q11] at e5; subst e5
                                  exact K
                            ·
                              refine Wp.iconst (0 : Int32) d_law_390 (by decide) ?_
                              refine Wp.p (pc' := 396) d_law_391 rfl rfl ?_
                              refine Wp.icmp_ne d_law_396 rfl (fun q10 => ?_) (fun q10 => ?_)
                              ·
                                refine Wp.iconst (0 : Int32) d_law_408 (by decide) ?_
                                rw [if_pos q0, if_pos q1, if_pos q2, if_neg q3, if_pos q4, if_neg q5, if_pos q6, if_pos q7, if_pos q8, if_neg q9, if_neg q10] at e5; subst e5
                                exact K
                              ·
                                refine Wp.p (pc' := 401) d_law_399 rfl rfl ?_
                                refine Wp.if_ne d_law_401 rfl (fun q11 => ?_) (fun q11 => ?_)
                                ·
                                  refine Wp.iconst (0 : Int32) d_law_408 (by decide) ?_
                                  rw [if_pos q0, if_pos q1, if_pos q2, if_neg q3, if_pos q4, if_neg q5, if_pos q6, if_pos q7, if_pos q8, if_neg q9, if_pos q10, if_neg q11] at e5; subst e5
                                  exact K
                                ·
                                  refine Wp.iconst (1 : Int32) d_law_404 (by decide) ?_
                                  refine Wp.p (pc' := 409) d_law_405 rfl rfl ?_
                                  rw [if_pos q0, if_pos q1, if_pos q2, if_neg q3, if_pos q4, if_neg q5, if_pos q6, if_pos q7, if_pos q8, if_neg q9, if_pos q10, if_pos q11] at e5; subst e5
                                  exact K
                        ·
                          refine Wp.p (pc' := 376) d_law_374 rfl rfl ?_
                          refine Wp.p (pc' := 380) d_law_376 rfl rfl ?_
                          refine Wp.icmp_ne d_law_380 rfl (fun q8 => ?_) (fun q8 => ?_)
                          ·
                            refine Wp.iconst (0 : Int32) d_law_408 (by decide) ?_
                            rw [if_pos q0, if_pos q1, if_pos q2, if_neg q3, if_pos q4, if_neg q5, if_pos q6, if_neg q7, if_neg q8] at e5; subst e5
                            exact K
                          ·
                            refine Wp.p (pc' := 385) d_law_383 rfl rfl ?_
                            refine Wp.p (pc' := 387) d_law_385 rfl rfl ?_
                            refine Wp.if_eq d_law_387 rfl (fun q9 => ?_) (fun q9 => ?_)
                            ·
                              refine Wp.p (pc' := 396) d_law_394 rfl rfl ?_
                              refine Wp.icmp_ne d_law_396 rfl (fun q10 => ?_) (fun q10 => ?_)
                              ·
                                refine Wp.iconst (0 : Int32) d_law_408 (by decide) ?_
                                rw [if_pos q0, if_pos q1, if_pos q2, if_neg q3, if_pos q4, if_neg q5, if_pos q6, if_neg q7, if_pos q8, if_pos q9, if_neg q10] at e5; subst e5
                                exact K
                              ·
                                refine Wp.p (pc' := 401) d_law_399 rfl rfl ?_
                                refine Wp.if_ne d_law_401 rfl (fun q11 => ?_) (fun q11 => ?_)
                                ·
                                  refine Wp.iconst (0 : Int32) d_law_408 (by decide) ?_
                                  rw [if_pos q0, if_pos q1, if_pos q2, if_neg q3, if_pos q4, if_neg q5, if_pos q6, if_neg q7, if_pos q8, if_pos q9, if_pos q10, if_neg q11] at e5; subst e5
                                  exact K
                                ·
                                  refine Wp.iconst (1 : Int32) d_law_404 (by decide) ?_
                                  refine Wp.p (pc' := 409) d_law_405 rfl rfl ?_
                                  rw [if_pos q0, if_pos q1, if_pos q2, if_neg q3, if_pos q4, if_neg q5, if_pos q6, if_neg q7, if_pos q8, if_pos q9, if_pos q10, if_pos q11] at e5; subst e5
                                  exact K
                            ·
                              refine Wp.iconst (0 : Int32) d_law_390 (by decide) ?_
                              refine Wp.p (pc' := 396) d_law_391 rfl rfl ?_
                              refine Wp.icmp_ne d_law_396 rfl (fun q10 => ?_) (fun q10 => ?_)
                              ·
                                refine Wp.iconst (0 : Int32) d_law_408 (by decide) ?_
                                rw [if_pos q0, if_pos q1, if_pos q2, if_neg q3, if_pos q4, if_neg q5, if_pos q6, if_neg q7, if_pos q8, if_neg q9, if_neg q10] at e5; subst e5
                                exact K
                              ·
                                refine Wp.p (pc' := 401) d_law_399 rfl rfl ?_
                                refine Wp.if_ne d_law_401 rfl (fun q11 => ?_) (fun q11 => ?_)
                                ·
                                  refine Wp.iconst (0 : Int32) d_law_408 (by decide) ?_
                                  rw [if_pos q0, if_pos q1, if_pos q2, if_neg q3, if_pos q4, if_neg q5, if_pos q6, if_neg q7, if_pos q8, if_neg q9, if_pos q10, if_neg q11] at e5; subst e5
                                  exact K
                                ·
                                  refine Wp.iconst (1 : Int32) d_law_404 (by decide) ?_
                                  refine Wp.p (pc' := 409) d_law_405 rfl rfl ?_
                                  rw [if_pos q0, if_pos q1, if_pos q2, if_neg q3, if_pos q4, if_neg q5, if_pos q6, if_neg q7, if_pos q8, if_neg q9, if_pos q10, if_pos q11] at e5; subst e5
                                  exact K
            ·
              refine Wp.p (pc' := 328) d_law_327 rfl rfl ?_
              refine Wp.p (pc' := 332) d_law_328 rfl rfl ?_
              refine Wp.icmp_ne d_law_332 rfl (fun q2 => ?_) (fun q2 => ?_)
              ·
                refine Wp.iconst (0 : Int32) d_law_408 (by decide) ?_
                rw [if_pos q0, if_neg q1, if_neg q2] at e5; subst e5
                exact K
              ·
                refine Wp.p (pc' := 337) d_law_335 rfl rfl ?_
                refine Wp.p (pc' := 339) d_law_337 rfl rfl ?_
                refine Wp.if_eq d_law_339 rfl (fun q3 => ?_) (fun q3 => ?_)
                ·
                  refine Wp.iconst (-1 : Int32) d_law_347 (by decide) ?_
                  refine Wp.icmp_ne d_law_348 rfl (fun q4 => ?_) (fun q4 => ?_)
                  ·
                    refine Wp.iconst (0 : Int32) d_law_408 (by decide) ?_
                    rw [if_pos q0, if_neg q1, if_pos q2, if_pos q3, if_neg q4] at e5; subst e5
                    exact K
                  ·
                    refine Wp.p (pc' := 353) d_law_351 rfl rfl ?_
                    refine Wp.p (pc' := 355) d_law_353 rfl rfl ?_
                    refine Wp.if_eq d_law_355 rfl (fun q5 => ?_) (fun q5 => ?_)
                    ·
                      refine Wp.iconst (0 : Int32) d_law_363 (by decide) ?_
                      refine Wp.icmp_ne d_law_364 rfl (fun q6 => ?_) (fun q6 => ?_)
                      ·
                        refine Wp.iconst (0 : Int32) d_law_408 (by decide) ?_
                        rw [if_pos q0, if_neg q1, if_pos q2, if_pos q3, if_pos q4, if_pos q5, if_neg q6] at e5; subst e5
                        exact K
                      ·
                        refine Wp.p (pc' := 369) d_law_367 rfl rfl ?_
                        refine Wp.p (pc' := 371) d_law_369 rfl rfl ?_
                        refine Wp.if_eq d_law_371 rfl (fun q7 => ?_) (fun q7 => ?_)
                        ·
                          refine Wp.iconst (0 : Int32) d_law_379 (by decide) ?_
                          refine Wp.icmp_ne d_law_380 rfl (fun q8 => ?_) (fun q8 => ?_)
                          ·
                            refine Wp.iconst (0 : Int32) d_law_408 (by decide) ?_
                            rw [if_pos q0, if_neg q1, if_pos q2, if_pos q3, if_pos q4, if_pos q5, if_pos q6, if_pos q7, if_neg q8] at e5; subst e5
                            exact K
                          ·
                            refine Wp.p (pc' := 385) d_law_383 rfl rfl ?_
                            refine Wp.p (pc' := 387) d_law_385 rfl rfl ?_
                            refine Wp.if_eq d_law_387 rfl (fun q9 => ?_) (fun q9 => ?_)
                            ·
                              refine Wp.p (pc' := 396) d_law_394 rfl rfl ?_
                              refine Wp.icmp_ne d_law_396 rfl (fun q10 => ?_) (fun q10 => ?_)
                              ·
                                refine Wp.iconst (0 : Int32) d_law_408 (by decide) ?_
                                rw [if_pos q0, if_neg q1, if_pos q2, if_pos q3, if_pos q4, if_pos q5, if_pos q6, if_pos q7, if_pos q8, if_pos q9, if_neg q10] at e5; subst e5
                                exact K
                              ·
                                refine Wp.p (pc' := 401) d_law_399 rfl rfl ?_
                                refine Wp.if_ne d_law_401 rfl (fun q11 => ?_) (fun q11 => ?_)
                                ·
                                  refine Wp.iconst (0 : Int32) d_law_408 (by decide) ?_
                                  rw [if_pos q0, if_neg q1, if_pos q2, if_pos q3, if_pos q4, if_pos q5, if_pos q6, if_pos q7, if_pos q8, if_pos q9, if_pos q10, if_neg q11] at e5; subst e5
                                  exact K
                                ·
                                  refine Wp.iconst (1 : Int32) d_law_404 (by decide) ?_
                                  refine Wp.p (pc' := 409) d_law_405 rfl rfl ?_
                                  rw [if_pos q0, if_neg q1, if_pos q2, if_pos q3, if_pos q4, if_pos q5, if_pos q6, if_pos q7, if_pos q8, if_pos q9, if_pos q10, if_pos q11] at e5; subst e5
                                  exact K
                            ·
                              refine Wp.iconst (0 : Int32) d_law_390 (by decide) ?_
                              refine Wp.p (pc' := 396) d_law_391 rfl rfl ?_
                              refine Wp.icmp_ne d_law_396 rfl (fun q10 => ?_) (fun q10 => ?_)
                              ·
                                refine Wp.iconst (0 : Int32) d_law_408 (by decide) ?_
                                rw [if_pos q0, if_neg q1, if_pos q2, if_pos q3, if_pos q4, if_pos q5, if_pos q6, if_pos q7, if_pos q8, if_neg q9, if_neg q10] at e5; subst e5
                                exact K
                              ·
                                refine Wp.p (pc' := 401) d_law_399 rfl rfl ?_
                                refine Wp.if_ne d_law_401 rfl (fun q11 => ?_) (fun q11 => ?_)
                                ·
                                  refine Wp.iconst (0 : Int32) d_law_408 (by decide) ?_
                                  rw [if_pos q0, if_neg q1, if_pos q2, if_pos q3, if_pos q4, if_pos q5, if_pos q6, if_pos q7, if_pos q8, if_neg q9, if_pos q10, if_neg q11] at e5; subst e5
                                  exact K
                                ·
                                  refine Wp.iconst (1 : Int32) d_law_404 (by decide) ?_
                                  refine Wp.p (pc' := 409) d_law_405 rfl rfl ?_
                                  rw [if_pos q0, if_neg q1, if_pos q2, if_pos q3, if_pos q4, if_pos q5, if_pos q6, if_pos q7, if_pos q8, if_neg q9, if_pos q10, if_pos q11] at e5; subst e5
                                  exact K
                        ·
                          refine Wp.p (pc' := 376) d_law_374 rfl rfl ?_
                          refine Wp.p (pc' := 380) d_law_376 rfl rfl ?_
                          refine Wp.icmp_ne d_law_380 rfl (fun q8 => ?_) (fun q8 => ?_)
                          ·
                            refine Wp.iconst (0 : Int32) d_law_408 (by decide) ?_
                            rw [if_pos q0, if_neg q1, if_pos q2, if_pos q3, if_pos q4, if_pos q5, if_pos q6, if_neg q7, if_neg q8] at e5; subst e5
                            exact K
                          ·
                            refine Wp.p (pc' := 385) d_law_383 rfl rfl ?_
                            refine Wp.p (pc' := 387) d_law_385 rfl rfl ?_
                            refine Wp.if_eq d_law_387 rfl (fun q9 => ?_) (fun q9 => ?_)
                            ·
                              refine Wp.p (pc' := 396) d_law_394 rfl rfl ?_
                              refine Wp.icmp_ne d_law_396 rfl (fun q10 => ?_) (fun q10 => ?_)
                              ·
                                refine Wp.iconst (0 : Int32) d_law_408 (by decide) ?_
                                rw [if_pos q0, if_neg q1, if_pos q2, if_pos q3, if_pos q4, if_pos q5, if_pos q6, if_neg q7, if_pos q8, if_pos q9, if_neg q10] at e5; subst e5
                                exact K
                              ·
                                refine Wp.p (pc' := 401) d_law_399 rfl rfl ?_
                                refine Wp.if_ne d_law_401 rfl (fun q11 => ?_) (fun q11 => ?_)
                                ·
                                  refine Wp.iconst (0 : Int32) d_law_408 (by decide) ?_
                                  rw [if_pos q0, if_neg q1, if_pos q2, if_pos q3, if_pos q4, if_pos q5, if_pos q6, if_neg q7, if_pos q8, if_pos q9, if_pos q10, if_neg q11] at e5; subst e5
                                  exact K
                                ·
                                  refine Wp.iconst (1 : Int32) d_law_404 (by decide) ?_
                                  refine Wp.p (pc' := 409) d_law_405 rfl rfl ?_
                                  rw [if_pos q0, if_neg q1, if_pos q2, if_pos q3, if_pos q4, if_pos q5, if_pos q6, if_neg q7, if_pos q8, if_pos q9, if_pos q10, if_pos q11] at e5; subst e5
                                  exact K
                            ·
                              refine Wp.iconst (0 : Int32) d_law_390 (by decide) ?_
                              refine Wp.p (pc' := 396) d_law_391 rfl rfl ?_
                              refine Wp.icmp_ne d_law_396 rfl (fun q10 => ?_) (fun q10 => ?_)
                              ·
                                refine Wp.iconst (0 : Int32) d_law_408 (by decide) ?_
                                rw [if_pos q0, if_neg q1, if_pos q2, if_pos q3, if_pos q4, if_pos q5, if_pos q6, if_neg q7, if_pos q8, if_neg q9, if_neg q10] at e5; subst e5
                                exact K
                              ·
                                refine Wp.p (pc' := 401) d_law_399 rfl rfl ?_
                                refine Wp.if_ne d_law_401 rfl (fun q11 => ?_) (fun q11 => ?_)
                                ·
                                  refine Wp.iconst (0 : Int32) d_law_408 (by decide) ?_
                                  rw [if_pos q0, if_neg q1, if_pos q2, if_pos q3, if_pos q4, if_pos q5, if_pos q6, if_neg q7, if_pos q8, if_neg q9, if_pos q10, if_neg q11] at e5; subst e5
                                  exact K
                                ·
                                  refine Wp.iconst (1 : Int32) d_law_404 (by decide) ?_
                                  refine Wp.p (pc' := 409) d_law_405 rfl rfl ?_
                                  rw [if_pos q0, if_neg q1, if_pos q2, if_pos q3, if_pos q4, if_pos q5, if_pos q6, if_neg q7, if_pos q8, if_neg q9, if_pos q10, if_pos q11] at e5; subst e5
                                  exact K
                    ·
                      refine Wp.p (pc' := 360) d_law_358 rfl rfl ?_
                      refine Wp.p (pc' := 364) d_law_360 rfl rfl ?_
                      refine Wp.icmp_ne d_law_364 rfl (fun q6 => ?_) (fun q6 => ?_)
                      ·
                        refine Wp.iconst (0 : Int32) d_law_408 (by decide) ?_
                        rw [if_pos q0, if_neg q1, if_pos q2, if_pos q3, if_pos q4, if_neg q5, if_neg q6] at e5; subst e5
                        exact K
                      ·
                        refine Wp.p (pc' := 369) d_law_367 rfl rfl ?_
                        refine Wp.p (pc' := 371) d_law_369 rfl rfl ?_
                        refine Wp.if_eq d_law_371 rfl (fun q7 => ?_) (fun q7 => ?_)
                        ·
                          refine Wp.iconst (0 : Int32) d_law_379 (by decide) ?_
                          refine Wp.icmp_ne d_law_380 rfl (fun q8 => ?_) (fun q8 => ?_)
                          ·
                            refine Wp.iconst (0 : Int32) d_law_408 (by decide) ?_
                            rw [if_pos q0, if_neg q1, if_pos q2, if_pos q3, if_pos q4, if_neg q5, if_pos q6, if_pos q7, if_neg q8] at e5; subst e5
                            exact K
                          ·
                            refine Wp.p (pc' := 385) d_law_383 rfl rfl ?_
                            refine Wp.p (pc' := 387) d_law_385 rfl rfl ?_
                            refine Wp.if_eq d_law_387 rfl (fun q9 => ?_) (fun q9 => ?_)
                            ·
                              refine Wp.p (pc' := 396) d_law_394 rfl rfl ?_
                              refine Wp.icmp_ne d_law_396 rfl (fun q10 => ?_) (fun q10 => ?_)
                              ·
                                refine Wp.iconst (0 : Int32) d_law_408 (by decide) ?_
                                rw [if_pos q0, if_neg q1, if_pos q2, if_pos q3, if_pos q4, if_neg q5, if_pos q6, if_pos q7, if_pos q8, if_pos q9, if_neg q10] at e5; subst e5
                                exact K
                              ·
                                refine Wp.p (pc' := 401) d_law_399 rfl rfl ?_
                                refine Wp.if_ne d_law_401 rfl (fun q11 => ?_) (fun q11 => ?_)
                                ·
                                  refine Wp.iconst (0 : Int32) d_law_408 (by decide) ?_
                                  rw [if_pos q0, if_neg q1, if_pos q2, if_pos q3, if_pos q4, if_neg q5, if_pos q6, if_pos q7, if_pos q8, if_pos q9, if_pos q10, if_neg q11] at e5; subst e5
                                  exact K
                                ·
                                  refine Wp.iconst (1 : Int32) d_law_404 (by decide) ?_
                                  refine Wp.p (pc' := 409) d_law_405 rfl rfl ?_
                                  rw [if_pos q0, if_neg q1, if_pos q2, if_pos q3, if_pos q4, if_neg q5, if_pos q6, if_pos q7, if_pos q8, if_pos q9, if_pos q10, if_pos q11] at e5; subst e5
                                  exact K
                            ·
                              refine Wp.iconst (0 : Int32) d_law_390 (by decide) ?_
                              refine Wp.p (pc' := 396) d_law_391 rfl rfl ?_
                              refine Wp.icmp_ne d_law_396 rfl (fun q10 => ?_) (fun q10 => ?_)
                              ·
                                refine Wp.iconst (0 : Int32) d_law_408 (by decide) ?_
                                rw [if_pos q0, if_neg q1, if_pos q2, if_pos q3, if_pos q4, if_neg q5, if_pos q6, if_pos q7, if_pos q8, if_neg q9, if_neg q10] at e5; subst e5
                                exact K
                              ·
                                refine Wp.p (pc' := 401) d_law_399 rfl rfl ?_
                                refine Wp.if_ne d_law_401 rfl (fun q11 => ?_) (fun q11 => ?_)
                                ·
                                  refine Wp.iconst (0 : Int32) d_law_408 (by decide) ?_
                                  rw [if_pos q0, if_neg q1, if_pos q2, if_pos q3, if_pos q4, if_neg q5, if_pos q6, if_pos q7, if_pos q8, if_neg q9, if_pos q10, if_neg q11] at e5; subst e5
                                  exact K
                                ·
                                  refine Wp.iconst (1 : Int32) d_law_404 (by decide) ?_
                                  refine Wp.p (pc' := 409) d_law_405 rfl rfl ?_
                                  rw [if_pos q0, if_neg q1, if_pos q2, if_pos q3, if_pos q4, if_neg q5, if_pos q6, if_pos q7, if_pos q8, if_neg q9, if_pos q10, if_pos q11] at e5; subst e5
                                  exact K
                        ·
                          refine Wp.p (pc' := 376) d_law_374 rfl rfl ?_
                          refine Wp.p (pc' := 380) d_law_376 rfl rfl ?_
                          refine Wp.icmp_ne d_law_380 rfl (fun q8 => ?_) (fun q8 => ?_)
                          ·
                            refine Wp.iconst (0 : Int32) d_law_408 (by decide) ?_
                            rw [if_pos q0, if_neg q1, if_pos q2, if_pos q3, if_pos q4, if_neg q5, if_pos q6, if_neg q7, if_neg q8] at e5; subst e5
                            exact K
                          ·
                            refine Wp.p (pc' := 385) d_law_383 rfl rfl ?_
                            refine Wp.p (pc' := 387) d_law_385 rfl rfl ?_
                            refine Wp.if_eq d_law_387 rfl (fun q9 => ?_) (fun q9 => ?_)
                            ·
                              refine Wp.p (pc' := 396) d_law_394 rfl rfl ?_
                              refine Wp.icmp_ne d_law_396 rfl (fun q10 => ?_) (fun q10 => ?_)
                              ·
                                refine Wp.iconst (0 : Int32) d_law_408 (by decide) ?_
                                rw [if_pos q0, if_neg q1, if_pos q2, if_pos q3, if_pos q4, if_neg q5, if_pos q6, if_neg q7, if_pos q8, if_pos q9, if_neg q10] at e5; subst e5
                                exact K
                              ·
                                refine Wp.p (pc' := 401) d_law_399 rfl rfl ?_
                                refine Wp.if_ne d_law_401 rfl (fun q11 => ?_) (fun q11 => ?_)
                                ·
                                  refine Wp.iconst (0 : Int32) d_law_408 (by decide) ?_
                                  rw [if_pos q0, if_neg q1, if_pos q2, if_pos q3, if_pos q4, if_neg q5, if_pos q6, if_neg q7, if_pos q8, if_pos q9, if_pos q10, if_neg q11] at e5; subst e5
                                  exact K
                                ·
                                  refine Wp.iconst (1 : Int32) d_law_404 (by decide) ?_
                                  refine Wp.p (pc' := 409) d_law_405 rfl rfl ?_
                                  rw [if_pos q0, if_neg q1, if_pos q2, if_pos q3, if_pos q4, if_neg q5, if_pos q6, if_neg q7, if_pos q8, if_pos q9, if_pos q10, if_pos q11] at e5; subst e5
                                  exact K
                            ·
                              refine Wp.iconst (0 : Int32) d_law_390 (by decide) ?_
                              refine Wp.p (pc' := 396) d_law_391 rfl rfl ?_
                              refine Wp.icmp_ne d_law_396 rfl (fun q10 => ?_) (fun q10 => ?_)
                              ·
                                refine Wp.iconst (0 : Int32) d_law_408 (by decide) ?_
                                rw [if_pos q0, if_neg q1, if_pos q2, if_pos q3, if_pos q4, if_neg q5, if_pos q6, if_neg q7, if_pos q8, if_neg q9, if_neg q10] at e5; subst e5
                                exact K
                              ·
                                refine Wp.p (pc' := 401) d_law_399 rfl rfl ?_
                                refine Wp.if_ne d_law_401 rfl (fun q11 => ?_) (fun q11 => ?_)
                                ·
                                  refine Wp.iconst (0 : Int32) d_law_408 (by decide) ?_
                                  rw [if_pos q0, if_neg q1, if_pos q2, if_pos q3, if_pos q4, if_neg q5, if_pos q6, if_neg q7, if_pos q8, if_neg q9, if_pos q10, if_neg q11] at e5; subst e5
                                  exact K
                                ·
                                  refine Wp.iconst (1 : Int32) d_law_404 (by decide) ?_
                                  refine Wp.p (pc' := 409) d_law_405 rfl rfl ?_
                                  rw [if_pos q0, if_neg q1, if_pos q2, if_pos q3, if_pos q4, if_neg q5, if_pos q6, if_neg q7, if_pos q8, if_neg q9, if_pos q10, if_pos q11] at e5; subst e5
                                  exact K
                ·
                  refine Wp.p (pc' := 344) d_law_342 rfl rfl ?_
                  refine Wp.p (pc' := 348) d_law_344 rfl rfl ?_
                  refine Wp.icmp_ne d_law_348 rfl (fun q4 => ?_) (fun q4 => ?_)
                  ·
                    refine Wp.iconst (0 : Int32) d_law_408 (by decide) ?_
                    rw [if_pos q0, if_neg q1, if_pos q2, if_neg q3, if_neg q4] at e5; subst e5
                    exact K
                  ·
                    refine Wp.p (pc' := 353) d_law_351 rfl rfl ?_
                    refine Wp.p (pc' := 355) d_law_353 rfl rfl ?_
                    refine Wp.if_eq d_law_355 rfl (fun q5 => ?_) (fun q5 => ?_)
                    ·
                      refine Wp.iconst (0 : Int32) d_law_363 (by decide) ?_
                      refine Wp.icmp_ne d_law_364 rfl (fun q6 => ?_) (fun q6 => ?_)
                      ·
                        refine Wp.iconst (0 : Int32) d_law_408 (by decide) ?_
                        rw [if_pos q0, if_neg q1, if_pos q2, if_neg q3, if_pos q4, if_pos q5, if_neg q6] at e5; subst e5
                        exact K
                      ·
                        refine Wp.p (pc' := 369) d_law_367 rfl rfl ?_
                        refine Wp.p (pc' := 371) d_law_369 rfl rfl ?_
                        refine Wp.if_eq d_law_371 rfl (fun q7 => ?_) (fun q7 => ?_)
                        ·
                          refine Wp.iconst (0 : Int32) d_law_379 (by decide) ?_
                          refine Wp.icmp_ne d_law_380 rfl (fun q8 => ?_) (fun q8 => ?_)
                          ·
                            refine Wp.iconst (0 : Int32) d_law_408 (by decide) ?_
                            rw [if_pos q0, if_neg q1, if_pos q2, if_neg q3, if_pos q4, if_pos q5, if_pos q6, if_pos q7, if_neg q8] at e5; subst e5
                            exact K
                          ·
                            refine Wp.p (pc' := 385) d_law_383 rfl rfl ?_
                            refine Wp.p (pc' := 387) d_law_385 rfl rfl ?_
                            refine Wp.if_eq d_law_387 rfl (fun q9 => ?_) (fun q9 => ?_)
                            ·
                              refine Wp.p (pc' := 396) d_law_394 rfl rfl ?_
                              refine Wp.icmp_ne d_law_396 rfl (fun q10 => ?_) (fun q10 => ?_)
                              ·
                                refine Wp.iconst (0 : Int32) d_law_408 (by decide) ?_
                                rw [if_pos q0, if_neg q1, if_pos q2, if_neg q3, if_pos q4, if_pos q5, if_pos q6, if_pos q7, if_pos q8, if_pos q9, if_neg q10] at e5; subst e5
                                exact K
                              ·
                                refine Wp.p (pc' := 401) d_law_399 rfl rfl ?_
                                refine Wp.if_ne d_law_401 rfl (fun q11 => ?_) (fun q11 => ?_)
                                ·
                                  refine Wp.iconst (0 : Int32) d_law_408 (by decide) ?_
                                  rw [if_pos q0, if_neg q1, if_pos q2, if_neg q3, if_pos q4, if_pos q5, if_pos q6, if_pos q7, if_pos q8, if_pos q9, if_pos q10, if_neg q11] at e5; subst e5
                                  exact K
                                ·
                                  refine Wp.iconst (1 : Int32) d_law_404 (by decide) ?_
                                  refine Wp.p (pc' := 409) d_law_405 rfl rfl ?_
                                  rw [if_pos q0, if_neg q1, if_pos q2, if_neg q3, if_pos q4, if_pos q5, if_pos q6, if_pos q7, if_pos q8, if_pos q9, if_pos q10, if_pos q11] at e5; subst e5
                                  exact K
                            ·
                              refine Wp.iconst (0 : Int32) d_law_390 (by decide) ?_
                              refine Wp.p (pc' := 396) d_law_391 rfl rfl ?_
                              refine Wp.icmp_ne d_law_396 rfl (fun q10 => ?_) (fun q10 => ?_)
                              ·
                                refine Wp.iconst (0 : Int32) d_law_408 (by decide) ?_
                                rw [if_pos q0, if_neg q1, if_pos q2, if_neg q3, if_pos q4, if_pos q5, if_pos q6, if_pos q7, if_pos q8, if_neg q9, if_neg q10] at e5; subst e5
                                exact K
                              ·
                                refine Wp.p (pc' := 401) d_law_399 rfl rfl ?_
                                refine Wp.if_ne d_law_401 rfl (fun q11 => ?_) (fun q11 => ?_)
                                ·
                                  refine Wp.iconst (0 : Int32) d_law_408 (by decide) ?_
                                  rw [if_pos q0, if_neg q1, if_pos q2, if_neg q3, if_pos q4, if_pos q5, if_pos q6, if_pos q7, if_pos q8, if_neg q9, if_pos q10, if_neg q11] at e5; subst e5
                                  exact K
                                ·
                                  refine Wp.iconst (1 : Int32) d_law_404 (by decide) ?_
                                  refine Wp.p (pc' := 409) d_law_405 rfl rfl ?_
                                  rw [if_pos q0, if_neg q1, if_pos q2, if_neg q3, if_pos q4, if_pos q5, if_pos q6, if_pos q7, if_pos q8, if_neg q9, if_pos q10, if_pos q11] at e5; subst e5
                                  exact K
                        ·
                          refine Wp.p (pc' := 376) d_law_374 rfl rfl ?_
                          refine Wp.p (pc' := 380) d_law_376 rfl rfl ?_
                          refine Wp.icmp_ne d_law_380 rfl (fun q8 => ?_) (fun q8 => ?_)
                          ·
                            refine Wp.iconst (0 : Int32) d_law_408 (by decide) ?_
                            rw [if_pos q0, if_neg q1, if_pos q2, if_neg q3, if_pos q4, if_pos q5, if_pos q6, if_neg q7, if_neg q8] at e5; subst e5
                            exact K
                          ·
                            refine Wp.p (pc' := 385) d_law_383 rfl rfl ?_
                            refine Wp.p (pc' := 387) d_law_385 rfl rfl ?_
                            refine Wp.if_eq d_law_387 rfl (fun q9 => ?_) (fun q9 => ?_)
                            ·
                              refine Wp.p (pc' := 396) d_law_394 rfl rfl ?_
                              refine Wp.icmp_ne d_law_396 rfl (fun q10 => ?_) (fun q10 => ?_)
                              ·
                                refine Wp.iconst (0 : Int32) d_law_408 (by decide) ?_
                                rw [if_pos q0, if_neg q1, if_pos q2, if_neg q3, if_pos q4, if_pos q5, if_pos q6, if_neg q7, if_pos q8, if_pos q9, if_neg q10] at e5; subst e5
                                exact K
                              ·
                                refine Wp.p (pc' := 401) d_law_399 rfl rfl ?_
                                refine Wp.if_ne d_law_401 rfl (fun q11 => ?_) (fun q11 => ?_)
                                ·
                                  refine Wp.iconst (0 : Int32) d_law_408 (by decide) ?_
                                  rw [if_pos q0, if_neg q1, if_pos q2, if_neg q3, if_pos q4, if_pos q5, if_pos q6, if_neg q7, if_pos q8, if_pos q9, if_pos q10, if_neg q11] at e5; subst e5
                                  exact K
                                ·
                                  refine Wp.iconst (1 : Int32) d_law_404 (by decide) ?_
                                  refine Wp.p (pc' := 409) d_law_405 rfl rfl ?_
                                  rw [if_pos q0, if_neg q1, if_pos q2, if_neg q3, if_pos q4, if_pos q5, if_pos q6, if_neg q7, if_pos q8, if_pos q9, if_pos q10, if_pos q11] at e5; subst e5
                                  exact K
                            ·
                              refine Wp.iconst (0 : Int32) d_law_390 (by decide) ?_
                              refine Wp.p (pc' := 396) d_law_391 rfl rfl ?_
                              refine Wp.icmp_ne d_law_396 rfl (fun q10 => ?_) (fun q10 => ?_)
                              ·
                                refine Wp.iconst (0 : Int32) d_law_408 (by decide) ?_
                                rw [if_pos q0, if_neg q1, if_pos q2, if_neg q3, if_pos q4, if_pos q5, if_pos q6, if_neg q7, if_pos q8, if_neg q9, if_neg q10] at e5; subst e5
                                exact K
                              ·
                                refine Wp.p (pc' := 401) d_law_399 rfl rfl ?_
                                refine Wp.if_ne d_law_401 rfl (fun q11 => ?_) (fun q11 => ?_)
                                ·
                                  refine Wp.iconst (0 : Int32) d_law_408 (by decide) ?_
                                  rw [if_pos q0, if_neg q1, if_pos q2, if_neg q3, if_pos q4, if_pos q5, if_pos q6, if_neg q7, if_pos q8, if_neg q9, if_pos q10, if_neg q11] at e5; subst e5
                                  exact K
                                ·
                                  refine Wp.iconst (1 : Int32) d_law_404 (by decide) ?_
                                  refine Wp.p (pc' := 409) d_law_405 rfl rfl ?_
                                  rw [if_pos q0, if_neg q1, if_pos q2, if_neg q3, if_pos q4, if_pos q5, if_pos q6, if_neg q7, if_pos q8, if_neg q9, if_pos q10, if_pos q11] at e5; subst e5
                                  exact K
                    ·
                      refine Wp.p (pc' := 360) d_law_358 rfl rfl ?_
                      refine Wp.p (pc' := 364) d_law_360 rfl rfl ?_
                      refine Wp.icmp_ne d_law_364 rfl (fun q6 => ?_) (fun q6 => ?_)
                      ·
                        refine Wp.iconst (0 : Int32) d_law_408 (by decide) ?_
                        rw [if_pos q0, if_neg q1, if_pos q2, if_neg q3, if_pos q4, if_neg q5, if_neg q6] at e5; subst e5
                        exact K
                      ·
                        refine Wp.p (pc' := 369) d_law_367 rfl rfl ?_
                        refine Wp.p (pc' := 371) d_law_369 rfl rfl ?_
                        refine Wp.if_eq d_law_371 rfl (fun q7 => ?_) (fun q7 => ?_)
                        ·
                          refine Wp.iconst (0 : Int32) d_law_379 (by decide) ?_
                          refine Wp.icmp_ne d_law_380 rfl (fun q8 => ?_) (fun q8 => ?_)
                          ·
                            refine Wp.iconst (0 : Int32) d_law_408 (by decide) ?_
                            rw [if_pos q0, if_neg q1, if_pos q2, if_neg q3, if_pos q4, if_neg q5, if_pos q6, if_pos q7, if_neg q8] at e5; subst e5
                            exact K
                          ·
                            refine Wp.p (pc' := 385) d_law_383 rfl rfl ?_
                            refine Wp.p (pc' := 387) d_law_385 rfl rfl ?_
                            refine Wp.if_eq d_law_387 rfl (fun q9 => ?_) (fun q9 => ?_)
                            ·
                              refine Wp.p (pc' := 396) d_law_394 rfl rfl ?_
                              refine Wp.icmp_ne d_law_396 rfl (fun q10 => ?_) (fun q10 => ?_)
                              ·
                                refine Wp.iconst (0 : Int32) d_law_408 (by decide) ?_
                                rw [if_pos q0, if_neg q1, if_pos q2, if_neg q3, if_pos q4, if_neg q5, if_pos q6, if_pos q7, if_pos q8, if_pos q9, if_neg q10] at e5; subst e5
                                exact K
                              ·
                                refine Wp.p (pc' := 401) d_law_399 rfl rfl ?_
                                refine Wp.if_ne d_law_401 rfl (fun q11 => ?_) (fun q11 => ?_)
                                ·
                                  refine Wp.iconst (0 : Int32) d_law_408 (by decide) ?_
                                  rw [if_pos q0, if_neg q1, if_pos q2, if_neg q3, if_pos q4, if_neg q5, if_pos q6, if_pos q7, if_pos q8, if_pos q9, if_pos q10, if_neg q11] at e5; subst e5
                                  exact K
                                ·
                                  refine Wp.iconst (1 : Int32) d_law_404 (by decide) ?_
                                  refine Wp.p (pc' := 409) d_law_405 rfl rfl ?_
                                  rw [if_pos q0, if_neg q1, if_pos q2, if_neg q3, if_pos q4, if_neg q5, if_pos q6, if_pos q7, if_pos q8, if_pos q9, if_pos q10, if_pos q11] at e5; subst e5
                                  exact K
                            ·
                              refine Wp.iconst (0 : Int32) d_law_390 (by decide) ?_
                              refine Wp.p (pc' := 396) d_law_391 rfl rfl ?_
                              refine Wp.icmp_ne d_law_396 rfl (fun q10 => ?_) (fun q10 => ?_)
                              ·
                                refine Wp.iconst (0 : Int32) d_law_408 (by decide) ?_
                                rw [if_pos q0, if_neg q1, if_pos q2, if_neg q3, if_pos q4, if_neg q5, if_pos q6, if_pos q7, if_pos q8, if_neg q9, if_neg q10] at e5; subst e5
                                exact K
                              ·
                                refine Wp.p (pc' := 401) d_law_399 rfl rfl ?_
                                refine Wp.if_ne d_law_401 rfl (fun q11 => ?_) (fun q11 => ?_)
                                ·
                                  refine Wp.iconst (0 : Int32) d_law_408 (by decide) ?_
                                  rw [if_pos q0, if_neg q1, if_pos q2, if_neg q3, if_pos q4, if_neg q5, if_pos q6, if_pos q7, if_pos q8, if_neg q9, if_pos q10, if_neg q11] at e5; subst e5
                                  exact K
                                ·
                                  refine Wp.iconst (1 : Int32) d_law_404 (by decide) ?_
                                  refine Wp.p (pc' := 409) d_law_405 rfl rfl ?_
                                  rw [if_pos q0, if_neg q1, if_pos q2, if_neg q3, if_pos q4, if_neg q5, if_pos q6, if_pos q7, if_pos q8, if_neg q9, if_pos q10, if_pos q11] at e5; subst e5
                                  exact K
                        ·
                          refine Wp.p (pc' := 376) d_law_374 rfl rfl ?_
                          refine Wp.p (pc' := 380) d_law_376 rfl rfl ?_
                          refine Wp.icmp_ne d_law_380 rfl (fun q8 => ?_) (fun q8 => ?_)
                          ·
                            refine Wp.iconst (0 : Int32) d_law_408 (by decide) ?_
                            rw [if_pos q0, if_neg q1, if_pos q2, if_neg q3, if_pos q4, if_neg q5, if_pos q6, if_neg q7, if_neg q8] at e5; subst e5
                            exact K
                          ·
                            refine Wp.p (pc' := 385) d_law_383 rfl rfl ?_
                            refine Wp.p (pc' := 387) d_law_385 rfl rfl ?_
                            refine Wp.if_eq d_law_387 rfl (fun q9 => ?_) (fun q9 => ?_)
                            ·
                              refine Wp.p (pc' := 396) d_law_394 rfl rfl ?_
                              refine Wp.icmp_ne d_law_396 rfl (fun q10 => ?_) (fun q10 => ?_)
                              ·
                                refine Wp.iconst (0 : Int32) d_law_408 (by decide) ?_
                                rw [if_pos q0, if_neg q1, if_pos q2, if_neg q3, if_pos q4, if_neg q5, if_pos q6, if_neg q7, if_pos q8, if_pos q9, if_neg q10] at e5; subst e5
                                exact K
                              ·
                                refine Wp.p (pc' := 401) d_law_399 rfl rfl ?_
                                refine Wp.if_ne d_law_401 rfl (fun q11 => ?_) (fun q11 => ?_)
                                ·
                                  refine Wp.iconst (0 : Int32) d_law_408 (by decide) ?_
                                  rw [if_pos q0, if_neg q1, if_pos q2, if_neg q3, if_pos q4, if_neg q5, if_pos q6, if_neg q7, if_pos q8, if_pos q9, if_pos q10, if_neg q11] at e5; subst e5
                                  exact K
                                ·
                                  refine Wp.iconst (1 : Int32) d_law_404 (by decide) ?_
                                  refine Wp.p (pc' := 409) d_law_405 rfl rfl ?_
                                  rw [if_pos q0, if_neg q1, if_pos q2, if_neg q3, if_pos q4, if_neg q5, if_pos q6, if_neg q7, if_pos q8, if_pos q9, if_pos q10, if_pos q11] at e5; subst e5
                                  exact K
                            ·
                              refine Wp.iconst (0 : Int32) d_law_390 (by decide) ?_
                              refine Wp.p (pc' := 396) d_law_391 rfl rfl ?_
                              refine Wp.icmp_ne d_law_396 rfl (fun q10 => ?_) (fun q10 => ?_)
                              ·
                                refine Wp.iconst (0 : Int32) d_law_408 (by decide) ?_
                                rw [if_pos q0, if_neg q1, if_pos q2, if_neg q3, if_pos q4, if_neg q5, if_pos q6, if_neg q7, if_pos q8, if_neg q9, if_neg q10] at e5; subst e5
                                exact K
                              ·
                                refine Wp.p (pc' := 401) d_law_399 rfl rfl ?_
                                refine Wp.if_ne d_law_401 rfl (fun q11 => ?_) (fun q11 => ?_)
                                ·
                                  refine Wp.iconst (0 : Int32) d_law_408 (by decide) ?_
                                  rw [if_pos q0, if_neg q1, if_pos q2, if_neg q3, if_pos q4, if_neg q5, if_pos q6, if_neg q7, if_pos q8, if_neg q9, if_pos q10, if_neg q11] at e5; subst e5
                                  exact K
                                ·
                                  refine Wp.iconst (1 : Int32) d_law_404 (by decide) ?_
                                  refine Wp.p (pc' := 409) d_law_405 rfl rfl ?_
                                  rw [if_pos q0, if_neg q1, if_pos q2, if_neg q3, if_pos q4, if_neg q5, if_pos q6, if_neg q7, if_pos q8, if_neg q9, if_pos q10, if_pos q11] at e5; subst e5
                                  exact K
        refine Wp.retZ (v5 &&& 1) d_law_409 (by rfl) ?_
        exact (h4 c1 c2 c3 v4 e4 v5 e5)

theorem own_pc {Q : Option Value → EMem → Prop} (x p l : Int32) (mi : Nat → Nat → Int32) (ml : Nat → Nat → Int64) (hp : p = 0 ∨ p = 1) (hm : mi 0 76 = p) (hl : mi 4 0 = l)
    (q : Q (some (.int (if p = 1 ∧ l = x then 1 else 0))) (LL1, mi, ml, RR1)) : W_pendingContains 0 [.val (.ref 0), .val (.int x), .unset] [] (LL1, mi, ml, RR1) Q := by
  refine L_pendingContains_0 ?_
  have z0 : Int32.toNatClampNeg 0 = 0 := by decide
  rcases hp with rfl | rfl
  · rw [if_neg (fun h => absurd h.1 (by decide))] at q
    exact L_pendingContains_2 (fun _ => q) (fun h => absurd h (by rw [hm]; decide)) (fun h => absurd h (by rw [hm]; decide)) (fun h => absurd h (by rw [hm]; decide)) (fun h => absurd h (by rw [hm]; decide))
  · refine L_pendingContains_2 (fun h => absurd (by rw [hm]; decide) h) (fun _ h => absurd (by decide) h) (fun _ _ => by decide) (fun _ _ h => ?_) (fun _ _ h => ?_)
    · rw [z0, hl] at h
      rw [if_neg (fun w => h w.2)] at q
      exact L_pendingContains_2 (fun _ => q) (fun h => absurd h (by rw [hm]; decide)) (fun h => absurd h (by rw [hm]; decide)) (fun h => absurd h (by rw [hm]; decide)) (fun h => absurd h (by rw [hm]; decide))
    · rw [z0, hl] at h
      rw [if_pos ⟨rfl, h⟩] at q
      exact q
def own_in (x n : Int32) : Int32 := if x = 0 then 0 else if x < -n then 0 else if n < x then 0 else 1
theorem own_add {Q : Option Value → EMem → Prop} (x n p l : Int32) (mi : Nat → Nat → Int32) (ml : Nat → Nat → Int64) (hp : p = 0 ∨ p = 1) (hn : mi 0 70 = n) (hm : mi 0 76 = p) (hl : mi 4 0 = l)
    (K0 : own_in x n = 0 → Q (some (.int 1)) (LL1, mi, ml, RR1)) (K1 : own_in x n = 1 → p = 1 → l = x → Q (some (.int 4)) (LL1, mi, ml, RR1))
    (K2 : own_in x n = 1 → ¬ (p = 1 ∧ l = x) → Q (some (.int 0)) (LL1, up (up mi 4 p.toNatClampNeg x) 0 76 (p + 1), ml, RR1)) :
    W_addLiteral 0 [.val (.ref 0), .val (.int x)] [] (LL1, mi, ml, RR1) Q := by
  have i01 : own_in x n = 0 ∨ own_in x n = 1 := by unfold own_in; grind
  refine L_addLiteral_0 (fun v e c => ?_) (fun v e c => ?_)
  · rw [hn] at e
    have i1 : own_in x n = 1 := by unfold own_in; grind
    refine own_pc x p l mi ml hp hm hl ?_
    by_cases q : p = 1 ∧ l = x
    · rw [if_pos q]
      exact L_addLiteral_15 (fun h => absurd h (by decide)) (fun h => absurd h (by decide)) (fun h => absurd h (by decide)) (fun h => absurd h (by decide)) (fun _ => K1 i1 q.1 q.2)
    · rw [if_neg q]
      refine L_addLiteral_15 (fun _ h => absurd ?_ h) (fun _ _ _ => ?_) (fun _ _ _ => ?_) (fun _ _ h => absurd h ?_) (fun h => absurd rfl h)
      · rw [hm]; rcases hp with rfl | rfl <;> decide
      · rw [hm]; rcases hp with rfl | rfl <;> decide
      · rw [hm]; exact K2 i1 q
      · rw [hm]; rcases hp with rfl | rfl <;> decide
  · rw [hn] at e
    exact K0 (by unfold own_in; grind)
theorem own_com {Q : Option Value → EMem → Prop} (w p : Int32) (mi : Nat → Nat → Int32) (ml : Nat → Nat → Int64) (hp : p = 0 ∨ p = 1 ∨ p = 2) (hm : mi 0 76 = p) (hc : mi 0 74 = 0) (hcap : mi 0 72 = 4)
    (K0 : w < 1 ∨ 1000 < w → Q (some (.int 1)) (LL1, mi, ml, RR1)) (K1 : ¬ (w < 1 ∨ 1000 < w) → p = 0 → Q (some (.int 3)) (LL1, mi, ml, RR1))
    (K2 : ¬ (w < 1 ∨ 1000 < w) → ¬ p = 0 → ∀ m, m 0 74 = 1 → m 0 76 = 0 → m 0 82 = 0 → m 2 0 = p → m 3 0 = w → m 1 0 = mi 4 0 → (p = 2 → m 1 1 = mi 4 1) → Q (some (.int 0)) (LL1, m, ml, RR1)) :
    W_commitSoft 0 [.val (.ref 0), .val (.int w)] [] (LL1, mi, ml, RR1) Q := by
  have z0 : Int32.toNatClampNeg 0 = 0 := by decide
  have z1 : Int32.toNatClampNeg (0 + 1) = 1 := by decide
  have a0 : (0 * 8 + 0 : Int32).toNatClampNeg = 0 := by decide
  have a1 : (0 * 8 + (0 + 1) : Int32).toNatClampNeg = 1 := by decide
  have s1 : (0 + 1 : Int32) = 1 := by decide
  refine L_commitSoft_0 (fun h => K0 (Or.inl h)) (fun h1 h2 h3 h4 => ?_) (fun _ _ _ h => absurd (by rw [hc, hcap]; decide) h) (fun h1 h2 h3 => K1 (fun q => q.elim h1 h2) (by rw [hm] at h3; exact h3)) (fun _ h => K0 (Or.inr h))
  rw [hm] at h3
  have nw : ¬ (w < 1 ∨ 1000 < w) := fun q => q.elim h1 h2
  refine L_appendPending_0 (fun h => absurd h (by rw [hc]; decide)) (fun _ _ => ?_) (fun _ h => absurd (by rw [hc]; decide) h)
  rw [hc]
  have fin : ∀ (m : Nat → Nat → Int32) (x4 : Int32), m 0 76 = p → m 1 0 = mi 4 0 → (p = 2 → m 1 1 = mi 4 1) → W_appendPending 62 [.val (.ref 0), .val (.int w), .val (.int 0), .val (.int (0 * 8)), .val (.int x4)] [] (LL1, m, ml, RR1) (fun v M' => W_commitSoft 41 [.val (.ref 0), .val (.int w)] (v.toList ++ []) M' Q) := by
    intro m x4 f1 f2 f3
    refine L_appendPending_62 (by decide) ?_
    refine L_commitSoft_41 ?_
    rw [z0, f1, s1]
    exact K2 nw h3 _ rfl rfl rfl rfl rfl f2 f3
  have p0 : (0 : Int32) < p := by rcases hp with rfl | rfl | rfl <;> first | decide | exact absurd rfl h3
  refine L_appendPending_24 (fun h => absurd (by rw [hm]; exact p0) h) (fun _ h => absurd (by decide) h) (fun _ _ => by decide) (fun _ _ => by decide) (fun _ _ => ?_)
  rw [a0, z0]
  have hm1 : up mi 1 0 (mi 4 0) 0 76 = p := hm
  by_cases p2 : p = 2
  · subst p2
    refine L_appendPending_24 (fun h => absurd (by rw [hm1]; decide) h) (fun _ h => absurd (by decide) h) (fun _ _ => by decide) (fun _ _ => by decide) (fun _ _ => ?_)
    rw [a1, z1]
    have hm2 : up (up mi 1 0 (mi 4 0)) 1 1 (up mi 1 0 (mi 4 0) 4 1) 0 76 = 2 := hm
    refine L_appendPending_24 (fun _ => fin _ _ hm2 rfl (fun _ => rfl)) (fun h => absurd h (by rw [hm2]; decide)) (fun h => absurd h (by rw [hm2]; decide)) (fun h => absurd h (by rw [hm2]; decide)) (fun h => absurd h (by rw [hm2]; decide))
  · have p1 : p = 1 := by rcases hp with rfl | rfl | rfl <;> first | rfl | exact absurd rfl h3 | exact absurd rfl p2
    subst p1
    refine L_appendPending_24 (fun _ => fin _ _ hm1 rfl (fun q => absurd q p2)) (fun h => absurd h (by rw [hm1]; decide)) (fun h => absurd h (by rw [hm1]; decide)) (fun h => absurd h (by rw [hm1]; decide)) (fun h => absurd h (by rw [hm1]; decide))
theorem own_end (i0 a b w v1 oA dup oB ea eb n ec d fi se : Int32) (m : Nat → Nat → Int32) (ml : Nat → Nat → Int64) (hn : n = 0 ∨ n = 1 ∨ n = 2) (hd : d = 0 ∨ d = 1) (hse : n = 1 → se = 0)
    (hcc : m 0 74 = d) (hpl : m 0 76 = if d = 0 then n else 0) (hst : m 0 82 = 0) (hdn : d = 1 → ¬ n = 0 ∧ m 2 0 = n ∧ m 3 0 = w ∧ m 1 0 = fi ∧ (n = 2 → m 1 1 = se)) :
    W_law 227 [.val (.int i0), .val (.int a), .val (.int b), .val (.int w), .val (.ref 0), .val (.int v1), .val (.int oA), .val (.int dup), .val (.int oB), .val (.int ea), .val (.int eb), .val (.int n), .val (.int ec), .val (.int d), .val (.int fi), .val (.int se), .val (.int ea), .val (.int eb), .unset, .unset, .unset, .unset, .unset, .unset, .unset, .unset] [.int ec] (LL1, m, ml, RR1) QL := by
  have z0 : Int32.toNatClampNeg 0 = 0 := by decide
  have a0 : (0 * 8 + 0 : Int32).toNatClampNeg = 0 := by decide
  have a1 : (0 * 8 + 1 : Int32).toNatClampNeg = 1 := by decide
  have val : ∀ v : Int32, (v = if (0 : Int32) < 0 then 0 else if 0 < m 0 74 then (if (0 : Int32) < 32 then 1 else 0) else 0) → v &&& 1 = d := by
    intro v e
    rw [hcc] at e
    rcases hd with rfl | rfl
    · rw [if_neg (by decide), if_neg (by decide)] at e; rw [e]; decide
    · rw [if_neg (by decide), if_pos (by decide), if_pos (by decide)] at e; rw [e]; decide
  refine L_law_227 ?_
  refine L_getClauseWeight_0 (fun _ _ _ => by decide) ?_
  intro u1 g1 u2 g2
  rw [val _ g1, z0] at g2
  clear g1
  refine L_law_242 ?_
  refine L_getClauseLength_0 (fun _ _ _ => by decide) ?_
  intro u3 g3 u4 g4
  rw [val _ g3, z0] at g4
  clear g3
  refine L_law_250 ?_
  refine L_getClauseLiteral_0 (fun _ _ _ _ => by decide) (fun _ _ _ _ _ _ _ => by decide) ?_
  intro u5 g5 u6 g6
  rw [val _ g5, z0, a0] at g6
  clear g5
  refine L_law_259 ?_
  refine L_getClauseLiteral_0 (fun _ _ _ _ => by decide) (fun _ _ _ _ _ _ _ => by decide) ?_
  intro u7 g7 u8 g8
  rw [val _ g7, z0, a1] at g8
  clear g7
  refine L_law_268 (fun h => absurd rfl h) (fun _ h => absurd rfl h) (fun _ _ h => absurd rfl h) ?_
  intro _ _ _ v4 e4 v5 e5
  refine ql1 ?_
  have h1 : ∀ z : Int32, z = 1 → z &&& 1 = 1 := fun z h => by subst h; decide
  apply h1
  rw [e5]
  clear e5 val h1
  rw [hcc, hpl, hst]
  rcases hd with rfl | rfl
  · rw [if_pos rfl] at g2 g4 g6 g8 e4
    subst g2 g4 g6 g8 e4
    simp
  · obtain ⟨q0, q1, q2, q3, q4⟩ := hdn rfl
    rw [if_neg (by decide)] at g2 g4 g6 g8 e4
    rw [q1] at g4 g6 g8
    rw [q2] at g2
    rw [q3] at g6
    have hu6 : u6 = fi := by
      rw [g6]
      rcases hn with rfl | rfl | rfl
      · exact absurd rfl q0
      · simp
      · simp
    have hu8 : u8 = se := by
      rw [g8]
      rcases hn with rfl | rfl | rfl
      · exact absurd rfl q0
      · rw [hse rfl, if_neg (by decide), if_neg (by decide)]
      · rw [q4 rfl, if_neg (by decide), if_pos (by decide), if_neg (by decide), if_pos (by decide)]
    subst g2 g4 e4
    rw [hu6, hu8]
    simp
theorem law_ok (i0 a b w : Int32) : W_law 0 (entryL [.int i0, .int a, .int b, .int w] maxLocals) [] mem0 QL := by
  refine L_law_0 ?_
  refine L_init_0 ?_
  intro nv env cp ecp
  have hcp : cp = 4 := by rw [ecp]; decide
  subst hcp
  refine L_law_9 ?_
  intro v1 e1 v2 e2 dup e3 v4 e4 oB e5 ea e6 v7 e7 eb e8 v9 e9 v10 e10 ec e11 d e12 fi e13 se e14
  have hnv : nv = v1 := by rw [env, e1]
  subst hnv
  have i2 : v2 = own_in a nv := e2
  have i4 : v4 = own_in b nv := e4
  have i7 : v7 = own_in b nv := e7
  clear e2 e4 e7
  have i01 : ∀ x, own_in x nv = 0 ∨ own_in x nv = 1 := fun x => by unfold own_in; grind
  subst i2 i4 i7
  rw [and1 (i01 a)] at *
  rw [and1 (i01 b)] at *
  generalize hA : own_in a nv = A at *
  generalize hB : own_in b nv = B at *
  have hA01 : A = 0 ∨ A = 1 := hA ▸ i01 a
  have hB01 : B = 0 ∨ B = 1 := hB ▸ i01 b
  clear i01
  have z0 : Int32.toNatClampNeg 0 = 0 := by decide
  have z1 : Int32.toNatClampNeg 1 = 1 := by decide
  have zz : (0 + 0 : Int32) = 0 := by decide
  have zo : (0 + 1 : Int32) = 1 := by decide
  have oz : (1 + 0 : Int32) = 1 := by decide
  have oo : (1 + 1 : Int32) = 2 := by decide
  -- the last call
  have com : ∀ (p n : Int32) (m : Nat → Nat → Int32) (ml : Nat → Nat → Int64), p = n → (n = 0 ∨ n = 1 ∨ n = 2) → n = v9 + v10 → m 0 76 = p → m 0 74 = 0 → m 0 72 = 4 → m 0 82 = 0 → (¬ n = 0 → m 4 0 = fi) → (n = 2 → m 4 1 = se) → (n = 1 → se = 0) →
      W_law 219 [.val (.int i0), .val (.int a), .val (.int b), .val (.int w), .val (.ref 0), .val (.int nv), .val (.int A), .val (.int dup), .val (.int oB), .val (.int ea), .val (.int eb), .val (.int (v9 + v10)), .val (.int ec), .val (.int d), .val (.int fi), .val (.int se), .val (.int ea), .unset, .unset, .unset, .unset, .unset, .unset, .unset, .unset, .unset] [.int eb] (LL1, m, ml, RR1) QL := by
    intro p n m ml hpn hn hnv hm hc hcap hst hf0 hf1 hse
    subst hpn
    rw [← hnv] at e11 e14 ⊢
    refine L_law_219 ?_
    refine own_com w p m ml hn hm hc hcap (fun q => ?_) (fun q1 q2 => ?_) (fun q1 q2 m2 c1 c2 c3 c4 c5 c6 c7 => ?_)
    · have : ec = 1 := by rw [e11]; rcases q with q | q <;> grind
      subst this
      have : d = 0 := by rw [e12]; decide
      subst this
      exact own_end _ _ _ _ _ _ _ _ _ _ _ _ _ _ _ m ml hn (Or.inl rfl) hse hc (by rw [hm, if_pos rfl]) hst (fun q => absurd q (by decide))
    · have : ec = 3 := by rw [e11, if_neg (fun q => q1 (Or.inl q)), if_neg (fun q => q1 (Or.inr q)), if_pos q2]
      subst this
      have : d = 0 := by rw [e12]; decide
      subst this
      exact own_end _ _ _ _ _ _ _ _ _ _ _ _ _ _ _ m ml hn (Or.inl rfl) hse hc (by rw [hm, if_pos rfl]) hst (fun q => absurd q (by decide))
    · have : ec = 0 := by rw [e11, if_neg (fun q => q1 (Or.inl q)), if_neg (fun q => q1 (Or.inr q)), if_neg q2]
      subst this
      have : d = 1 := by rw [e12]; decide
      subst this
      exact own_end _ _ _ _ _ _ _ _ _ _ _ _ _ _ _ m2 ml hn (Or.inr rfl) hse c1 (by rw [c2, if_neg (by decide)]) c3 (fun _ => ⟨q2, c4, c5, c6.trans (hf0 q2), fun q => (c7 q).trans (hf1 q)⟩)
  refine own_add a nv 0 _ _ _ (Or.inl rfl) rfl rfl rfl (fun q => ?_) (fun _ q => absurd q (by decide)) (fun q _ => ?_)
  · rw [hA] at q
    subst q
    have hdup : dup = 0 := by rw [e3, if_pos rfl]
    have hea : ea = 1 := by rw [e6, if_pos rfl]
    have h9 : v9 = 0 := by rw [e9, if_pos rfl]
    subst hdup hea h9
    refine L_law_211 ?_
    refine own_add b nv 0 _ _ _ (Or.inl rfl) rfl rfl rfl (fun q => ?_) (fun _ q => absurd q (by decide)) (fun q _ => ?_)
    · rw [hB] at q
      subst q
      have h1 : oB = 0 := by rw [e5, if_pos rfl]
      have h2 : eb = 1 := by rw [e8, if_pos rfl]
      subst h1 h2
      have h3 : v10 = 0 := by rw [e10, if_pos rfl]
      subst h3
      exact com 0 0 _ _ rfl (Or.inl rfl) zz.symm rfl rfl rfl rfl (fun q => absurd rfl q) (fun q => absurd q (by decide)) (fun q => absurd q (by decide))
    · rw [hB] at q
      subst q
      have h1 : oB = 1 := by rw [e5, if_neg (by decide), if_pos rfl]
      have h2 : eb = 0 := by rw [e8, if_neg (by decide), if_pos rfl]
      subst h1 h2
      have h3 : v10 = 1 := by rw [e10, if_neg (by decide)]
      subst h3
      refine com 1 1 _ _ rfl (Or.inr (Or.inl rfl)) zo.symm zo rfl rfl rfl (fun _ => ?_) (fun q => absurd q (by decide)) (fun _ => ?_)
      · rw [e13, if_pos rfl, z0]; rfl
      · rw [e14, zo, if_neg (by decide)]
  · rw [hA] at q
    subst q
    have hea : ea = 0 := by rw [e6, if_neg (by decide)]
    have h9 : v9 = 1 := by rw [e9, if_neg (by decide)]
    have hfi : fi = a := by rw [e13, if_neg (by decide)]
    subst hea h9 hfi
    rw [z0, zo]
    refine L_law_211 ?_
    refine own_add b nv 1 fi _ _ (Or.inr rfl) rfl rfl rfl (fun q => ?_) (fun q _ q2 => ?_) (fun q q2 => ?_)
    · rw [hB] at q
      subst q
      have h1 : oB = 0 := by rw [e5, if_pos rfl]
      have h2 : eb = 1 := by rw [e8, if_pos rfl]
      subst h1 h2
      have h3 : v10 = 0 := by rw [e10, if_pos rfl]
      subst h3
      exact com 1 1 _ _ rfl (Or.inr (Or.inl rfl)) oz.symm rfl rfl rfl rfl (fun _ => rfl) (fun q => absurd q (by decide)) (fun _ => by rw [e14, oz, if_neg (by decide)])
    · rw [hB] at q
      subst q
      have h0 : dup = 1 := by rw [e3, if_neg (by decide), if_pos q2.symm]
      subst h0
      have h1 : oB = 0 := by rw [e5, if_neg (by decide), if_neg (by decide)]
      have h2 : eb = 4 := by rw [e8, if_neg (by decide), if_neg (by decide)]
      subst h1 h2
      have h3 : v10 = 0 := by rw [e10, if_pos rfl]
      subst h3
      exact com 1 1 _ _ rfl (Or.inr (Or.inl rfl)) oz.symm rfl rfl rfl rfl (fun _ => rfl) (fun q => absurd q (by decide)) (fun _ => by rw [e14, oz, if_neg (by decide)])
    · rw [hB] at q
      subst q
      have h0 : dup = 0 := by rw [e3, if_neg (by decide), if_neg (fun z => q2 ⟨rfl, z.symm⟩)]
      subst h0
      have h1 : oB = 1 := by rw [e5, if_neg (by decide), if_pos rfl]
      have h2 : eb = 0 := by rw [e8, if_neg (by decide), if_pos rfl]
      subst h1 h2
      have h3 : v10 = 1 := by rw [e10, if_neg (by decide)]
      subst h3
      rw [z1, oo]
      refine com 2 2 _ _ rfl (Or.inr (Or.inr rfl)) oo.symm rfl rfl rfl rfl (fun _ => rfl) (fun _ => ?_) (fun q => absurd q (by decide))
      rw [e14, oo, if_pos rfl]; rfl

set_option maxRecDepth 65536 in
set_option maxHeartbeats 40000000 in
theorem comes_1 {Post : Tables → Env → Array Value → State → Outcome → State → Prop} (hpost : ∀ tb e args s v u, (limb_1_1.after args s (.returned v) u = true ∧ limb_1_2.after args s (.returned v) u = true ∧ True) → FrameEnd s (.returned v) u (Jvm.fieldLocs frame_1_writes args s ++ Jvm.arrayLocs frame_1_arrays args s ++ Jvm.staticLocs frame_1_statics s) 48 1600 → Post tb e args s (.returned v) u) :
    ArmFor flags0 classFile x code maxLocals ret World_1 tables_1 room_1 Calls_1 rest_1 Pre_1 Post := by
  intro l hfl _ _ p e ha hc hk s m args below hf hA hF happ hP
  obtain ⟨hcalls, hrest, hpre⟩ := hP
  obtain ⟨-, -, -, hnamed, -, -, -, hat⟩ := (Spec.applies_iff hf).mp happ
  obtain ⟨hg, hn⟩ := and_e (Cond.before_iff.mp (show (Jvm.Cond.and given_1 narrow_1).before args s = true from hpre))
  obtain ⟨g0, t0⟩ := and_e hg
  obtain ⟨g1, t1⟩ := and_e t0
  obtain ⟨g2, t2⟩ := and_e t1
  obtain ⟨g3, t3⟩ := and_e t2
  obtain ⟨w0, w1, w2, w3, rfl⟩ : ∃ w0 w1 w2 w3 : Value, args = #[w0, w1, w2, w3] := by
    have hs : args.size = 4 := by simpa [Cond.value, given_1] using g0
    obtain ⟨L⟩ := args
    match L, hs with
    | [w0, w1, w2, w3], _ => exact ⟨w0, w1, w2, w3, rfl⟩
  have hw := fun d (hd : d ∈ tables_1) => atoms_spec (ws := Jvm.Cond.code x code maxLocals ret :: tables_1) hat d (List.mem_cons_of_mem _ hd)
  obtain ⟨i0, e0⟩ := is_v g1
  obtain rfl : w0 = (.int i0) := Option.some.inj e0
  obtain ⟨i1, e1⟩ := is_v g2
  obtain rfl : w1 = (.int i1) := Option.some.inj e1
  obtain ⟨i2, e2⟩ := is_v g3
  obtain rfl : w2 = (.int i2) := Option.some.inj e2
  obtain ⟨i3, e3⟩ := is_v t3
  obtain rfl : w3 = (.int i3) := Option.some.inj e3
  obtain ⟨n, o, h1, h2, h3, _, L, rfl, ⟨rfl, N⟩, hq⟩ := law_run (l := l) (R := room_1) (as := [.int i0, .int i1, .int i2, .int i3]) hw (ρ := fun a => s.heap.size + a) (fun a b q => Nat.add_left_cancel q) (fun a _ => rfl) (rel0 s _) (by first | (simp [plainName, overriddenIn, x]; done) | decide +kernel) (Nat.le_of_ble_eq_true rfl) (law_ok i0 i1 i2 i3) tables_1 p e ha hc hk s m _ below hf ((Spec.applies_iff_loose hf).mp happ).1 ⟨rfl, State.Warmed39.refl s, rfl⟩ trivial
  refine ⟨n, _, h1, h2, h3, hpost _ _ _ _ _ _ ⟨Cond.after_iff.mpr rfl, Cond.after_iff.mpr (eq_i res_at (Term.int_eval (1)) rfl), trivial⟩ ⟨hq.1, hq.2.1, (hq.2.2.sift fun y hy => Or.inr (N y hy)).mono (by decide) (by decide)⟩⟩
theorem main_1_1 : Claimed_1_1 := comes_1 fun _ _ _ _ _ _ h hF => ⟨h.1, hF⟩
theorem main_1_2 : Claimed_1_2 := comes_1 fun _ _ _ _ _ _ h hF => ⟨h.2.1, hF⟩
end Jvm.Pilot.@@N@@
namespace Jvm.Pilot.@@N@@
open Jvm Jvm.ClassFile Sem Op Lib Jvm.Free Jvm.Stand Jvm.Pilot.@@N@@.Jvm.D
/-! MADE BY PROGRAM (witnessworld.py) out of the Statement's table words and the real class files: 11 classes; the members and pool entries that the words name. The judged class is class 1, her method 2. -/
namespace start1
open Jvm.ClassFile
def u (s : String) : CpInfo := .utf8 (stringToUtf16 s)
/-- a pool by its gaps: so many unusable entries, then the entry; so many at the end -/
def gap : Nat → List CpInfo → List CpInfo
  | 0, r => r
  | n + 1, r => .unusable :: gap n r
def poolList (es : List (Nat × CpInfo)) (last : Nat) : List CpInfo := es.foldr (fun e r => gap e.1 (e.2 :: r)) (gap last [])
def pool (es : List (Nat × CpInfo)) (last : Nat) : Array CpInfo := ⟨poolList es last⟩
def fileOf (pool : Array CpInfo) (this : Nat) (attrs : Array Attribute := #[]) (ms : Array MethodInfo := #[]) (fl : Nat := 33) (sup : Nat := 0) (ifs : Array Nat := #[]) (fds : Array FieldInfo := #[]) : ClassFile where
  minorVersion := 0
  majorVersion := 65
  constantPool := pool
  accessFlags := fl
  thisClass := this
  superClass := sup
  interfaces := ifs
  fields := fds
  methods := ms
  attributes := attrs
def plain (name : String) (sup : Option ClassId) : Class where
  name := name
  kind := .ordinary
  loader := none
  accessFlags := 33
  super := sup
  interfaces := #[]
  cf := none
  fields := #[]
  methods := #[]
  instanceTypes := #[]
  staticTypes := #[]
  resolved := #[]
  callSites := []
  init := .initialized
  statics := none
  mirror := none

def pool0 : Array CpInfo := pool [(5, u "<init>"), (0, u "()V"), (1, .class_ 10), (1, u "java/lang/Object")] 113

def k0c0 : Code := { maxStack := 0, maxLocals := 1, code := object_method_1_code, exceptionTable := #[], attributes := #[] }
def k0m0 : Method := { name := "<init>", desc := "()V", sig := { parameters := [], returnType := none }, accessFlags := 1, code := some k0c0 }
/-- java/lang/Object -/
def k0 : Class := { plain "java/lang/Object" none with
  accessFlags := 33
  interfaces := #[]
  cf := some (fileOf pool0 8 #[] #[{ accessFlags := 1, nameIndex := 5, descriptorIndex := 6, attributes := #[] }] 33 0 #[] #[])
  fields := #[]
  methods := #[k0m0]
  instanceTypes := #[]
  staticTypes := #[]
  resolved := Array.replicate 124 none
  statics := none }

def pool1 : Array CpInfo := pool [(2, .class_ 4), (1, u "java/lang/Object"), (0, u "<init>"), (0, u "()V"), (0, .class_ 8), (0, u "HittingMaxSat"), (0, .methodref 7 10), (0, .nameAndType 5 11), (0, u "(II)V"), (0, .methodref 13 14), (0, .class_ 15), (0, .nameAndType 16 17), (0, u "HittingMaxSatL2"), (0, u "in"), (0, u "(II)Z"), (0, .methodref 7 19), (0, .nameAndType 20 21), (0, u "addLiteral"), (0, u "(I)I"), (0, .methodref 7 23), (0, .nameAndType 24 21), (0, u "commitSoft"), (0, .methodref 7 26), (0, .nameAndType 27 28), (0, u "getClauseCount"), (0, u "()I"), (0, .methodref 7 30), (0, .nameAndType 31 21), (0, u "getClauseWeight"), (0, .methodref 7 33), (0, .nameAndType 34 21), (0, u "getClauseLength"), (0, .methodref 7 36), (0, .nameAndType 37 38), (0, u "getClauseLiteral"), (0, u "(II)I"), (0, .methodref 7 40), (0, .nameAndType 41 28), (0, u "getPendingLength"), (0, .methodref 7 43), (0, .nameAndType 44 28), (0, u "getStatus"), (3, u "law"), (0, u "(IIII)Z")] 2

def k1m0 : Method := { name := "<init>", desc := "()V", sig := { parameters := [], returnType := none }, accessFlags := 1, code := none }
def k1c1 : Code := { maxStack := 2, maxLocals := 2, code := method_2_code, exceptionTable := #[], attributes := #[] }
def k1m1 : Method := { name := "in", desc := "(II)Z", sig := { parameters := [.int, .int], returnType := some .boolean }, accessFlags := 10, code := some k1c1 }
def k1c2 : Code := { maxStack := 4, maxLocals := 26, code := code, exceptionTable := #[], attributes := #[] }
def k1m2 : Method := { name := "law", desc := "(IIII)Z", sig := { parameters := [.int, .int, .int, .int], returnType := some .boolean }, accessFlags := 9, code := some k1c2 }
/-- HittingMaxSatL2 -/
def k1 : Class := { plain "HittingMaxSatL2" (some 0) with
  accessFlags := 33
  interfaces := #[]
  cf := some (fileOf pool1 13 #[] #[{ accessFlags := 1, nameIndex := 5, descriptorIndex := 6, attributes := #[] }, { accessFlags := 10, nameIndex := 16, descriptorIndex := 17, attributes := #[] }, { accessFlags := 9, nameIndex := 48, descriptorIndex := 49, attributes := #[] }] 33 2 #[] #[])
  fields := #[]
  methods := #[k1m0, k1m1, k1m2]
  instanceTypes := #[]
  staticTypes := #[]
  resolved := Array.replicate 52 none
  statics := none }

def pool2 : Array CpInfo := pool [(1, .methodref 2 3), (0, .class_ 4), (0, .nameAndType 5 6), (0, u "java/lang/Object"), (0, u "<init>"), (0, u "()V"), (0, .fieldref 8 9), (0, .class_ 10), (0, .nameAndType 11 12), (0, u "HittingMaxSat"), (0, u "noSolution"), (0, u "I"), (0, .fieldref 8 14), (0, .nameAndType 15 12), (0, u "gaveUp"), (0, .fieldref 8 17), (0, .nameAndType 18 12), (0, u "scanOpen"), (0, .fieldref 8 20), (0, .nameAndType 21 12), (0, u "scanUnit"), (0, .fieldref 8 23), (0, .nameAndType 24 12), (0, u "scanConflict"), (0, .fieldref 8 26), (0, .nameAndType 27 12), (0, u "scanSatisfied"), (0, .integer 1048576), (0, .fieldref 8 30), (0, .nameAndType 31 12), (0, u "infiniteBound"), (0, .fieldref 8 33), (0, .nameAndType 34 12), (0, u "searchLimit"), (0, .integer 50000), (0, .fieldref 8 37), (0, .nameAndType 38 12), (0, u "hsStepLimit"), (0, .fieldref 8 40), (0, .nameAndType 41 12), (0, u "coreCapacity"), (0, .fieldref 8 43), (0, .nameAndType 44 45), (0, u "litStore"), (0, u "[I"), (0, .fieldref 8 47), (0, .nameAndType 48 45), (0, u "clauseLen"), (0, .fieldref 8 50), (0, .nameAndType 51 45), (0, u "clauseWeight"), (0, .fieldref 8 53), (0, .nameAndType 54 45), (0, u "pending"), (0, .fieldref 8 56), (0, .nameAndType 57 45), (0, u "val"), (0, .fieldref 8 59), (0, .nameAndType 60 45), (0, u "fixVal"), (0, .fieldref 8 62), (0, .nameAndType 63 45), (0, u "trail"), (0, .fieldref 8 65), (0, .nameAndType 66 45), (0, u "levelStart"), (0, .fieldref 8 68), (0, .nameAndType 69 45), (0, u "decVar"), (0, .fieldref 8 71), (0, .nameAndType 72 73), (0, u "decFlipped"), (0, u "[Z"), (0, .fieldref 8 75), (0, .nameAndType 76 45), (0, u "cores"), (0, .fieldref 8 78), (0, .nameAndType 79 45), (0, u "frChosen"), (0, .fieldref 8 81), (0, .nameAndType 82 45), (0, u "frExcl"), (0, .fieldref 8 84), (0, .nameAndType 85 45), (0, u "frWeight"), (0, .fieldref 8 87), (0, .nameAndType 88 45), (0, u "frCore"), (0, .fieldref 8 90), (0, .nameAndType 91 45), (0, u "frNext"), (0, .methodref 8 93), (0, .nameAndType 94 95), (0, u "clamp"), (0, u "(III)I"), (0, .fieldref 8 97), (0, .nameAndType 98 12), (0, u "numVars"), (0, .fieldref 8 100), (0, .nameAndType 101 12), (0, u "capacity"), (0, .fieldref 8 103), (0, .nameAndType 104 12), (0, u "clauseCount"), (0, .fieldref 8 106), (0, .nameAndType 107 12), (0, u "pendingLen"), (0, .methodref 8 109), (0, .nameAndType 110 6), (0, u "markUnsolved"), (0, .methodref 8 112), (0, .nameAndType 113 114), (0, u "literalInRange"), (0, u "(I)Z"), (0, .methodref 8 116), (0, .nameAndType 117 114), (0, u "pendingContains"), (0, .methodref 8 119), (0, .nameAndType 120 121), (0, u "appendPending"), (0, u "(I)V"), (6, u "()I"), (3, .fieldref 8 133), (0, .nameAndType 134 12), (0, u "status"), (0, .fieldref 8 136), (0, .nameAndType 137 12), (0, u "cost"), (0, .fieldref 8 139), (0, .nameAndType 140 12), (0, u "model"), (4, .methodref 8 146), (0, .nameAndType 147 114), (0, u "clauseIndexValid"), (3, u "(I)I"), (2, u "hardSet"), (2, u "softSet"), (2, u "softTotal"), (5, u "coreCount"), (2, u "aborted"), (0, u "Z"), (5, u "witness"), (3, u "(II)I"), (5, u "ubCost"), (2, u "ubModel"), (15, u "hsBestSet"), (2, u "satModel"), (8, u "lastCore"), (5, u "hsBestW"), (2, u "hsFound"), (2, u "hsDepth"), (28, u "activeMask"), (23, u "trailLen"), (2, u "level"), (3, u "(II)V"), (12, u "OK"), (2, u "ERR_RANGE"), (1, u "ERR_FULL"), (1, u "ERR_EMPTY"), (1, u "ERR_DUPLICATE"), (1, u "UNSOLVED"), (0, u "OPTIMUM"), (0, u "INFEASIBLE"), (0, u "MAX_CLAUSE_LENGTH"), (1, u "MIN_WEIGHT"), (0, u "MAX_WEIGHT"), (7, u "addLiteral"), (3, u "commitSoft"), (2, u "getStatus"), (3, u "getClauseCount"), (0, u "getClauseWeight"), (0, u "getClauseLength"), (0, u "getClauseLiteral"), (0, u "getPendingLength")] 2

def k2c0 : Code := { maxStack := 5, maxLocals := 3, code := prog_1_method_1_code, exceptionTable := #[], attributes := #[] }
def k2m0 : Method := { name := "<init>", desc := "(II)V", sig := { parameters := [.int, .int], returnType := none }, accessFlags := 1, code := some k2c0 }
def k2c1 : Code := { maxStack := 3, maxLocals := 2, code := prog_1_method_2_code, exceptionTable := #[], attributes := #[] }
def k2m1 : Method := { name := "addLiteral", desc := "(I)I", sig := { parameters := [.int], returnType := some .int }, accessFlags := 1, code := some k2c1 }
def k2c2 : Code := { maxStack := 2, maxLocals := 2, code := prog_1_method_5_code, exceptionTable := #[], attributes := #[] }
def k2m2 : Method := { name := "commitSoft", desc := "(I)I", sig := { parameters := [.int], returnType := some .int }, accessFlags := 1, code := some k2c2 }
def k2c3 : Code := { maxStack := 1, maxLocals := 1, code := prog_1_method_8_code, exceptionTable := #[], attributes := #[] }
def k2m3 : Method := { name := "getStatus", desc := "()I", sig := { parameters := [], returnType := some .int }, accessFlags := 1, code := some k2c3 }
def k2c4 : Code := { maxStack := 1, maxLocals := 1, code := prog_1_method_13_code, exceptionTable := #[], attributes := #[] }
def k2m4 : Method := { name := "getClauseCount", desc := "()I", sig := { parameters := [], returnType := some .int }, accessFlags := 1, code := some k2c4 }
def k2c5 : Code := { maxStack := 2, maxLocals := 2, code := prog_1_method_14_code, exceptionTable := #[], attributes := #[] }
def k2m5 : Method := { name := "getClauseWeight", desc := "(I)I", sig := { parameters := [.int], returnType := some .int }, accessFlags := 1, code := some k2c5 }
def k2c6 : Code := { maxStack := 2, maxLocals := 2, code := prog_1_method_15_code, exceptionTable := #[], attributes := #[] }
def k2m6 : Method := { name := "getClauseLength", desc := "(I)I", sig := { parameters := [.int], returnType := some .int }, accessFlags := 1, code := some k2c6 }
def k2c7 : Code := { maxStack := 3, maxLocals := 4, code := prog_1_method_16_code, exceptionTable := #[], attributes := #[] }
def k2m7 : Method := { name := "getClauseLiteral", desc := "(II)I", sig := { parameters := [.int, .int], returnType := some .int }, accessFlags := 1, code := some k2c7 }
def k2c8 : Code := { maxStack := 1, maxLocals := 1, code := prog_1_method_17_code, exceptionTable := #[], attributes := #[] }
def k2m8 : Method := { name := "getPendingLength", desc := "()I", sig := { parameters := [], returnType := some .int }, accessFlags := 1, code := some k2c8 }
def k2c9 : Code := { maxStack := 2, maxLocals := 4, code := prog_1_method_18_code, exceptionTable := #[], attributes := #[] }
def k2m9 : Method := { name := "clamp", desc := "(III)I", sig := { parameters := [.int, .int, .int], returnType := some .int }, accessFlags := 2, code := some k2c9 }
def k2c10 : Code := { maxStack := 2, maxLocals := 2, code := prog_1_method_20_code, exceptionTable := #[], attributes := #[] }
def k2m10 : Method := { name := "literalInRange", desc := "(I)Z", sig := { parameters := [.int], returnType := some .boolean }, accessFlags := 2, code := some k2c10 }
def k2c11 : Code := { maxStack := 2, maxLocals := 3, code := prog_1_method_21_code, exceptionTable := #[], attributes := #[] }
def k2m11 : Method := { name := "pendingContains", desc := "(I)Z", sig := { parameters := [.int], returnType := some .boolean }, accessFlags := 2, code := some k2c11 }
def k2c12 : Code := { maxStack := 2, maxLocals := 2, code := prog_1_method_22_code, exceptionTable := #[], attributes := #[] }
def k2m12 : Method := { name := "clauseIndexValid", desc := "(I)Z", sig := { parameters := [.int], returnType := some .boolean }, accessFlags := 2, code := some k2c12 }
def k2c13 : Code := { maxStack := 4, maxLocals := 5, code := prog_1_method_23_code, exceptionTable := #[], attributes := #[] }
def k2m13 : Method := { name := "appendPending", desc := "(I)V", sig := { parameters := [.int], returnType := none }, accessFlags := 2, code := some k2c13 }
def k2c14 : Code := { maxStack := 2, maxLocals := 1, code := prog_1_method_24_code, exceptionTable := #[], attributes := #[] }
def k2m14 : Method := { name := "markUnsolved", desc := "()V", sig := { parameters := [], returnType := none }, accessFlags := 2, code := some k2c14 }
/-- HittingMaxSat -/
def k2 : Class := { plain "HittingMaxSat" (some 0) with
  accessFlags := 49
  interfaces := #[]
  cf := some (fileOf pool2 8 #[] #[{ accessFlags := 1, nameIndex := 5, descriptorIndex := 289, attributes := #[] }, { accessFlags := 1, nameIndex := 327, descriptorIndex := 151, attributes := #[] }, { accessFlags := 1, nameIndex := 331, descriptorIndex := 151, attributes := #[] }, { accessFlags := 1, nameIndex := 334, descriptorIndex := 128, attributes := #[] }, { accessFlags := 1, nameIndex := 338, descriptorIndex := 128, attributes := #[] }, { accessFlags := 1, nameIndex := 339, descriptorIndex := 151, attributes := #[] }, { accessFlags := 1, nameIndex := 340, descriptorIndex := 151, attributes := #[] }, { accessFlags := 1, nameIndex := 341, descriptorIndex := 180, attributes := #[] }, { accessFlags := 1, nameIndex := 342, descriptorIndex := 128, attributes := #[] }, { accessFlags := 2, nameIndex := 94, descriptorIndex := 95, attributes := #[] }, { accessFlags := 2, nameIndex := 113, descriptorIndex := 114, attributes := #[] }, { accessFlags := 2, nameIndex := 117, descriptorIndex := 114, attributes := #[] }, { accessFlags := 2, nameIndex := 147, descriptorIndex := 114, attributes := #[] }, { accessFlags := 2, nameIndex := 120, descriptorIndex := 121, attributes := #[] }, { accessFlags := 2, nameIndex := 110, descriptorIndex := 6, attributes := #[] }] 49 2 #[] #[{ accessFlags := 25, nameIndex := 302, descriptorIndex := 12, attributes := #[] }, { accessFlags := 25, nameIndex := 305, descriptorIndex := 12, attributes := #[] }, { accessFlags := 25, nameIndex := 307, descriptorIndex := 12, attributes := #[] }, { accessFlags := 25, nameIndex := 309, descriptorIndex := 12, attributes := #[] }, { accessFlags := 25, nameIndex := 311, descriptorIndex := 12, attributes := #[] }, { accessFlags := 25, nameIndex := 313, descriptorIndex := 12, attributes := #[] }, { accessFlags := 25, nameIndex := 314, descriptorIndex := 12, attributes := #[] }, { accessFlags := 25, nameIndex := 315, descriptorIndex := 12, attributes := #[] }, { accessFlags := 25, nameIndex := 316, descriptorIndex := 12, attributes := #[] }, { accessFlags := 25, nameIndex := 318, descriptorIndex := 12, attributes := #[] }, { accessFlags := 25, nameIndex := 319, descriptorIndex := 12, attributes := #[] }, { accessFlags := 18, nameIndex := 11, descriptorIndex := 12, attributes := #[] }, { accessFlags := 18, nameIndex := 15, descriptorIndex := 12, attributes := #[] }, { accessFlags := 18, nameIndex := 18, descriptorIndex := 12, attributes := #[] }, { accessFlags := 18, nameIndex := 21, descriptorIndex := 12, attributes := #[] }, { accessFlags := 18, nameIndex := 24, descriptorIndex := 12, attributes := #[] }, { accessFlags := 18, nameIndex := 27, descriptorIndex := 12, attributes := #[] }, { accessFlags := 18, nameIndex := 31, descriptorIndex := 12, attributes := #[] }, { accessFlags := 18, nameIndex := 34, descriptorIndex := 12, attributes := #[] }, { accessFlags := 18, nameIndex := 38, descriptorIndex := 12, attributes := #[] }, { accessFlags := 18, nameIndex := 41, descriptorIndex := 12, attributes := #[] }, { accessFlags := 2, nameIndex := 98, descriptorIndex := 12, attributes := #[] }, { accessFlags := 2, nameIndex := 101, descriptorIndex := 12, attributes := #[] }, { accessFlags := 18, nameIndex := 44, descriptorIndex := 45, attributes := #[] }, { accessFlags := 18, nameIndex := 48, descriptorIndex := 45, attributes := #[] }, { accessFlags := 18, nameIndex := 51, descriptorIndex := 45, attributes := #[] }, { accessFlags := 2, nameIndex := 104, descriptorIndex := 12, attributes := #[] }, { accessFlags := 18, nameIndex := 54, descriptorIndex := 45, attributes := #[] }, { accessFlags := 2, nameIndex := 107, descriptorIndex := 12, attributes := #[] }, { accessFlags := 2, nameIndex := 134, descriptorIndex := 12, attributes := #[] }, { accessFlags := 2, nameIndex := 137, descriptorIndex := 12, attributes := #[] }, { accessFlags := 2, nameIndex := 140, descriptorIndex := 12, attributes := #[] }, { accessFlags := 2, nameIndex := 154, descriptorIndex := 12, attributes := #[] }, { accessFlags := 2, nameIndex := 157, descriptorIndex := 12, attributes := #[] }, { accessFlags := 2, nameIndex := 160, descriptorIndex := 12, attributes := #[] }, { accessFlags := 18, nameIndex := 57, descriptorIndex := 45, attributes := #[] }, { accessFlags := 18, nameIndex := 60, descriptorIndex := 45, attributes := #[] }, { accessFlags := 18, nameIndex := 63, descriptorIndex := 45, attributes := #[] }, { accessFlags := 2, nameIndex := 282, descriptorIndex := 12, attributes := #[] }, { accessFlags := 18, nameIndex := 66, descriptorIndex := 45, attributes := #[] }, { accessFlags := 18, nameIndex := 69, descriptorIndex := 45, attributes := #[] }, { accessFlags := 18, nameIndex := 72, descriptorIndex := 73, attributes := #[] }, { accessFlags := 2, nameIndex := 285, descriptorIndex := 12, attributes := #[] }, { accessFlags := 2, nameIndex := 258, descriptorIndex := 12, attributes := #[] }, { accessFlags := 2, nameIndex := 208, descriptorIndex := 12, attributes := #[] }, { accessFlags := 2, nameIndex := 169, descriptorIndex := 170, attributes := #[] }, { accessFlags := 18, nameIndex := 76, descriptorIndex := 45, attributes := #[] }, { accessFlags := 2, nameIndex := 166, descriptorIndex := 12, attributes := #[] }, { accessFlags := 2, nameIndex := 217, descriptorIndex := 12, attributes := #[] }, { accessFlags := 18, nameIndex := 79, descriptorIndex := 45, attributes := #[] }, { accessFlags := 18, nameIndex := 82, descriptorIndex := 45, attributes := #[] }, { accessFlags := 18, nameIndex := 85, descriptorIndex := 45, attributes := #[] }, { accessFlags := 18, nameIndex := 88, descriptorIndex := 45, attributes := #[] }, { accessFlags := 18, nameIndex := 91, descriptorIndex := 45, attributes := #[] }, { accessFlags := 2, nameIndex := 229, descriptorIndex := 12, attributes := #[] }, { accessFlags := 2, nameIndex := 223, descriptorIndex := 12, attributes := #[] }, { accessFlags := 2, nameIndex := 205, descriptorIndex := 12, attributes := #[] }, { accessFlags := 2, nameIndex := 226, descriptorIndex := 170, attributes := #[] }, { accessFlags := 2, nameIndex := 186, descriptorIndex := 12, attributes := #[] }, { accessFlags := 2, nameIndex := 189, descriptorIndex := 12, attributes := #[] }, { accessFlags := 2, nameIndex := 176, descriptorIndex := 12, attributes := #[] }])
  fields := #[{ name := "OK", type := .int, accessFlags := 25, slot := 0, constantValue := 0 }, { name := "ERR_RANGE", type := .int, accessFlags := 25, slot := 1, constantValue := 0 }, { name := "ERR_FULL", type := .int, accessFlags := 25, slot := 2, constantValue := 0 }, { name := "ERR_EMPTY", type := .int, accessFlags := 25, slot := 3, constantValue := 0 }, { name := "ERR_DUPLICATE", type := .int, accessFlags := 25, slot := 4, constantValue := 0 }, { name := "UNSOLVED", type := .int, accessFlags := 25, slot := 5, constantValue := 0 }, { name := "OPTIMUM", type := .int, accessFlags := 25, slot := 6, constantValue := 0 }, { name := "INFEASIBLE", type := .int, accessFlags := 25, slot := 7, constantValue := 0 }, { name := "MAX_CLAUSE_LENGTH", type := .int, accessFlags := 25, slot := 8, constantValue := 0 }, { name := "MIN_WEIGHT", type := .int, accessFlags := 25, slot := 9, constantValue := 0 }, { name := "MAX_WEIGHT", type := .int, accessFlags := 25, slot := 10, constantValue := 0 }, { name := "noSolution", type := .int, accessFlags := 18, slot := 0, constantValue := 0 }, { name := "gaveUp", type := .int, accessFlags := 18, slot := 1, constantValue := 0 }, { name := "scanOpen", type := .int, accessFlags := 18, slot := 2, constantValue := 0 }, { name := "scanUnit", type := .int, accessFlags := 18, slot := 3, constantValue := 0 }, { name := "scanConflict", type := .int, accessFlags := 18, slot := 4, constantValue := 0 }, { name := "scanSatisfied", type := .int, accessFlags := 18, slot := 5, constantValue := 0 }, { name := "infiniteBound", type := .int, accessFlags := 18, slot := 6, constantValue := 0 }, { name := "searchLimit", type := .int, accessFlags := 18, slot := 7, constantValue := 0 }, { name := "hsStepLimit", type := .int, accessFlags := 18, slot := 8, constantValue := 0 }, { name := "coreCapacity", type := .int, accessFlags := 18, slot := 9, constantValue := 0 }, { name := "numVars", type := .int, accessFlags := 2, slot := 10, constantValue := 0 }, { name := "capacity", type := .int, accessFlags := 2, slot := 11, constantValue := 0 }, { name := "litStore", type := (.array .int), accessFlags := 18, slot := 12, constantValue := 0 }, { name := "clauseLen", type := (.array .int), accessFlags := 18, slot := 13, constantValue := 0 }, { name := "clauseWeight", type := (.array .int), accessFlags := 18, slot := 14, constantValue := 0 }, { name := "clauseCount", type := .int, accessFlags := 2, slot := 15, constantValue := 0 }, { name := "pending", type := (.array .int), accessFlags := 18, slot := 16, constantValue := 0 }, { name := "pendingLen", type := .int, accessFlags := 2, slot := 17, constantValue := 0 }, { name := "status", type := .int, accessFlags := 2, slot := 18, constantValue := 0 }, { name := "cost", type := .int, accessFlags := 2, slot := 19, constantValue := 0 }, { name := "model", type := .int, accessFlags := 2, slot := 20, constantValue := 0 }, { name := "hardSet", type := .int, accessFlags := 2, slot := 21, constantValue := 0 }, { name := "softSet", type := .int, accessFlags := 2, slot := 22, constantValue := 0 }, { name := "softTotal", type := .int, accessFlags := 2, slot := 23, constantValue := 0 }, { name := "val", type := (.array .int), accessFlags := 18, slot := 24, constantValue := 0 }, { name := "fixVal", type := (.array .int), accessFlags := 18, slot := 25, constantValue := 0 }, { name := "trail", type := (.array .int), accessFlags := 18, slot := 26, constantValue := 0 }, { name := "trailLen", type := .int, accessFlags := 2, slot := 27, constantValue := 0 }, { name := "levelStart", type := (.array .int), accessFlags := 18, slot := 28, constantValue := 0 }, { name := "decVar", type := (.array .int), accessFlags := 18, slot := 29, constantValue := 0 }, { name := "decFlipped", type := (.array .boolean), accessFlags := 18, slot := 30, constantValue := 0 }, { name := "level", type := .int, accessFlags := 2, slot := 31, constantValue := 0 }, { name := "activeMask", type := .int, accessFlags := 2, slot := 32, constantValue := 0 }, { name := "satModel", type := .int, accessFlags := 2, slot := 33, constantValue := 0 }, { name := "aborted", type := .boolean, accessFlags := 2, slot := 34, constantValue := 0 }, { name := "cores", type := (.array .int), accessFlags := 18, slot := 35, constantValue := 0 }, { name := "coreCount", type := .int, accessFlags := 2, slot := 36, constantValue := 0 }, { name := "lastCore", type := .int, accessFlags := 2, slot := 37, constantValue := 0 }, { name := "frChosen", type := (.array .int), accessFlags := 18, slot := 38, constantValue := 0 }, { name := "frExcl", type := (.array .int), accessFlags := 18, slot := 39, constantValue := 0 }, { name := "frWeight", type := (.array .int), accessFlags := 18, slot := 40, constantValue := 0 }, { name := "frCore", type := (.array .int), accessFlags := 18, slot := 41, constantValue := 0 }, { name := "frNext", type := (.array .int), accessFlags := 18, slot := 42, constantValue := 0 }, { name := "hsDepth", type := .int, accessFlags := 2, slot := 43, constantValue := 0 }, { name := "hsBestW", type := .int, accessFlags := 2, slot := 44, constantValue := 0 }, { name := "hsBestSet", type := .int, accessFlags := 2, slot := 45, constantValue := 0 }, { name := "hsFound", type := .boolean, accessFlags := 2, slot := 46, constantValue := 0 }, { name := "ubCost", type := .int, accessFlags := 2, slot := 47, constantValue := 0 }, { name := "ubModel", type := .int, accessFlags := 2, slot := 48, constantValue := 0 }, { name := "witness", type := .int, accessFlags := 2, slot := 49, constantValue := 0 }]
  methods := #[k2m0, k2m1, k2m2, k2m3, k2m4, k2m5, k2m6, k2m7, k2m8, k2m9, k2m10, k2m11, k2m12, k2m13, k2m14]
  instanceTypes := #[.int, .int, .int, .int, .int, .int, .int, .int, .int, .int, .int, .int, (.array .int), (.array .int), (.array .int), .int, (.array .int), .int, .int, .int, .int, .int, .int, .int, (.array .int), (.array .int), (.array .int), .int, (.array .int), (.array .int), (.array .boolean), .int, .int, .int, .boolean, (.array .int), .int, .int, (.array .int), (.array .int), (.array .int), (.array .int), (.array .int), .int, .int, .int, .boolean, .int, .int, .int]
  staticTypes := #[.int, .int, .int, .int, .int, .int, .int, .int, .int, .int, .int]
  resolved := Array.replicate 345 none
  statics := none }

def pool3 : Array CpInfo := pool [(1, u "java/lang/Cloneable"), (0, .class_ 1), (0, u "java/lang/Object"), (0, .class_ 3)] 3

/-- java/lang/Cloneable -/
def k3 : Class := { plain "java/lang/Cloneable" (some 0) with
  accessFlags := 1537
  interfaces := #[]
  cf := some (fileOf pool3 2 #[] #[] 1537 4 #[] #[])
  fields := #[]
  methods := #[]
  instanceTypes := #[]
  staticTypes := #[]
  resolved := Array.replicate 8 none
  statics := none }

def pool4 : Array CpInfo := pool [(1, u "java/io/Serializable"), (0, .class_ 1), (0, u "java/lang/Object"), (0, .class_ 3)] 3

/-- java/io/Serializable -/
def k4 : Class := { plain "java/io/Serializable" (some 0) with
  accessFlags := 1537
  interfaces := #[]
  cf := some (fileOf pool4 2 #[] #[] 1537 4 #[] #[])
  fields := #[]
  methods := #[]
  instanceTypes := #[]
  staticTypes := #[]
  resolved := Array.replicate 8 none
  statics := none }

/-- the primitive boolean -/
def k5 : Class := { plain "boolean" none with kind := .primitive 'Z', accessFlags := 0x411 }
/-- [Z -/
def k6 : Class := { plain "[Z" (some 0) with kind := .array 5 .boolean, interfaces := #[3, 4], accessFlags := 1041 }

/-- the primitive byte -/
def k7 : Class := { plain "byte" none with kind := .primitive 'B', accessFlags := 0x411 }
/-- [B -/
def k8 : Class := { plain "[B" (some 0) with kind := .array 7 .byte, interfaces := #[3, 4], accessFlags := 1041 }

/-- the primitive int -/
def k9 : Class := { plain "int" none with kind := .primitive 'I', accessFlags := 0x411 }
/-- [I -/
def k10 : Class := { plain "[I" (some 0) with kind := .array 9 .int, interfaces := #[3, 4], accessFlags := 1041 }

def heap : Heap := #[]
def classes : Array Class := #[k0, k1, k2, k3, k4, k5, k6, k7, k8, k9, k10]
def interned : List (Array UInt16 × Addr) := []
def slotsUsed : Nat := 0
def theMethod : MethodId := ⟨1, 2⟩
def args0 : Array Value := #[.int 5, .int 5, .int 5, .int 5]
def aboutOver (below : List Frame) : State where
  vm := { classes := classes, interned := interned.toArray }
  heap := heap
  slotsUsed := slotsUsed
  threads := #[{ frames := .invoking theMethod args0 :: below }]
def below0 : List Frame := [.native { method := ⟨0, 0⟩, args := #[] }]
def about1 : State := aboutOver below0
def p0 : Program := .bare "" "" ""
def e0 : Env := launch0.env 0 0 0
theorem w_frames : about1.frames = Frame.invoking theMethod args0 :: below0 := rfl
set_option maxRecDepth 65536 in
theorem w_args : argsFit about1.vm theMethod args0 = true := by decide +kernel
set_option maxRecDepth 65536 in
theorem w_heap : heapFits about1 = true := by decide +kernel
set_option maxRecDepth 65536 in
theorem w_runnable : about1.curStatus? = some .runnable := by decide +kernel
set_option maxRecDepth 65536 in
theorem w_alone : about1.alone = true := by decide +kernel
set_option maxRecDepth 65536 in
theorem w_named : about1.methodNamed? x = some theMethod := by decide +kernel
set_option maxRecDepth 65536 in
theorem w_hears : about1.hears theMethod below0 = true := by decide +kernel
set_option maxRecDepth 65536 in
theorem w_ripe : about1.ripe theMethod args0 below0 = true := by decide +kernel
theorem w_running : about1.status = .running := rfl
set_option maxRecDepth 65536 in
theorem w_room : about1.hasRoom e0.platform room_1 = true :=
  launch0.hasRoom_least _ room_1 (by decide +kernel) (by decide +kernel) (by decide +kernel) (by decide +kernel) (by decide +kernel) (by decide +kernel)
theorem allAtoms_all (ts : List Jvm.Cond) (a : Array Jvm.Value) (st : Jvm.State) : (allAtoms ts).before a st = ts.all (fun c => c.before a st) := by
  induction ts with
  | nil => rfl
  | cons c t ih =>
    show (Jvm.Cond.and c (allAtoms t)).before a st = _
    rw [Jvm.Cond.before_and, ih, List.all_cons]
def words1 : List Jvm.Cond := Jvm.Cond.code x code maxLocals ret :: tables_1
/-- a 'code' word, met by the world's own term for the bytes: nothing is compared byte by byte -/
theorem code_word {y : MethodName} {bytes : ByteArray} {mx : Nat} {rt : Option FieldType} {a : Array Value} {s : State} {m : MethodId} {meth : Method} {c : Code} (h1 : s.methodNamed? y = some m) (h2 : s.vm.method? m = some meth) (h3 : meth.code = some c) (h4 : c.code = bytes)
    (h5 : (c.maxLocals == mx && c.exceptionTable.isEmpty && decide (c.maxStack ≤ mostOperands) && decide (meth.sig.returnType = rt) && !meth.locks && decide (parseMethodDescriptor y.desc = some meth.sig)) = true) : (Jvm.Cond.code y bytes mx rt).before a s = true := by
  simp only [Bool.and_eq_true, beq_iff_eq, Bool.not_eq_true', decide_eq_true_eq] at h5
  obtain ⟨⟨⟨⟨⟨g1, g2⟩, g3⟩, g4⟩, g5⟩, g6⟩ := h5
  simp [Cond.before, Cond.holds, Cond.value, h1, h2, h3, h4, g1, g2, g3, g4, g5, g6]
def isCode : Jvm.Cond → Bool
  | .code _ _ _ _ => true
  | _ => false
theorem all_split {L : List Jvm.Cond} {P : Jvm.Cond → Bool} (h1 : L.all (fun c => isCode c || P c) = true) (h2 : ∀ c ∈ L.filter isCode, P c = true) : L.all P = true := by
  refine List.all_eq_true.mpr fun c hc => ?_
  have h := List.all_eq_true.mp h1 c hc
  rcases Bool.eq_false_or_eq_true (isCode c) with hi | hi
  · exact h2 c (List.mem_filter.mpr ⟨hc, hi⟩)
  · simpa [hi] using h
set_option maxRecDepth 65536 in
theorem w_c0 : (Jvm.Cond.code x code maxLocals ret).before args0 about1 = true := code_word (m := ⟨1, 2⟩) (meth := k1m2) (c := k1c2) (by decide +kernel) rfl rfl rfl (by decide +kernel)
set_option maxRecDepth 65536 in
theorem w_c1 : (Jvm.Cond.code ({ cls := "HittingMaxSat", name := "<init>", desc := "(II)V" } : Jvm.MethodName) prog_1_method_1_code (3 : Nat) (Option.none : Option Jvm.ClassFile.FieldType)).before args0 about1 = true := code_word (m := ⟨2, 0⟩) (meth := k2m0) (c := k2c0) (by decide +kernel) rfl rfl rfl (by decide +kernel)
set_option maxRecDepth 65536 in
theorem w_c2 : (Jvm.Cond.code ({ cls := "java/lang/Object", name := "<init>", desc := "()V" } : Jvm.MethodName) object_method_1_code (1 : Nat) (Option.none : Option Jvm.ClassFile.FieldType)).before args0 about1 = true := code_word (m := ⟨0, 0⟩) (meth := k0m0) (c := k0c0) (by decide +kernel) rfl rfl rfl (by decide +kernel)
set_option maxRecDepth 65536 in
theorem w_c3 : (Jvm.Cond.code ({ cls := "HittingMaxSat", name := "clamp", desc := "(III)I" } : Jvm.MethodName) prog_1_method_18_code (4 : Nat) (Option.some Jvm.ClassFile.FieldType.int)).before args0 about1 = true := code_word (m := ⟨2, 9⟩) (meth := k2m9) (c := k2c9) (by decide +kernel) rfl rfl rfl (by decide +kernel)
set_option maxRecDepth 65536 in
theorem w_c4 : (Jvm.Cond.code ({ cls := "HittingMaxSat", name := "markUnsolved", desc := "()V" } : Jvm.MethodName) prog_1_method_24_code (1 : Nat) (Option.none : Option Jvm.ClassFile.FieldType)).before args0 about1 = true := code_word (m := ⟨2, 14⟩) (meth := k2m14) (c := k2c14) (by decide +kernel) rfl rfl rfl (by decide +kernel)
set_option maxRecDepth 65536 in
theorem w_c5 : (Jvm.Cond.code ({ cls := "HittingMaxSatL2", name := "in", desc := "(II)Z" } : Jvm.MethodName) method_2_code (2 : Nat) (Option.some Jvm.ClassFile.FieldType.boolean)).before args0 about1 = true := code_word (m := ⟨1, 1⟩) (meth := k1m1) (c := k1c1) (by decide +kernel) rfl rfl rfl (by decide +kernel)
set_option maxRecDepth 65536 in
theorem w_c6 : (Jvm.Cond.code ({ cls := "HittingMaxSat", name := "addLiteral", desc := "(I)I" } : Jvm.MethodName) prog_1_method_2_code (2 : Nat) (Option.some Jvm.ClassFile.FieldType.int)).before args0 about1 = true := code_word (m := ⟨2, 1⟩) (meth := k2m1) (c := k2c1) (by decide +kernel) rfl rfl rfl (by decide +kernel)
set_option maxRecDepth 65536 in
theorem w_c7 : (Jvm.Cond.code ({ cls := "HittingMaxSat", name := "literalInRange", desc := "(I)Z" } : Jvm.MethodName) prog_1_method_20_code (2 : Nat) (Option.some Jvm.ClassFile.FieldType.boolean)).before args0 about1 = true := code_word (m := ⟨2, 10⟩) (meth := k2m10) (c := k2c10) (by decide +kernel) rfl rfl rfl (by decide +kernel)
set_option maxRecDepth 65536 in
theorem w_c8 : (Jvm.Cond.code ({ cls := "HittingMaxSat", name := "commitSoft", desc := "(I)I" } : Jvm.MethodName) prog_1_method_5_code (2 : Nat) (Option.some Jvm.ClassFile.FieldType.int)).before args0 about1 = true := code_word (m := ⟨2, 2⟩) (meth := k2m2) (c := k2c2) (by decide +kernel) rfl rfl rfl (by decide +kernel)
set_option maxRecDepth 65536 in
theorem w_c9 : (Jvm.Cond.code ({ cls := "HittingMaxSat", name := "getClauseCount", desc := "()I" } : Jvm.MethodName) prog_1_method_13_code (1 : Nat) (Option.some Jvm.ClassFile.FieldType.int)).before args0 about1 = true := code_word (m := ⟨2, 4⟩) (meth := k2m4) (c := k2c4) (by decide +kernel) rfl rfl rfl (by decide +kernel)
set_option maxRecDepth 65536 in
theorem w_c10 : (Jvm.Cond.code ({ cls := "HittingMaxSat", name := "getClauseWeight", desc := "(I)I" } : Jvm.MethodName) prog_1_method_14_code (2 : Nat) (Option.some Jvm.ClassFile.FieldType.int)).before args0 about1 = true := code_word (m := ⟨2, 5⟩) (meth := k2m5) (c := k2c5) (by decide +kernel) rfl rfl rfl (by decide +kernel)
set_option maxRecDepth 65536 in
theorem w_c11 : (Jvm.Cond.code ({ cls := "HittingMaxSat", name := "clauseIndexValid", desc := "(I)Z" } : Jvm.MethodName) prog_1_method_22_code (2 : Nat) (Option.some Jvm.ClassFile.FieldType.boolean)).before args0 about1 = true := code_word (m := ⟨2, 12⟩) (meth := k2m12) (c := k2c12) (by decide +kernel) rfl rfl rfl (by decide +kernel)
set_option maxRecDepth 65536 in
theorem w_c12 : (Jvm.Cond.code ({ cls := "HittingMaxSat", name := "getClauseLength", desc := "(I)I" } : Jvm.MethodName) prog_1_method_15_code (2 : Nat) (Option.some Jvm.ClassFile.FieldType.int)).before args0 about1 = true := code_word (m := ⟨2, 6⟩) (meth := k2m6) (c := k2c6) (by decide +kernel) rfl rfl rfl (by decide +kernel)
set_option maxRecDepth 65536 in
theorem w_c13 : (Jvm.Cond.code ({ cls := "HittingMaxSat", name := "getClauseLiteral", desc := "(II)I" } : Jvm.MethodName) prog_1_method_16_code (4 : Nat) (Option.some Jvm.ClassFile.FieldType.int)).before args0 about1 = true := code_word (m := ⟨2, 7⟩) (meth := k2m7) (c := k2c7) (by decide +kernel) rfl rfl rfl (by decide +kernel)
set_option maxRecDepth 65536 in
theorem w_c14 : (Jvm.Cond.code ({ cls := "HittingMaxSat", name := "getPendingLength", desc := "()I" } : Jvm.MethodName) prog_1_method_17_code (1 : Nat) (Option.some Jvm.ClassFile.FieldType.int)).before args0 about1 = true := code_word (m := ⟨2, 8⟩) (meth := k2m8) (c := k2c8) (by decide +kernel) rfl rfl rfl (by decide +kernel)
set_option maxRecDepth 65536 in
theorem w_c15 : (Jvm.Cond.code ({ cls := "HittingMaxSat", name := "getStatus", desc := "()I" } : Jvm.MethodName) prog_1_method_8_code (1 : Nat) (Option.some Jvm.ClassFile.FieldType.int)).before args0 about1 = true := code_word (m := ⟨2, 3⟩) (meth := k2m3) (c := k2c3) (by decide +kernel) rfl rfl rfl (by decide +kernel)
set_option maxRecDepth 65536 in
theorem w_c16 : (Jvm.Cond.code ({ cls := "HittingMaxSat", name := "pendingContains", desc := "(I)Z" } : Jvm.MethodName) prog_1_method_21_code (3 : Nat) (Option.some Jvm.ClassFile.FieldType.boolean)).before args0 about1 = true := code_word (m := ⟨2, 11⟩) (meth := k2m11) (c := k2c11) (by decide +kernel) rfl rfl rfl (by decide +kernel)
set_option maxRecDepth 65536 in
theorem w_c17 : (Jvm.Cond.code ({ cls := "HittingMaxSat", name := "appendPending", desc := "(I)V" } : Jvm.MethodName) prog_1_method_23_code (5 : Nat) (Option.none : Option Jvm.ClassFile.FieldType)).before args0 about1 = true := code_word (m := ⟨2, 13⟩) (meth := k2m13) (c := k2c13) (by decide +kernel) rfl rfl rfl (by decide +kernel)
def codes1 : List Jvm.Cond := [Jvm.Cond.code x code maxLocals ret, Jvm.Cond.code ({ cls := "HittingMaxSat", name := "<init>", desc := "(II)V" } : Jvm.MethodName) prog_1_method_1_code (3 : Nat) (Option.none : Option Jvm.ClassFile.FieldType), Jvm.Cond.code ({ cls := "java/lang/Object", name := "<init>", desc := "()V" } : Jvm.MethodName) object_method_1_code (1 : Nat) (Option.none : Option Jvm.ClassFile.FieldType), Jvm.Cond.code ({ cls := "HittingMaxSat", name := "clamp", desc := "(III)I" } : Jvm.MethodName) prog_1_method_18_code (4 : Nat) (Option.some Jvm.ClassFile.FieldType.int), Jvm.Cond.code ({ cls := "HittingMaxSat", name := "markUnsolved", desc := "()V" } : Jvm.MethodName) prog_1_method_24_code (1 : Nat) (Option.none : Option Jvm.ClassFile.FieldType), Jvm.Cond.code ({ cls := "HittingMaxSatL2", name := "in", desc := "(II)Z" } : Jvm.MethodName) method_2_code (2 : Nat) (Option.some Jvm.ClassFile.FieldType.boolean), Jvm.Cond.code ({ cls := "HittingMaxSat", name := "addLiteral", desc := "(I)I" } : Jvm.MethodName) prog_1_method_2_code (2 : Nat) (Option.some Jvm.ClassFile.FieldType.int), Jvm.Cond.code ({ cls := "HittingMaxSat", name := "literalInRange", desc := "(I)Z" } : Jvm.MethodName) prog_1_method_20_code (2 : Nat) (Option.some Jvm.ClassFile.FieldType.boolean), Jvm.Cond.code ({ cls := "HittingMaxSat", name := "commitSoft", desc := "(I)I" } : Jvm.MethodName) prog_1_method_5_code (2 : Nat) (Option.some Jvm.ClassFile.FieldType.int), Jvm.Cond.code ({ cls := "HittingMaxSat", name := "getClauseCount", desc := "()I" } : Jvm.MethodName) prog_1_method_13_code (1 : Nat) (Option.some Jvm.ClassFile.FieldType.int), Jvm.Cond.code ({ cls := "HittingMaxSat", name := "getClauseWeight", desc := "(I)I" } : Jvm.MethodName) prog_1_method_14_code (2 : Nat) (Option.some Jvm.ClassFile.FieldType.int), Jvm.Cond.code ({ cls := "HittingMaxSat", name := "clauseIndexValid", desc := "(I)Z" } : Jvm.MethodName) prog_1_method_22_code (2 : Nat) (Option.some Jvm.ClassFile.FieldType.boolean), Jvm.Cond.code ({ cls := "HittingMaxSat", name := "getClauseLength", desc := "(I)I" } : Jvm.MethodName) prog_1_method_15_code (2 : Nat) (Option.some Jvm.ClassFile.FieldType.int), Jvm.Cond.code ({ cls := "HittingMaxSat", name := "getClauseLiteral", desc := "(II)I" } : Jvm.MethodName) prog_1_method_16_code (4 : Nat) (Option.some Jvm.ClassFile.FieldType.int), Jvm.Cond.code ({ cls := "HittingMaxSat", name := "getPendingLength", desc := "()I" } : Jvm.MethodName) prog_1_method_17_code (1 : Nat) (Option.some Jvm.ClassFile.FieldType.int), Jvm.Cond.code ({ cls := "HittingMaxSat", name := "getStatus", desc := "()I" } : Jvm.MethodName) prog_1_method_8_code (1 : Nat) (Option.some Jvm.ClassFile.FieldType.int), Jvm.Cond.code ({ cls := "HittingMaxSat", name := "pendingContains", desc := "(I)Z" } : Jvm.MethodName) prog_1_method_21_code (3 : Nat) (Option.some Jvm.ClassFile.FieldType.boolean), Jvm.Cond.code ({ cls := "HittingMaxSat", name := "appendPending", desc := "(I)V" } : Jvm.MethodName) prog_1_method_23_code (5 : Nat) (Option.none : Option Jvm.ClassFile.FieldType)]
set_option maxRecDepth 65536 in
theorem codes_eq : words1.filter isCode = codes1 := rfl
theorem w_codes : ∀ c ∈ words1.filter isCode, c.before args0 about1 = true := by
  rw [codes_eq]
  intro c hc
  simp only [codes1, List.mem_cons, List.not_mem_nil, or_false] at hc
  rcases hc with rfl | rfl | rfl | rfl | rfl | rfl | rfl | rfl | rfl | rfl | rfl | rfl | rfl | rfl | rfl | rfl | rfl | rfl
  · exact w_c0
  · exact w_c1
  · exact w_c2
  · exact w_c3
  · exact w_c4
  · exact w_c5
  · exact w_c6
  · exact w_c7
  · exact w_c8
  · exact w_c9
  · exact w_c10
  · exact w_c11
  · exact w_c12
  · exact w_c13
  · exact w_c14
  · exact w_c15
  · exact w_c16
  · exact w_c17
set_option maxRecDepth 65536 in
theorem w_t1 : (words1.take 24).all (fun c => isCode c || c.before args0 about1) = true := by decide +kernel
set_option maxRecDepth 65536 in
theorem w_t2 : ((words1.drop 24).take 24).all (fun c => isCode c || c.before args0 about1) = true := by decide +kernel
set_option maxRecDepth 65536 in
theorem w_t3 : (((words1.drop 24).drop 24).take 24).all (fun c => isCode c || c.before args0 about1) = true := by decide +kernel
set_option maxRecDepth 65536 in
theorem w_t4 : ((((words1.drop 24).drop 24).drop 24).take 24).all (fun c => isCode c || c.before args0 about1) = true := by decide +kernel
set_option maxRecDepth 65536 in
theorem w_t5 : (((((words1.drop 24).drop 24).drop 24).drop 24).take 24).all (fun c => isCode c || c.before args0 about1) = true := by decide +kernel
set_option maxRecDepth 65536 in
theorem w_t6 : ((((((words1.drop 24).drop 24).drop 24).drop 24).drop 24).take 24).all (fun c => isCode c || c.before args0 about1) = true := by decide +kernel
set_option maxRecDepth 65536 in
theorem w_t7 : ((((((words1.drop 24).drop 24).drop 24).drop 24).drop 24).drop 24).all (fun c => isCode c || c.before args0 about1) = true := by decide +kernel
theorem w_tables : (allAtoms (Jvm.Cond.code x code maxLocals ret :: tables_1)).before args0 about1 = true := by
  rw [allAtoms_all]
  show words1.all (fun c => c.before args0 about1) = true
  refine all_split ?_ w_codes
  rw [← List.take_append_drop 24 words1, List.all_append, w_t1, ← List.take_append_drop 24 (words1.drop 24), List.all_append, w_t2, ← List.take_append_drop 24 ((words1.drop 24).drop 24), List.all_append, w_t3, ← List.take_append_drop 24 (((words1.drop 24).drop 24).drop 24), List.all_append, w_t4, ← List.take_append_drop 24 ((((words1.drop 24).drop 24).drop 24).drop 24), List.all_append, w_t5, ← List.take_append_drop 24 (((((words1.drop 24).drop 24).drop 24).drop 24).drop 24), List.all_append, w_t6, w_t7]
  rfl
set_option maxRecDepth 65536 in
theorem w_case : (Jvm.Cond.and given_1 narrow_1).before args0 about1 = true := by decide +kernel
theorem w_applies : (headSpec (Jvm.Cond.code x code maxLocals ret :: tables_1) room_1).applies x e0.platform about1 = true :=
  (Spec.applies_iff w_frames).mpr ⟨w_running, w_runnable, w_alone, w_named, w_hears, w_ripe, w_room, w_tables⟩
theorem atStart : AtStart classFile x code maxLocals ret World_1 tables_1 room_1 Calls_1 rest_1 Pre_1 launch0 p0 e0 about1 theMethod args0 below0 :=
  ⟨lists_1, trivial, launch0.admits_env _ _ _, launch0.least_env, fairChoices_fair.cas, fairChoices_fair.clock, w_frames, w_args, w_heap, w_applies, trivial, trivial, w_case⟩
end start1
theorem witness_1 : WitnessClaimed_1 := ⟨start1.p0, start1.e0, start1.about1, start1.theMethod, start1.args0, start1.below0, start1.atStart⟩
end Jvm.Pilot.@@N@@
