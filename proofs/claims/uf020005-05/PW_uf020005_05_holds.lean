import PyProof.Rows.All
import PyProof.ListNew
import PyProof.WalksMore
import Wide.All
import Open.Line
import Wide.FinOn
import PySem.Challenge.RW_uf020005_05
set_option Elab.async false
set_option autoImplicit false
set_option linter.unusedVariables false
set_option linter.unusedSimpArgs false
set_option maxRecDepth 100000
section
namespace Mine
open PySem

/-! The abstract machine: values, objects, a syntax without places, its weakest preconditions. -/

abbrev Txt := List Nat

inductive V where
  | none
  | bool (b : Bool)
  | int (i : Int)
  | str (t : Txt)
  | ref (n : Nat)
  | glob (g : Str)
  | exn (c : Str)
  deriving DecidableEq

set_option genSizeOf false in
inductive AObj where
  | list (xs : List V)
  | tuple (xs : List V)
  | dict (es : List (Txt × V)) (ep : Nat)
  | inst (cls : Str) (d : Nat)
  | idict (fs : List (Str × V))

abbrev AHeap := List AObj
abbrev Sg := Str → Option V
noncomputable def Sg.set (σ : Sg) (x : Str) (v : V) : Sg := fun y => if y = x then some v else σ y
noncomputable def Sg.sets (σ : Sg) : List (Str × V) → Sg
  | [] => σ
  | (x, v) :: r => (σ.set x v).sets r

set_option genSizeOf false in
inductive Tgt where
  | name (x : Str)
  | tup (xs : List Str)

set_option genSizeOf false in
set_option genInjectivity false in
inductive PE where
  | name (x : Str)
  | glob (x : Str)
  | none
  | bool (b : Bool)
  | int (i : Int)
  | str (x : Str)
  | bin (op : Operator) (l r : PE)
  | cmp1 (op : CmpOp) (l r : PE)
  | cmp2 (o1 o2 : CmpOp) (a b c : PE)
  | and (l r : PE)
  | or (l r : PE)
  | not (e : PE)
  | neg (e : PE)
  | ite (c a b : PE)
  | call (f : PE) (args : PE)
  | sortLen (e : PE)
  | meth (o : PE) (m : Str) (args : PE)
  | attr (o : PE) (a : Str)
  | sub (o i : PE)
  | slice (o lo hi : PE)
  | rev (o : PE)
  | list (es : PE)
  | tuple (es : PE)
  | dict0
  | dict1 (k v : PE)
  | comp0 (elt : PE) (t : Tgt) (it : PE)
  | comp1 (elt : PE) (t : Tgt) (it : PE) (cond : PE)
  | nil
  | cons (h t : PE)
  | itVal (e : PE)
  | itRange1 (hi : PE)
  | itRange2 (lo hi : PE)
  | itRev (e : PE)
  | itEnum (e : PE)

set_option genSizeOf false in
set_option genInjectivity false in
inductive PS where
  | skip
  | seq (a b : PS)
  | assign (t : Tgt) (e : PE)
  | setItem (o i e : PE)
  | setAttr (o : PE) (a : Str) (e : PE)
  | expr (e : PE)
  | ite (c : PE) (a b : PS)
  | for_ (t : Tgt) (it : PE) (body : PS)
  | while_ (c : PE) (body : PS)
  | ret (e : PE)
  | raise (c : Str) (e : PE)
  | try_ (body : PS) (c x : Str) (h : PS)
  | brk

set_option genSizeOf false in
inductive Fl where
  | next | brk | ret (v : V)

set_option genSizeOf false in
inductive Item where
  | one (v : V)
  | many (vs : List V)

abbrev VPost := V → AHeap → Prop
abbrev XPost := Str → AHeap → Prop
abbrev Spec := List V → AHeap → VPost → XPost → Prop

/-- how methods are named: by the kind of the receiver -/
inductive MK where
  | str | list | dict | inst (c : Str)
  deriving DecidableEq

noncomputable def kindA (v : V) (H : AHeap) : Option MK := match v with
  | .str _ => some .str
  | .ref n => (match H[n]? with
    | some (.list _) => some .list
    | some (.dict _ _) => some .dict
    | some (.inst c _) => some (.inst c)
    | _ => none)
  | _ => none

set_option genSizeOf false in
set_option genInjectivity false in
/-- what is known of the globals: their values, the functions' specs, the methods' specs -/
structure Tab where
  gv : Str → Option V
  fn : Str → Spec
  has : MK → Str → Bool
  mt : MK → Str → Spec
  srt : Spec
  rvs : Spec

noncomputable def truthyA : V → Option Bool
  | .none => some false
  | .bool b => some b
  | .int i => some (i != 0)
  | .str t => some (!t.isEmpty)
  | _ => Option.none

/-- the model's lid for sizes, here a lower one -/
abbrev lid : Nat := 1000000

/-- texts: signs are code points, not too many -/
noncomputable def okT (t : Txt) : Bool := decide (t.length ≤ lid) && t.all fun c => decide (c < 1114112)

/-! a value as plain data, read off the heap -/
set_option genSizeOf false in
inductive Dt where
  | none
  | bool (b : Bool)
  | int (i : Int)
  | str (t : Txt)
  | list (xs : List Dt)
  | tuple (xs : List Dt)

noncomputable def rdL (f : V → Option Dt) : List V → Option (List Dt)
  | [] => some []
  | v :: r => match f v, rdL f r with
    | some d, some ds => some (d :: ds)
    | _, _ => Option.none
noncomputable def rd (H : AHeap) : Nat → V → Option Dt
  | _, .none => some .none
  | _, .bool b => some (.bool b)
  | _, .int i => some (.int i)
  | _, .str t => some (.str t)
  | n + 1, .ref a => match H[a]? with
    | some (.list xs) => (rdL (rd H n) xs).map .list
    | some (.tuple xs) => (rdL (rd H n) xs).map .tuple
    | _ => Option.none
  | _, _ => Option.none

mutual
noncomputable def Dt.eqv : Dt → Dt → Bool
  | .none, .none => true
  | .bool a, .bool b => a == b
  | .bool a, .int j => (if a then 1 else 0) == j
  | .int i, .bool b => i == (if b then 1 else 0)
  | .int i, .int j => i == j
  | .str a, .str b => a == b
  | .list a, .list b => Dt.eqvL a b
  | .tuple a, .tuple b => Dt.eqvL a b
  | _, _ => false
noncomputable def Dt.eqvL : List Dt → List Dt → Bool
  | [], [] => true
  | a :: r, b :: t => Dt.eqv a b && Dt.eqvL r t
  | _, _ => false
end

/-- Python's == of two values that read as data (depth at most 6) -/
noncomputable def eqA (H : AHeap) (a b : V) (q : Bool → Prop) : Prop :=
  match rd H 6 a, rd H 6 b with
  | some x, some y => q (Dt.eqv x y)
  | _, _ => False

/-- Python's in: a sign in a text, a value in a list, a key in a dict -/
noncomputable def inA (H : AHeap) (a b : V) (q : Bool → Prop) : Prop :=
  match b with
  | .str u => (match a with | .str [c] => q (decide (c ∈ u)) | _ => False)
  | .ref n => (match H[n]? with
    | some (.list _) => (match rd H 6 b, rd H 6 a with | some (.list ds), some d => q (ds.any fun x => Dt.eqv x d) | _, _ => False)
    | some (.dict es _) => (match a with | .str k => q (es.any fun e => e.1 == k) | _ => False)
    | _ => False)
  | _ => False

noncomputable def cmpA (op : CmpOp) (a b : V) (H : AHeap) (q : Bool → Prop) : Prop :=
  match op with
  | .Eq => eqA H a b q
  | .NotEq => eqA H a b fun c => q (!c)
  | .Is => b = .none ∧ q (decide (a = .none))
  | .IsNot => b = .none ∧ q (!decide (a = .none))
  | .Lt => match a, b with | .int i, .int j => q (decide (i < j)) | _, _ => False
  | .LtE => match a, b with | .int i, .int j => q (decide (i ≤ j)) | _, _ => False
  | .Gt => match a, b with | .int i, .int j => q (decide (i > j)) | _, _ => False
  | .GtE => match a, b with | .int i, .int j => q (decide (i ≥ j)) | _, _ => False
  | .In => inA H a b q
  | .NotIn => inA H a b fun c => q (!c)

noncomputable def binA (op : Operator) (a b : V) (H : AHeap) (Q : VPost) : Prop :=
  match op, a, b with
  | .Add, .int i, .int j => Q (.int (i + j)) H
  | .Sub, .int i, .int j => Q (.int (i - j)) H
  | .Mult, .int i, .int j => (i.natAbs < 2 ^ 63 ∨ j.natAbs < 2 ^ 63) ∧ Q (.int (i * j)) H
  | .FloorDiv, .int i, .int j => 0 < j ∧ j < 1073741824 ∧ Q (.int (i / j)) H
  | .Mod, .int i, .int j => 0 < j ∧ Q (.int (i % j)) H
  | .Add, .str t, .str u => t.length + u.length ≤ lid ∧ Q (.str (t ++ u)) H
  | .Add, .ref m, .ref n => (match H[m]?, H[n]? with
    | some (.list xs), some (.list ys) => xs.length + ys.length ≤ lid ∧ Q (.ref H.length) (H ++ [.list (xs ++ ys)])
    | _, _ => False)
  | .Mult, .ref m, .int j => (match H[m]? with
    | some (.list [x]) => 0 ≤ j ∧ j ≤ lid ∧ Q (.ref H.length) (H ++ [.list (List.replicate j.toNat x)])
    | _ => False)
  | _, _, _ => False

/-- Python's place of an index: negative ones from behind -/
noncomputable def place (i : Int) (n : Nat) : Option Nat :=
  if 0 ≤ i then (if i.toNat < n then some i.toNat else Option.none)
  else if 0 ≤ i + n then some (i + n).toNat else Option.none

noncomputable def subA (o i : V) (H : AHeap) (q : V → Prop) : Prop :=
  match o, i with
  | .str t, .int k => (match place k t.length with
    | some j => q (.str ((t.drop j).take 1))
    | Option.none => False)
  | .ref n, .int k => (match H[n]? with
    | some (.list xs) | some (.tuple xs) => (match place k xs.length with
      | some j => (match xs[j]? with | some v => q v | Option.none => False)
      | Option.none => False)
    | _ => False)
  | .ref n, .str k => (match H[n]? with
    | some (.dict es _) => (match es.find? (fun e => e.1 == k) with | some e => q e.2 | Option.none => False)
    | _ => False)
  | _, _ => False

/-- Python's clipping of a slice's bound -/
noncomputable def clip (i : Int) (n : Nat) : Nat := if 0 ≤ i then min i.toNat n else (i + n).toNat
noncomputable def cut {α : Type} (xs : List α) (lo hi : Nat) : List α := (xs.take hi).drop lo
noncomputable def lowOf (v : V) (n : Nat) : Option Nat := match v with
  | .none => some 0
  | .int i => some (clip i n)
  | _ => Option.none
noncomputable def highOf (v : V) (n : Nat) : Option Nat := match v with
  | .none => some n
  | .int i => some (clip i n)
  | _ => Option.none

noncomputable def sliceA (o lo hi : V) (H : AHeap) (Q : VPost) : Prop :=
  match o with
  | .str t => (match lowOf lo t.length, highOf hi t.length with
    | some i, some j => Q (.str (cut t i j)) H
    | _, _ => False)
  | .ref n => (match H[n]? with
    | some (.list xs) => (match lowOf lo xs.length, highOf hi xs.length with
      | some i, some j => Q (.ref H.length) (H ++ [.list (cut xs i j)])
      | _, _ => False)
    | some (.tuple xs) => (match lo, hi with
      | .int k, .none => 1 ≤ k ∧ k ≤ xs.length ∧ Q (.ref H.length) (H ++ [.tuple (xs.drop k.toNat)])
      | _, _ => False)
    | _ => False)
  | _ => False

noncomputable def attrA (o : V) (a : Str) (H : AHeap) (q : V → Prop) : Prop :=
  match o with
  | .ref n => (match H[n]? with
    | some (.inst _ d) => (match H[d]? with
      | some (.idict fs) => (match fs.lookup a with | some v => q v | Option.none => False)
      | _ => False)
    | _ => False)
  | _ => False

noncomputable def itemsA (v : V) (H : AHeap) (q : List Item → (AHeap → Prop) → Prop) : Prop :=
  match v with
  | .str t => q (t.map fun c => .one (.str [c])) fun _ => True
  | .ref n => (match H[n]? with
    | some (.list xs) => q (xs.map .one) fun H' => H'[n]? = some (.list xs)
    | some (.tuple xs) => q (xs.map .one) fun H' => H'[n]? = some (.tuple xs)
    | some (.dict es ep) => q (es.map fun e => .one (.str e.1)) fun H' => H'[n]? = some (.dict es ep)
    | _ => False)
  | _ => False

noncomputable def bindA (t : Tgt) (x : Item) (H : AHeap) (σ : Sg) : Option Sg :=
  match t, x with
  | .name y, .one v => some (σ.set y v)
  | .tup ys, .many vs => if ys.length = vs.length then some (σ.sets (ys.zip vs)) else Option.none
  | .tup ys, .one (.ref n) => (match H[n]? with
    | some (.tuple vs) => if ys.length = vs.length then some (σ.sets (ys.zip vs)) else Option.none
    | _ => Option.none)
  | _, _ => Option.none

noncomputable def intsFrom (a : Int) (n : Nat) : List Int := (List.range n).map fun i => a + (i : Nat)

/-- a comprehension's turns -/
noncomputable def compGo (K : AHeap → Prop) (bind : Item → AHeap → Option Sg) (test : Sg → AHeap → (Bool → AHeap → Prop) → Prop) (elt : Sg → AHeap → VPost → Prop) (Q : List V → AHeap → Prop) : List Item → List V → AHeap → Prop
  | [], acc, H => K H ∧ Q acc H
  | x :: xs, acc, H => K H ∧ match bind x H with
    | some σ => test σ H fun b H1 => if b then elt σ H1 fun v H2 => compGo K bind test elt Q xs (acc ++ [v]) H2 else compGo K bind test elt Q xs acc H1
    | Option.none => False

set_option genSizeOf false in
set_option genInjectivity false in
/-- what an expression does: as a value, as a test, as a list of arguments, as what a loop goes over -/
structure Me where
  ev : Sg → AHeap → VPost → XPost → Prop
  tt : Sg → AHeap → (Bool → AHeap → Prop) → XPost → Prop
  el : Sg → AHeap → (List V → AHeap → Prop) → XPost → Prop
  it : Sg → AHeap → (List Item → (AHeap → Prop) → AHeap → Prop) → XPost → Prop

noncomputable def Me.ofEv (ev : Sg → AHeap → VPost → XPost → Prop) : Me where
  ev := ev
  tt := fun σ H q X => ev σ H (fun v H1 => match truthyA v with | some b => q b H1 | Option.none => False) X
  el := fun _ _ _ _ => False
  it := fun _ _ _ _ => False

noncomputable def Me.ofEl (el : Sg → AHeap → (List V → AHeap → Prop) → XPost → Prop) : Me := ⟨fun _ _ _ _ => False, fun _ _ _ _ => False, el, fun _ _ _ _ => False⟩
noncomputable def Me.ofIt (i : Sg → AHeap → (List Item → (AHeap → Prop) → AHeap → Prop) → XPost → Prop) : Me := ⟨fun _ _ _ _ => False, fun _ _ _ _ => False, fun _ _ _ _ => False, i⟩

noncomputable def sem (T : Tab) : PE → Me
  | .name x => .ofEv fun σ H Q _ => match σ x with | some v => Q v H | Option.none => False
  | .glob g => .ofEv fun _ H Q _ => match T.gv g with | some v => Q v H | Option.none => False
  | .none => .ofEv fun _ H Q _ => Q .none H
  | .bool b => .ofEv fun _ H Q _ => Q (.bool b) H
  | .int i => .ofEv fun _ H Q _ => Q (.int i) H
  | .str x => .ofEv fun _ H Q _ => Q (.str x.cps.toList) H
  | .bin op l r => .ofEv fun σ H Q X => (sem T l).ev σ H (fun a H1 => (sem T r).ev σ H1 (fun b H2 => binA op a b H2 Q) X) X
  | .cmp1 op l r =>
    let go := fun (σ : Sg) (H : AHeap) (q : Bool → AHeap → Prop) (X : XPost) => (sem T l).ev σ H (fun a H1 => (sem T r).ev σ H1 (fun b H2 => cmpA op a b H2 fun c => q c H2) X) X
    { Me.ofEv (fun σ H Q X => go σ H (fun c H2 => Q (.bool c) H2) X) with tt := go }
  | .cmp2 o1 o2 a b c =>
    let go := fun (σ : Sg) (H : AHeap) (q : Bool → AHeap → Prop) (X : XPost) => (sem T a).ev σ H (fun x H1 => (sem T b).ev σ H1 (fun y H2 => cmpA o1 x y H2 fun c1 =>
      if c1 then (sem T c).ev σ H2 (fun z H3 => cmpA o2 y z H3 fun c2 => q c2 H3) X else q false H2) X) X
    { Me.ofEv (fun σ H Q X => go σ H (fun c H2 => Q (.bool c) H2) X) with tt := go }
  | .and l r =>
    { Me.ofEv (fun σ H Q X => (sem T l).ev σ H (fun v H1 => match truthyA v with | some b => if b then (sem T r).ev σ H1 Q X else Q v H1 | Option.none => False) X) with
      tt := fun σ H q X => (sem T l).tt σ H (fun b H1 => if b then (sem T r).tt σ H1 q X else q false H1) X }
  | .or l r =>
    { Me.ofEv (fun σ H Q X => (sem T l).ev σ H (fun v H1 => match truthyA v with | some b => if b then Q v H1 else (sem T r).ev σ H1 Q X | Option.none => False) X) with
      tt := fun σ H q X => (sem T l).tt σ H (fun b H1 => if b then q true H1 else (sem T r).tt σ H1 q X) X }
  | .not e =>
    { Me.ofEv (fun σ H Q X => (sem T e).ev σ H (fun v H1 => match truthyA v with | some b => Q (.bool !b) H1 | Option.none => False) X) with
      tt := fun σ H q X => (sem T e).tt σ H (fun b H1 => q (!b) H1) X }
  | .neg e => .ofEv fun σ H Q X => (sem T e).ev σ H (fun v H1 => match v with | .int i => Q (.int (-i)) H1 | _ => False) X
  | .ite c a b =>
    { Me.ofEv (fun σ H Q X => (sem T c).tt σ H (fun t H1 => if t then (sem T a).ev σ H1 Q X else (sem T b).ev σ H1 Q X) X) with
      tt := fun σ H q X => (sem T c).tt σ H (fun t H1 => if t then (sem T a).tt σ H1 q X else (sem T b).tt σ H1 q X) X }
  | .call f args => .ofEv fun σ H Q X => (sem T f).ev σ H (fun fv H1 => match fv with
      | .glob g => (sem T args).el σ H1 (fun vs H2 => T.fn g vs H2 Q X) X
      | _ => False) X
  | .sortLen e => .ofEv fun σ H Q X => (sem T e).ev σ H (fun v H1 => T.srt [v] H1 Q X) X
  | .meth o m args => .ofEv fun σ H Q X => (sem T o).ev σ H (fun ov H1 => match kindA ov H1 with
      | some kd => T.has kd m = true ∧ (sem T args).el σ H1 (fun vs H2 => T.mt kd m (ov :: vs) H2 Q X) X
      | Option.none => False) X
  | .attr o a => .ofEv fun σ H Q X => (sem T o).ev σ H (fun ov H1 => attrA ov a H1 fun v => Q v H1) X
  | .sub o i => .ofEv fun σ H Q X => (sem T o).ev σ H (fun ov H1 => (sem T i).ev σ H1 (fun iv H2 => subA ov iv H2 fun v => Q v H2) X) X
  | .slice o lo hi => .ofEv fun σ H Q X => (sem T o).ev σ H (fun ov H1 => (sem T lo).ev σ H1 (fun l H2 => (sem T hi).ev σ H2 (fun h H3 => sliceA ov l h H3 Q) X) X) X
  | .rev o => .ofEv fun σ H Q X => (sem T o).ev σ H (fun ov H1 => T.rvs [ov] H1 Q X) X
  | .list es => .ofEv fun σ H Q X => (sem T es).el σ H (fun vs H1 => vs.length ≤ lid ∧ Q (.ref H1.length) (H1 ++ [.list vs])) X
  | .tuple es => .ofEv fun σ H Q X => (sem T es).el σ H (fun vs H1 => vs.length ≤ lid ∧ Q (.ref H1.length) (H1 ++ [.tuple vs])) X
  | .dict0 => .ofEv fun _ H Q _ => Q (.ref H.length) (H ++ [.dict [] 0])
  | .dict1 k v => .ofEv fun σ H Q X => (sem T k).ev σ H (fun kv H1 => (sem T v).ev σ H1 (fun vv H2 => match kv with | .str t => Q (.ref H2.length) (H2 ++ [.dict [(t, vv)] 1]) | _ => False) X) X
  | .comp0 elt t it => .ofEv fun σ H Q X => (sem T it).it σ H (fun items K H1 =>
      items.length ≤ lid ∧ compGo K (fun x H' => bindA t x H' σ) (fun _ H' q => q true H') (fun σ' H' q => (sem T elt).ev σ' H' q X) (fun acc H' => Q (.ref H'.length) (H' ++ [.list acc])) items [] H1) X
  | .comp1 elt t it cond => .ofEv fun σ H Q X => (sem T it).it σ H (fun items K H1 =>
      items.length ≤ lid ∧ compGo K (fun x H' => bindA t x H' σ) (fun σ' H' q => (sem T cond).tt σ' H' q X) (fun σ' H' q => (sem T elt).ev σ' H' q X) (fun acc H' => Q (.ref H'.length) (H' ++ [.list acc])) items [] H1) X
  | .nil => .ofEl fun _ H q _ => q [] H
  | .cons h t => .ofEl fun σ H q X => (sem T h).ev σ H (fun v H1 => (sem T t).el σ H1 (fun vs H2 => q (v :: vs) H2) X) X
  | .itVal e => .ofIt (fun σ H q X => (sem T e).ev σ H (fun v H1 => itemsA v H1 fun items K => q items K H1) X)
  | .itRange1 e => .ofIt (fun σ H q X => (sem T e).ev σ H (fun v H1 => match v with
      | .int j => 0 ≤ j ∧ j ≤ lid ∧ q ((intsFrom 0 j.toNat).map fun i => .one (.int i)) (fun _ => True) H1
      | _ => False) X)
  | .itRange2 a b => .ofIt (fun σ H q X => (sem T a).ev σ H (fun u H1 => (sem T b).ev σ H1 (fun v H2 => match u, v with
      | .int i, .int j => 0 ≤ i ∧ i ≤ lid ∧ 0 ≤ j ∧ j ≤ lid ∧ q ((intsFrom i (j - i).toNat).map fun i => .one (.int i)) (fun _ => True) H2
      | _, _ => False) X) X)
  | .itRev e => .ofIt (fun σ H q X => (sem T e).ev σ H (fun v H1 => match v with
      | .int j => 0 ≤ j ∧ j ≤ lid ∧ q ((intsFrom 0 j.toNat).reverse.map fun i => .one (.int i)) (fun _ => True) H1
      | _ => False) X)
  | .itEnum e => .ofIt (fun σ H q X => (sem T e).ev σ H (fun v H1 => match v with
      | .ref n => (match H1[n]? with
        | some (.list xs) => q (xs.zipIdx.map fun p => .many [.int p.2, p.1]) (fun H' => H'[n]? = some (.list xs)) H1
        | _ => False)
      | _ => False) X)

abbrev SPost := Fl → Sg → AHeap → Prop

/-- a for's turns -/
noncomputable def forGo (K : AHeap → Prop) (bind : Item → AHeap → Sg → Option Sg) (body : Sg → AHeap → SPost → Prop) (Q : SPost) : List Item → Sg → AHeap → Prop
  | [], σ, H => K H ∧ Q .next σ H
  | x :: xs, σ, H => K H ∧ match bind x H σ with
    | some σ' => body σ' H fun fl σ2 H2 => match fl with
      | .next => forGo K bind body Q xs σ2 H2
      | .brk => Q .next σ2 H2
      | .ret v => Q (.ret v) σ2 H2
    | Option.none => False

/-- a while's turns, so many at the most -/
noncomputable def whileGo (test : Sg → AHeap → (Bool → AHeap → Prop) → Prop) (body : Sg → AHeap → SPost → Prop) (Q : SPost) : Nat → Sg → AHeap → Prop
  | 0, _, _ => False
  | n + 1, σ, H => test σ H fun b H1 => if b then body σ H1 fun fl σ2 H2 => match fl with
      | .next => whileGo test body Q n σ2 H2
      | .brk => Q .next σ2 H2
      | .ret v => Q (.ret v) σ2 H2
    else Q .next σ H1

noncomputable def setItemA (o i v : V) (H : AHeap) (q : AHeap → Prop) : Prop :=
  match o with
  | .ref n => n ≠ 0 ∧ (match H[n]?, i with
    | some (.list xs), .int k => 0 ≤ k ∧ k.toNat < xs.length ∧ q (H.set n (.list (xs.set k.toNat v)))
    | _, _ => False)
  | _ => False

noncomputable def setAttrA (o : V) (a : Str) (v : V) (H : AHeap) (q : AHeap → Prop) : Prop :=
  match o with
  | .ref n => (match H[n]? with
    | some (.inst _ d) => (match H[d]? with
      | some (.idict fs) => q (H.set d (.idict (if fs.any (fun e => e.1 == a) then fs.map (fun e => if e.1 == a then (a, v) else e) else fs ++ [(a, v)])))
      | _ => False)
    | _ => False)
  | _ => False

noncomputable def semS (T : Tab) : PS → Sg → AHeap → SPost → XPost → Prop
  | .skip, σ, H, Q, _ => Q .next σ H
  | .seq a b, σ, H, Q, X => semS T a σ H (fun fl σ1 H1 => match fl with | .next => semS T b σ1 H1 Q X | f => Q f σ1 H1) X
  | .assign t e, σ, H, Q, X => (sem T e).ev σ H (fun v H1 => match bindA t (.one v) H1 σ with | some σ' => Q .next σ' H1 | Option.none => False) X
  | .setItem o i e, σ, H, Q, X => (sem T e).ev σ H (fun v H1 => (sem T o).ev σ H1 (fun ov H2 => (sem T i).ev σ H2 (fun iv H3 => setItemA ov iv v H3 fun H4 => Q .next σ H4) X) X) X
  | .setAttr o a e, σ, H, Q, X => (sem T e).ev σ H (fun v H1 => (sem T o).ev σ H1 (fun ov H2 => setAttrA ov a v H2 fun H3 => Q .next σ H3) X) X
  | .expr e, σ, H, Q, X => (sem T e).ev σ H (fun _ H1 => Q .next σ H1) X
  | .ite c a b, σ, H, Q, X => (sem T c).tt σ H (fun t H1 => if t then semS T a σ H1 Q X else semS T b σ H1 Q X) X
  | .for_ t it body, σ, H, Q, X => (sem T it).it σ H (fun items K H1 => forGo K (fun x H' σ' => bindA t x H' σ') (fun σ' H' q => semS T body σ' H' q X) Q items σ H1) X
  | .while_ c body, σ, H, Q, X => ∃ n, whileGo (fun σ' H' q => (sem T c).tt σ' H' q X) (fun σ' H' q => semS T body σ' H' q X) Q n σ H
  | .ret e, σ, H, Q, X => (sem T e).ev σ H (fun v H1 => Q (.ret v) σ H1) X
  | .raise _ _, _, _, _, _ => False
  | .try_ _ _ _ _, _, _, _, _ => False
  | .brk, σ, H, Q, _ => Q .brk σ H

end Mine
end
section
namespace Mine
open PySem

/-! From the model's syntax to the one without places. -/

abbrev Kd := Str → Option NameKind

noncomputable def tgtNames : List Expr → Option (List Str)
  | [] => some []
  | .Name x _ :: r => (tgtNames r).map (x :: ·)
  | _ => none

noncomputable def dot0 : Str := Str.ofString ".0"
noncomputable def stored (k : Kd) (x : Str) : Bool := (k x == some .local || k x == some .cell) && x != dot0
noncomputable def trT (k : Kd) : Expr → Option Tgt
  | .Name x _ => if stored k x then some (.name x) else none
  | .Tuple es _ _ => match tgtNames es with
    | some xs => if xs.all (stored k) && decide xs.Nodup then some (.tup xs) else none
    | none => none
  | _ => none

/-- the names that a comprehension sees -/
noncomputable def inner (sc : Scope) (k : Kd) : Kd := fun x => (sc.names.map fun p => if p.2 == .free && k p.1 == some .cell then (p.1, NameKind.cell) else (p.1, p.2)).lookup x
noncomputable def scOk (sc : Scope) (k : Kd) : Bool := sc.kind == .function && sc.names.all fun p => match p.2 with
  | .local => sc.names.lookup p.1 == some .local
  | .cell => false
  | .free => k p.1 == some .cell
  | _ => true

noncomputable def Tgt.names : Tgt → List Str
  | .name x => [x]
  | .tup xs => xs
noncomputable def onlyHere (sc : Scope) (t : Tgt) : Bool := (t.names.all fun x => sc.names.lookup x == some .local) && sc.names.all fun p => p.2 != .local || p.1 == dot0 || t.names.contains p.1

noncomputable def isG (k : Kd) (x : Str) (n : String) : Bool := x == Str.ofString n && k x == some .globalImplicit

noncomputable def isSet : Expr → Bool
  | .Set .. => true
  | _ => false

noncomputable def trBool (op : BoolOp) : List PE → Option PE
  | [] => none
  | [e] => some e
  | e :: r => (trBool op r).map fun x => match op with | .And => .and e x | .Or => .or e x

noncomputable def trL (f : Expr → Option PE) : List Expr → Option PE
  | [] => some .nil
  | e :: r => match f e, trL f r with
    | some a, some b => some (.cons a b)
    | _, _ => none

noncomputable def trLs (f : Expr → Option PE) : List Expr → Option (List PE)
  | [] => some []
  | e :: r => match f e, trLs f r with
    | some a, some b => some (a :: b)
    | _, _ => none

noncomputable def trO (f : Expr → Option PE) : Option Expr → Option PE
  | none => some .none
  | some e => f e

noncomputable def bnd2 (a b : Option PE) (f : PE → PE → PE) : Option PE := match a, b with
  | some x, some y => some (f x y)
  | _, _ => none
noncomputable def bnd3 (a b c : Option PE) (f : PE → PE → PE → PE) : Option PE := match a, b, c with
  | some x, some y, some z => some (f x y z)
  | _, _, _ => none

/-! single looks at a tree: each is taken apart in one place alone -/
noncomputable def asName : Expr → Option (Str × Pos)
  | .Name x p => some (x, p)
  | _ => none
noncomputable def asAttr : Expr → Option (Expr × Str × Pos)
  | .Attribute o a p => some (o, a, p)
  | _ => none
noncomputable def asCall : Expr → Option (Expr × List Expr × List Keyword × Pos)
  | .Call f a k p => some (f, a, k, p)
  | _ => none
noncomputable def asSlice : Expr → Option (Option Expr × Option Expr × Option Expr × Pos)
  | .Slice a b c p => some (a, b, c, p)
  | _ => none
noncomputable def asSub : Expr → Option (Expr × Expr × Pos)
  | .Subscript o i p => some (o, i, p)
  | _ => none
noncomputable def isStar : Expr → Bool
  | .Starred .. => true
  | _ => false

noncomputable def isGE (k : Kd) (e : Expr) (n : String) : Bool := match asName e with
  | some (g, _) => isG k g n
  | none => false

/-- what a for, or a comprehension, goes over -/
noncomputable def trI (k : Kd) (f : Expr → Option PE) (e : Expr) : Option PE := if isSet e then none else match asCall e with
  | some (g, [a], [], _) =>
    if isGE k g "range" then (f a).map .itRange1
    else if isGE k g "reversed" then (match asCall a with
      | some (h, [b], [], _) => if isGE k h "range" then (f b).map .itRev else none
      | _ => none)
    else if isGE k g "enumerate" then (f a).map .itEnum
    else (f e).map .itVal
  | some (g, [a, b], [], _) => if isGE k g "range" then bnd2 (f a) (f b) .itRange2 else (f e).map .itVal
  | _ => (f e).map .itVal

noncomputable def trCall (k : Kd) (f : Expr → Option PE) (fn : Expr) (args : List Expr) (kws : List Keyword) (pos : Pos) : Option PE := match kws with
  | [] => if decide (args.length < 20) then (match asAttr fn with
    | some (o, m, apos) => if apos.endLine == pos.line && (asCall o).isNone then bnd2 (f o) (trL f args) fun a b => .meth a m b else none
    | none => if (asName fn).isSome then bnd2 (f fn) (trL f args) .call else none) else none
  | [⟨some x, y, _⟩] => (match args with
    | [a] => if isGE k fn "sorted" && x == Str.ofString "key" && isGE k y "len" then (f a).map .sortLen else none
    | _ => none)
  | _ => none

noncomputable def isNeg1 : Option Expr → Bool
  | some (.UnaryOp .USub (.Constant (.int i) _ _) _) => i == 1
  | _ => false

noncomputable def trSub (f : Expr → Option PE) (o i : Expr) : Option PE := match asSlice i with
  | some (lo, hi, none, _) => bnd3 (f o) (trO f lo) (trO f hi) .slice
  | some (none, none, st, _) => if isNeg1 st then (f o).map .rev else none
  | some _ => none
  | none => bnd2 (f o) (f i) .sub

noncomputable def trComp (k : Kd) (f f' : Expr → Option PE) (elt : Expr) (gens : List Comprehension) (sc : Scope) : Option PE := match gens with
  | [⟨t, it, ifs, 0⟩] => if scOk sc k then (match trT (inner sc k) t, trI k f it, f' elt with
    | some t', some it', some e' => if onlyHere sc t' then (match ifs with
      | [] => some (.comp0 e' t' it')
      | [c] => (f' c).map fun c' => .comp1 e' t' it' c'
      | _ => none) else none
    | _, _, _ => none) else none
  | _ => none

noncomputable def trConst : Const → Option PE
  | .none => some .none
  | .bool b => some (.bool b)
  | .int i => some (.int i)
  | .str s => if okT s.cps.toList then some (.str s) else none
  | _ => none

noncomputable def trName (k : Kd) (x : Str) : Option PE := if x == Str.ofString "__debug__" then none else match k x with
  | some .local | some .cell => some (.name x)
  | some .globalImplicit => some (.glob x)
  | _ => none

noncomputable def trUn (f : Expr → Option PE) (op : UnaryOp) (x : Expr) : Option PE := match op with
  | .Not => (f x).map .not
  | .USub => (f x).map .neg
  | _ => none

noncomputable def trCmp (f : Expr → Option PE) (a : Expr) (ops : List CmpOp) (cs : List Expr) : Option PE := match ops, cs with
  | [op], [r] => if isSet r then none else bnd2 (f a) (f r) (.cmp1 op)
  | [o1, o2], [b, c] => if isSet b || isSet c then none else bnd3 (f a) (f b) (f c) (.cmp2 o1 o2)
  | _, _ => none

noncomputable def trE : Nat → Kd → Expr → Option PE
  | 0, _, _ => none
  | n + 1, k, e => match e with
    | .Name x _ => trName k x
    | .Constant c _ _ => trConst c
    | .BinOp l op r _ => bnd2 (trE n k l) (trE n k r) (.bin op)
    | .UnaryOp op x _ => trUn (trE n k) op x
    | .BoolOp op vs _ => (trLs (trE n k) vs).bind (trBool op)
    | .Compare l ops cs _ => trCmp (trE n k) l ops cs
    | .IfExp c a b _ => bnd3 (trE n k c) (trE n k a) (trE n k b) .ite
    | .Call f args kws pos => trCall k (trE n k) f args kws pos
    | .Attribute o a _ => if (asCall o).isSome then none else (trE n k o).map fun x => .attr x a
    | .Subscript o i _ => trSub (trE n k) o i
    | .List es _ => (trL (trE n k) es).map .list
    | .Tuple es _ _ => (trL (trE n k) es).map .tuple
    | .Dict ks vs _ => if ks.isEmpty && vs.isEmpty then some .dict0 else none
    | .ListComp elt gens sc _ => trComp k (trE n k) (trE n (inner sc k)) elt gens sc
    | _ => none

noncomputable def isComp : Expr → Bool
  | .ListComp .. => true
  | .SetComp .. => true
  | .DictComp .. => true
  | _ => false

/-- a tuple of nothing but constants: its stores' order is not laid down -/
noncomputable def oneTup : Expr → Bool
  | .Tuple vs _ _ => vs.all (constantsAlone 8)
  | _ => false

noncomputable def trAssign (k : Kd) (f : Expr → Option PE) (ts : List Expr) (v : Expr) : Option PS := match ts with
  | [t] => (match asSub t with
    | some (o, i, _) => if isComp v || (asSlice i).isSome then none else (match f v, f o, f i with
      | some a, some b, some c => some (.setItem b c a)
      | _, _, _ => none)
    | none => (match asAttr t with
      | some (o, a, _) => if isComp v then none else (match f v, f o with
        | some x, some y => some (.setAttr y a x)
        | _, _ => none)
      | none => (match trT k t, f v with
        | some (.tup xs), some v' => if isComp v || oneTup v then none else some (.assign (.tup xs) v')
        | some (.name x), some v' => some (.assign (.name x) v')
        | _, _ => none)))
  | _ => none

noncomputable def trRaise (k : Kd) (f : Expr → Option PE) (e c : Option Expr) : Option PS := match e, c with
  | some e, none => (match asCall e with
    | some (g, [m], [], _) => (match asName g with
      | some (x, _) => if k x == some .globalImplicit then (f m).map (.raise x) else none
      | none => none)
    | _ => none)
  | _, _ => none

noncomputable def tr1 (k : Kd) (f : Expr → Option PE) (b : List Stmt → Option PS) (st : Stmt) : Option PS := match st with
  | .Assign ts v _ => trAssign k f ts v
  | .Expr e _ => if isComp e then none else (f e).map .expr
  | .If c x y _ => (match f c, b x, b y with
    | some c', some a', some b' => some (.ite c' a' b')
    | _, _, _ => none)
  | .For t it body els _ => if els.isEmpty then (match trT k t, trI k f it, b body with
    | some t', some it', some b' => some (.for_ t' it' b')
    | _, _, _ => none) else none
  | .While c body els _ => if els.isEmpty then (match f c, b body with
    | some c', some b' => some (.while_ c' b')
    | _, _ => none) else none
  | .Return e _ => (match e with
    | some e => (f e).map .ret
    | none => some (.ret .none))
  | .Raise e c _ => trRaise k f e c
  | .Break _ => some .brk
  | .Pass _ => some .skip
  | _ => none

noncomputable def trS : Nat → Kd → List Stmt → Option PS
  | 0, _, _ => none
  | _ + 1, _, [] => some .skip
  | n + 1, k, st :: rest => match tr1 k (trE 60 k) (trS n k) st, trS n k rest with
    | some a, some b => some (.seq a b)
    | _, _ => none

end Mine
end
section
namespace Mine
open PySem

/-! The tie between the abstract machine and the model's state. -/

inductive All2 {α β : Type} (R : α → β → Prop) : List α → List β → Prop
  | nil : All2 R [] []
  | cons {a b as bs} : R a b → All2 R as bs → All2 R (a :: as) (b :: bs)

namespace All2
variable {α β : Type} {R S : α → β → Prop}
theorem length {as : List α} {bs : List β} (h : All2 R as bs) : as.length = bs.length := by
  induction h with
  | nil => rfl
  | cons _ _ ih => exact congrArg (· + 1) ih
theorem mono (f : ∀ a b, R a b → S a b) {as : List α} {bs : List β} (h : All2 R as bs) : All2 S as bs := by
  induction h with
  | nil => exact .nil
  | cons h _ ih => exact .cons (f _ _ h) ih
theorem append {as : List α} {bs : List β} {cs : List α} {ds : List β} (h : All2 R as bs) (k : All2 R cs ds) : All2 R (as ++ cs) (bs ++ ds) := by
  induction h with
  | nil => exact k
  | cons h _ ih => exact .cons h ih
theorem get {as : List α} {bs : List β} (h : All2 R as bs) : ∀ (i : Nat) (a : α), as[i]? = some a → ∃ b, bs[i]? = some b ∧ R a b := by
  induction h with
  | nil => intro i a e; cases e
  | cons h _ ih =>
    intro i a e
    cases i with
    | zero => cases e; exact ⟨_, rfl, h⟩
    | succ i => exact ih i a e
theorem take {as : List α} {bs : List β} (h : All2 R as bs) : ∀ n, All2 R (as.take n) (bs.take n) := by
  induction h with
  | nil => intro n; rw [List.take_nil, List.take_nil]; exact .nil
  | cons h _ ih =>
    intro n
    cases n with
    | zero => exact .nil
    | succ n => exact .cons h (ih n)
theorem drop {as : List α} {bs : List β} (h : All2 R as bs) : ∀ n, All2 R (as.drop n) (bs.drop n) := by
  induction h with
  | nil => intro n; rw [List.drop_nil, List.drop_nil]; exact .nil
  | cons h r ih =>
    intro n
    cases n with
    | zero => exact .cons h r
    | succ n => exact ih n
theorem set {as : List α} {bs : List β} (h : All2 R as bs) {a : α} {b : β} (k : R a b) : ∀ n, All2 R (as.set n a) (bs.set n b) := by
  induction h with
  | nil => intro n; exact .nil
  | cons h r ih =>
    intro n
    cases n with
    | zero => exact .cons k r
    | succ n => exact .cons h (ih n)
theorem replicate {a : α} {b : β} (h : R a b) : ∀ n, All2 R (List.replicate n a) (List.replicate n b)
  | 0 => .nil
  | n + 1 => .cons h (replicate h n)
theorem reverse {as : List α} {bs : List β} (h : All2 R as bs) : All2 R as.reverse bs.reverse := by
  induction h with
  | nil => exact .nil
  | cons h _ ih => rw [List.reverse_cons, List.reverse_cons]; exact ih.append (.cons h .nil)
theorem left {as : List α} {bs : List β} (h : All2 R as bs) : ∀ a ∈ as, ∃ b ∈ bs, R a b := by
  induction h with
  | nil => intro a h; cases h
  | cons h _ ih =>
    intro a m
    cases m with
    | head => exact ⟨_, .head _, h⟩
    | tail _ m => obtain ⟨b, hb, k⟩ := ih a m; exact ⟨b, .tail _ hb, k⟩
theorem right {as : List α} {bs : List β} (h : All2 R as bs) : ∀ b ∈ bs, ∃ a ∈ as, R a b := by
  induction h with
  | nil => intro a h; cases h
  | cons h _ ih =>
    intro a m
    cases m with
    | head => exact ⟨_, .head _, h⟩
    | tail _ m => obtain ⟨b, hb, k⟩ := ih a m; exact ⟨b, .tail _ hb, k⟩
end All2

/-- what stays fixed through the law's call -/
structure Cx where
  prog : Program
  w : World
  base : Heap
  os : OsState
  G : Str → Option Value
  mg : Str → Option Value
  mb : Str → Option Value
  hg : base.Ns mainGlobals mg
  hb : base.Ns builtinsNs mb
  lim : base.NoLimit
  hN : ∀ x, G x ≠ some .none
  hG : ∀ x v, G x = some v → mg x = some v ∨ (mg x = none ∧ mb x = some v)

variable (C : Cx)

noncomputable def VR (ρ : List Addr) : V → Value → Prop
  | .none, u => u = .none
  | .bool b, u => u = .bool b
  | .int i, u => ∃ t, u = .int i t
  | .str x, u => okT x = true ∧ ∃ t, u = .str ⟨x.toArray⟩ t
  | .ref n, u => ∃ a, u = .ref a ∧ ρ[n]? = some a
  | .glob g, u => C.G g = some u
  | .exn _, _ => False

noncomputable def ER (ρ : List Addr) (e : Txt × V) (d : DictEntry) : Prop :=
  VR C ρ (.str e.1) d.key ∧ d.hash = PyData.keyHash C.w.params ⟨e.1.toArray⟩ ∧ VR C ρ e.2 d.val

noncomputable def OR (ρ : List Addr) (h : Heap) (a : Addr) : AObj → Prop
  | .list xs => ∃ us n, h.get? a = some ⟨.type "list", none, .seq us n, #[]⟩ ∧ All2 (VR C ρ) xs us.toList ∧ xs.length ≤ lid
  | .tuple xs => ∃ us n, h.get? a = some ⟨.type "tuple", none, .seq us n, #[]⟩ ∧ All2 (VR C ρ) xs us.toList ∧ xs.length ≤ lid
  | .dict es n => ∃ ds, h.get? a = some ⟨.type "dict", none, .dict ds n, #[]⟩ ∧ All2 (ER C ρ) es ds.toList ∧ (es.map (·.1)).Nodup ∧ es.length ≤ lid
  | .inst _ _ => False
  | .idict _ => False

theorem VR.ext {ρ ρ' : List Addr} (l : List Addr) (e : ρ' = ρ ++ l) : ∀ {v : V} {u : Value}, VR C ρ v u → VR C ρ' v u
  | .none, _, h => h
  | .bool _, _, h => h
  | .int _, _, h => h
  | .str _, _, h => h
  | .ref n, _, ⟨a, e1, e2⟩ => ⟨a, e1, by
      rw [e, List.getElem?_append_left]
      · exact e2
      · exact (List.getElem?_eq_some_iff.mp e2).1⟩
  | .glob _, _, h => h

theorem ER.ext {ρ ρ' : List Addr} (l : List Addr) (e : ρ' = ρ ++ l) {p : Txt × V} {d : DictEntry} (h : ER C ρ p d) : ER C ρ' p d := ⟨h.1.ext C l e, h.2.1, h.2.2.ext C l e⟩

theorem OR.alive {ρ : List Addr} {h : Heap} {a : Addr} : ∀ {o : AObj}, OR C ρ h a o → ∃ ob, h.get? a = some ob
  | .list _, ⟨_, _, e, _⟩ => ⟨_, e⟩
  | .tuple _, ⟨_, _, e, _⟩ => ⟨_, e⟩
  | .dict _ _, ⟨_, e, _⟩ => ⟨_, e⟩

theorem OR.keep {ρ ρ' : List Addr} {h h' : Heap} {a : Addr} (l : List Addr) (e : ρ' = ρ ++ l) (k : ∀ o, h.get? a = some o → h'.get? a = some o) : ∀ {o : AObj}, OR C ρ h a o → OR C ρ' h' a o
  | .list _, ⟨us, n, x, y, z⟩ => ⟨us, n, k _ x, y.mono fun _ _ q => q.ext C l e, z⟩
  | .tuple _, ⟨us, n, x, y, z⟩ => ⟨us, n, k _ x, y.mono fun _ _ q => q.ext C l e, z⟩
  | .dict _ _, ⟨us, x, y, z⟩ => ⟨us, k _ x, y.mono fun _ _ q => q.ext C l e, z⟩

structure Sim (ρ : List Addr) (H : AHeap) (s : Shared) : Prop where
  len : ρ.length = H.length
  nodup : ρ.Nodup
  obj : ∀ (i : Nat) a o, ρ[i]? = some a → H[i]? = some o → OR C ρ s.heap a o
  stays : ∀ b o, C.base.get? b = some o → s.heap.get? b = some o
  fresh : ∀ (i : Nat) a, ρ[i]? = some a → i ≠ 0 → C.base.get? a = none
  sm : sysModules ∉ ρ
  gens : s.gens = #[]
  os : s.os = C.os

/-- from one state to a later one: what both sides know grows, all else but 'ex' stays as it was -/
structure StepG (ex : Addr → Prop) (ρ : List Addr) (s : Shared) (ρ' : List Addr) (s' : Shared) : Prop where
  ext : ∃ l, ρ' = ρ ++ l ∧ ∀ a ∈ l, s.heap.get? a = none
  keep : ∀ b o, b ∉ ρ → ¬ ex b → s.heap.get? b = some o → s'.heap.get? b = some o
  live : ∀ b o, s.heap.get? b = some o → ∃ o', s'.heap.get? b = some o'
abbrev Step := StepG fun _ => False

variable {C}

theorem StepG.refl {ex : Addr → Prop} (ρ : List Addr) (s : Shared) : StepG ex ρ s ρ s := ⟨⟨[], by simp, fun _ h => nomatch h⟩, fun _ _ _ _ e => e, fun _ o e => ⟨o, e⟩⟩
theorem StepG.mono {ex ex' : Addr → Prop} {ρ ρ' : List Addr} {s s' : Shared} (x : StepG ex ρ s ρ' s') (h : ∀ b, ex b → ex' b) : StepG ex' ρ s ρ' s' := ⟨x.ext, fun b o h1 h2 e => x.keep b o h1 (fun q => h2 (h b q)) e, x.live⟩
theorem StepG.up {ex : Addr → Prop} {ρ ρ' : List Addr} {s s' : Shared} (x : Step ρ s ρ' s') : StepG ex ρ s ρ' s' := x.mono fun _ h => h.elim

theorem StepG.trans {ex : Addr → Prop} {ρ ρ1 ρ2 : List Addr} {s s1 s2 : Shared} (x : StepG ex ρ s ρ1 s1) (y : StepG ex ρ1 s1 ρ2 s2) : StepG ex ρ s ρ2 s2 := by
  obtain ⟨l, e, f⟩ := x.ext
  obtain ⟨l2, e2, f2⟩ := y.ext
  refine ⟨⟨l ++ l2, by rw [e2, e, List.append_assoc], fun a ha => ?_⟩, fun b o hb hx q => ?_, fun b o q => ?_⟩
  · rcases List.mem_append.mp ha with ha | ha
    · exact f a ha
    · cases q : s.heap.get? a with
      | none => rfl
      | some o => obtain ⟨o', q'⟩ := x.live _ _ q; rw [f2 a ha] at q'; cases q'
  · refine y.keep b o (fun hm => ?_) hx (x.keep b o hb hx q)
    rw [e] at hm
    rcases List.mem_append.mp hm with hm | hm
    · exact hb hm
    · rw [f b hm] at q; cases q
  · obtain ⟨o1, q1⟩ := x.live b o q
    exact y.live b o1 q1

theorem StepG.toks {ρ : List Addr} {s : Shared} (t : Nat) : Step ρ s ρ { s with toks := t } := ⟨⟨[], by simp, fun _ h => nomatch h⟩, fun _ _ _ _ e => e, fun _ o e => ⟨o, e⟩⟩
theorem Sim.toks {ρ : List Addr} {H : AHeap} {s : Shared} (S : Sim C ρ H s) (t : Nat) : Sim C ρ H { s with toks := t } := ⟨S.len, S.nodup, S.obj, S.stays, S.fresh, S.sm, S.gens, S.os⟩

theorem StepG.vr {ex : Addr → Prop} {ρ ρ' : List Addr} {s s' : Shared} (x : StepG ex ρ s ρ' s') {v : V} {u : Value} (h : VR C ρ v u) : VR C ρ' v u := by
  obtain ⟨l, e, _⟩ := x.ext
  exact h.ext C l e
theorem StepG.vrs {ex : Addr → Prop} {ρ ρ' : List Addr} {s s' : Shared} (x : StepG ex ρ s ρ' s') {v : List V} {u : List Value} (h : All2 (VR C ρ) v u) : All2 (VR C ρ') v u := h.mono fun _ _ => x.vr

/-- a new heap that keeps every object: nothing moved -/
theorem Sim.grow {ρ : List Addr} {H : AHeap} {s : Shared} (S : Sim C ρ H s) {h' : Heap} {tk : Nat} (k : ∀ b o, s.heap.get? b = some o → h'.get? b = some o) :
    Sim C ρ H { s with heap := h', toks := tk } ∧ Step ρ s ρ { s with heap := h', toks := tk } :=
  ⟨⟨S.len, S.nodup, fun i a o e q => (S.obj i a o e q).keep C [] (by simp) fun _ x => k _ _ x, fun b o e => k _ _ (S.stays b o e), S.fresh, S.sm, S.gens, S.os⟩,
   ⟨⟨[], by simp, fun _ h => nomatch h⟩, fun b o _ _ e => k b o e, fun b o e => ⟨o, k b o e⟩⟩⟩

theorem Sim.lookup {ρ : List Addr} {H : AHeap} {s : Shared} (S : Sim C ρ H s) {n : Nat} {o : AObj} {u : Value} (e : H[n]? = some o) (v : VR C ρ (.ref n) u) : ∃ a, u = .ref a ∧ ρ[n]? = some a ∧ OR C ρ s.heap a o :=
  let ⟨a, e1, e2⟩ := v; ⟨a, e1, e2, S.obj n a o e2 e⟩

/-- a new object, known to both sides -/
theorem Sim.alloc {ρ : List Addr} {H : AHeap} {s : Shared} (S : Sim C ρ H s) {h' : Heap} {tk : Nat} {a : Addr} {o : AObj} (k : ∀ b x, s.heap.get? b = some x → h'.get? b = some x)
    (hn : s.heap.get? a = none) (hsm : a ≠ sysModules) (ho : OR C ρ h' a o) :
    Sim C (ρ ++ [a]) (H ++ [o]) { s with heap := h', toks := tk } ∧ Step ρ s (ρ ++ [a]) { s with heap := h', toks := tk } ∧ VR C (ρ ++ [a]) (.ref H.length) (.ref a) := by
  have hm : a ∉ ρ := fun hm => by
    obtain ⟨i, hi, e⟩ := List.getElem_of_mem hm
    have hi' : i < H.length := by rw [← S.len]; exact hi
    obtain ⟨ob, q⟩ := (S.obj i a H[i] (by rw [List.getElem?_eq_getElem hi, e]) (List.getElem?_eq_getElem hi')).alive C
    rw [hn] at q; cases q
  refine ⟨⟨by simp [S.len], ?_, fun i b x e q => ?_, fun b x e => k _ _ (S.stays b x e), fun i b e hi => ?_, ?_, S.gens, S.os⟩, ⟨⟨[a], rfl, fun b hb => by simp at hb; rw [hb]; exact hn⟩, fun b x _ _ e => k b x e, fun b x e => ⟨x, k b x e⟩⟩,
    ⟨a, rfl, by rw [← S.len]; simp⟩⟩
  · rw [List.nodup_append]
    exact ⟨S.nodup, by simp, fun x hx y hy => by simp at hy; rw [hy]; exact fun q => hm (q ▸ hx)⟩
  · rcases Nat.lt_or_ge i ρ.length with hi | hi
    · rw [List.getElem?_append_left hi] at e
      rw [List.getElem?_append_left (S.len ▸ hi)] at q
      exact (S.obj i b x e q).keep C [a] rfl fun _ x => k _ _ x
    · rw [List.getElem?_append_right hi] at e
      rw [List.getElem?_append_right (S.len ▸ hi)] at q
      rw [S.len] at e
      rcases Nat.eq_zero_or_pos (i - H.length) with z | z
      · rw [z] at e q
        simp at e q
        subst e q
        exact ho.keep C [a] rfl fun _ x => x
      · rw [List.getElem?_eq_none (by simp; omega)] at e; cases e
  · rcases Nat.lt_or_ge i ρ.length with hi' | hi'
    · rw [List.getElem?_append_left hi'] at e
      exact S.fresh i b e hi
    · rw [List.getElem?_append_right hi'] at e
      have : b = a := by
        rcases Nat.eq_zero_or_pos (i - ρ.length) with z | z
        · rw [z] at e; simpa using e.symm
        · rw [List.getElem?_eq_none (by simp; omega)] at e; cases e
      subst this
      cases q : C.base.get? b with
      | none => rfl
      | some x => rw [S.stays _ _ q] at hn; cases hn
  · intro hq
    rcases List.mem_append.mp hq with hq | hq
    · exact S.sm hq
    · simp only [List.mem_singleton] at hq
      exact hsm hq.symm

theorem Sim.size_ne {ρ : List Addr} {H : AHeap} {s : Shared} (S : Sim C ρ H s) : s.heap.objs.size ≠ sysModules := by
  obtain ⟨mc, ⟨o, es, ep, ho, _⟩, _⟩ := C.lim
  have h1 := Heap.lt_size (S.stays _ _ ho)
  exact fun q => absurd (Nat.lt_of_lt_of_le h1 (Nat.le_of_eq q)) (by decide)

/-- an object changed on both sides -/
theorem Sim.change {ρ : List Addr} {H : AHeap} {s : Shared} (S : Sim C ρ H s) {h' : Heap} {tk n : Nat} {a : Addr} {o : AObj} (hn : n ≠ 0) (e : ρ[n]? = some a) (k : ∀ b x, b ≠ a → s.heap.get? b = some x → h'.get? b = some x)
    (ho : OR C ρ h' a o) :
    Sim C ρ (H.set n o) { s with heap := h', toks := tk } ∧ Step ρ s ρ { s with heap := h', toks := tk } := by
  have hm : a ∈ ρ := List.mem_of_getElem? e
  refine ⟨⟨by simp [S.len], S.nodup, fun i b x e1 q => ?_, fun b x q => k _ _ (fun z => ?_) (S.stays b x q), S.fresh, S.sm, S.gens, S.os⟩,
    ⟨⟨[], by simp, fun _ h => nomatch h⟩, fun b x hb _ q => k b x (fun z => hb (z ▸ hm)) q, fun b x q => ?_⟩⟩
  · by_cases hi : i = n
    · subst hi
      rw [e] at e1; cases e1
      rw [List.getElem?_set_self] at q
      · cases q; exact ho
      · rw [← S.len]; exact (List.getElem?_eq_some_iff.mp e).1
    · rw [List.getElem?_set_ne (Ne.symm hi)] at q
      refine (S.obj i b x e1 q).keep C [] (by simp) fun y z => k _ _ (fun w => hi ?_) z
      subst w
      obtain ⟨h1, h2⟩ := List.getElem?_eq_some_iff.mp e
      obtain ⟨h3, h4⟩ := List.getElem?_eq_some_iff.mp e1
      exact (List.getElem_inj S.nodup).mp (h4.trans h2.symm)
  · rw [z, S.fresh n a e hn] at q; cases q
  · by_cases hb : b = a
    · subst hb; exact ho.alive C
    · exact ⟨x, k b x hb q⟩

end Mine
end
section
namespace Mine
open PySem PySem.Calls PyProof.Rows

/-! What is said of the model's trees: posts, frames, names. -/

abbrev Cx.M (C : Cx) : Model := model C.prog C.w

structure AOk (K : Nat) (A : Around) : Prop where
  h : A.handled = none
  d : A.depth + K < recursionLimit
  u : A.units + 5 * K + 200 < cLine
theorem AOk.deeper {K : Nat} {A : Around} (a : AOk (K + 1) A) (env : Env) : AOk K (A.deeper env) := ⟨a.h, by show A.depth + 1 + K < _; have := a.d; omega, by show A.units + 3 + 5 * K + 200 < _; have := a.u; omega⟩
theorem AOk.le {K K' : Nat} {A : Around} (a : AOk K A) (h : K' ≤ K) : AOk K' A := ⟨a.h, by have := a.d; omega, by have := a.u; omega⟩
theorem AOk.room {K : Nat} {A : Around} (a : AOk K A) : A.units + 64 < cLine := by have := a.u; omega

variable (C : Cx)

/-- an exception that flies (none in this make) -/
noncomputable def XR (_ : List Addr) (_ : Str) (_ : Value) (_ : Shared) : Prop := False

noncomputable def PV (ρ : List Addr) (s : Shared) (Q : VPost) : Value → Shared → Prop := fun u s' => ∃ ρ' H' v, Step ρ s ρ' s' ∧ Sim C ρ' H' s' ∧ VR C ρ' v u ∧ Q v H'
noncomputable def PL (ρ : List Addr) (s : Shared) (Q : List V → AHeap → Prop) : List Value → Shared → Prop := fun us s' => ∃ ρ' H' vs, Step ρ s ρ' s' ∧ Sim C ρ' H' s' ∧ All2 (VR C ρ') vs us ∧ Q vs H'
noncomputable def PB (ρ : List Addr) (s : Shared) (Q : Bool → AHeap → Prop) : Bool → Shared → Prop := fun b s' => ∃ ρ' H', Step ρ s ρ' s' ∧ Sim C ρ' H' s' ∧ Q b H'
noncomputable def PX (ex : Addr → Prop) (ρ : List Addr) (s : Shared) (X : XPost) : Value → Shared → Prop := fun e s' => ∃ ρ' H' c, StepG ex ρ s ρ' s' ∧ Sim C ρ' H' s' ∧ XR ρ' c e s' ∧ X c H'

structure FR (env : Env) (σ : Sg) (ρ : List Addr) (h : Heap) : Prop where
  dot : σ dot0 = none
  kind : env.scope.kind = .function
  glob : env.globals = mainGlobals
  bl : env.builtins = builtinsNs
  ns : ∃ m, h.Ns env.locals m ∧ ∀ x v, σ x = some v → env.kindOf x = some .local → ∃ u, m x = some u ∧ VR C ρ v u
  cells : ∀ x c, env.cells.lookup x = some c → ∃ ov, h.IsCell c ov ∧ ∀ v, σ x = some v → env.kindOf x = some .cell → ∃ u, ov = some u ∧ VR C ρ v u
  has : ∀ x, env.kindOf x = some .cell → ∃ c, env.cells.lookup x = some c
  nL : env.locals ∉ ρ
  nC : ∀ x c, env.cells.lookup x = some c → c ∉ ρ ∧ c ≠ env.locals
  apart : ∀ x y c, env.cells.lookup x = some c → env.cells.lookup y = some c → x = y
  bL : C.base.get? env.locals = none
  bC : ∀ x c, env.cells.lookup x = some c → C.base.get? c = none

variable {C}

theorem PV.trans {ρ ρ1 : List Addr} {s s1 : Shared} {Q : VPost} {u : Value} {s' : Shared} (st : Step ρ s ρ1 s1) (h : PV C ρ1 s1 Q u s') : PV C ρ s Q u s' :=
  let ⟨ρ', H', v, a, b, c, d⟩ := h; ⟨ρ', H', v, st.trans a, b, c, d⟩
theorem PL.trans {ρ ρ1 : List Addr} {s s1 : Shared} {Q : List V → AHeap → Prop} {u : List Value} {s' : Shared} (st : Step ρ s ρ1 s1) (h : PL C ρ1 s1 Q u s') : PL C ρ s Q u s' :=
  let ⟨ρ', H', v, a, b, c, d⟩ := h; ⟨ρ', H', v, st.trans a, b, c, d⟩
theorem PB.trans {ρ ρ1 : List Addr} {s s1 : Shared} {Q : Bool → AHeap → Prop} {u : Bool} {s' : Shared} (st : Step ρ s ρ1 s1) (h : PB C ρ1 s1 Q u s') : PB C ρ s Q u s' :=
  let ⟨ρ', H', a, b, d⟩ := h; ⟨ρ', H', st.trans a, b, d⟩
theorem PX.trans {ex : Addr → Prop} {ρ ρ1 : List Addr} {s s1 : Shared} {X : XPost} {u : Value} {s' : Shared} (st : StepG ex ρ s ρ1 s1) (h : PX C ex ρ1 s1 X u s') : PX C ex ρ s X u s' :=
  let ⟨ρ', H', v, a, b, c, d⟩ := h; ⟨ρ', H', v, st.trans a, b, c, d⟩
theorem PX.none {ex : Addr → Prop} {ρ : List Addr} {s : Shared} {X : XPost} {u : Value} {s' : Shared} (h : PX C ex ρ s X u s') : False := let ⟨_, _, _, _, _, c, _⟩ := h; c

/-- what E must take: every exception that the abstract side lets fly -/
abbrev Takes (C : Cx) (ρ : List Addr) (s : Shared) (X : XPost) (E : Value → Shared → Prop) : Prop := ∀ e s', PX C (fun _ => False) ρ s X e s' → E e s'
theorem Takes.on {ρ ρ1 : List Addr} {s s1 : Shared} {X : XPost} {E : Value → Shared → Prop} (h : Takes C ρ s X E) (st : Step ρ s ρ1 s1) : Takes C ρ1 s1 X E := fun e s' p => h e s' (p.trans st)

theorem FR.step {env : Env} {σ : Sg} {ρ ρ' : List Addr} {s s' : Shared} (F : FR C env σ ρ s.heap) (st : Step ρ s ρ' s') : FR C env σ ρ' s'.heap := by
  obtain ⟨l, e, f⟩ := st.ext
  have nn : ∀ b o, s.heap.get? b = some o → b ∉ ρ → b ∉ ρ' := fun b o q hb hm => by
    rw [e] at hm
    rcases List.mem_append.mp hm with hm | hm
    · exact hb hm
    · rw [f b hm] at q; cases q
  refine ⟨F.dot, F.kind, F.glob, F.bl, ?_, fun x c hc => ?_, F.has, ?_, fun x c hc => ⟨?_, (F.nC x c hc).2⟩, F.apart, F.bL, F.bC⟩
  · obtain ⟨m, hn, hv⟩ := F.ns
    exact ⟨m, hn.at' fun o q => st.keep _ o F.nL id q, fun x v h1 h2 => let ⟨u, h3, h4⟩ := hv x v h1 h2; ⟨u, h3, st.vr h4⟩⟩
  · obtain ⟨ov, ⟨o, ho, hd⟩, hv⟩ := F.cells x c hc
    exact ⟨ov, ⟨o, st.keep _ o (F.nC x c hc).1 id ho, hd⟩, fun v h1 h2 => let ⟨u, h3, h4⟩ := hv v h1 h2; ⟨u, h3, st.vr h4⟩⟩
  · obtain ⟨m, ⟨o, es, ep, ho, _⟩, _⟩ := F.ns
    exact nn _ o ho F.nL
  · obtain ⟨ov, ⟨o, ho, hd⟩, hv⟩ := F.cells x c hc
    exact nn _ o ho (F.nC x c hc).1

/-- a name read -/
theorem load_ok {env : Env} {σ : Sg} {ρ : List Addr} {s : Shared} {A : Around} {E : Value → Shared → Prop} {Q : Value → Shared → Prop} {x : Str} {v : V} (F : FR C env σ ρ s.heap) (hx : σ x = some v)
    (hk : env.kindOf x = some .local ∨ env.kindOf x = some .cell) (h : ∀ u, VR C ρ v u → Q u s) : wpAny C.M A (loadName env x) Q E s := by
  rcases hk with hk | hk
  · obtain ⟨m, hn, hv⟩ := F.ns
    obtain ⟨u, h1, h2⟩ := hv x v hx hk
    exact wpAny_loadName_local F.kind hk hn h1 (h u h2)
  · obtain ⟨c, hc⟩ := F.has x hk
    obtain ⟨ov, hi, hv⟩ := F.cells x c hc
    obtain ⟨u, rfl, h2⟩ := hv v hx hk
    exact wpAny_loadName_cell F.kind hk hc hi (h u h2)

/-- the frame's own objects -/
noncomputable def own (env : Env) (b : Addr) : Prop := b = env.locals ∨ ∃ x, env.cells.lookup x = some b
/-- those of them that the names xs reach -/
noncomputable def ownT (env : Env) (Z : List Str) (b : Addr) : Prop := b = env.locals ∨ ∃ x ∈ Z, env.kindOf x = some .cell ∧ env.cells.lookup x = some b
theorem ownT.own {env : Env} {Z : List Str} : ∀ b, ownT env Z b → own env b
  | _, .inl h => .inl h
  | _, .inr ⟨x, _, _, h⟩ => .inr ⟨x, h⟩

theorem Sim.frame {ρ : List Addr} {H : AHeap} {s : Shared} (S : Sim C ρ H s) {h' : Heap} {tk : Nat} {a : Addr} (ha : a ∉ ρ) (hb : C.base.get? a = none) (hs : Heap.SameBut a s.heap h') : Sim C ρ H { s with heap := h', toks := tk } :=
  ⟨S.len, S.nodup, fun i b o e q => (S.obj i b o e q).keep C [] (by simp) fun _ x => (hs.2 b fun z => ha (z ▸ List.mem_of_getElem? e)).trans x,
   fun b o e => (hs.2 b fun z => by rw [z, hb] at e; cases e).trans (S.stays b o e), S.fresh, S.sm, S.gens, S.os⟩

theorem step_same {ex : Addr → Prop} {ρ : List Addr} {s : Shared} {h' : Heap} {tk : Nat} {a : Addr} {o₁ : Obj} (he : ex a) (hs : Heap.SameBut a s.heap h') (ho : h'.get? a = some o₁) : StepG ex ρ s ρ { s with heap := h', toks := tk } :=
  ⟨⟨[], by simp, fun _ h => nomatch h⟩, fun b o _ hx e => (hs.2 b fun z => hx (z ▸ he)).trans e, fun b o e => by
    by_cases z : b = a
    · exact ⟨o₁, z ▸ ho⟩
    · exact ⟨o, (hs.2 b z).trans e⟩⟩

/-- a name stored -/
theorem store_ok {env : Env} {σ : Sg} {ρ : List Addr} {H : AHeap} {s : Shared} {A : Around} {E : Value → Shared → Prop} {Q : Unit → Shared → Prop} {x : Str} {Z : List Str} {v : V} {u : Value} (F : FR C env σ ρ s.heap) (S : Sim C ρ H s) (hZ : x ∈ Z)
    (hk : env.kindOf x = some .local ∨ env.kindOf x = some .cell) (h0 : x ≠ dot0) (hu : VR C ρ v u)
    (h : ∀ s', FR C env (σ.set x v) ρ s'.heap → Sim C ρ H s' → StepG (ownT env Z) ρ s ρ s' → Q () s') : wpAny C.M A (storeName env x u) Q E s := by
  have hdot : σ.set x v dot0 = none := by unfold Sg.set; rw [if_neg (Ne.symm h0)]; exact F.dot
  rcases hk with hk | hk
  · obtain ⟨m, hn, hv⟩ := F.ns
    refine wpAny_storeName_local hk hn (fun h' hn' hs' => ?_) (by rw [F.kind]; rfl)
    obtain ⟨o₁, es, ep, ho, _⟩ := id hn'
    refine h _ ⟨hdot, F.kind, F.glob, F.bl, ⟨_, hn', fun y w h1 h2 => ?_⟩, fun y c hc => ?_, F.has, F.nL, F.nC, F.apart, F.bL, F.bC⟩ (S.frame F.nL F.bL hs') (step_same (.inl rfl) hs' ho)
    · by_cases hy : y = x
      · subst hy
        unfold Sg.set at h1
        rw [if_pos rfl] at h1 ⊢
        cases h1
        exact ⟨u, rfl, hu⟩
      · unfold Sg.set at h1
        rw [if_neg hy] at h1 ⊢
        exact hv y w h1 h2
    · obtain ⟨ov, hi, hc'⟩ := F.cells y c hc
      refine ⟨ov, hi.sameBut hs' (F.nC y c hc).2, fun w h1 h2 => ?_⟩
      have hy : y ≠ x := fun z => by rw [z, hk] at h2; cases h2
      unfold Sg.set at h1
      rw [if_neg hy] at h1
      exact hc' w h1 h2
  · obtain ⟨c, hc⟩ := F.has x hk
    obtain ⟨ov, hi, hv⟩ := F.cells x c hc
    refine wpAny_storeName_cell F.kind hk hc hi fun h' hi' hs' => ?_
    obtain ⟨o₁, ho, hd⟩ := id hi'
    refine h _ ⟨hdot, F.kind, F.glob, F.bl, ?_, fun y d hd' => ?_, F.has, F.nL, F.nC, F.apart, F.bL, F.bC⟩ (S.frame (tk := s.toks) (F.nC x c hc).1 (F.bC x c hc) hs') (step_same (tk := s.toks) (.inr ⟨x, hZ, hk, hc⟩) hs' ho)
    · obtain ⟨m, hn, hm⟩ := F.ns
      refine ⟨m, hn.sameBut hs' (Ne.symm (F.nC x c hc).2), fun y w h1 h2 => ?_⟩
      have hy : y ≠ x := fun z => by rw [z, hk] at h2; cases h2
      unfold Sg.set at h1
      rw [if_neg hy] at h1
      exact hm y w h1 h2
    · by_cases hy : y = x
      · subst hy
        rw [hc] at hd'; cases hd'
        refine ⟨_, hi', fun w h1 _ => ?_⟩
        unfold Sg.set at h1
        rw [if_pos rfl] at h1
        cases h1
        exact ⟨u, rfl, hu⟩
      · obtain ⟨ov', hi2, hv2⟩ := F.cells y d hd'
        refine ⟨ov', hi2.sameBut hs' (fun z => hy (F.apart y x c (z ▸ hd') hc)), fun w h1 h2 => ?_⟩
        unfold Sg.set at h1
        rw [if_neg hy] at h1
        exact hv2 w h1 h2

/-- a global read -/
theorem global_ok {env : Env} {σ : Sg} {ρ : List Addr} {H : AHeap} {s : Shared} {A : Around} {E : Value → Shared → Prop} {Q : Value → Shared → Prop} {x : Str} {u : Value} {pos : Pos} (F : FR C env σ ρ s.heap) (S : Sim C ρ H s)
    (hk : env.kindOf x = some .globalImplicit) (hg : C.G x = some u) (hd : (x == Str.ofString "__debug__") = false) (h : Q u s) : wpAny C.M A (eval (.Name x pos) env) Q E s := by
  refine Name_function_global F.kind hk ?_ hd
  rcases C.hG x u hg with e | ⟨e1, e2⟩
  · exact loadGlobal_global (by rw [F.glob]; exact C.hg.keeps S.stays) e h
  · exact loadGlobal_builtin (by rw [F.glob]; exact C.hg.keeps S.stays) e1 (by rw [F.bl]; exact C.hb.keeps S.stays) e2 h

end Mine
end
section
namespace Mine
open PySem PySem.Calls PyProof.Rows

/-! The operations: numbers, texts, lists, comparisons, items, slices. -/

theorem okT_iff {a : Txt} : okT a = true ↔ a.length ≤ lid ∧ ∀ c ∈ a, c < 1114112 := by
  unfold okT; rw [Bool.and_eq_true, decide_eq_true_eq, List.all_eq_true]
  exact ⟨fun h => ⟨h.1, fun c hc => of_decide_eq_true (h.2 c hc)⟩, fun h => ⟨h.1, fun c hc => decide_eq_true (h.2 c hc)⟩⟩
theorem okT_append {a b : Txt} (ha : okT a = true) (hb : okT b = true) (hl : a.length + b.length ≤ lid) : okT (a ++ b) = true := by
  rw [okT_iff] at *
  refine ⟨by rw [List.length_append]; exact hl, fun c hc => ?_⟩
  rcases List.mem_append.mp hc with h | h
  · exact ha.2 c h
  · exact hb.2 c h
theorem okT_take {a : Txt} (ha : okT a = true) (n : Nat) : okT (a.take n) = true := by
  rw [okT_iff] at *; exact ⟨Nat.le_trans (by rw [List.length_take]; exact Nat.min_le_right _ _) ha.1, fun c hc => ha.2 c (List.mem_of_mem_take hc)⟩
theorem okT_drop {a : Txt} (ha : okT a = true) (n : Nat) : okT (a.drop n) = true := by
  rw [okT_iff] at *; exact ⟨Nat.le_trans (by rw [List.length_drop]; exact Nat.sub_le _ _) ha.1, fun c hc => ha.2 c (List.mem_of_mem_drop hc)⟩
theorem okT_cut {a : Txt} (ha : okT a = true) (i j : Nat) : okT (cut a i j) = true := okT_drop (okT_take ha j) i

theorem str_append (a b : Txt) : (⟨a.toArray⟩ : Str) ++ ⟨b.toArray⟩ = ⟨(a ++ b).toArray⟩ := by
  show (⟨_⟩ : Str) = _
  congr 1
  simp
theorem str_len (a : Txt) : (⟨a.toArray⟩ : Str).length = a.length := by show a.toArray.size = _; simp
theorem str_cps (a : Txt) : (⟨a.toArray⟩ : Str).cps.toList = a := by simp
theorem lid_le {n : Nat} (h : n ≤ lid) : n ≤ sizeLine := by rw [sizeLine_eq]; unfold lid at h; omega

section
variable {C : Cx} {ρ : List Addr} {H : AHeap} {s : Shared} {A : Around} {E : Value → Shared → Prop} {Q : VPost}

theorem vi (i : Int) (t : Tok) : VR C ρ (.int i) (.int i t) := ⟨t, rfl⟩
theorem vt {x : Txt} (h : okT x = true) (t : Tok) : VR C ρ (.str x) (.str ⟨x.toArray⟩ t) := ⟨h, t, rfl⟩
theorem vb (b : Bool) : VR C ρ (.bool b) (.bool b) := rfl

theorem here {v : V} {u : Value} {t : Nat} (S : Sim C ρ H s) (hv : VR C ρ v u) (hq : Q v H) : PV C ρ s Q u { s with toks := t } := ⟨ρ, H, v, StepG.toks t, S.toks t, hv, hq⟩
theorem here0 {v : V} {u : Value} (S : Sim C ρ H s) (hv : VR C ρ v u) (hq : Q v H) : PV C ρ s Q u s := ⟨ρ, H, v, StepG.refl ρ s, S, hv, hq⟩

theorem get_push {h : Heap} {o : Obj} : ∀ b x, h.get? b = some x → (h.push o).get? b = some x := fun _ _ e => Heap.get?_push_of_some _ e
theorem get_size (h : Heap) : h.get? h.objs.size = none := by
  cases e : h.get? h.objs.size with
  | none => rfl
  | some o => exact absurd (Heap.lt_size e) (Nat.lt_irrefl _)

/-- a new list | tuple, pushed -/
theorem pushed_list {us : List Value} {vs : List V} {tk : Nat} (S : Sim C ρ H s) (hv : All2 (VR C ρ) vs us) (hl : vs.length ≤ lid) (hq : Q (.ref H.length) (H ++ [.list vs])) :
    PV C ρ s Q (.ref s.heap.objs.size) { s with heap := s.heap.push { cls := .type "list", data := .seq us.toArray }, toks := tk } := by
  obtain ⟨a, b, c⟩ := S.alloc (a := s.heap.objs.size) (o := .list vs) (h' := s.heap.push { cls := .type "list", data := .seq us.toArray }) (tk := tk) get_push (get_size _) S.size_ne ⟨us.toArray, 0, Heap.get?_push_size _ rfl, by simpa using hv, hl⟩
  exact ⟨_, _, _, b, a, c, hq⟩
theorem pushed_tuple {us : List Value} {vs : List V} {tk : Nat} (S : Sim C ρ H s) (hv : All2 (VR C ρ) vs us) (hl : vs.length ≤ lid) (hq : Q (.ref H.length) (H ++ [.tuple vs])) :
    PV C ρ s Q (.ref s.heap.objs.size) { s with heap := s.heap.push { cls := .type "tuple", data := .seq us.toArray }, toks := tk } := by
  obtain ⟨a, b, c⟩ := S.alloc (a := s.heap.objs.size) (o := .tuple vs) (h' := s.heap.push { cls := .type "tuple", data := .seq us.toArray }) (tk := tk) get_push (get_size _) S.size_ne ⟨us.toArray, 0, Heap.get?_push_size _ rfl, by simpa using hv, hl⟩
  exact ⟨_, _, _, b, a, c, hq⟩

theorem binA_ok {op : Operator} {a b : V} {u w : Value} (h : binA op a b H Q) (S : Sim C ρ H s) (hu : VR C ρ a u) (hw : VR C ρ b w) : wpAny C.M A (binaryOp op u w) (PV C ρ s Q) E s := by
  unfold binA at h
  split at h
  · obtain ⟨t, rfl⟩ := hu; obtain ⟨t', rfl⟩ := hw; exact add_int (here S (vi _ _) h)
  · obtain ⟨t, rfl⟩ := hu; obtain ⟨t', rfl⟩ := hw; exact sub_int (here S (vi _ _) h)
  · obtain ⟨t, rfl⟩ := hu; obtain ⟨t', rfl⟩ := hw
    refine mul_int (here S (vi _ _) h.2) ?_
    rcases h.1 with q | q
    · exact IntMulOk.of_left (intBits_le_64 (by omega) (by omega))
    · exact IntMulOk.of_right (intBits_le_64 (by omega) (by omega))
  · obtain ⟨t, rfl⟩ := hu; obtain ⟨t', rfl⟩ := hw
    obtain ⟨h1, h2, h3⟩ := h
    refine floordiv_int (by omega) ?_ (.inl (PyProof.noPylong_small (by omega)))
    rw [Int.fdiv_eq_ediv_of_nonneg _ (by omega)]
    exact here S (vi _ _) h3
  · obtain ⟨t, rfl⟩ := hu; obtain ⟨t', rfl⟩ := hw
    obtain ⟨h1, h3⟩ := h
    refine mod_int' (by omega) ?_
    rw [Int.fmod_eq_emod_of_nonneg _ (by omega)]
    exact here S (vi _ _) h3
  · obtain ⟨hx, t, rfl⟩ := hu; obtain ⟨hy, t', rfl⟩ := hw
    obtain ⟨h1, h2⟩ := h
    refine P.add_str ?_
    split
    · rename_i q
      simp only [str_len, beq_iff_eq] at q
      have := List.eq_nil_of_length_eq_zero q
      subst this
      exact here0 S (vt hy t') h2
    · split
      · rename_i q
        simp only [str_len, beq_iff_eq] at q
        have := List.eq_nil_of_length_eq_zero q
        subst this
        rw [List.append_nil] at h2
        exact here0 S (vt hx t) h2
      · rw [str_append]
        exact ⟨by rw [str_len, List.length_append]; exact lid_le h1, here S (vt (okT_append hx hy h1) _) h2⟩
  · split at h
    · rename_i xs ys e1 e2
      obtain ⟨a, rfl, ea, us, n, ho, hs, hl⟩ := S.lookup e1 hu
      obtain ⟨b, rfl, eb, us', n', ho', hs', hl'⟩ := S.lookup e2 hw
      have l1 := hs.length
      have l2 := hs'.length
      refine P.add_list ho ho' ?_ (by simp at l1 l2; rw [← l1, ← l2]; exact lid_le h.1)
      have := pushed_list (us := us.toList ++ us'.toList) (tk := s.toks) S (hs.append hs') (by rw [List.length_append]; exact h.1) h.2
      rwa [show (us.toList ++ us'.toList).toArray = us ++ us' by rw [← List.append_toArray]] at this
    · exact h.elim
  · rename_i m k
    split at h
    · rename_i x e1
      obtain ⟨a, rfl, ea, us, n, ho, hs, hl⟩ := S.lookup e1 hu
      obtain ⟨t, rfl⟩ := hw
      obtain ⟨h1, h2, h3⟩ := h
      obtain ⟨us⟩ := us
      cases hs with
      | cons hx hn =>
      cases hn
      rename_i y
      unfold lid at h2
      refine wpAny_binaryOp_repeat_ref (T := "list") (U := "int") (by decide) ⟨_, ho, rfl⟩ (fun s' => typeIs_int s' k t) noFill_list_mul F.fills_int_mul F.slot_int_rmul repeat_list F.slot_int_index.lookup
        (call_meets F.slot_int_rmul (typeIs_int s k t) F.entry_int_rmul (F.args_int_rmul_2 _ _) (int___rmul___int_list k t a #[y] n)
          ⟨ho, rfl, ⟨_, ho, rfl⟩, call_meets F.slot_list_mul ⟨_, ho, rfl⟩ F.entry_list_mul (F.args_list_mul_2 _ _)
            (AutoListH.list___mul___list_int_3 a #[y] n k t (by simp [Builtin.List.listFitsIndex]; omega) (by simp; omega) (by simp [Builtin.List.listTooLong, sizeLine]; omega))
            ⟨ho, ?_⟩⟩)
      have e : List.foldl (fun x1 x2 : Array Value => x1 ++ x2) #[] (List.replicate (if (#[y] : Array Value).isEmpty = true then 0 else k.toNat) #[y]) = (List.replicate k.toNat y).toArray := by
        rw [if_neg (by simp)]
        have : ∀ (n : Nat) (z : List Value), List.foldl (fun x1 x2 : Array Value => x1 ++ x2) z.toArray (List.replicate n #[y]) = (z ++ List.replicate n y).toArray := by
          intro n
          induction n with
          | zero => intro z; simp
          | succ n ih =>
            intro z
            rw [List.replicate_succ, List.foldl_cons]
            have := ih (z ++ [y])
            simp only [List.append_toArray] at this ⊢
            rw [this, List.replicate_succ]; simp
        exact this k.toNat []
      have e' := pushed_list (tk := s.toks) S (All2.replicate hx k.toNat) (by rw [List.length_replicate]; unfold lid; omega) h3
      rw [← e] at e'
      exact e'
    · exact h.elim
  · exact h.elim

/-! data read off the heap -/
mutual
noncomputable def Dt.py : Dt → PyData
  | .none => .none
  | .bool b => .bool b
  | .int i => .int i
  | .str t => .str ⟨t.toArray⟩
  | .list xs => .list (Dt.pys xs)
  | .tuple xs => .tuple (Dt.pys xs)
noncomputable def Dt.pys : List Dt → List PyData
  | [] => []
  | x :: r => Dt.py x :: Dt.pys r
end
mutual
theorem Dt.eqv_py : ∀ (x y : Dt), PyData.eqv x.py y.py = Dt.eqv x y
  | .none, y => by cases y <;> simp [Dt.py, PyData.eqv, Dt.eqv]
  | .bool a, y => by cases y <;> simp [Dt.py, PyData.eqv, Dt.eqv]
  | .int a, y => by cases y <;> simp [Dt.py, PyData.eqv, Dt.eqv]
  | .str a, y => by
    cases y with
    | str b =>
      simp only [Dt.py, PyData.eqv, Dt.eqv]
      rw [Bool.eq_iff_iff, beq_iff_eq, beq_iff_eq]
      exact ⟨fun h => by simpa using h, fun h => by rw [h]⟩
    | _ => simp [Dt.py, PyData.eqv, Dt.eqv]
  | .list a, y => by
    cases y with
    | list b => simp only [Dt.py, PyData.eqv, Dt.eqv]; exact Dt.eqvL_pys a b
    | _ => simp [Dt.py, PyData.eqv, Dt.eqv]
  | .tuple a, y => by
    cases y with
    | tuple b => simp only [Dt.py, PyData.eqv, Dt.eqv]; exact Dt.eqvL_pys a b
    | _ => simp [Dt.py, PyData.eqv, Dt.eqv]
theorem Dt.eqvL_pys : ∀ (x y : List Dt), PyData.eqvAll (Dt.pys x) (Dt.pys y) = Dt.eqvL x y
  | [], [] => by simp [Dt.pys, PyData.eqvAll, Dt.eqvL]
  | [], _ :: _ => by simp [Dt.pys, PyData.eqvAll, Dt.eqvL]
  | _ :: _, [] => by simp [Dt.pys, PyData.eqvAll, Dt.eqvL]
  | a :: r, b :: t => by simp only [Dt.pys, PyData.eqvAll, Dt.eqvL]; rw [Dt.eqv_py a b, Dt.eqvL_pys r t]
end

theorem rdL_reads {f : V → Option Dt} {n : Nat} (ih : ∀ v d u, f v = some d → VR C ρ v u → ∃ as, Reads s.heap u d.py as ∧ d.py.canLay0 = true ∧ d.py.depth ≤ n) :
    ∀ (vs : List V) (us : List Value) (ds : List Dt), rdL f vs = some ds → All2 (VR C ρ) vs us → ∃ as, ReadsAll s.heap us (Dt.pys ds) as ∧ PyData.canLayAll0 (Dt.pys ds) = true ∧ PyData.depthAll (Dt.pys ds) ≤ n
  | [], _, ds, h, .nil => by cases h; exact ⟨[], .nil, rfl, by simp [Dt.pys, PyData.depthAll]⟩
  | v :: vs, _, ds, h, .cons hv hr => by
    unfold rdL at h
    split at h
    · rename_i d ds' e1 e2
      cases h
      obtain ⟨as, r1, c1, d1⟩ := ih v d _ e1 hv
      obtain ⟨bs, r2, c2, d2⟩ := rdL_reads ih vs _ ds' e2 hr
      exact ⟨as ++ bs, .cons r1 r2, by simp [Dt.pys, PyData.canLayAll0, c1, c2], by simp only [Dt.pys, PyData.depthAll]; omega⟩
    · cases h

theorem rd_reads (S : Sim C ρ H s) : ∀ (n : Nat) (v : V) (d : Dt) (u : Value), rd H n v = some d → VR C ρ v u → ∃ as, Reads s.heap u d.py as ∧ d.py.canLay0 = true ∧ d.py.depth ≤ n
  | n, .none, d, u, h, hv => by
    have : d = .none := by cases n <;> (unfold rd at h; exact (Option.some.inj h).symm)
    subst this; cases hv
    exact ⟨[], .none, rfl, by simp [Dt.py, PyData.depth]⟩
  | n, .bool b, d, u, h, hv => by
    have : d = .bool b := by cases n <;> (unfold rd at h; exact (Option.some.inj h).symm)
    subst this; cases hv
    exact ⟨[], .bool b, rfl, by simp [Dt.py, PyData.depth]⟩
  | n, .int i, d, u, h, hv => by
    have : d = .int i := by cases n <;> (unfold rd at h; exact (Option.some.inj h).symm)
    subst this
    obtain ⟨t, rfl⟩ := hv
    exact ⟨[], .int i t, rfl, by simp [Dt.py, PyData.depth]⟩
  | n, .str x, d, u, h, hv => by
    have : d = .str x := by cases n <;> (unfold rd at h; exact (Option.some.inj h).symm)
    subst this
    obtain ⟨ok, t, rfl⟩ := hv
    refine ⟨[], .str _ t, ?_, by simp [Dt.py, PyData.depth]⟩
    simp only [Dt.py, PyData.canLay0, PyData.strOk]
    have := (okT_iff.mp ok).2
    rw [Array.all_eq_true_iff_forall_mem]
    intro c hc
    exact decide_eq_true (this c (by simpa using hc))
  | 0, .ref a, d, u, h, hv => by unfold rd at h; cases h
  | n + 1, .ref a, d, u, h, hv => by
    unfold rd at h
    split at h
    · rename_i xs e
      obtain ⟨b, rfl, eb, us, k, ho, hs, hl⟩ := S.lookup e hv
      cases e2 : rdL (rd H n) xs with
      | none => rw [e2] at h; cases h
      | some ds =>
        rw [e2] at h; cases h
        obtain ⟨as, r1, c1, d1⟩ := rdL_reads (C := C) (ρ := ρ) (n := n) (fun v d u h1 h2 => rd_reads S n v d u h1 h2) xs us.toList ds e2 hs
        exact ⟨b :: as, .list ho rfl rfl r1, by simpa [Dt.py, PyData.canLay0] using c1, by simp only [Dt.py, PyData.depth]; omega⟩
    · rename_i xs e
      obtain ⟨b, rfl, eb, us, k, ho, hs, hl⟩ := S.lookup e hv
      cases e2 : rdL (rd H n) xs with
      | none => rw [e2] at h; cases h
      | some ds =>
        rw [e2] at h; cases h
        obtain ⟨as, r1, c1, d1⟩ := rdL_reads (C := C) (ρ := ρ) (n := n) (fun v d u h1 h2 => rd_reads S n v d u h1 h2) xs us.toList ds e2 hs
        exact ⟨as, .tuple ho rfl rfl r1, by simpa [Dt.py, PyData.canLay0] using c1, by simp only [Dt.py, PyData.depth]; omega⟩
    · cases h
  | n, .glob g, d, u, h, hv => by cases n <;> (unfold rd at h; cases h)
  | n, .exn g, d, u, h, hv => by cases n <;> (unfold rd at h; cases h)

/-- a dict as the library sees it -/
theorem dict_map {es : List (Txt × V)} {ds : Array DictEntry} {n : Nat} {a : Addr} (ho : s.heap.get? a = some ⟨.type "dict", none, .dict ds n, #[]⟩) (hs : All2 (ER C ρ) es ds.toList) :
    s.heap.MapOf (PySem.strKind C.prog C.w) a (fun k => findBy Value.isStrOf ds k) :=
  ⟨_, ds, n, ho, ⟨rfl, rfl, rfl⟩, rfl, fun e he => by
    obtain ⟨p, hp, ⟨_, t, e1⟩, e2, e3⟩ := hs.right e (Array.mem_toList_iff.mpr he)
    exact ⟨⟨p.1.toArray⟩, by rw [e1]; exact strKind_is _ _ _ t, e2⟩, fun _ => rfl⟩

theorem dict_find {k : Txt} : ∀ {es : List (Txt × V)} {l : List DictEntry}, All2 (ER C ρ) es l →
    (es.find? (fun e => e.1 == k) = none ∧ l.find? (fun e => Value.isStrOf ⟨k.toArray⟩ e.key) = none) ∨
    ∃ e d, es.find? (fun e => e.1 == k) = some e ∧ l.find? (fun e => Value.isStrOf ⟨k.toArray⟩ e.key) = some d ∧ VR C ρ e.2 d.val
  | _, _, .nil => .inl ⟨rfl, rfl⟩
  | _, _, .cons (a := e) (b := d) (as := es) (bs := l) h r => by
    obtain ⟨⟨_, t, e1⟩, e2, e3⟩ := h
    by_cases q : e.1 = k
    · refine .inr ⟨e, d, ?_, ?_, e3⟩
      · rw [List.find?_cons_of_pos (by simpa using q)]
      · rw [List.find?_cons_of_pos (by rw [e1, q]; simp [Value.isStrOf])]
    · have q1 : ¬ ((e.1 == k) = true) := by simpa using q
      have q2 : ¬ (Value.isStrOf ⟨k.toArray⟩ d.key = true) := by rw [e1]; simpa [Value.isStrOf] using q
      have q3 : (e :: es).find? (fun e => e.1 == k) = es.find? (fun e => e.1 == k) := List.find?_cons_of_neg (p := fun e : Txt × V => e.1 == k) q1
      have q4 : (d :: l).find? (fun e => Value.isStrOf ⟨k.toArray⟩ e.key) = l.find? (fun e => Value.isStrOf ⟨k.toArray⟩ e.key) := List.find?_cons_of_neg (p := fun e : DictEntry => Value.isStrOf ⟨k.toArray⟩ e.key) q2
      rw [q3, q4]
      exact dict_find (k := k) r

theorem any_find {k : Txt} (es : List (Txt × V)) : (es.any fun e => e.1 == k) = (es.find? fun e => e.1 == k).isSome := by
  induction es with
  | nil => rfl
  | cons e r ih =>
    rw [List.any_cons, ih, List.find?_cons]
    cases e.1 == k <;> simp

theorem dict_has {es : List (Txt × V)} {ds : Array DictEntry} {k : Txt} (hs : All2 (ER C ρ) es ds.toList) : (findBy Value.isStrOf ds ⟨k.toArray⟩).isSome = es.any fun e => e.1 == k := by
  unfold findBy
  rw [any_find, ← Array.find?_toList]
  rcases dict_find (k := k) hs with ⟨z1, z2⟩ | ⟨e', d', z1, z2, z3⟩
  · rw [z1, z2]; rfl
  · rw [z1, z2]; rfl

theorem pys_any (d : Dt) : ∀ ds : List Dt, ((Dt.pys ds).any fun y => PyData.eqv y d.py) = ds.any fun x => Dt.eqv x d
  | [] => rfl
  | x :: r => by simp only [Dt.pys, List.any_cons]; rw [Dt.eqv_py, pys_any d r]

theorem cmpA_ok {K : Nat} {op : CmpOp} {a b : V} {u w : Value} {q : Bool → Prop} (h : cmpA op a b H q) (S : Sim C ρ H s) (hA : AOk K A) (hu : VR C ρ a u) (hw : VR C ρ b w) :
    wpAny C.M A (compareOp op u w) (fun r s' => ∃ c, r = .bool c ∧ Step ρ s ρ s' ∧ Sim C ρ H s' ∧ q c) E s := by
  have fin : ∀ c, q c → ∃ c', Value.bool c = .bool c' ∧ Step ρ s ρ s ∧ Sim C ρ H s ∧ q c' := fun c hc => ⟨c, rfl, StepG.refl _ _, S, hc⟩
  have fin' : ∀ c t, q c → ∃ c', Value.bool c = .bool c' ∧ Step ρ s ρ { s with toks := t } ∧ Sim C ρ H { s with toks := t } ∧ q c' := fun c t hc => ⟨c, rfl, StepG.toks _, S.toks _, hc⟩
  have hun := hA.u
  have isn : (u == Value.none) = decide (a = .none) := by
    cases a with
    | none => cases hu; rfl
    | bool b => cases hu; rfl
    | int i => obtain ⟨t, rfl⟩ := hu; rfl
    | str x => obtain ⟨_, t, rfl⟩ := hu; rfl
    | ref n => obtain ⟨x, rfl, _⟩ := hu; rfl
    | glob g =>
      have hu : C.G g = some u := hu
      cases hz : u == Value.none with
      | false => simp
      | true =>
        exfalso
        have hz := beq_iff_eq.mp hz
        subst hz
        exact C.hN g hu
    | exn c => exact hu.elim
  unfold cmpA at h
  split at h
  · unfold eqA at h
    split at h
    · rename_i x y e1 e2
      obtain ⟨as, r1, c1, d1⟩ := rd_reads S _ _ _ _ e1 hu
      obtain ⟨bs, r2, c2, d2⟩ := rd_reads S _ _ _ _ e2 hw
      refine SeqAt.compareEq_reads r1 r2 c1 c2 (by omega) ?_
      rw [Dt.eqv_py]; exact fin _ h
    · exact h.elim
  · unfold eqA at h
    split at h
    · rename_i x y e1 e2
      obtain ⟨as, r1, c1, d1⟩ := rd_reads S _ _ _ _ e1 hu
      obtain ⟨bs, r2, c2, d2⟩ := rd_reads S _ _ _ _ e2 hw
      refine SeqAt.compareNe_reads r1 r2 c1 c2 (by omega) ?_
      rw [Dt.eqv_py]; exact fin _ h
    · exact h.elim
  · obtain ⟨rfl, h⟩ := h
    cases hw
    refine PySem.is_none ?_
    rw [isn]; exact fin _ h
  · obtain ⟨rfl, h⟩ := h
    cases hw
    refine PySem.isNot_none ?_
    rw [isn]; exact fin _ h
  · split at h
    · obtain ⟨t, rfl⟩ := hu; obtain ⟨t', rfl⟩ := hw; exact lt_int (fin _ h)
    · exact h.elim
  · split at h
    · obtain ⟨t, rfl⟩ := hu; obtain ⟨t', rfl⟩ := hw; exact le_int (fin _ h)
    · exact h.elim
  · split at h
    · obtain ⟨t, rfl⟩ := hu; obtain ⟨t', rfl⟩ := hw; exact gt_int (fin _ h)
    · exact h.elim
  · split at h
    · obtain ⟨t, rfl⟩ := hu; obtain ⟨t', rfl⟩ := hw; exact ge_int (fin _ h)
    · exact h.elim
  · unfold inA at h
    split at h
    · split at h
      · rename_i u' c
        obtain ⟨_, t, rfl⟩ := hu; obtain ⟨_, t', rfl⟩ := hw
        refine P.in_str ?_
        rw [show (⟨[c].toArray⟩ : Str) = ⟨#[c]⟩ from rfl, StrLaws.found_one, str_cps]
        exact fin _ h
      · exact h.elim
    · rename_i n
      split at h
      · split at h
        · rename_i ds d e1 e2
          obtain ⟨as, r1, c1, d1⟩ := rd_reads S _ _ _ _ e1 hw
          obtain ⟨bs, r2, c2, d2⟩ := rd_reads S _ _ _ _ e2 hu
          simp only [Dt.py, PyData.canLay0, PyData.depth] at r1 c1 d1
          refine SeqAt.in_list_reads r1 r2 c1 c2 (by omega) ?_
          rw [pys_any]
          exact fin _ h
        · exact h.elim
      · rename_i es ep e
        split at h
        · rename_i k
          obtain ⟨a, rfl, ea, ds, ho, hs, _⟩ := S.lookup e hw
          obtain ⟨_, t, rfl⟩ := hu
          refine wpAny_in_of (strKind_is _ _ _ t) (by have : a ≠ sysModules := (fun z => S.sm (z ▸ List.mem_of_getElem? ea)); simpa using this) (dict_map ho hs) ?_
          rw [dict_has hs]; exact fin' _ _ h
        · exact h.elim
      · exact h.elim
    · exact h.elim
  · unfold inA at h
    split at h
    · split at h
      · rename_i u' c
        obtain ⟨_, t, rfl⟩ := hu; obtain ⟨_, t', rfl⟩ := hw
        refine P.notIn_str ?_
        rw [show (⟨[c].toArray⟩ : Str) = ⟨#[c]⟩ from rfl, StrLaws.found_one, str_cps]
        exact fin _ h
      · exact h.elim
    · rename_i n
      split at h
      · split at h
        · rename_i ds d e1 e2
          obtain ⟨as, r1, c1, d1⟩ := rd_reads S _ _ _ _ e1 hw
          obtain ⟨bs, r2, c2, d2⟩ := rd_reads S _ _ _ _ e2 hu
          simp only [Dt.py, PyData.canLay0, PyData.depth] at r1 c1 d1
          refine SeqAt.notIn_list_reads r1 r2 c1 c2 (by omega) ?_
          rw [pys_any]
          exact fin _ h
        · exact h.elim
      · rename_i es ep e
        split at h
        · rename_i k
          obtain ⟨a, rfl, ea, ds, ho, hs, _⟩ := S.lookup e hw
          obtain ⟨_, t, rfl⟩ := hu
          refine wpAny_notIn_of (strKind_is _ _ _ t) (by have : a ≠ sysModules := (fun z => S.sm (z ▸ List.mem_of_getElem? ea)); simpa using this) (dict_map ho hs) ?_
          rw [dict_has hs]; exact fin' _ _ h
        · exact h.elim
      · exact h.elim
    · exact h.elim
end
end Mine
end
section
namespace Mine
open PySem PySem.Calls PyProof.Rows

/-! Items, slices, truth, stores. -/

theorem place_eq (k : Int) (n : Nat) : seqIndex? k n = place k n := by
  unfold seqIndex? place
  by_cases h : 0 ≤ k
  · rw [if_pos h]
    simp only [show ¬ k < 0 by omega, if_false]
    by_cases h2 : k.toNat < n
    · rw [if_pos h2]
      have : (decide (0 ≤ k) && decide (k < (n : Int))) = true := by simp; omega
      rw [this]; rfl
    · rw [if_neg h2]
      have : (decide (0 ≤ k) && decide (k < (n : Int))) = false := by simp; omega
      rw [this]; rfl
  · rw [if_neg h]
    simp only [show k < 0 by omega, if_true]
    by_cases h2 : 0 ≤ k + n
    · rw [if_pos h2]
      have : (decide (0 ≤ k + (n : Int)) && decide (k + (n : Int) < (n : Int))) = true := by simp; omega
      rw [this]; rfl
    · rw [if_neg h2]
      have : (decide (0 ≤ k + (n : Int)) && decide (k + (n : Int) < (n : Int))) = false := by simp; omega
      rw [this]; rfl
theorem place_bounds {k : Int} {n j : Nat} (h : place k n = some j) : j < n ∧ -(n : Int) ≤ k ∧ k < n := by
  unfold place at h
  split at h
  · split at h
    · cases h; omega
    · cases h
  · split at h
    · cases h; omega
    · cases h

theorem clip_eq (i : Int) (n : Nat) : clipAt n i = clip i n := by
  have h := clipAt_cast n i
  unfold clip
  split at h <;> split <;> omega

theorem cut_eq {α : Type} (xs : List α) (a b : Nat) : (xs.drop a).take (b - a) = cut xs a b := by unfold cut; rw [List.drop_take]

/-- a part of a slice, as the model has it *)-/
noncomputable def partOf (v : V) : Option (Option Int) := match v with
  | .none => some none
  | .int i => some (some i)
  | _ => none

theorem low_part {v : V} {n i : Nat} (h : lowOf v n = some i) : ∃ p, partOf v = some p ∧ i = p.elim 0 (clipAt n) := by
  unfold lowOf at h
  split at h
  · cases h; exact ⟨none, rfl, rfl⟩
  · cases h; exact ⟨some _, rfl, (clip_eq _ _).symm⟩
  · cases h
theorem high_part {v : V} {n i : Nat} (h : highOf v n = some i) : ∃ p, partOf v = some p ∧ i = p.elim n (clipAt n) := by
  unfold highOf at h
  split at h
  · cases h; exact ⟨none, rfl, rfl⟩
  · cases h; exact ⟨some _, rfl, (clip_eq _ _).symm⟩
  · cases h

theorem strIdx (lo hi : Option Int) (n : Nat) : Builtin.Str.strSliceIndices lo hi 1 n = sliceRange ((lo.elim 0 (clipAt n) : Nat) : Int) ((hi.elim n (clipAt n) : Nat) : Int) 1 := by
  cases lo <;> cases hi <;> simp [Builtin.Str.strSliceIndices, clipAt_cast]

theorem strPick (x : Txt) (lo hi : Option Int) : ((Builtin.Str.strSliceIndices lo hi 1 x.length).filterMap (x.toArray[·]?)) = cut x (lo.elim 0 (clipAt x.length)) (hi.elim x.length (clipAt x.length)) := by
  rw [strIdx, sliceRange_one, pick_run, ← cut_eq]

theorem cut_len {α : Type} (xs : List α) (a b : Nat) : (cut xs a b).length ≤ xs.length := by
  unfold cut; rw [List.length_drop, List.length_take]; omega
theorem cut_whole (x : Txt) (a b : Nat) (h : (cut x a b).length = x.length) : cut x a b = x := by
  unfold cut at *
  rw [List.length_drop, List.length_take] at h
  rcases Nat.eq_zero_or_pos x.length with z | z
  · have := List.eq_nil_of_length_eq_zero z
    subst this; simp
  · have ha : a = 0 := by omega
    have hb : x.length ≤ b := by omega
    subst ha
    rw [List.drop_zero, List.take_of_length_le hb]

section
variable {C : Cx} {ρ : List Addr} {H : AHeap} {s : Shared} {A : Around} {E : Value → Shared → Prop} {Q : VPost}

theorem part_val {v : V} {u : Value} {p : Option Int} (h : partOf v = some p) (hv : VR C ρ v u) : ∃ q : Option (Int × Tok), u = partValue q ∧ q.map (·.1) = p ∧ IsPart u p := by
  unfold partOf at h
  split at h
  · cases h; cases hv; exact ⟨none, rfl, rfl, .none⟩
  · cases h
    obtain ⟨t, rfl⟩ := hv
    exact ⟨some (_, t), rfl, rfl, .int _ t⟩
  · cases h

theorem OR.isList {h : Heap} {a : Addr} {xs : List V} (o : OR C ρ h a (.list xs)) : ∃ us : Array Value, h.IsList a us ∧ All2 (VR C ρ) xs us.toList := let ⟨us, n, e, r, _⟩ := o; ⟨us, ⟨_, e, rfl, n, rfl⟩, r⟩

theorem subA_ok {o i : V} {u w : Value} {value slice : Expr} (h : subA o i H fun v => Q v H) (S : Sim C ρ H s) (hu : VR C ρ o u) (hw : VR C ρ i w)
    (hs : subscripted slice false u w = operate [u, w] (getItem u w)) : wpAny C.M A (subscriptTail value slice u w) (PV C ρ s Q) E s := by
  unfold subA at h
  split at h
  · rename_i t k
    split at h
    · rename_i j e
      obtain ⟨ok, tk, rfl⟩ := hu; obtain ⟨tk', rfl⟩ := hw
      obtain ⟨b1, b2, b3⟩ := place_bounds e
      have hlen := (okT_iff.mp ok).1
      unfold lid at hlen
      refine tail_any (typeIs_str _ _ _) F.slot_str_getitem.lookup ?_ hs
      refine P.getItem_str (c := t[j]) (by simp; omega) ?_ ?_
      · rw [str_len, place_eq, e]
        show t.toArray[j]? = _
        simp [b1]
      · have e2 : (t.drop j).take 1 = [t[j]] := by rw [List.drop_eq_getElem_cons b1]; rfl
        rw [e2] at h
        refine here S ?_ h
        have : okT [t[j]] = true := by rw [← e2]; exact okT_take (okT_drop ok j) 1
        exact vt this _
    · exact h.elim
  · rename_i n k
    split at h
    · rename_i xs e
      split at h
      · rename_i j e2
        split at h
        · rename_i v e3
          obtain ⟨a, rfl, ea, us, m, ho, hs', hl⟩ := S.lookup e hu
          obtain ⟨tk', rfl⟩ := hw
          obtain ⟨b1, b2, b3⟩ := place_bounds e2
          obtain ⟨y, e4, hv⟩ := hs'.get j v e3
          have hlen := hs'.length
          simp only [Array.length_toList] at hlen
          unfold lid at hl
          refine tail_any ⟨_, ho, rfl⟩ slot_list_getitem.lookup ?_ hs
          unfold place at e2
          split at e2
          · split at e2
            · cases e2
              exact wpAny_getItem_list ⟨_, ho, rfl, m, rfl⟩ (by omega) (by omega) (by rw [← Array.getElem?_toList]; exact e4) (here0 S hv h)
            · cases e2
          · split at e2
            · cases e2
              refine wpAny_getItem_list_neg ⟨_, ho, rfl, m, rfl⟩ (by omega) (by omega) (by omega) ?_ (here0 S hv h)
              rw [← Array.getElem?_toList, ← hlen]; exact e4
            · cases e2
        · exact h.elim
      · exact h.elim
    · rename_i xs e
      split at h
      · rename_i j e2
        split at h
        · rename_i v e3
          obtain ⟨a, rfl, ea, us, m, ho, hs', hl⟩ := S.lookup e hu
          obtain ⟨tk', rfl⟩ := hw
          obtain ⟨b1, b2, b3⟩ := place_bounds e2
          obtain ⟨y, e4, hv⟩ := hs'.get j v e3
          have hlen := hs'.length
          simp only [Array.length_toList] at hlen
          unfold lid at hl
          refine tail_any ⟨_, ho, rfl⟩ slot_tuple_getitem.lookup ?_ hs
          refine P.getItem_tuple ho (by omega) (by omega) (by rw [place_eq, ← hlen]; exact e2) (by rw [← Array.getElem?_toList]; exact e4) (here0 S hv h)
        · exact h.elim
      · exact h.elim
    · exact h.elim
  · rename_i n k
    split at h
    · rename_i es ep e
      split at h
      · rename_i p e2
        obtain ⟨a, rfl, ea, ds, ho, hs', _⟩ := S.lookup e hu
        obtain ⟨_, t, rfl⟩ := hw
        have hm := dict_map (C := C) (ρ := ρ) ho hs'
        rcases dict_find (k := k) hs' with ⟨z1, z2⟩ | ⟨e', d', z1, z2, z3⟩
        · rw [z1] at e2; cases e2
        · rw [z1] at e2; cases e2
          refine tail_any hm.typeIs slot_dict_getitem.lookup (wpAny_getItem_of (strKind_is _ _ _ t) hm (v := d'.val) ?_ (here S z3 h)) hs
          unfold findBy
          rw [← Array.find?_toList, z2]; rfl
      · exact h.elim
    · exact h.elim
  · exact h.elim

/-- the slice object is pushed, then the item is taken -/
theorem sliceA_ok {o lo hi : V} {u l w : Value} {value : Expr} {e1 e2 : Option Expr} {p : Pos} (h : sliceA o lo hi H Q) (S : Sim C ρ H s) (hu : VR C ρ o u) (hl : VR C ρ lo l) (hw : VR C ρ hi w) :
    wpAny C.M A (subscriptTail value (.Slice e1 e2 none p) u (.ref s.heap.objs.size)) (PV C ρ s Q) E { s with heap := s.heap.push { cls := .type "slice", data := .fields #[l, w, .none] } } := by
  have hs : ∀ x y, subscripted (.Slice e1 e2 none p) false x y = operate [y, x] (getItem x y) := fun _ _ => rfl
  obtain ⟨S1, st1⟩ := S.grow (h' := s.heap.push { cls := .type "slice", data := .fields #[l, w, .none] }) (tk := s.toks) get_push
  unfold sliceA at h
  split at h
  · rename_i t
    split at h
    · rename_i i j q1 q2
      obtain ⟨pl, a1, rfl⟩ := low_part q1
      obtain ⟨ph, b1, rfl⟩ := high_part q2
      obtain ⟨ql, rfl, a3, a4⟩ := part_val a1 hl
      obtain ⟨qh, rfl, b3, b4⟩ := part_val b1 hw
      obtain ⟨ok, tk, rfl⟩ := hu
      refine tail_any (typeIs_str _ _ _) F.slot_str_getitem.lookup ?_ (hs _ _)
      refine wpAny_getItem_str_slice (l := ql) (u := qh) (st := none) ⟨_, Heap.get?_push_size _ rfl, rfl, rfl⟩ rfl ?_
      have hp : slicePicked ⟨t.toArray⟩ ql qh none = Builtin.Str.strSliceIndices pl ph 1 t.length := by unfold slicePicked; rw [a3, b3, str_len]; rfl
      have hpk := strPick t pl ph
      unfold sliceMade
      rw [hp]
      have hlen : (Builtin.Str.strSliceIndices pl ph 1 t.length).length = (cut t (pl.elim 0 (clipAt t.length)) (ph.elim t.length (clipAt t.length))).length := by
        rw [strIdx, sliceRange_one, ← cut_eq, List.length_map, List.length_range, List.length_take, List.length_drop]
        have : ph.elim t.length (clipAt t.length) ≤ t.length := by
          cases ph with
          | none => exact Nat.le_refl _
          | some i => show clipAt t.length i ≤ _; have := clipAt_cast t.length i; omega
        omega
      split
      · rename_i q
        simp only [Option.map_none, Option.getD_none, BEq.rfl, Bool.true_and, beq_iff_eq, hlen, str_len] at q
        have := cut_whole _ _ _ q
        rw [this] at h
        exact ⟨ρ, H, _, st1, S1, vt ok tk, h⟩
      · refine ⟨?_, ?_⟩
        · rw [hpk, str_len]
          exact lid_le (Nat.le_trans (cut_len _ _ _) (okT_iff.mp ok).1)
        · rw [hpk]
          exact PV.trans st1 (here S1 (vt (okT_cut ok _ _) _) h)
    · exact h.elim
  · rename_i n
    split at h
    · rename_i xs e
      split at h
      · rename_i i j q1 q2
        obtain ⟨pl, a1, rfl⟩ := low_part q1
        obtain ⟨ph, b1, rfl⟩ := high_part q2
        obtain ⟨ql, rfl, a3, a4⟩ := part_val a1 hl
        obtain ⟨qh, rfl, b3, b4⟩ := part_val b1 hw
        obtain ⟨a, rfl, ea, us, m, ho, hs', hlx⟩ := S.lookup e hu
        have hlen := hs'.length
        simp only [Array.length_toList] at hlen
        refine tail_any (T := "list") ⟨_, Heap.get?_push_of_some _ ho, rfl⟩ slot_list_getitem.lookup ?_ (hs _ _)
        refine wpAny_getItem_list_slice (lo := pl) (hi := ph) (st := none) ⟨_, Heap.get?_push_of_some _ ho, rfl, m, rfl⟩ (Heap.IsSliceOf.new ..) a4 b4 .none (by simp) ?_ (by rw [← hlen]; exact lid_le hlx)
        rw [slicePick_plain, cut_eq, ← hlen]
        refine PV.trans st1 (pushed_list (tk := s.toks) S1 ?_ (Nat.le_trans (cut_len _ _ _) hlx) h)
        exact (hs'.take _).drop _
      · exact h.elim
    · rename_i xs e
      split at h
      · rename_i k
        obtain ⟨h1, h2, h3⟩ := h
        obtain ⟨tk, rfl⟩ := hl
        cases hw
        obtain ⟨a, rfl, ea, us, m, ho, hs', hlx⟩ := S.lookup e hu
        have hlen := hs'.length
        simp only [Array.length_toList] at hlen
        refine tail_any (T := "tuple") ⟨_, Heap.get?_push_of_some _ ho, rfl⟩ slot_tuple_getitem.lookup ?_ (hs _ _)
        have hk : Value.int k tk = .int ((k.toNat : Nat) : Int) tk := by rw [Int.toNat_of_nonneg (by omega)]
        have hh : (s.heap.push { cls := .type "slice", data := .fields #[.int k tk, .none, .none] }).IsSliceOf s.heap.objs.size (.int ((k.toNat : Nat) : Int) tk) .none .none := hk ▸ Heap.IsSliceOf.new ..
        refine getItem_tuple_from ⟨_, Heap.get?_push_of_some _ ho, rfl, m, rfl⟩ hh (by omega) (by omega) ?_ (by rw [← hlen]; exact lid_le hlx)
        exact PV.trans st1 (pushed_tuple (tk := s.toks) S1 (hs'.drop _) (by rw [List.length_drop]; omega) h3)
      · exact h.elim
    · exact h.elim
  · exact h.elim

theorem truthy_ok {v : V} {u : Value} {b : Bool} {R : Bool → Shared → Prop} (h : truthyA v = some b) (hv : VR C ρ v u) (hq : ∀ t, R b { s with toks := t }) : wpAny C.M A (truthy u) R E s := by
  unfold truthyA at h
  split at h
  · cases h; cases hv; exact fun _ _ _ => hq s.toks
  · cases h; cases hv; exact wpAny_truthy_bool (hq s.toks)
  · cases h; obtain ⟨t, rfl⟩ := hv; exact P.truthy_int (hq s.toks)
  · cases h
    obtain ⟨ok, t, rfl⟩ := hv
    have hl := (okT_iff.mp ok).1
    unfold lid at hl
    refine P.truthy_str (by rw [str_len]; omega) ?_
    rw [str_len]
    rename_i x
    have : ((x.length : Int) != 0) = !x.isEmpty := by cases x <;> simp <;> omega
    rw [this]; exact hq _
  · cases h
end
end Mine
end
section
namespace Mine
open PySem PySem.Calls PyProof.Rows

/-! Expressions. -/

noncomputable def Callee (C : Cx) (u : Value) : Prop := (∃ id, u = .builtin id) ∨ (∃ t, u = .type t) ∨ ∃ a o fd, u = .ref a ∧ C.base.get? a = some o ∧ o.data = .func fd

/-- a callable that does as its spec says -/
noncomputable def CallOk (C : Cx) (K : Nat) (sp : Spec) (u : Value) : Prop := ∀ vs H Q X, sp vs H Q X → ∀ ρ s us A E, Sim C ρ H s → All2 (VR C ρ) vs us → AOk K A → Takes C ρ s X E → wpAny C.M A (call u us) (PV C ρ s Q) E s

structure TabOk (C : Cx) (T : Tab) (K : Nat) : Prop where
  gv : ∀ g v, T.gv g = some v → ∃ u, C.G g = some u ∧ ∀ ρ, VR C ρ v u
  fn : ∀ g, (∃ vs H Q X, T.fn g vs H Q X) → ∃ u, C.G g = some u ∧ Callee C u ∧ CallOk C K (T.fn g) u
  mt : ∀ kd m, T.has kd m = true → ∃ f, Callee C f ∧ CallOk C K (T.mt kd m) f ∧
    ∀ v H ρ s u pl A (Q : Value × List Value → Shared → Prop) E, kindA v H = some kd → Sim C ρ H s → VR C ρ v u → (∀ t, Q (f, [u]) { s with toks := t }) → wpAny C.M A (getMethod u m pl) Q E s
  sorted : C.G (Str.ofString "sorted") = some (.builtin "sorted")
  len : C.G (Str.ofString "len") = some (.builtin "len")
  srt : ∀ vs H Q X, T.srt vs H Q X → ∀ ρ s us A E, Sim C ρ H s → All2 (VR C ρ) vs us → AOk K A → Takes C ρ s X E → wpAny C.M A (call (.builtin "sorted") us [(Str.ofString "key", .builtin "len")]) (PV C ρ s Q) E s
  rvs : ∀ vs H Q X, ¬ T.rvs vs H Q X
  range : C.G (Str.ofString "range") = some (.type "range")
  revd : C.G (Str.ofString "reversed") = some (.type "reversed")
  enum : C.G (Str.ofString "enumerate") = some (.type "enumerate")

section
variable (C : Cx) (T : Tab) (K : Nat)

noncomputable def EvOk (env : Env) (e : Expr) (pe : PE) : Prop := ∀ {σ : Sg} {ρ : List Addr} {H : AHeap} {s : Shared} {A : Around} {Q : VPost} {X : XPost} {E : Value → Shared → Prop},
  FR C env σ ρ s.heap → Sim C ρ H s → AOk K A → (sem T pe).ev σ H Q X → Takes C ρ s X E → wpAny C.M A (eval e env) (PV C ρ s Q) E s
noncomputable def TtOk (env : Env) (e : Expr) (pe : PE) : Prop := ∀ {σ : Sg} {ρ : List Addr} {H : AHeap} {s : Shared} {A : Around} {q : Bool → AHeap → Prop} {X : XPost} {E : Value → Shared → Prop},
  FR C env σ ρ s.heap → Sim C ρ H s → AOk K A → (sem T pe).tt σ H q X → Takes C ρ s X E → wpAny C.M A (isTrue e env (eval e env)) (PB C ρ s q) E s
noncomputable def ElOk (env : Env) (pos : Pos) (es : List Expr) (pe : PE) : Prop := ∀ {σ : Sg} {ρ : List Addr} {H : AHeap} {s : Shared} {A : Around} {q : List V → AHeap → Prop} {X : XPost} {E : Value → Shared → Prop},
  FR C env σ ρ s.heap → Sim C ρ H s → AOk K A → (sem T pe).el σ H q X → Takes C ρ s X E → wpAny C.M A (spliced (backTo pos (starEach es env))) (PL C ρ s q) E s
end

section
variable {C : Cx} {T : Tab} {K : Nat} {env : Env}

/-- one evaluation, then what follows from the new state -/
theorem EvOk.bind {e : Expr} {pe : PE} (he : EvOk C T K env e pe) {σ : Sg} {ρ : List Addr} {H : AHeap} {s : Shared} {A : Around} {Q : VPost} {X : XPost} {E : Value → Shared → Prop} {R : Value → Shared → Prop}
    (F : FR C env σ ρ s.heap) (S : Sim C ρ H s) (hA : AOk K A) (h : (sem T pe).ev σ H Q X) (hE : Takes C ρ s X E)
    (k : ∀ ρ' H' v u s', Step ρ s ρ' s' → FR C env σ ρ' s'.heap → Sim C ρ' H' s' → VR C ρ' v u → Q v H' → Takes C ρ' s' X E → R u s') : wpAny C.M A (eval e env) R E s :=
  wpAny_mono (he F S hA h hE) (fun u s' ⟨ρ', H', v, st, S', hv, hq⟩ => k ρ' H' v u s' st (F.step st) S' hv hq (hE.on st)) fun _ _ x => x

theorem TtOk.bind {e : Expr} {pe : PE} (he : TtOk C T K env e pe) {σ : Sg} {ρ : List Addr} {H : AHeap} {s : Shared} {A : Around} {q : Bool → AHeap → Prop} {X : XPost} {E : Value → Shared → Prop} {R : Bool → Shared → Prop}
    (F : FR C env σ ρ s.heap) (S : Sim C ρ H s) (hA : AOk K A) (h : (sem T pe).tt σ H q X) (hE : Takes C ρ s X E)
    (k : ∀ ρ' H' b s', Step ρ s ρ' s' → FR C env σ ρ' s'.heap → Sim C ρ' H' s' → q b H' → Takes C ρ' s' X E → R b s') : wpAny C.M A (isTrue e env (eval e env)) R E s :=
  wpAny_mono (he F S hA h hE) (fun u s' ⟨ρ', H', st, S', hq⟩ => k ρ' H' u s' st (F.step st) S' hq (hE.on st)) fun _ _ x => x

theorem ElOk.bind {pos : Pos} {e : List Expr} {pe : PE} (he : ElOk C T K env pos e pe) {σ : Sg} {ρ : List Addr} {H : AHeap} {s : Shared} {A : Around} {q : List V → AHeap → Prop} {X : XPost} {E : Value → Shared → Prop} {R : List Value → Shared → Prop}
    (F : FR C env σ ρ s.heap) (S : Sim C ρ H s) (hA : AOk K A) (h : (sem T pe).el σ H q X) (hE : Takes C ρ s X E)
    (k : ∀ ρ' H' vs us s', Step ρ s ρ' s' → FR C env σ ρ' s'.heap → Sim C ρ' H' s' → All2 (VR C ρ') vs us → q vs H' → Takes C ρ' s' X E → R us s') : wpAny C.M A (spliced (backTo pos (starEach e env))) R E s :=
  wpAny_mono (he F S hA h hE) (fun u s' ⟨ρ', H', vs, st, S', hv, hq⟩ => k ρ' H' vs u s' st (F.step st) S' hv hq (hE.on st)) fun _ _ x => x

/-- a test by the value's truth -/
theorem tt_of_ev {e : Expr} {pe : PE} (hi : ∀ whole, isTrue e env whole = (do let v ← whole; standAt e.pos; holding [v] (truthy v)))
    (ht : (sem T pe).tt = (Me.ofEv (sem T pe).ev).tt) (he : EvOk C T K env e pe) : TtOk C T K env e pe := by
  intro σ ρ H s A q X E F S hA h hE
  rw [ht] at h
  refine wpAny_isTrue_value ?_ (hi _)
  refine he.bind F S hA h hE fun ρ' H' v u s' st F' S' hv hq hE' => ?_
  split at hq
  · rename_i b e1
    exact truthy_ok e1 hv fun t => ⟨ρ', H', st.trans (StepG.toks t), S'.toks t, hq⟩
  · exact hq.elim

theorem ok_name {x : Str} {pos : Pos} (hk : env.kindOf x = some .local ∨ env.kindOf x = some .cell) (hd : (x == Str.ofString "__debug__") = false) : EvOk C T K env (.Name x pos) (.name x) := by
  intro σ ρ H s A Q X E F S hA h hE
  refine wpAny_Name ?_ hd
  change (match σ x with | some v => Q v H | none => False) at h
  split at h
  · rename_i v e
    exact load_ok F e hk fun u hu => here0 S hu h
  · exact h.elim

theorem ok_glob (hT : TabOk C T K) {x : Str} {pos : Pos} (hk : env.kindOf x = some .globalImplicit) (hd : (x == Str.ofString "__debug__") = false) : EvOk C T K env (.Name x pos) (.glob x) := by
  intro σ ρ H s A Q X E F S hA h hE
  change (match T.gv x with | some v => Q v H | none => False) at h
  split at h
  · rename_i v e
    obtain ⟨u, hu, hv⟩ := hT.gv x v e
    exact global_ok F S hk hu hd (here0 S (hv ρ) h)
  · exact h.elim

theorem ok_bin {l r : Expr} {op : Operator} {pos : Pos} {pl pr : PE} (hl : EvOk C T K env l pl) (hr : EvOk C T K env r pr) : EvOk C T K env (.BinOp l op r pos) (.bin op pl pr) := by
  intro σ ρ H s A Q X E F S hA h hE
  refine wpAny_BinOp (hl.bind F S hA h hE fun ρ1 H1 v1 u1 s1 st1 F1 S1 hv1 hq1 hE1 => hr.bind F1 S1 hA hq1 hE1 fun ρ2 H2 v2 u2 s2 st2 F2 S2 hv2 hq2 hE2 => ?_)
  exact wpAny_mono (binA_ok hq2 S2 (st2.vr hv1) hv2) (fun _ _ p => PV.trans (st1.trans st2) p) fun _ _ x => x

theorem cmp_marks {op : CmpOp} {e : Expr} (h : isSet e = false) : behindInMarks op e = false := by
  cases e <;> first | rfl | cases h

theorem ok_cmp1 {l r : Expr} {op : CmpOp} {pos : Pos} {pl pr : PE} (hs : isSet r = false) (hl : EvOk C T K env l pl) (hr : EvOk C T K env r pr) :
    EvOk C T K env (.Compare l [op] [r] pos) (.cmp1 op pl pr) ∧ TtOk C T K env (.Compare l [op] [r] pos) (.cmp1 op pl pr) := by
  constructor
  · intro σ ρ H s A Q X E F S hA h hE
    refine wpAny_Compare1 (hl.bind F S hA h hE fun ρ1 H1 v1 u1 s1 st1 F1 S1 hv1 hq1 hE1 => hr.bind F1 S1 hA hq1 hE1 fun ρ2 H2 v2 u2 s2 st2 F2 S2 hv2 hq2 hE2 => ?_) (cmp_marks hs)
    refine wpAny_mono (cmpA_ok hq2 S2 hA (st2.vr hv1) hv2) (fun r s' p => ?_) fun _ _ x => x
    obtain ⟨c, rfl, st3, S3, hc⟩ := p
    exact ⟨ρ2, H2, _, (st1.trans st2).trans st3, S3, vb c, hc⟩
  · intro σ ρ H s A Q X E F S hA h hE
    refine wpAny_isTrue_Compare1 (hl.bind F S hA h hE fun ρ1 H1 v1 u1 s1 st1 F1 S1 hv1 hq1 hE1 => hr.bind F1 S1 hA hq1 hE1 fun ρ2 H2 v2 u2 s2 st2 F2 S2 hv2 hq2 hE2 => ?_) (cmp_marks hs)
    refine wpAny_mono (cmpA_ok hq2 S2 hA (st2.vr hv1) hv2) (fun r s' p => ?_) fun _ _ x => x
    obtain ⟨c, rfl, st3, S3, hc⟩ := p
    exact wpAny_truthy_bool ⟨ρ2, H2, (st1.trans st2).trans st3, S3, hc⟩


theorem ok_cmp2 {a b c : Expr} {o1 o2 : CmpOp} {pos : Pos} {pa pb pc : PE} (hs : isSet b = false) (hs' : isSet c = false) (ha : EvOk C T K env a pa) (hb : EvOk C T K env b pb) (hc : EvOk C T K env c pc) :
    EvOk C T K env (.Compare a [o1, o2] [b, c] pos) (.cmp2 o1 o2 pa pb pc) ∧ TtOk C T K env (.Compare a [o1, o2] [b, c] pos) (.cmp2 o1 o2 pa pb pc) := by
  have hm : lastMarks [o1, o2] [b, c] = false := cmp_marks (op := o2) hs'
  constructor
  · intro σ ρ H s A Q X E F S hA h hE
    refine Compare_chain (ha.bind F S hA h hE fun ρ1 H1 v1 u1 s1 st1 F1 S1 hv1 hq1 hE1 => chain_link (hb.bind F1 S1 hA hq1 hE1 fun ρ2 H2 v2 u2 s2 st2 F2 S2 hv2 hq2 hE2 => ?_)) hm
    refine wpAny_mono (cmpA_ok hq2 S2 hA (st2.vr hv1) hv2) (fun r s' p => ?_) fun _ _ x => x
    obtain ⟨c1, rfl, st3, S3, hc1⟩ := p
    refine wpAny_truthy_bool ?_
    cases c1 with
    | false => exact ⟨ρ2, H2, _, (st1.trans st2).trans st3, S3, vb _, hc1⟩
    | true =>
      rw [if_pos rfl] at hc1
      refine chain_last (hc.bind (F2.step st3) S3 hA hc1 (hE2.on st3) fun ρ4 H4 v4 u4 s4 st4 F4 S4 hv4 hq4 hE4 => ?_)
      refine wpAny_mono (cmpA_ok hq4 S4 hA (st4.vr (st3.vr hv2)) hv4) (fun r s' p => ?_) fun _ _ x => x
      obtain ⟨c2, rfl, st5, S5, hc2⟩ := p
      exact ⟨ρ4, H4, _, (((st1.trans st2).trans st3).trans st4).trans st5, S5, vb _, hc2⟩
  · intro σ ρ H s A Q X E F S hA h hE
    refine isTrue_chain (ha.bind F S hA h hE fun ρ1 H1 v1 u1 s1 st1 F1 S1 hv1 hq1 hE1 => test_link (hb.bind F1 S1 hA hq1 hE1 fun ρ2 H2 v2 u2 s2 st2 F2 S2 hv2 hq2 hE2 => ?_)) hm
    refine wpAny_mono (cmpA_ok hq2 S2 hA (st2.vr hv1) hv2) (fun r s' p => ?_) fun _ _ x => x
    obtain ⟨c1, rfl, st3, S3, hc1⟩ := p
    refine wpAny_truthy_bool ?_
    cases c1 with
    | false => exact ⟨ρ2, H2, (st1.trans st2).trans st3, S3, hc1⟩
    | true =>
      rw [if_pos rfl] at hc1
      refine test_last (hc.bind (F2.step st3) S3 hA hc1 (hE2.on st3) fun ρ4 H4 v4 u4 s4 st4 F4 S4 hv4 hq4 hE4 => ?_)
      refine wpAny_mono (cmpA_ok hq4 S4 hA (st4.vr (st3.vr hv2)) hv4) (fun r s' p => ?_) fun _ _ x => x
      obtain ⟨c2, rfl, st5, S5, hc2⟩ := p
      exact wpAny_truthy_bool ⟨ρ4, H4, (((st1.trans st2).trans st3).trans st4).trans st5, S5, hc2⟩

theorem ok_not {e : Expr} {pos : Pos} {pe : PE} (he : EvOk C T K env e pe) (ht : TtOk C T K env e pe) : EvOk C T K env (.UnaryOp .Not e pos) (.not pe) ∧ TtOk C T K env (.UnaryOp .Not e pos) (.not pe) := by
  constructor
  · intro σ ρ H s A Q X E F S hA h hE
    refine wpAny_UnaryOp (he.bind F S hA h hE fun ρ1 H1 v1 u1 s1 st1 F1 S1 hv1 hq1 hE1 => not_value ?_)
    split at hq1
    · rename_i b e1
      exact truthy_ok e1 hv1 fun t => ⟨ρ1, H1, _, st1.trans (StepG.toks t), S1.toks t, vb _, hq1⟩
    · exact hq1.elim
  · intro σ ρ H s A Q X E F S hA h hE
    exact wpAny_isTrue_Not (ht.bind F S hA h hE fun ρ1 H1 b s1 st1 F1 S1 hq1 hE1 => ⟨ρ1, H1, st1, S1, hq1⟩)

theorem ok_neg {e : Expr} {pos : Pos} {pe : PE} (he : EvOk C T K env e pe) : EvOk C T K env (.UnaryOp .USub e pos) (.neg pe) := by
  intro σ ρ H s A Q X E F S hA h hE
  refine wpAny_UnaryOp (he.bind F S hA h hE fun ρ1 H1 v1 u1 s1 st1 F1 S1 hv1 hq1 hE1 => ?_)
  split at hq1
  · obtain ⟨t, rfl⟩ := hv1
    exact P.neg_int (PV.trans st1 (here S1 (vi _ _) hq1))
  · exact hq1.elim

theorem ok_ite {c a b : Expr} {pos : Pos} {pc pa pb : PE} (hc : TtOk C T K env c pc) (ha : EvOk C T K env a pa) (ha' : TtOk C T K env a pa) (hb : EvOk C T K env b pb) (hb' : TtOk C T K env b pb) :
    EvOk C T K env (.IfExp c a b pos) (.ite pc pa pb) ∧ TtOk C T K env (.IfExp c a b pos) (.ite pc pa pb) := by
  constructor
  · intro σ ρ H s A Q X E F S hA h hE
    rw [arm_eval_IfExp]
    refine wpAny_bind (hc.bind F S hA h hE fun ρ1 H1 t s1 st1 F1 S1 hq1 hE1 => ?_)
    cases t with
    | true => exact ha.bind F1 S1 hA hq1 hE1 fun ρ2 H2 v2 u2 s2 st2 F2 S2 hv2 hq2 hE2 => ⟨ρ2, H2, v2, st1.trans st2, S2, hv2, hq2⟩
    | false => exact hb.bind F1 S1 hA hq1 hE1 fun ρ2 H2 v2 u2 s2 st2 F2 S2 hv2 hq2 hE2 => ⟨ρ2, H2, v2, st1.trans st2, S2, hv2, hq2⟩
  · intro σ ρ H s A Q X E F S hA h hE
    rw [arm_isTrue_IfExp]
    refine wpAny_bind (hc.bind F S hA h hE fun ρ1 H1 t s1 st1 F1 S1 hq1 hE1 => ?_)
    cases t with
    | true => exact ha'.bind F1 S1 hA hq1 hE1 fun ρ2 H2 v2 s2 st2 F2 S2 hq2 hE2 => ⟨ρ2, H2, st1.trans st2, S2, hq2⟩
    | false => exact hb'.bind F1 S1 hA hq1 hE1 fun ρ2 H2 v2 s2 st2 F2 S2 hq2 hE2 => ⟨ρ2, H2, st1.trans st2, S2, hq2⟩

/-! and, or: any number of parts -/
theorem boolOp_cons {M : Model} {A : Around} {E : Value → Shared → Prop} {s : Shared} {pos : Pos} {op : BoolOp} {x y : Sem Value} {r : List (Sem Value)} {R : Value → Shared → Prop}
    (h : wpAny M A x (fun v s1 => wpAny M A (truthy v) (fun t s2 => if t = (op == .And) then wpAny M A (boolOp pos op (y :: r)) R E s2 else R v s2) E s1) E s) : wpAny M A (boolOp pos op (x :: y :: r)) R E s := by
  show wpAny M A (do
    let v ← x
    standAt pos
    let t ← holding [v] (truthy v)
    match op, t with
    | .And, false | .Or, true => pure v
    | _, _ => boolOp pos op (y :: r)) R E s
  refine wpAny_bind (wpAny_mono h (fun v s₁ h₁ => wpAny_bind (wpAny_standAt (wpAny_bind (wpAny_holding (wpAny_mono h₁ (fun t s₂ h₂ => ?_) fun _ _ x => x))))) fun _ _ x => x)
  cases op <;> cases t <;> first | exact wpAny_pure h₂ | exact h₂

theorem ok_bool (op : BoolOp) (pos : Pos) : ∀ (vs : List Expr) (ps : List PE) (pe : PE), All2 (fun e p => EvOk C T K env e p ∧ TtOk C T K env e p) vs ps → trBool op ps = some pe →
    (∀ {σ : Sg} {ρ : List Addr} {H : AHeap} {s : Shared} {A : Around} {Q : VPost} {X : XPost} {E : Value → Shared → Prop}, FR C env σ ρ s.heap → Sim C ρ H s → AOk K A → (sem T pe).ev σ H Q X → Takes C ρ s X E →
      wpAny C.M A (boolOp pos op (evalEach vs env)) (PV C ρ s Q) E s) ∧
    (∀ {σ : Sg} {ρ : List Addr} {H : AHeap} {s : Shared} {A : Around} {q : Bool → AHeap → Prop} {X : XPost} {E : Value → Shared → Prop}, FR C env σ ρ s.heap → Sim C ρ H s → AOk K A → (sem T pe).tt σ H q X → Takes C ρ s X E →
      wpAny C.M A (allTrue op vs env) (PB C ρ s q) E s)
  | [], _, _, .nil, h => by cases h
  | [e], _, _, .cons (b := p) he .nil, h => by
    cases h
    refine ⟨fun F S hA h hE => he.1 F S hA h hE, fun {σ ρ H s A q X E} F S hA h hE => ?_⟩
    cases op with
    | And =>
      refine wpAny_allTrue_And_cons (wpAny_mono (he.2 F S hA h hE) (fun b s' p => ?_) fun _ _ x => x)
      cases b with
      | true => exact wpAny_allTrue_And_nil p
      | false => exact p
    | Or =>
      refine wpAny_allTrue_Or_cons (wpAny_mono (he.2 F S hA h hE) (fun b s' p => ?_) fun _ _ x => x)
      cases b with
      | true => exact p
      | false => exact wpAny_allTrue_Or_nil p
  | e :: e2 :: vs, _, pe, .cons (b := p) he (.cons (b := p2) (bs := ps) he2 hr), h => by
    have ht : ∃ x, trBool op (p2 :: ps) = some x ∧ pe = (if op = .And then PE.and p x else PE.or p x) := by
      unfold trBool at h
      cases hx : trBool op (p2 :: ps) with
      | none => rw [hx] at h; cases h
      | some x => rw [hx] at h; cases h; refine ⟨x, rfl, ?_⟩; cases op <;> rfl
    obtain ⟨x, hx, he0⟩ := ht
    obtain ⟨ih1, ih2⟩ := ok_bool op pos (e2 :: vs) (p2 :: ps) x (.cons he2 hr) hx
    clear h
    subst he0
    cases op with
    | And =>
      refine ⟨fun {σ ρ H s A Q X E} F S hA h hE => ?_, fun {σ ρ H s A q X E} F S hA h hE => ?_⟩
      · refine boolOp_cons (EvOk.bind he.1 F S hA h hE fun ρ1 H1 v1 u1 s1 st1 F1 S1 hv1 hq1 hE1 => ?_)
        split at hq1
        · rename_i b e1
          refine truthy_ok e1 hv1 fun t => ?_
          cases b with
          | true => exact wpAny_mono (ih1 (F1.step (StepG.toks t)) (S1.toks t) hA hq1 (hE1.on (StepG.toks t))) (fun _ _ p => PV.trans (st1.trans (StepG.toks t)) p) fun _ _ x => x
          | false => exact ⟨ρ1, H1, v1, st1.trans (StepG.toks t), S1.toks t, hv1, hq1⟩
        · exact hq1.elim
      · refine wpAny_allTrue_And_cons (TtOk.bind he.2 F S hA h hE fun ρ1 H1 b s1 st1 F1 S1 hq1 hE1 => ?_)
        cases b with
        | true => exact wpAny_mono (ih2 F1 S1 hA hq1 hE1) (fun _ _ p => PB.trans st1 p) fun _ _ x => x
        | false => exact ⟨ρ1, H1, st1, S1, hq1⟩
    | Or =>
      refine ⟨fun {σ ρ H s A Q X E} F S hA h hE => ?_, fun {σ ρ H s A q X E} F S hA h hE => ?_⟩
      · refine boolOp_cons (EvOk.bind he.1 F S hA h hE fun ρ1 H1 v1 u1 s1 st1 F1 S1 hv1 hq1 hE1 => ?_)
        split at hq1
        · rename_i b e1
          refine truthy_ok e1 hv1 fun t => ?_
          cases b with
          | false => exact wpAny_mono (ih1 (F1.step (StepG.toks t)) (S1.toks t) hA hq1 (hE1.on (StepG.toks t))) (fun _ _ p => PV.trans (st1.trans (StepG.toks t)) p) fun _ _ x => x
          | true => exact ⟨ρ1, H1, v1, st1.trans (StepG.toks t), S1.toks t, hv1, hq1⟩
        · exact hq1.elim
      · refine wpAny_allTrue_Or_cons (TtOk.bind he.2 F S hA h hE fun ρ1 H1 b s1 st1 F1 S1 hq1 hE1 => ?_)
        cases b with
        | false => exact wpAny_mono (ih2 F1 S1 hA hq1 hE1) (fun _ _ p => PB.trans st1 p) fun _ _ x => x
        | true => exact ⟨ρ1, H1, st1, S1, hq1⟩

/-! arguments and calls -/
theorem ok_nil {pos : Pos} : ElOk C T K env pos [] .nil := by
  intro σ ρ H s A q X E F S hA h hE
  exact wpAny_items_nil ⟨ρ, H, [], StepG.refl _ _, S, .nil, h⟩
theorem star_cons {e : Expr} (h : isStar e = false) (r : List Expr) : starEach (e :: r) env = (false, eval e env) :: starEach r env := by
  cases e <;> first | rfl | cases h
theorem ok_cons {pos : Pos} {e : Expr} {r : List Expr} {pe pr : PE} (he : EvOk C T K env e pe) (hr : ElOk C T K env pos r pr) (hs : isStar e = false) : ElOk C T K env pos (e :: r) (.cons pe pr) := by
  intro σ ρ H s A q X E F S hA h hE
  refine wpAny_items_cons (he.bind F S hA h hE fun ρ1 H1 v1 u1 s1 st1 F1 S1 hv1 hq1 hE1 => hr.bind F1 S1 hA hq1 hE1 fun ρ2 H2 vs us s2 st2 F2 S2 hv2 hq2 hE2 => ?_) (star_cons hs r)
  exact ⟨ρ2, H2, v1 :: vs, st1.trans st2, S2, .cons (st2.vr hv1) hv2, hq2⟩

theorem evalArgs_any {M : Model} {A : Around} {E : Value → Shared → Prop} {s : Shared} {f : Value} {pos : Pos} : ∀ {es : List Expr} {R : Args → Shared → Prop}, (∀ e ∈ es, isStar e = false) →
    wpAny M A (spliced (backTo pos (starEach es env))) (fun vs s' => R ⟨vs, []⟩ s') E s → wpAny M A (evalArgs f true (backTo pos (starEach es env)) []) R E s
  | [], R, _, h => by
    unfold evalArgs
    show wpAny M A (spliced [] >>= _) R E s
    refine wpAny_bind (wpAny_mono h (fun vs s' h' => ?_) fun _ _ x => x)
    exact wpAny_bind (wpAny_pure (wpAny_holding (wpAny_bind (wpAny_pure (wpAny_bind (wpAny_pure (wpAny_pure h')))))))
  | e :: r, R, hs, h => by
    rw [star_cons (hs e (.head _)) r] at h ⊢
    exact evalArgs_plain h

theorem callWith_any {M : Model} {A : Around} {E : Value → Shared → Prop} {s : Shared} {pos : Pos} {u : Value} {first : List Value} {args : List (Bool × Sem Value)} {R : Value → Shared → Prop} (hp : args.any (·.1) = false)
    (h : wpAny M A (evalArgs u true args []) (fun a s₁ => ((∃ id, u = .builtin id) ∨ (∃ t, u = .type t) ∨ ∃ x o fd, u = .ref x ∧ s₁.heap.get? x = some o ∧ o.data = .func fd) ∧ wpAny M A (call u (first ++ a.pos) a.kw) R E s₁) E s) :
    wpAny M A (callWith pos u first args []) R E s := by
  unfold callWith
  refine wpAny_bind (wpAny_holding (wpAny_mono h (fun a s₁ h₁ => wpAny_bind (wpAny_standAt ?_)) fun _ _ x => x))
  have tail : ∀ {t : Sem Value}, wpAny M A t R E s₁ → wpAny M A (t >>= fun r => holding [r] point >>= fun _ => pure r) R E s₁ :=
    fun ht => wpAny_bind (wpAny_mono ht (fun r s₂ hr => wpAny_bind (wpAny_holding (wpAny_point (wpAny_pure hr)))) fun _ _ x => x)
  simp only [hp, List.any_nil, Bool.or_false]
  obtain ⟨hc, h₁⟩ := h₁
  rcases hc with ⟨id, rfl⟩ | ⟨t, rfl⟩ | ⟨x, o, fd, rfl, ho, hd⟩
  · exact wpAny_bind (wpAny_pure (tail h₁))
  · exact wpAny_bind (wpAny_pure (tail h₁))
  · refine wpAny_bind (m := keeperOf (.ref x)) ?_
    unfold keeperOf
    refine wpAny_bind (wpAny_load ho ?_)
    rw [hd]
    refine wpAny_pure ?_
    dsimp only
    refine wpAny_ite ?_
    split
    · exact tail h₁
    · exact tail (by unfold callMarked; exact Calls.wpAny_keep h₁)


theorem starEach_one {f : Expr → Option PE} (hf : ∀ e pe, f e = some pe → isStar e = false) : ∀ {es : List Expr} {pe : PE}, trL f es = some pe → ∀ e ∈ es, isStar e = false
  | [], _, _, _, h => nomatch h
  | e :: r, pe, h, e', hm => by
    unfold trL at h
    split at h
    · rename_i a b ha hb
      cases hm with
      | head => exact hf e a ha
      | tail _ hm => exact starEach_one hf hb e' hm
    · cases h

theorem any_false {pos : Pos} : ∀ {es : List Expr}, (∀ e ∈ es, isStar e = false) → (backTo pos (starEach es env)).any (·.1) = false
  | [], _ => rfl
  | e :: r, h => by
    rw [star_cons (h e (.head _)) r]
    have ih := any_false (pos := pos) (es := r) fun e' he' => h e' (.tail _ he')
    unfold backTo at ih ⊢
    rw [List.map_cons, List.any_cons, ih]; rfl

/-- the call of what a name holds -/
theorem ok_call (hT : TabOk C T K) {f : Expr} {args : List Expr} {pos : Pos} {pf pa : PE} (hf : EvOk C T K env f pf) (ha : ElOk C T K env pos args pa) (hs : ∀ e ∈ args, isStar e = false)
    (hc : eval (.Call f args [] pos) env = (do callWith pos (← eval f env) [] (backTo pos (starEach args env)) [])) : EvOk C T K env (.Call f args [] pos) (.call pf pa) := by
  intro σ ρ H s A Q X E F S hA h hE
  rw [hc]
  refine wpAny_bind (hf.bind F S hA h hE fun ρ1 H1 v1 u1 s1 st1 F1 S1 hv1 hq1 hE1 => ?_)
  split at hq1
  · rename_i g
    have hv1 : C.G g = some u1 := hv1
    refine callWith_any (any_false hs) (evalArgs_any hs (ha.bind F1 S1 hA hq1 hE1 fun ρ2 H2 vs us s2 st2 F2 S2 hv2 hq2 hE2 => ?_))
    obtain ⟨u, hu, hcal, hok⟩ := hT.fn g ⟨_, _, _, _, hq2⟩
    rw [hv1] at hu; cases hu
    refine ⟨?_, ?_⟩
    · rcases hcal with q | q | ⟨a, o, fd, q1, q2, q3⟩
      · exact .inl q
      · exact .inr (.inl q)
      · exact .inr (.inr ⟨a, o, fd, q1, S2.stays _ _ q2, q3⟩)
    · exact wpAny_mono (hok _ _ _ _ hq2 _ _ _ _ _ S2 hv2 hA hE2) (fun _ _ p => PV.trans (st1.trans st2) p) fun _ _ x => x
  · exact hq1.elim

/-- sorted(x, key=len) -/
theorem ok_sortLen (hT : TabOk C T K) {e : Expr} {g x y : Str} {p1 p2 p3 pos : Pos} {pe : PE} (he : EvOk C T K env e pe) (hs : isStar e = false) (hg : isG env.kindOf g "sorted" = true) (hx : x = Str.ofString "key") (hy : isG env.kindOf y "len" = true) :
    EvOk C T K env (.Call (.Name g p1) [e] [⟨some x, .Name y p2, p3⟩] pos) (.sortLen pe) := by
  intro σ ρ H s A Q X E F S hA h hE
  unfold isG at hg hy
  obtain ⟨hg1, hg2⟩ := Bool.and_eq_true_iff.mp hg
  obtain ⟨hy1, hy2⟩ := Bool.and_eq_true_iff.mp hy
  have hg1 := beq_iff_eq.mp hg1
  have hy1 := beq_iff_eq.mp hy1
  subst hg1 hy1 hx
  have hg2 := beq_iff_eq.mp hg2
  have hy2 := beq_iff_eq.mp hy2
  refine wpAny_Call_Name_kw ?_
  refine global_ok F S hg2 hT.sorted (by decide +kernel) ?_
  have e1 : starEach [e] env = (false, eval e env) :: starEach [] env := star_cons hs []
  unfold callWith
  refine wpAny_bind (wpAny_holding ?_)
  rw [e1]
  refine evalArgs_kw rfl ?_
  have e2 := wpAny_items_cons (M := C.M) (A := A) (E := E) (s := s) (pos := pos) (e := e) (rest := []) (Q := fun vs s₁ => wpAny C.M A (evalAll ((backToKw pos (keywordEach [⟨some (Str.ofString "key"), .Name (Str.ofString "len") p2, p3⟩] env)).map (·.2)))
    (fun ks s₂ => wpAny C.M A (call (.builtin "sorted") ([] ++ vs) (((backToKw pos (keywordEach [⟨some (Str.ofString "key"), .Name (Str.ofString "len") p2, p3⟩] env)).filterMap (·.1)).zip ks)) (PV C ρ s Q) E s₂) E s₁) ?_ e1
  · rw [e1] at e2
    refine wpAny_mono e2 (fun vs s₁ h₁ => wpAny_mono h₁ (fun ks s₂ h₂ => ?_) fun _ _ x => x) fun _ _ x => x
    refine wpAny_bind (wpAny_standAt ?_)
    refine wpAny_bind (wpAny_pure ?_)
    exact wpAny_bind (wpAny_mono h₂ (fun r s₃ hr => wpAny_bind (wpAny_holding (wpAny_point (wpAny_pure hr)))) fun _ _ x => x)
  · refine he.bind F S hA h hE fun ρ1 H1 v1 u1 s1 st1 F1 S1 hv1 hq1 hE1 => wpAny_items_nil ?_
    refine wpAny_evalAll_cons ?_
    refine wpAny_bind (global_ok F1 S1 hy2 hT.len (by decide +kernel) (wpAny_bind (wpAny_standAt (wpAny_pure (wpAny_evalAll_nil ?_)))))
    exact wpAny_mono (hT.srt _ _ _ _ hq1 _ _ _ _ _ S1 (.cons hv1 .nil) hA hE1) (fun _ _ p => PV.trans st1 p) fun _ _ x => x

theorem attrBase {o : Expr} {m : Str} {whole : Sem Value} (h : asCall o = none) : attributeBase o m env whole = whole := by
  cases o <;> first | rfl | cases h

theorem ok_meth (hT : TabOk C T K) {o : Expr} {m : Str} {args : List Expr} {apos pos : Pos} {po pa : PE} (ho : EvOk C T K env o po) (ha : ElOk C T K env pos args pa) (hs : ∀ e ∈ args, isStar e = false)
    (hl : apos.endLine = pos.line) (hn : args.length < 20) (hb : asCall o = none) : EvOk C T K env (.Call (.Attribute o m apos) args [] pos) (.meth po m pa) := by
  intro σ ρ H s A Q X E F S hA h hE
  rw [arm_eval_Call, attrBase hb]
  refine wpAny_bind (ho.bind F S hA h hE fun ρ1 H1 v1 u1 s1 st1 F1 S1 hv1 hq1 hE1 => wpAny_bind (wpAny_standAt ?_))
  split at hq1
  · rename_i kd e1
    obtain ⟨hm, hq1⟩ := hq1
    obtain ⟨f, hcal, hok, hget⟩ := hT.mt kd m hm
    unfold methodCall
    have hform : methodCallForm (args.length + ([] : List Keyword).length) (backTo pos (starEach args env)) (backToKw pos (keywordEach [] env)) = true := by
      have := any_false (env := env) (pos := pos) hs
      have h2 : (backTo pos (starEach args env)).all (fun x => !x.1) = true := by
        rw [List.all_eq_true]
        intro x hx
        have := List.any_eq_false.mp this x hx
        simpa using this
      unfold methodCallForm
      rw [h2]
      show (true && true && decide (args.length + 0 + 0 < 30)) = true
      simp; omega
    rw [hform]
    refine wpAny_bind (wpAny_holding ?_)
    unfold calleeOf
    rw [if_pos rfl]
    refine hget v1 H1 ρ1 s1 u1 _ A _ E e1 S1 hv1 fun t => ?_
    have hpos : methodCallPos true o env apos pos = pure pos := by
      unfold methodCallPos
      rw [hl]
      simp
    rw [hpos]
    refine wpAny_bind (wpAny_pure ?_)
    have st1' := st1.trans (StepG.toks (ρ := ρ1) (s := s1) t)
    refine callWith_any (any_false hs) (evalArgs_any hs (ha.bind (F1.step (StepG.toks t)) (S1.toks t) hA hq1 (hE1.on (StepG.toks t)) fun ρ2 H2 vs us s2 st2 F2 S2 hv2 hq2 hE2 => ?_))
    refine ⟨?_, ?_⟩
    · rcases hcal with q | q | ⟨a, o, fd, q1, q2, q3⟩
      · exact .inl q
      · exact .inr (.inl q)
      · exact .inr (.inr ⟨a, o, fd, q1, S2.stays _ _ q2, q3⟩)
    · exact wpAny_mono (hok _ _ _ _ hq2 _ _ _ _ _ S2 (.cons (st2.vr hv1) hv2) hA hE2) (fun _ _ p => PV.trans (st1'.trans st2) p) fun _ _ x => x
  · exact hq1.elim

theorem ok_sub {o i : Expr} {pos : Pos} {po pi : PE} (ho : EvOk C T K env o po) (hi : EvOk C T K env i pi) (hs : ∀ u w, subscripted i false u w = operate [u, w] (getItem u w)) : EvOk C T K env (.Subscript o i pos) (.sub po pi) := by
  intro σ ρ H s A Q X E F S hA h hE
  refine Subscript_ (ho.bind F S hA h hE fun ρ1 H1 v1 u1 s1 st1 F1 S1 hv1 hq1 hE1 => hi.bind F1 S1 hA hq1 hE1 fun ρ2 H2 v2 u2 s2 st2 F2 S2 hv2 hq2 hE2 => ?_)
  exact wpAny_mono (subA_ok hq2 S2 (st2.vr hv1) hv2 (hs _ _)) (fun _ _ p => PV.trans (st1.trans st2) p) fun _ _ x => x

noncomputable def PtOk (C : Cx) (T : Tab) (K : Nat) (env : Env) (e : Option Expr) (pe : PE) : Prop := ∀ {σ : Sg} {ρ : List Addr} {H : AHeap} {s : Shared} {A : Around} {Q : VPost} {X : XPost} {E : Value → Shared → Prop},
  FR C env σ ρ s.heap → Sim C ρ H s → AOk K A → (sem T pe).ev σ H Q X → Takes C ρ s X E → wpAny C.M A (evalPart e env) (PV C ρ s Q) E s
theorem pt_none : PtOk C T K env none .none := fun F S hA h hE => wpAny_pure (here0 (v := .none) S rfl h)
theorem pt_some {e : Expr} {pe : PE} (he : EvOk C T K env e pe) : PtOk C T K env (some e) pe := fun F S hA h hE => he F S hA h hE

theorem ok_slice {o : Expr} {lo hi : Option Expr} {p pos : Pos} {po pl ph : PE} (ho : EvOk C T K env o po) (hl : PtOk C T K env lo pl) (hh : PtOk C T K env hi ph) :
    EvOk C T K env (.Subscript o (.Slice lo hi none p) pos) (.slice po pl ph) := by
  intro σ ρ H s A Q X E F S hA h hE
  refine Subscript_ (ho.bind F S hA h hE fun ρ1 H1 v1 u1 s1 st1 F1 S1 hv1 hq1 hE1 => wpAny_Slice ?_)
  refine wpAny_mono (hl F1 S1 hA hq1 hE1) (fun u2 s2 ⟨ρ2, H2, v2, st2, S2, hv2, hq2⟩ => ?_) fun _ _ x => x
  refine wpAny_mono (hh (F1.step st2) S2 hA hq2 (hE1.on st2)) (fun u3 s3 ⟨ρ3, H3, v3, st3, S3, hv3, hq3⟩ => ?_) fun _ _ x => x
  rw [evalPart_none]
  refine wpAny_pure ?_
  exact wpAny_mono (sliceA_ok hq3 S3 (st3.vr (st2.vr hv1)) (st3.vr hv2) hv3) (fun _ _ p => PV.trans ((st1.trans st2).trans st3) p) fun _ _ x => x

theorem ok_list {es : List Expr} {pos : Pos} {pe : PE} (he : ElOk C T K env pos es pe) : EvOk C T K env (.List es pos) (.list pe) := by
  intro σ ρ H s A Q X E F S hA h hE
  refine wpAny_List (he.bind F S hA h hE fun ρ1 H1 vs us s1 st1 F1 S1 hv1 hq1 hE1 => ?_)
  exact ⟨by rw [← hv1.length]; exact lid_le hq1.1, PV.trans st1 (pushed_list (tk := s1.toks) S1 hv1 hq1.1 hq1.2)⟩
theorem ok_tuple {es : List Expr} {k : Nat} {pos : Pos} {pe : PE} (he : ElOk C T K env pos es pe) : EvOk C T K env (.Tuple es k pos) (.tuple pe) := by
  intro σ ρ H s A Q X E F S hA h hE
  refine wpAny_Tuple (he.bind F S hA h hE fun ρ1 H1 vs us s1 st1 F1 S1 hv1 hq1 hE1 => ?_)
  exact ⟨by rw [← hv1.length]; exact lid_le hq1.1, PV.trans st1 (pushed_tuple (tk := s1.toks) S1 hv1 hq1.1 hq1.2)⟩

end
end Mine
end
section
namespace Mine
open PySem PySem.Calls PyProof.Rows

/-! What a loop goes over. -/

/-- one item, as the iterator hands it over -/
noncomputable def IR (C : Cx) (ρ : List Addr) (h0 h : Heap) : Item → Value → Prop
  | .one v, u => VR C ρ v u
  | .many vs, u => ∃ t us n, u = .ref t ∧ h.get? t = some ⟨.type "tuple", none, .seq us n, #[]⟩ ∧ h0.get? t = none ∧ All2 (VR C ρ) vs us.toList

/-- may this target take that item? -/
noncomputable def tgtFits : Expr → Item → Prop
  | .Name _ _, .one _ => True
  | .Tuple _ _ _, _ => True
  | _, _ => False

structure Itr (C : Cx) (A : Around) (ρ0 : List Addr) (items : List Item) (Kp : AHeap → Prop) (I : Addr) (wr : List Addr) (St : Nat → Heap → Prop) : Prop where
  frame : ∀ i h h', St i h → (∀ b ∈ wr, ∀ o, h.get? b = some o → h'.get? b = some o) → St i h'
  alive : ∀ i h, St i h → ∀ b ∈ wr, ∃ o, h.get? b = some o
  next : ∀ i x target ρ H s E, items[i]? = some x → tgtFits target x → St i s.heap → Sim C ρ H s → (∃ l, ρ = ρ0 ++ l) → Kp H → (∀ b ∈ wr, b ∉ ρ) →
    wpAny C.M A (pyNext (.ref I)) (fun r s1 => ∃ u, r = some u ∧ wpAny C.M A (letOwnedTupleGo target (.ref I) u) (fun _ s2 => ∃ h tk, s2 = { s with heap := h, toks := tk } ∧ IR C ρ s.heap h x u ∧ St (i + 1) h ∧
      (∀ b o, b ∉ wr → s.heap.get? b = some o → h.get? b = some o)) E s1) E s
  done : ∀ ρ H s E, St items.length s.heap → Sim C ρ H s → (∃ l, ρ = ρ0 ++ l) → Kp H → (∀ b ∈ wr, b ∉ ρ) →
    wpAny C.M A (pyNext (.ref I)) (fun r s1 => r = none ∧ ∃ h tk, s1 = { s with heap := h, toks := tk } ∧ (∀ b o, b ∉ wr → s.heap.get? b = some o → h.get? b = some o)) E s
  self : ∀ i s (Q : Value → Shared → Prop) E, St i s.heap → Q (.ref I) s → wpAny C.M A (pyIter (.ref I)) Q E s

/-- the iterator stands ready -/
noncomputable def Ready' (C : Cx) (A : Around) (ρ : List Addr) (s : Shared) (q : List Item → (AHeap → Prop) → AHeap → Prop) : Value → Shared → Prop := fun it s2 =>
  ∃ ρ' H' items Kp I wr St, it = .ref I ∧ Itr C A ρ' items Kp I wr St ∧ St 0 s2.heap ∧ Step ρ s ρ' s2 ∧ Sim C ρ' H' s2 ∧ (∀ b ∈ wr, s.heap.get? b = none ∧ b ∉ ρ') ∧ q items Kp H'

noncomputable def ItOk (C : Cx) (T : Tab) (K : Nat) (env : Env) (e : Expr) (pe : PE) : Prop := ∀ {σ : Sg} {ρ : List Addr} {H : AHeap} {s : Shared} {A : Around} {q : List Item → (AHeap → Prop) → AHeap → Prop} {X : XPost} {E : Value → Shared → Prop},
  FR C env σ ρ s.heap → Sim C ρ H s → AOk K A → (sem T pe).it σ H q X → Takes C ρ s X E → wpAny C.M A (eval e env) (fun xv s1 => wpAny C.M A (pyIter xv) (Ready' C A ρ s q) E s1) E s

theorem letGo_name {x : Str} {p : Pos} {it u : Value} : letOwnedTupleGo (.Name x p) it u = pure () := rfl

theorem letGo_other {M : Model} {A : Around} {E : Value → Shared → Prop} {s : Shared} {target : Expr} {I : Addr} {u : Value} {Q : Unit → Shared → Prop} {o : Obj} {n : String} {vs : Array Value} (ho : s.heap.get? I = some o) (hc : o.cls = .type n) (hd : o.data = .fields vs)
    (hn : (["enumerate", "zip", "dict_itemiterator", "dict_reverseitemiterator", "odict_iterator", "itertools.zip_longest", "itertools.pairwise"].contains n) = false) (hQ : Q () s) : wpAny M A (letOwnedTupleGo target (.ref I) u) Q E s := by
  unfold letOwnedTupleGo
  split
  · split
    · rename_i heq; cases heq
      refine wpAny_bind (wpAny_load ho ?_)
      rw [hc, hd]
      dsimp only
      rw [hn]
      exact wpAny_pure hQ
    · exact wpAny_pure hQ
  · split
    · rename_i heq; cases heq
      refine wpAny_bind (wpAny_load ho ?_)
      rw [hc, hd]
      dsimp only
      rw [hn]
      exact wpAny_pure hQ
    · exact wpAny_pure hQ
  · exact wpAny_pure hQ

section
variable {C : Cx} {A : Around}

theorem live_ext {h h' : Heap} {a : Addr} {o₁ : Obj} (he : Heap.ExtBut a h h') (ha : h'.get? a = some o₁) : ∀ b o, h.get? b = some o → ∃ o', h'.get? b = some o' := fun b o e => by
  by_cases z : b = a
  · exact ⟨o₁, z ▸ ha⟩
  · exact ⟨o, he b o z e⟩

theorem ext_at {ρ0 ρ : List Addr} {n : Nat} {a : Addr} (h : ρ0[n]? = some a) (e : ∃ l, ρ = ρ0 ++ l) : ρ[n]? = some a := by
  obtain ⟨l, rfl⟩ := e
  rw [List.getElem?_append_left]
  · exact h
  · exact (List.getElem?_eq_some_iff.mp h).1

theorem get_map_one {xs : List V} {i : Nat} {x : Item} (h : (xs.map Item.one)[i]? = some x) : ∃ v, x = .one v ∧ xs[i]? = some v := by
  rw [List.getElem?_map] at h
  cases e : xs[i]? with
  | none => rw [e] at h; cases h
  | some v => rw [e] at h; cases h; exact ⟨v, rfl, rfl⟩

theorem itr_list (hA : A.handled = none) {I a : Addr} {n : Nat} {xs : List V} {ρ0 : List Addr} (hn : ρ0[n]? = some a) :
    Itr C A ρ0 (xs.map .one) (fun H => H[n]? = some (.list xs)) I [I] (fun i h => h.IsListIter I a i) where
  frame := fun i h h' x k => x.at fun o e => k I (.head _) o e
  alive := fun i h x b hb => by simp at hb; subst hb; obtain ⟨o, ho, _⟩ := x; exact ⟨o, ho⟩
  next := fun i x target ρ H s E hx ht hst S hρ hK hw => by
    obtain ⟨v, rfl, hv⟩ := get_map_one hx
    have hna := ext_at hn hρ
    obtain ⟨us, m, ho, hs, _⟩ := S.obj n a _ hna hK
    obtain ⟨u, hu, hr⟩ := hs.get i v hv
    have hne : a ≠ I := fun z => hw I (.head _) (z ▸ List.mem_of_getElem? hna)
    refine wpAny_pyNext_list_item hst ⟨_, ho, rfl, m, rfl⟩ (by rw [← Array.getElem?_toList]; exact hu) fun h' hit hsb => ⟨u, rfl, ?_⟩
    obtain ⟨o, ho', hc, hd⟩ := id hit
    refine letGo_other ho' hc hd (by decide) ⟨h', s.toks, rfl, hr, hit, fun b o hb e => (hsb.2 b fun z => hb (by simp [z])).trans e⟩
  done := fun ρ H s E hst S hρ hK hw => by
    have hna := ext_at hn hρ
    obtain ⟨us, m, ho, hs, _⟩ := S.obj n a _ hna hK
    rw [List.length_map] at hst
    refine wpAny_pyNext_list_end hA hst ⟨_, ho, rfl, m, rfl⟩ (by rw [← Array.getElem?_toList, hs.length, List.getElem?_eq_none (Nat.le_refl _)]) fun h' he => ⟨rfl, h', s.toks, rfl, fun b o hb e => he b o (fun z => hb (by simp [z])) e⟩
  self := fun i s Q E hst hq => wpAny_pyIter_listiter hst hq

theorem itr_tuple (hA : A.handled = none) {I a : Addr} {n : Nat} {xs : List V} {ρ0 : List Addr} (hn : ρ0[n]? = some a) :
    Itr C A ρ0 (xs.map .one) (fun H => H[n]? = some (.tuple xs)) I [I] (fun i h => h.IsTupleIter I a i) where
  frame := fun i h h' x k => x.at fun o e => k I (.head _) o e
  alive := fun i h x b hb => by simp at hb; subst hb; obtain ⟨o, ho, _⟩ := x; exact ⟨o, ho⟩
  next := fun i x target ρ H s E hx ht hst S hρ hK hw => by
    obtain ⟨v, rfl, hv⟩ := get_map_one hx
    have hna := ext_at hn hρ
    obtain ⟨us, m, ho, hs, _⟩ := S.obj n a _ hna hK
    obtain ⟨u, hu, hr⟩ := hs.get i v hv
    refine wpAny_pyNext_tuple_item hst ⟨_, ho, rfl, m, rfl⟩ (by rw [← Array.getElem?_toList]; exact hu) fun h' hit hsb => ⟨u, rfl, ?_⟩
    obtain ⟨o, ho', hc, hd⟩ := id hit
    refine letGo_other ho' hc hd (by decide) ⟨h', s.toks, rfl, hr, hit, fun b o hb e => (hsb.2 b fun z => hb (by simp [z])).trans e⟩
  done := fun ρ H s E hst S hρ hK hw => by
    have hna := ext_at hn hρ
    obtain ⟨us, m, ho, hs, _⟩ := S.obj n a _ hna hK
    rw [List.length_map] at hst
    refine wpAny_pyNext_tuple_end hA hst ⟨_, ho, rfl, m, rfl⟩ (by rw [← Array.getElem?_toList, hs.length, List.getElem?_eq_none (Nat.le_refl _)]) fun h' he => ⟨rfl, h', s.toks, rfl, fun b o hb e => he b o (fun z => hb (by simp [z])) e⟩
  self := fun i s Q E hst hq => wpAny_pyIter_tupleiter hst hq

theorem itr_range (hA : A.handled = none) {I : Addr} {a c : Int} {n : Nat} {ρ0 : List Addr} :
    Itr C A ρ0 ((List.range n).map fun k => Item.one (.int (a + (k : Nat) * c))) (fun _ => True) I [I] (fun i h => IsRangeIter h I (a + (i : Nat) * c) ((n : Int) - (i : Nat)) c) where
  frame := fun i h h' x k => k I (.head _) _ x
  alive := fun i h x b hb => by simp at hb; subst hb; exact ⟨_, x⟩
  next := fun i x target ρ H s E hx ht hst S hρ hK hw => by
    rw [List.getElem?_map] at hx
    have hi : i < n := by
      rcases Nat.lt_or_ge i n with h | h
      · exact h
      · rw [List.getElem?_eq_none (by simpa using h)] at hx; cases hx
    rw [List.getElem?_eq_getElem (by simpa using hi)] at hx
    simp at hx
    subst hx
    refine wpAny_pyNext_range_item hst (by omega) fun h' hit hsb => ⟨_, rfl, ?_⟩
    refine letGo_other hit rfl rfl (by decide) ⟨h', s.toks + 1, rfl, vi (C := C) (ρ := ρ) _ _, ?_, fun b o hb e => (hsb.2 b fun z => hb (by simp [z])).trans e⟩
    have e1 : a + (i : Int) * c + c = a + ((i + 1 : Nat) : Int) * c := by rw [Int.natCast_add, Int.add_mul]; simp; omega
    have e2 : (n : Int) - i - 1 = n - ((i + 1 : Nat) : Int) := by omega
    rw [e1, e2] at hit; exact hit
  done := fun ρ H s E hst S hρ hK hw => by
    simp only [List.length_map, List.length_range] at hst
    exact wpAny_pyNext_range_end hA hst (by omega) fun h' he => ⟨rfl, h', s.toks, rfl, fun b o hb e => he b o (fun z => hb (by simp [z])) e⟩
  self := fun i s Q E hst hq => wpAny_pyIter_rangeiter hst hq


theorem one_sign {t : Txt} {i c : Nat} (ok : okT t = true) (h : t.toArray[i]? = some c) : okT [c] = true := by
  rw [okT_iff] at *
  refine ⟨by simp [lid], fun d hd => ?_⟩
  simp only [List.mem_singleton] at hd
  subst hd
  exact ok.2 d (by simpa using Array.mem_of_getElem? h)

theorem get_map_sign {t : Txt} {i : Nat} {x : Item} (h : (t.map fun c => Item.one (.str [c]))[i]? = some x) : ∃ c, x = .one (.str [c]) ∧ t[i]? = some c := by
  rw [List.getElem?_map] at h
  cases e : t[i]? with
  | none => rw [e] at h; cases h
  | some v => rw [e] at h; cases h; exact ⟨v, rfl, rfl⟩

theorem itr_ascii (hA : A.handled = none) {I : Addr} {t : Txt} {tk : Tok} {ρ0 : List Addr} (ok : okT t = true) :
    Itr C A ρ0 (t.map fun c => Item.one (.str [c])) (fun _ => True) I [I] (fun i h => h.IsStrIter I "str_ascii_iterator" ⟨t.toArray⟩ tk i) where
  frame := fun i h h' x k => let ⟨o, ho, r⟩ := x; ⟨o, k I (.head _) o ho, r⟩
  alive := fun i h x b hb => by simp at hb; subst hb; obtain ⟨o, ho, _⟩ := x; exact ⟨o, ho⟩
  next := fun i x target ρ H s E hx ht hst S hρ hK hw => by
    obtain ⟨c, rfl, hc⟩ := get_map_sign hx
    have hc' : t.toArray[i]? = some c := by simpa using hc
    refine wpAny_pyNext_ascii_item hst hc' fun h' hit hsb => ⟨_, rfl, ?_⟩
    obtain ⟨o, ho', hc1, hd⟩ := id hit
    exact letGo_other ho' hc1 hd (by decide) ⟨h', s.toks + 1, rfl, vt (C := C) (ρ := ρ) (one_sign ok hc') _, hit, fun b o hb e => (hsb.2 b fun z => hb (by simp [z])).trans e⟩
  done := fun ρ H s E hst S hρ hK hw => by
    rw [List.length_map] at hst
    exact wpAny_pyNext_ascii_end hA hst (by simp) fun h' he => ⟨rfl, h', s.toks, rfl, fun b o hb e => he b o (fun z => hb (by simp [z])) e⟩
  self := fun i s Q E hst hq => wpAny_pyIter_striter_ascii hst hq
theorem itr_wide (hA : A.handled = none) {I : Addr} {t : Txt} {tk : Tok} {ρ0 : List Addr} (ok : okT t = true) :
    Itr C A ρ0 (t.map fun c => Item.one (.str [c])) (fun _ => True) I [I] (fun i h => h.IsStrIter I "str_iterator" ⟨t.toArray⟩ tk i) where
  frame := fun i h h' x k => let ⟨o, ho, r⟩ := x; ⟨o, k I (.head _) o ho, r⟩
  alive := fun i h x b hb => by simp at hb; subst hb; obtain ⟨o, ho, _⟩ := x; exact ⟨o, ho⟩
  next := fun i x target ρ H s E hx ht hst S hρ hK hw => by
    obtain ⟨c, rfl, hc⟩ := get_map_sign hx
    have hc' : t.toArray[i]? = some c := by simpa using hc
    refine wpAny_pyNext_wide_item hst hc' fun h' hit hsb => ⟨_, rfl, ?_⟩
    obtain ⟨o, ho', hc1, hd⟩ := id hit
    exact letGo_other ho' hc1 hd (by decide) ⟨h', s.toks + 1, rfl, vt (C := C) (ρ := ρ) (one_sign ok hc') _, hit, fun b o hb e => (hsb.2 b fun z => hb (by simp [z])).trans e⟩
  done := fun ρ H s E hst S hρ hK hw => by
    rw [List.length_map] at hst
    exact wpAny_pyNext_wide_end hA hst (by simp) fun h' he => ⟨rfl, h', s.toks, rfl, fun b o hb e => he b o (fun z => hb (by simp [z])) e⟩
  self := fun i s Q E hst hq => wpAny_pyIter_striter_wide hst hq

/-! a dict's keys -/
theorem er_pairs {ρ : List Addr} : ∀ {es : List (Txt × V)} {ds : List DictEntry}, All2 (ER C ρ) es ds → ∃ kvs : List (Str × Value), Pairs (PySem.strKind C.prog C.w) ds kvs ∧ kvs.map (·.1) = es.map (fun e => ⟨e.1.toArray⟩)
  | _, _, .nil => ⟨[], .nil, rfl⟩
  | _, _, .cons (a := e) (b := d) ⟨⟨_, t, e1⟩, _, _⟩ r => by
    obtain ⟨kvs, h1, h2⟩ := er_pairs r
    exact ⟨(⟨e.1.toArray⟩, d.val) :: kvs, .cons (by show (PySem.strKind C.prog C.w).is ⟨e.1.toArray⟩ d.key = true; rw [e1]; exact strKind_is _ _ _ t) rfl h1, by simp [h2]⟩

theorem dict_at {ρ : List Addr} {h : Heap} {a : Addr} {es : List (Txt × V)} {ep : Nat} (o : OR C ρ h a (.dict es ep)) :
    ∃ kvs : List (Str × Value), h.DictAt (PySem.strKind C.prog C.w) a kvs ep ∧ kvs.map (·.1) = es.map (fun e => ⟨e.1.toArray⟩) := by
  obtain ⟨ds, ho, hs, hn, _⟩ := o
  obtain ⟨kvs, h1, h2⟩ := er_pairs hs
  refine ⟨kvs, ⟨_, ds, ho, ⟨rfl, rfl, rfl⟩, rfl, fun e he => ?_, h1, ?_⟩, h2⟩
  · obtain ⟨p, hp, ⟨_, t, e1⟩, e2, e3⟩ := hs.right e (Array.mem_toList_iff.mpr he)
    exact ⟨⟨p.1.toArray⟩, by rw [e1]; exact strKind_is _ _ _ t, e2⟩
  · rw [h2]
    have : (es.map fun e => (⟨e.1.toArray⟩ : Str)) = (es.map (·.1)).map fun t => (⟨t.toArray⟩ : Str) := by rw [List.map_map]; rfl
    rw [this]
    refine List.Pairwise.map _ (fun x y hxy q => hxy ?_) hn
    simpa using q

theorem get_map_key {es : List (Txt × V)} {i : Nat} {x : Item} (h : (es.map fun e => Item.one (.str e.1))[i]? = some x) : ∃ e, x = .one (.str e.1) ∧ es[i]? = some e := by
  rw [List.getElem?_map] at h
  cases e : es[i]? with
  | none => rw [e] at h; cases h
  | some v => rw [e] at h; cases h; exact ⟨v, rfl, rfl⟩

theorem itr_dict (hA : A.handled = none) {I a : Addr} {n : Nat} {es : List (Txt × V)} {ep : Nat} {ρ0 : List Addr} (hn : ρ0[n]? = some a) :
    Itr C A ρ0 (es.map fun e => Item.one (.str e.1)) (fun H => H[n]? = some (.dict es ep)) I [I] (fun i h => h.IsKeyIter I a i es.length ep) where
  frame := fun i h h' x k => let ⟨o, ho, r⟩ := x; ⟨o, k I (.head _) o ho, r⟩
  alive := fun i h x b hb => by simp at hb; subst hb; obtain ⟨o, ho, _⟩ := x; exact ⟨o, ho⟩
  next := fun i x target ρ H s E hx ht hst S hρ hK hw => by
    obtain ⟨e, rfl, he⟩ := get_map_key hx
    have hna := ext_at hn hρ
    have ho := S.obj n a _ hna hK
    obtain ⟨kvs, hd, hk⟩ := dict_at ho
    have hl : kvs.length = es.length := by have := congrArg List.length hk; simpa using this
    have hi : (kvs.map (·.1))[i]? = some ⟨e.1.toArray⟩ := by rw [hk, List.getElem?_map, he]; rfl
    rw [List.getElem?_map] at hi
    cases e2 : kvs[i]? with
    | none => rw [e2] at hi; cases hi
    | some kv =>
      rw [e2] at hi
      simp only [Option.map_some, Option.some.injEq] at hi
      rw [← hl] at hst
      refine wpAny_pyNext_dict_item hst hd (k := kv.1) (v := kv.2) e2 fun key h' hkey hit hsb => ⟨key, rfl, ?_⟩
      obtain ⟨o, ho', hc1, hd1⟩ := id hit
      rw [hi] at hkey
      obtain ⟨tk, rfl⟩ := Value.isStrOf_shape hkey
      have okk : okT e.1 = true := by
        obtain ⟨ds, _, hs, _⟩ := ho
        obtain ⟨d, _, ⟨okk, _⟩, _⟩ := hs.left e (List.mem_of_getElem? he)
        exact okk
      rw [hl] at hit
      exact letGo_other ho' hc1 hd1 (by decide) ⟨h', s.toks, rfl, vt (C := C) (ρ := ρ) okk tk, hit, fun b o hb e => (hsb.2 b fun z => hb (by simp [z])).trans e⟩
  done := fun ρ H s E hst S hρ hK hw => by
    have hna := ext_at hn hρ
    obtain ⟨kvs, hd, hk⟩ := dict_at (S.obj n a _ hna hK)
    have hl : kvs.length = es.length := by have := congrArg List.length hk; simpa using this
    rw [List.length_map, ← hl] at hst
    exact wpAny_pyNext_dict_end hA hst hd (by simp) fun h' he => ⟨rfl, h', s.toks, rfl, fun b o hb e => he b o (fun z => hb (by simp [z])) e⟩
  self := fun i s Q E hst hq => wpAny_pyIter_keyiter hst hq

/-! enumerate of a list -/
theorem get_map_enum {xs : List V} {i : Nat} {x : Item} (h : (xs.zipIdx.map fun p => Item.many [.int p.2, p.1])[i]? = some x) : ∃ v, x = .many [.int i, v] ∧ xs[i]? = some v := by
  rw [List.getElem?_map, List.getElem?_zipIdx] at h
  cases e : xs[i]? with
  | none => rw [e] at h; cases h
  | some v => rw [e] at h; simp at h; exact ⟨v, h.symm, rfl⟩

theorem itr_enum (hA : A.handled = none) {e it a : Addr} {n : Nat} {xs : List V} {ρ0 : List Addr} (hn : ρ0[n]? = some a) (hne : e ≠ it) :
    Itr C A ρ0 (xs.zipIdx.map fun p => Item.many [.int p.2, p.1]) (fun H => H[n]? = some (.list xs)) e [e, it] (fun i h => (∃ old, IsEnum h e it i old) ∧ h.IsListIter it a i) where
  frame := fun i h h' x k => ⟨let ⟨old, z⟩ := x.1; ⟨old, k e (.head _) _ z⟩, x.2.at fun o z => k it (.tail _ (.head _)) o z⟩
  alive := fun i h x b hb => by
    rcases List.mem_cons.mp hb with rfl | hb
    · obtain ⟨⟨old, z⟩, _⟩ := x; exact ⟨_, z⟩
    · simp at hb; subst hb; obtain ⟨_, o, ho, _⟩ := x; exact ⟨o, ho⟩
  next := fun i x target ρ H s E hx ht hst S hρ hK hw => by
    obtain ⟨v, rfl, hv⟩ := get_map_enum hx
    have hna := ext_at hn hρ
    obtain ⟨us, m, ho, hs, _⟩ := S.obj n a _ hna hK
    obtain ⟨u, hu, hr⟩ := hs.get i v hv
    obtain ⟨⟨old, he⟩, hit⟩ := hst
    cases target <;> first | exact ht.elim | skip
    refine wpAny_pyNext_enum_item he hit ⟨_, ho, rfl, m, rfl⟩ (by rw [← Array.getElem?_toList]; exact hu) hne fun h' hout hit' htup hsz hk => ⟨_, rfl, ?_⟩
    refine wpAny_letOwnedTupleGo_enum hout fun h'' he'' hsb => ⟨h'', s.toks + 1, rfl, ⟨s.heap.objs.size, _, _, rfl, (hsb.2 _ fun z => ?_).trans htup, get_size _, .cons (vi _ _) (.cons hr .nil)⟩, ⟨⟨u, he''⟩, hit'.at fun o z => (hsb.2 it (Ne.symm hne)).trans z⟩, fun b o hb z => (hsb.2 b fun q => hb (by simp [q])).trans (hk b o (fun q => hb (by simp [q])) (fun q => hb (by simp [q])) z)⟩
    have := Heap.lt_size he
    rw [← z] at this
    exact absurd this (Nat.lt_irrefl _)
  done := fun ρ H s E hst S hρ hK hw => by
    have hna := ext_at hn hρ
    obtain ⟨us, m, ho, hs, _⟩ := S.obj n a _ hna hK
    obtain ⟨⟨old, he⟩, hit⟩ := hst
    simp only [List.length_map, List.length_zipIdx] at he hit
    exact wpAny_pyNext_enum_end hA he hit ⟨_, ho, rfl, m, rfl⟩ (by rw [← Array.getElem?_toList, hs.length, List.getElem?_eq_none (Nat.le_refl _)]) fun h' hx => ⟨rfl, h', s.toks, rfl, fun b o hb z => hx b o (fun q => hb (by simp [q])) z⟩
  self := fun i s Q E hst hq => by
    obtain ⟨⟨old, he⟩, _⟩ := hst
    exact wpAny_pyIter_enum he hq


variable {T : Tab} {K : Nat} {env : Env}

theorem fresh_new {ρ : List Addr} {H : AHeap} {s : Shared} (S : Sim C ρ H s) : s.heap.objs.size ∉ ρ := fun hm => by
  obtain ⟨i, hi, e⟩ := List.getElem_of_mem hm
  have hi' : i < H.length := by rw [← S.len]; exact hi
  obtain ⟨ob, q⟩ := (S.obj i _ H[i] (by rw [List.getElem?_eq_getElem hi, e]) (List.getElem?_eq_getElem hi')).alive C
  rw [get_size] at q; cases q

theorem none_before {ρ ρ' : List Addr} {s s' : Shared} {ex : Addr → Prop} (st : StepG ex ρ s ρ' s') {a : Addr} (h : s'.heap.get? a = none) : s.heap.get? a = none := by
  cases e : s.heap.get? a with
  | none => rfl
  | some o => obtain ⟨o', q⟩ := st.live a o e; rw [h] at q; cases q

theorem it_val {e : Expr} {pe : PE} (he : EvOk C T K env e pe) : ItOk C T K env e (.itVal pe) := by
  intro σ ρ H s A q X E F S hA h hE
  refine he.bind F S hA h hE fun ρ1 H1 v1 u1 s1 st1 F1 S1 hv1 hq1 hE1 => ?_
  unfold itemsA at hq1
  split at hq1
  · obtain ⟨ok, tk, rfl⟩ := hv1
    rename_i t
    cases ha : (⟨t.toArray⟩ : Str).cps.all (· < 128) with
    | true =>
      refine wpAny_pyIter_ascii ha ?_
      obtain ⟨S2, st2⟩ := S1.grow (h' := s1.heap.push { cls := .type "str_ascii_iterator", data := .fields #[.str ⟨t.toArray⟩ tk, .int 0 0] }) (tk := s1.toks) get_push
      exact ⟨ρ1, H1, _, _, _, [s1.heap.objs.size], _, rfl, itr_ascii hA.h ok, ⟨_, Heap.get?_push_size _ rfl, rfl, rfl⟩, st1.trans st2, S2, fun b hb => by simp at hb; subst hb; exact ⟨none_before st1 (get_size _), fresh_new S1⟩, hq1⟩
    | false =>
      refine wpAny_pyIter_wide ha ?_
      obtain ⟨S2, st2⟩ := S1.grow (h' := s1.heap.push { cls := .type "str_iterator", data := .fields #[.str ⟨t.toArray⟩ tk, .int 0 0] }) (tk := s1.toks) get_push
      exact ⟨ρ1, H1, _, _, _, [s1.heap.objs.size], _, rfl, itr_wide hA.h ok, ⟨_, Heap.get?_push_size _ rfl, rfl, rfl⟩, st1.trans st2, S2, fun b hb => by simp at hb; subst hb; exact ⟨none_before st1 (get_size _), fresh_new S1⟩, hq1⟩
  · split at hq1
    · rename_i xs e1
      obtain ⟨a, rfl, ea, us, m, ho, hs, _⟩ := S1.lookup e1 hv1
      refine wpAny_pyIter_list ⟨_, ho, rfl, m, rfl⟩ ?_
      obtain ⟨S2, st2⟩ := S1.grow (h' := s1.heap.push { cls := .type "list_iterator", data := .fields #[.ref a, .int 0 0] }) (tk := s1.toks) get_push
      exact ⟨ρ1, H1, _, _, _, [s1.heap.objs.size], _, rfl, itr_list hA.h ea, ⟨_, Heap.get?_push_size _ rfl, rfl, rfl⟩, st1.trans st2, S2, fun b hb => by simp at hb; subst hb; exact ⟨none_before st1 (get_size _), fresh_new S1⟩, hq1⟩
    · rename_i xs e1
      obtain ⟨a, rfl, ea, us, m, ho, hs, _⟩ := S1.lookup e1 hv1
      refine wpAny_pyIter_tuple ⟨_, ho, rfl, m, rfl⟩ ?_
      obtain ⟨S2, st2⟩ := S1.grow (h' := s1.heap.push { cls := .type "tuple_iterator", data := .fields #[.ref a, .int 0 0] }) (tk := s1.toks) get_push
      exact ⟨ρ1, H1, _, _, _, [s1.heap.objs.size], _, rfl, itr_tuple hA.h ea, ⟨_, Heap.get?_push_size _ rfl, rfl, rfl⟩, st1.trans st2, S2, fun b hb => by simp at hb; subst hb; exact ⟨none_before st1 (get_size _), fresh_new S1⟩, hq1⟩
    · rename_i es ep e1
      obtain ⟨a, rfl, ea, hor⟩ := S1.lookup e1 hv1
      obtain ⟨kvs, hd, hk⟩ := dict_at hor
      have hl : kvs.length = es.length := by have := congrArg List.length hk; simpa using this
      refine wpAny_pyIter_dict (by have : a ≠ sysModules := (fun z => S1.sm (z ▸ List.mem_of_getElem? ea)); simpa using this) hd ?_
      obtain ⟨S2, st2⟩ := S1.grow (h' := s1.heap.push { cls := .type "dict_keyiterator", data := .fields #[.ref a, .int 0 0, .int kvs.length 0, .int ep 0] }) (tk := s1.toks) get_push
      refine ⟨ρ1, H1, _, _, _, [s1.heap.objs.size], _, rfl, itr_dict hA.h ea, ⟨_, Heap.get?_push_size _ rfl, rfl, ?_⟩, st1.trans st2, S2, fun b hb => by simp at hb; subst hb; exact ⟨none_before st1 (get_size _), fresh_new S1⟩, hq1⟩
      rw [hl]; rfl
    · exact hq1.elim
  · exact hq1.elim

/-- a call of a built-in type by its name, one argument -/
theorem type_call1 {g : Str} {t : String} {p pos : Pos} {e : Expr} {pe : PE} {R : Value → Shared → Prop} (hk : env.kindOf g = some .globalImplicit) (hg : C.G g = some (.type t)) (hd : (g == Str.ofString "__debug__") = false) (hs : isStar e = false)
    (he : EvOk C T K env e pe) {σ : Sg} {ρ : List Addr} {H : AHeap} {s : Shared} {Q : VPost} {X : XPost} {E : Value → Shared → Prop}
    (F : FR C env σ ρ s.heap) (S : Sim C ρ H s) (hA : AOk K A) (h : (sem T pe).ev σ H Q X) (hE : Takes C ρ s X E)
    (k : ∀ ρ' H' v u s', Step ρ s ρ' s' → FR C env σ ρ' s'.heap → Sim C ρ' H' s' → VR C ρ' v u → Q v H' → Takes C ρ' s' X E → wpAny C.M A (call (.type t) [u]) R E s') : wpAny C.M A (eval (.Call (.Name g p) [e] [] pos) env) R E s := by
  have hs' : ∀ x ∈ [e], isStar x = false := fun x hx => by simp at hx; subst hx; exact hs
  have e1 : starEach [e] env = (false, eval e env) :: starEach [] env := star_cons hs []
  show wpAny C.M A (do callWith pos (← eval (.Name g p) env) [] (backTo pos (starEach [e] env)) []) R E s
  refine wpAny_bind (global_ok F S hk hg hd ?_)
  refine callWith_any (any_false hs') (evalArgs_any hs' ?_)
  refine wpAny_items_cons (he.bind F S hA h hE fun ρ' H' v u s' st F' S' hv hq hE' => wpAny_items_nil ⟨.inr (.inl ⟨t, rfl⟩), ?_⟩) e1
  exact k ρ' H' v u s' st F' S' hv hq hE'

/-- a range that stands on the heap, gone over -/
theorem range_ready {ρ ρ1 : List Addr} {H1 : AHeap} {s s1 : Shared} {r : Addr} {a b : Int} {t u v : Tok} {q : List Item → (AHeap → Prop) → AHeap → Prop} {E : Value → Shared → Prop} (hA : A.handled = none) (st1 : Step ρ s ρ1 s1) (S1 : Sim C ρ1 H1 s1)
    (hr : IsRange s1.heap r a b 1 t u v) (ha : -(2 ^ 62) ≤ a) (ha' : a < 2 ^ 62) (hb : -(2 ^ 62) ≤ b) (hb' : b < 2 ^ 62) (hq : q ((intsFrom a (b - a).toNat).map fun i => .one (.int i)) (fun _ => True) H1) :
    wpAny C.M A (pyIter (.ref r)) (Ready' C A ρ s q) E s1 := by
  refine wpAny_pyIter_range hr (small_one ha ha' hb hb') ?_
  rw [rangeSize_one]
  have hz : ((if a < b then b - a else 0 : Int)) = (((b - a).toNat : Nat) : Int) := by split <;> omega
  rw [hz]
  obtain ⟨S3, st3⟩ := S1.grow (h' := s1.heap.push { cls := .type "range_iterator", data := .fields #[rawInt a, rawInt (((b - a).toNat : Nat) : Int), rawInt 1] }) (tk := s1.toks) get_push
  have hi := itr_range (C := C) (A := A) hA (I := s1.heap.objs.size) (a := a) (c := 1) (n := (b - a).toNat) (ρ0 := ρ1)
  have hitems : ((List.range (b - a).toNat).map fun k => Item.one (.int (a + (k : Nat) * 1))) = (intsFrom a (b - a).toNat).map fun i => Item.one (.int i) := by
    unfold intsFrom; rw [List.map_map]; simp
  rw [hitems] at hi
  refine ⟨ρ1, H1, _, _, _, [_], _, rfl, hi, ?_, st1.trans st3, S3, fun b hb => ?_, hq⟩
  · have := Heap.get?_push_size s1.heap (o := { cls := .type "range_iterator", data := .fields #[rawInt a, rawInt (((b - a).toNat : Nat) : Int), rawInt 1] }) rfl
    simpa using this
  · simp only [List.mem_singleton] at hb; subst hb
    exact ⟨none_before st1 (get_size _), fresh_new S1⟩

theorem it_range1 (hT : TabOk C T K) {g : Str} {p pos : Pos} {e : Expr} {pe : PE} (hg : isG env.kindOf g "range" = true) (hs : isStar e = false) (he : EvOk C T K env e pe) : ItOk C T K env (.Call (.Name g p) [e] [] pos) (.itRange1 pe) := by
  intro σ ρ H s A q X E F S hA h hE
  unfold isG at hg
  obtain ⟨hg1, hg2⟩ := Bool.and_eq_true_iff.mp hg
  have hg1 := beq_iff_eq.mp hg1
  subst hg1
  refine type_call1 (beq_iff_eq.mp hg2) hT.range (by decide +kernel) hs he F S hA h hE fun ρ1 H1 v1 u1 s1 st1 F1 S1 hv1 hq1 hE1 => ?_
  split at hq1
  · rename_i j
    obtain ⟨hj0, hj, hq1⟩ := hq1
    obtain ⟨tk, rfl⟩ := hv1
    unfold lid at hj
    obtain ⟨S2, st2⟩ := S1.grow (h' := s1.heap.push { cls := .type "range", data := .fields #[.int 0 s1.toks, .int j tk, .int 1 (s1.toks + 1)] }) (tk := s1.toks + 1 + 1) get_push
    refine call_range_1 (range_ready hA.h (st1.trans st2) S2 (IsRange.new _ _ _ _ _ _ _) (by omega) (by omega) (by omega) (by omega) ?_)
    rw [Int.sub_zero]; exact hq1
  · exact hq1.elim

theorem it_range2 (hT : TabOk C T K) {g : Str} {p pos : Pos} {e1 e2 : Expr} {p1 p2 : PE} (hg : isG env.kindOf g "range" = true) (hs1 : isStar e1 = false) (hs2 : isStar e2 = false)
    (he1 : EvOk C T K env e1 p1) (he2 : EvOk C T K env e2 p2) : ItOk C T K env (.Call (.Name g p) [e1, e2] [] pos) (.itRange2 p1 p2) := by
  intro σ ρ H s A q X E F S hA h hE
  unfold isG at hg
  obtain ⟨hg1, hg2⟩ := Bool.and_eq_true_iff.mp hg
  have hg1 := beq_iff_eq.mp hg1
  subst hg1
  have hs' : ∀ x ∈ [e1, e2], isStar x = false := fun x hx => by
    rcases List.mem_cons.mp hx with rfl | hx
    · exact hs1
    · simp at hx; subst hx; exact hs2
  have q1 : starEach [e1, e2] env = (false, eval e1 env) :: starEach [e2] env := star_cons hs1 [e2]
  have q2 : starEach [e2] env = (false, eval e2 env) :: starEach [] env := star_cons hs2 []
  show wpAny C.M A (do callWith pos (← eval (.Name (Str.ofString "range") p) env) [] (backTo pos (starEach [e1, e2] env)) []) _ E s
  refine wpAny_bind (global_ok F S (beq_iff_eq.mp hg2) hT.range (by decide +kernel) ?_)
  refine callWith_any (any_false hs') (evalArgs_any hs' ?_)
  refine wpAny_items_cons (he1.bind F S hA h hE fun ρ1 H1 v1 u1 s1 st1 F1 S1 hv1 hq1 hE1 => wpAny_items_cons (he2.bind F1 S1 hA hq1 hE1 fun ρ2 H2 v2 u2 s2 st2 F2 S2 hv2 hq2 hE2 => wpAny_items_nil ⟨.inr (.inl ⟨_, rfl⟩), ?_⟩) q2) q1
  split at hq2
  · rename_i i j
    obtain ⟨hi0, hi, hj0, hj, hq2⟩ := hq2
    obtain ⟨tk, rfl⟩ := hv1
    obtain ⟨tk2, rfl⟩ := hv2
    unfold lid at hi hj
    obtain ⟨S3, st3⟩ := S2.grow (h' := s2.heap.push { cls := .type "range", data := .fields #[.int i tk, .int j tk2, .int 1 s2.toks] }) (tk := s2.toks + 1) get_push
    exact call_range_2 (range_ready hA.h ((st1.trans st2).trans st3) S3 (IsRange.new _ _ _ _ _ _ _) (by omega) (by omega) (by omega) (by omega) hq2)
  · exact hq2.elim

theorem it_enum (hT : TabOk C T K) {g : Str} {p pos : Pos} {e : Expr} {pe : PE} (hg : isG env.kindOf g "enumerate" = true) (hs : isStar e = false) (he : EvOk C T K env e pe) : ItOk C T K env (.Call (.Name g p) [e] [] pos) (.itEnum pe) := by
  intro σ ρ H s A q X E F S hA h hE
  unfold isG at hg
  obtain ⟨hg1, hg2⟩ := Bool.and_eq_true_iff.mp hg
  have hg1 := beq_iff_eq.mp hg1
  subst hg1
  refine type_call1 (beq_iff_eq.mp hg2) hT.enum (by decide +kernel) hs he F S hA h hE fun ρ1 H1 v1 u1 s1 st1 F1 S1 hv1 hq1 hE1 => ?_
  split at hq1
  · rename_i n
    split at hq1
    · rename_i xs e1
      obtain ⟨a, rfl, ea, us, m, ho, hs, _⟩ := S1.lookup e1 hv1
      refine call_enumerate_list ⟨_, ho, rfl, m, rfl⟩ fun h' hen hit hsz hk => ?_
      refine wpAny_pyIter_enum hen ?_
      obtain ⟨S2, st2⟩ := S1.grow (h' := h') (tk := s1.toks) hk
      refine ⟨ρ1, H1, _, _, _, [_, _], _, rfl, itr_enum hA.h ea (Nat.succ_ne_self _), ⟨⟨_, hen⟩, hit⟩, st1.trans st2, S2, fun b hb => ?_, hq1⟩
      have hn : ∀ k, s1.heap.objs.size ≤ k → s1.heap.get? k = none := fun k hk => by
        cases e : s1.heap.get? k with
        | none => rfl
        | some o => exact absurd (Heap.lt_size e) (Nat.not_lt.mpr hk)
      have hnr : ∀ k, s1.heap.objs.size ≤ k → k ∉ ρ1 := fun k hk hm => by
        obtain ⟨i, hi, e⟩ := List.getElem_of_mem hm
        have hi' : i < H1.length := by rw [← S1.len]; exact hi
        obtain ⟨ob, q⟩ := (S1.obj i _ H1[i] (by rw [List.getElem?_eq_getElem hi, e]) (List.getElem?_eq_getElem hi')).alive C
        rw [hn k hk] at q; cases q
      rcases List.mem_cons.mp hb with rfl | hb
      · exact ⟨none_before st1 (hn _ (Nat.le_succ _)), hnr _ (Nat.le_succ _)⟩
      · simp at hb; subst hb
        exact ⟨none_before st1 (hn _ (Nat.le_refl _)), hnr _ (Nat.le_refl _)⟩
    · exact hq1.elim
  · exact hq1.elim

/-! reversed(range(n)) -/
theorem sub_ri_reversed : isSubtype (.type "range_iterator") (.type "reversed") = pure false := by rw [isSubtype_type]; kernel_rfl

theorem range_reversed_meets (r : Addr) (a b c : Int) (t u v : Tok) (hc0 : ¬(!(Builtin.Range.rangeFitsLong a && Builtin.Range.rangeFitsLong b && Builtin.Range.rangeFitsLong c && Builtin.Range.rangeFitsLong (-c) && Builtin.Range.rangeFitsLong (a - c) && Builtin.Range.rangeFitsLong (Builtin.Range.rangeSize a b c))) = true) :
    Meets (Builtin.«range.__reversed__» ⟨[.ref r], []⟩) (fun _ R s => s.heap.get? r = some { cls := .type "range", dict := none, data := .fields #[.int a t, .int b u, .int c v], slots := #[] } ∧ R (.ok (.ret (Value.ref s.heap.objs.size))) { s with heap := s.heap.push { cls := Value.type (if (Builtin.Range.rangeFitsLong a && Builtin.Range.rangeFitsLong b && Builtin.Range.rangeFitsLong c && Builtin.Range.rangeFitsLong (-c) && Builtin.Range.rangeFitsLong (a - c) && Builtin.Range.rangeFitsLong (Builtin.Range.rangeSize a b c)) = true then "range_iterator" else "longrange_iterator"), data := Data.fields #[rawInt (a + (Builtin.Range.rangeSize a b c - 1) * c), rawInt (Builtin.Range.rangeSize a b c), rawInt (-c)] }, toks := s.toks }) :=
  .of_wp fun prog w A R s h => by obtain ⟨hp, g, d, tk, os⟩ := s; obtain ⟨hl, h⟩ := h; wp_walk; exact ⟨_, rfl, h⟩

theorem call_range_reversed {s : Shared} {E : Value → Shared → Prop} {r : Addr} {n : Int} {t u v : Tok} {Q : Value → Shared → Prop} (hr : IsRange s.heap r 0 n 1 t u v) (h0 : 0 ≤ n) (hn : n < 2 ^ 62)
    (h : Q (.ref s.heap.objs.size) { s with heap := s.heap.push { cls := .type "range_iterator", data := .fields #[rawInt (n - 1), rawInt n, rawInt (-1)] } }) : wpAny C.M A (call (.builtin "range.__reversed__") [.ref r]) Q E s := by
  have hT : s.TypeIs (.ref r) "range" := ⟨_, hr, rfl⟩
  have hz : Builtin.Range.rangeSize 0 n 1 = n := by rw [rangeSize_one]; split <;> omega
  have hf : (Builtin.Range.rangeFitsLong 0 && Builtin.Range.rangeFitsLong n && Builtin.Range.rangeFitsLong 1 && Builtin.Range.rangeFitsLong (-1) && Builtin.Range.rangeFitsLong (0 - 1) && Builtin.Range.rangeFitsLong (Builtin.Range.rangeSize 0 n 1)) = true := by
    rw [hz]; simp only [Builtin.Range.rangeFitsLong, Bool.and_eq_true, decide_eq_true_eq]; omega
  refine call_meets F.slot_range_reversed hT F.entry_range_reversed (F.args_range_reversed_1 _) (range_reversed_meets r 0 n 1 t u v (by rw [hf]; decide)) ⟨hr, ?_⟩
  rw [if_pos hf, hz]
  have e : (0 : Int) + (n - 1) * 1 = n - 1 := by omega
  rw [e]; exact h

/-! what the model says of reversed(..), computed -/
theorem rv_args (a : Value) : checkBuiltinCall "reversed.__new__" ⟨[.type "reversed", a], []⟩ = pure () := by kernel_rfl
theorem rv_plain : plainId "reversed.__new__" = true := by decide +kernel
theorem rv_tree : entryFor table "reversed.__new__" = some Builtin.«reversed.__new__» := entryFor_of_tree (by kernel_rfl)
theorem rv_mro : mroOf (.type "reversed") = pure [.type "reversed", .type "object"] := by rw [mroOf_type]; kernel_rfl
theorem rv_made : Bind.madeBy (.type "reversed") = pure (some "reversed.__new__") := madeBy_type rv_mro (by rw [typeLookup_type, builtinLookup_eq_fast]; kernel_rfl) (by decide +kernel)
theorem rv_call (a : Value) : checkTypeCall "reversed" ⟨[a], []⟩ = pure () := by kernel_rfl
theorem rv_class (a : Value) : Builtin.SmallTypes.newClass "reversed" ⟨[.type "reversed", a], []⟩ = pure (.type "reversed", [a]) := by
  have h : isSubtype (.type "reversed") (.type "reversed") = pure true := by rw [isSubtype_type]; kernel_rfl
  unfold Builtin.SmallTypes.newClass isType
  dsimp only
  simp only [h, pure_bind]
  rfl

theorem code_reversed_range {s : Shared} {E : Value → Shared → Prop} {r : Addr} {n : Int} {t u v : Tok} {Q₁ : Value → Shared → Prop} (hr : IsRange s.heap r 0 n 1 t u v) (h0 : 0 ≤ n) (hn : n < 2 ^ 62)
    (h : Q₁ (.ref s.heap.objs.size) { s with heap := s.heap.push { cls := .type "range_iterator", data := .fields #[rawInt (n - 1), rawInt n, rawInt (-1)] } }) :
    codeAny C.M A (.call (.builtin "reversed.__new__") ⟨[.type "reversed", .ref r], []⟩) (wants Q₁ E) s := by
  have hT : s.TypeIs (.ref r) "range" := ⟨_, hr, rfl⟩
  refine codeAny_of_tree ?_
  show wpAny _ A.in1 (do checkBuiltinCall "reversed.__new__" ⟨[.type "reversed", .ref r], []⟩; again (.builtin "reversed.__new__" ⟨[.type "reversed", .ref r], []⟩)) _ _ s
  refine wpAny_bind (wpAny_of_eq (rv_args _) (wpAny_pure ⟨plainId_quiet rv_plain _, codeAny_builtin rv_tree ?_⟩))
  rw [Around.under_plainId rv_plain _]
  unfold Builtin.«reversed.__new__»
  refine wpAny_bind (wpAny_of_eq (rv_class _) ?_)
  try dsimp only
  refine wpAny_bind (wpAny_of_eq (a := ()) (by first | rfl | kernel_rfl) ?_)
  refine wpAny_bind (wpAny_of_eq (a := ()) (by first | rfl | kernel_rfl) ?_)
  try dsimp only
  refine wpAny_bind (wpAny_specialOf hT F.slot_range_reversed.lookup ?_)
  try dsimp only
  refine wpAny_bind (wpAny_of_eq (F.slot_range_reversed.bind _) ?_)
  try dsimp only
  first
  | rw [if_neg (show ¬ ((Value.builtin "range.__reversed__" == Value.none) = true) from Bool.false_ne_true)]
  | (show wpAny _ _ (if (Value.builtin "range.__reversed__" == Value.none) = true then _ else _) _ _ _; rw [if_neg (show ¬ ((Value.builtin "range.__reversed__" == Value.none) = true) from Bool.false_ne_true)])
  refine wpAny_bind (wpAny_rule ?_)
  refine wpAny_bind (m := runValue (.call (.builtin "range.__reversed__") ⟨[.ref r], []⟩)) (show wpAny _ _ (call (.builtin "range.__reversed__") [.ref r]) _ _ _ from call_range_reversed hr h0 hn ?_)
  first
  | exact wpAny_pure h
  | exact wpAny_bind (wpAny_pure (wpAny_pure h))

theorem call_reversed_range {s : Shared} {E : Value → Shared → Prop} {r : Addr} {n : Int} {t u v : Tok} {Q : Value → Shared → Prop} (hr : IsRange s.heap r 0 n 1 t u v) (h0 : 0 ≤ n) (hn : n < 2 ^ 62)
    (h : Q (.ref s.heap.objs.size) { s with heap := s.heap.push { cls := .type "range_iterator", data := .fields #[rawInt (n - 1), rawInt n, rawInt (-1)] } }) : wpAny C.M A (call (.type "reversed") [.ref r]) Q E s := by
  have new : codeAny C.M A.in1 (.call (.builtin "reversed.__new__") ⟨[.type "reversed", .ref r], []⟩) (wants (fun obj s₁ => obj = .ref s.heap.objs.size ∧ s₁ = { s with heap := s.heap.push { cls := .type "range_iterator", data := .fields #[rawInt (n - 1), rawInt n, rawInt (-1)] } }) E) s := code_reversed_range hr h0 hn ⟨rfl, rfl⟩
  have made := rv_made
  have mro := rv_mro
  have arg := rv_call (.ref r)
  have sub := sub_ri_reversed
  have mk : ((Manifest.find? "reversed").bind (·.mro.findSome? fun t => (Manifest.find? t).bind fun b => if b.noNew then some true else if b.attrs.any (·.1 == "__new__") then some false else none)).getD false = false := by decide +kernel
  have ty : (Value.type "reversed" == Value.type "type") = false := by decide +kernel
  refine wpAny_call (codeAny_of_tree (wpAny_pure ⟨Code.quiet_builtin _ (by decide +kernel), codeAny_builtin F.entry_type_call ?_⟩))
  rw [Around.under_plain (weight_type_call_type "reversed" [.ref r] []) rfl]
  repeat (any_goals (first | assumption | wp_step))
  refine codeAny_mono new fun x s₁ hx => ?_
  match x, hx with
  | .error _, hx => exact hx
  | .ok (.ret obj), hx =>
    obtain ⟨rfl, rfl⟩ := hx
    have hT : ({ s with heap := s.heap.push { cls := .type "range_iterator", data := .fields #[rawInt (n - 1), rawInt n, rawInt (-1)] } } : Shared).TypeIs (.ref s.heap.objs.size) "range_iterator" := ⟨_, Heap.get?_push_size _ rfl, rfl⟩
    repeat (any_goals (first | assumption | wp_step))

theorem ints_rev (n : Nat) : ((List.range n).map fun k => Item.one (.int ((n : Int) - 1 + (k : Nat) * (-1)))) = (intsFrom 0 n).reverse.map fun i => Item.one (.int i) := by
  unfold intsFrom
  rw [← List.map_reverse, List.map_map]
  apply List.ext_getElem
  · simp
  · intro i h1 h2
    simp at h1
    simp only [List.getElem_map, List.getElem_range, List.getElem_reverse, List.length_range, Function.comp]
    congr 2
    omega

theorem it_rev (hT : TabOk C T K) {g f : Str} {p p' pos pos' : Pos} {e : Expr} {pe : PE} (hg : isG env.kindOf g "reversed" = true) (hf : isG env.kindOf f "range" = true) (hs : isStar e = false) (he : EvOk C T K env e pe) :
    ItOk C T K env (.Call (.Name g p) [.Call (.Name f p') [e] [] pos'] [] pos) (.itRev pe) := by
  intro σ ρ H s A q X E F S hA h hE
  unfold isG at hg hf
  obtain ⟨hg1, hg2⟩ := Bool.and_eq_true_iff.mp hg
  obtain ⟨hf1, hf2⟩ := Bool.and_eq_true_iff.mp hf
  have hg1 := beq_iff_eq.mp hg1
  have hf1 := beq_iff_eq.mp hf1
  subst hg1 hf1
  have hs' : ∀ x ∈ [Expr.Call (.Name (Str.ofString "range") p') [e] [] pos'], isStar x = false := fun x hx => by simp at hx; subst hx; rfl
  show wpAny C.M A (do callWith pos (← eval (.Name (Str.ofString "reversed") p) env) [] (backTo pos (starEach [.Call (.Name (Str.ofString "range") p') [e] [] pos'] env)) []) _ E s
  refine wpAny_bind (global_ok F S (beq_iff_eq.mp hg2) hT.revd (by decide +kernel) ?_)
  refine callWith_any (any_false hs') (evalArgs_any hs' ?_)
  refine wpAny_items_cons (type_call1 (beq_iff_eq.mp hf2) hT.range (by decide +kernel) hs he F S hA h hE fun ρ1 H1 v1 u1 s1 st1 F1 S1 hv1 hq1 hE1 => ?_) rfl
  split at hq1
  · rename_i j
    obtain ⟨hj0, hj, hq1⟩ := hq1
    obtain ⟨tk, rfl⟩ := hv1
    unfold lid at hj
    refine call_range_1 (wpAny_items_nil ⟨.inr (.inl ⟨_, rfl⟩), ?_⟩)
    obtain ⟨S2, st2⟩ := S1.grow (h' := s1.heap.push { cls := .type "range", data := .fields #[.int 0 s1.toks, .int j tk, .int 1 (s1.toks + 1)] }) (tk := s1.toks + 1 + 1) get_push
    refine call_reversed_range (IsRange.new _ _ _ _ _ _ _) hj0 (by omega) ?_
    obtain ⟨S3, st3⟩ := S2.grow (h' := (s1.heap.push { cls := .type "range", data := .fields #[.int 0 s1.toks, .int j tk, .int 1 (s1.toks + 1)] }).push { cls := .type "range_iterator", data := .fields #[rawInt (j - 1), rawInt j, rawInt (-1)] }) (tk := s1.toks + 1 + 1) get_push
    have hget := Heap.get?_push_size (s1.heap.push { cls := .type "range", data := .fields #[.int 0 s1.toks, .int j tk, .int 1 (s1.toks + 1)] }) (o := { cls := .type "range_iterator", data := .fields #[rawInt (j - 1), rawInt j, rawInt (-1)] }) rfl
    refine wpAny_pyIter_rangeiter hget ?_
    have hi := itr_range (C := C) (A := A) hA.h (I := (s1.heap.push { cls := .type "range", data := .fields #[.int 0 s1.toks, .int j tk, .int 1 (s1.toks + 1)] }).objs.size) (a := (j.toNat : Int) - 1) (c := -1) (n := j.toNat) (ρ0 := ρ1)
    rw [ints_rev] at hi
    refine ⟨ρ1, H1, _, _, _, [_], _, rfl, hi, ?_, (st1.trans st2).trans st3, S3, fun b hb => ?_, hq1⟩
    · have hjn : ((j.toNat : Nat) : Int) = j := Int.toNat_of_nonneg hj0
      simpa [hjn] using hget
    · simp only [List.mem_singleton] at hb; subst hb
      exact ⟨none_before (st1.trans st2) (get_size _), fresh_new S2⟩
  · exact hq1.elim

end
end Mine
end
section
namespace Mine
open PySem PySem.Calls PyProof.Rows

/-! Targets. -/

section
variable {C : Cx} {env : Env} {A : Around} {E : Value → Shared → Prop}

theorem stored_iff {k : Kd} {x : Str} (h : stored k x = true) : k x = some .local ∨ k x = some .cell := by
  unfold stored at h
  rcases Bool.or_eq_true_iff.mp (Bool.and_eq_true_iff.mp h).1 with h | h
  · exact .inl (by simpa using h)
  · exact .inr (by simpa using h)
theorem stored_ne {k : Kd} {x : Str} (h : stored k x = true) : x ≠ dot0 := by
  unfold stored at h
  simpa using (Bool.and_eq_true_iff.mp h).2

theorem tgt_each : ∀ {elts : List Expr} {xs : List Str}, tgtNames elts = some xs → ∃ ps : List Pos, ps.length = xs.length ∧ (assignEach elts env).map (·.2) = (xs.zip ps).map (fun p u => assign (.Name p.1 p.2) env u) ∧ (assignEach elts env).findIdx? (·.1) = none ∧ elts.length = xs.length ∧ (assignEach elts env).length = xs.length
  | [], _, h => by cases h; exact ⟨[], rfl, rfl, rfl, rfl, rfl⟩
  | e :: r, xs, h => by
    cases e with
    | Name x p =>
      unfold tgtNames at h
      cases hr : tgtNames r with
      | none => rw [hr] at h; cases h
      | some ys =>
        rw [hr] at h; cases h
        obtain ⟨ps, h1, h2, h3, h4, h5⟩ := tgt_each (elts := r) hr
        have e1 : assignEach (.Name x p :: r) env = (false, assign (.Name x p) env) :: assignEach r env := rfl
        refine ⟨p :: ps, by simp [h1], ?_, ?_, by simp [h4], by rw [e1]; simp [h5]⟩
        · rw [e1]; simp only [List.map_cons, List.zip_cons_cons]; rw [h2]
        · rw [e1, List.findIdx?_cons]; simp [h3]
    | _ => cases h

theorem stores_zip {Z : List Str} : ∀ (xs : List Str) (ps : List Pos) (vs : List V) (us : List Value) (σ : Sg) (ρ : List Addr) (H : AHeap) (s : Shared) (Q : Unit → Shared → Prop), ps.length = xs.length →
    xs.length = vs.length → All2 (VR C ρ) vs us → (∀ x ∈ xs, x ∈ Z) → (∀ x ∈ xs, stored env.kindOf x = true) → FR C env σ ρ s.heap → Sim C ρ H s →
    (∀ s', FR C env (σ.sets (xs.zip vs)) ρ s'.heap → Sim C ρ H s' → StepG (ownT env Z) ρ s ρ s' → Q () s') → wpAny C.M A (assignInOrder ((xs.zip ps).map fun p u => assign (.Name p.1 p.2) env u) us) Q E s
  | [], _, [], _, σ, ρ, H, s, Q, _, _, .nil, _, _, F, S, h => by rw [List.zip_nil_left]; exact wpAny_pure (h s F S (StepG.refl _ _))
  | x :: xs, p :: ps, v :: vs, _, σ, ρ, H, s, Q, hp, hl,   .cons (b := u) (bs := us) hv hr, hz, hk, F, S, h => by
    rw [List.zip_cons_cons, List.map_cons, assignInOrder]
    refine wpAny_bind (wpAny_holding (assign_Name (store_ok F S (hz x (.head _)) (stored_iff (hk x (.head _))) (stored_ne (hk x (.head _))) hv fun s1 F1 S1 st1 => ?_)))
    refine stores_zip xs ps vs us _ ρ H s1 Q (by simpa using hp) (by simpa using hl) hr (fun y hy => hz y (.tail _ hy)) (fun y hy => hk y (.tail _ hy)) F1 S1 fun s2 F2 S2 st2 => h s2 F2 S2 (st1.trans st2)
  | _ :: _, [], _, _, _, _, _, _, _, hp, _, _, _, _, _, _, _ => by simp at hp
  | [], _, _ :: _, _, _, _, _, _, _, _, hl, _, _, _, _, _, _ => by simp at hl
  | _ :: _, _, [], _, _, _, _, _, _, _, hl, _, _, _, _, _, _ => by simp at hl

/-- a tuple taken apart: a new iterator is made, all else stands -/
theorem unpack_tuple {ρ : List Addr} {H : AHeap} {s : Shared} {t : Addr} {us : Array Value} {n m : Nat} {Q : List Value → Shared → Prop} (hA : A.handled = none) (S : Sim C ρ H s) (ho : s.heap.get? t = some ⟨.type "tuple", none, .seq us n, #[]⟩) (hm : m = us.size)
    (h : ∀ h', (∀ b o, s.heap.get? b = some o → h'.get? b = some o) → Q us.toList { s with heap := h' }) : wpAny C.M A (unpackItems (.ref t) m none) Q E s := by
  subst hm
  exact unpackItems_tuple hA ⟨_, ho, rfl, n, rfl⟩ fun h' he => h h' fun b o e => he b o (Nat.ne_of_lt (Heap.lt_size e)) e

/-- what a loop's target takes -/
theorem assign_ok {t : Expr} {t' : Tgt} {x : Item} {u : Value} {σ σ' : Sg} {ρ : List Addr} {H : AHeap} {s : Shared} {h0 : Heap} {Q : Unit → Shared → Prop} (hA : A.handled = none) (ht : trT env.kindOf t = some t') (hb : bindA t' x H σ = some σ') (hx : IR C ρ h0 s.heap x u)
    (F : FR C env σ ρ s.heap) (S : Sim C ρ H s) (h : ∀ s', FR C env σ' ρ s'.heap → Sim C ρ H s' → StepG (ownT env t'.names) ρ s ρ s' → Q () s') : wpAny C.M A (assign t env u) Q E s := by
  cases t with
  | Name y p =>
    unfold trT at ht
    dsimp only at ht
    split at ht
    · rename_i hk
      cases ht
      unfold bindA at hb
      cases x with
      | one v => cases hb; exact assign_Name (store_ok F S (Z := [y]) (.head _) (stored_iff hk) (stored_ne hk) hx h)
      | many vs => cases hb
    · cases ht
  | Tuple elts k p =>
    unfold trT at ht
    dsimp only at ht
    split at ht
    · rename_i xs hxs
      split at ht
      · rename_i hk
        cases ht
        obtain ⟨hk1, hk2⟩ := Bool.and_eq_true_iff.mp hk
        have hk1 : ∀ x ∈ xs, stored env.kindOf x = true := List.all_eq_true.mp hk1
        obtain ⟨ps, h1, h2, h3, h4, h5⟩ := tgt_each (env := env) hxs
        rw [arm_assign_Tuple]
        refine wpAny_bind (wpAny_standAt ?_)
        unfold unpack
        rw [h2, h3, h5]
        have main : ∀ (tt : Addr) (us : Array Value) (m : Nat) (vs : List V), u = .ref tt → s.heap.get? tt = some ⟨.type "tuple", none, .seq us m, #[]⟩ → All2 (VR C ρ) vs us.toList → xs.length = vs.length → σ' = σ.sets (xs.zip vs) →
            wpAny C.M A (holding [u] (unpackItems u xs.length none) >>= fun items => assignInOrder ((xs.zip ps).map fun p u => assign (.Name p.1 p.2) env u) items) Q E s := by
          rintro tt us m vs rfl ho hs hl rfl
          have hz : xs.length = us.size := by rw [hl, hs.length]; simp
          refine wpAny_bind (wpAny_holding (unpack_tuple hA S ho hz fun h' hk' => ?_))
          obtain ⟨S1, st1⟩ := S.grow (h' := h') (tk := s.toks) hk'
          exact stores_zip (Z := xs) xs ps vs us.toList σ ρ H _ Q h1 hl hs (fun _ h => h) hk1 (F.step st1) S1 fun s2 F2 S2 st2 => h s2 F2 S2 ((StepG.up st1).trans st2)
        unfold bindA at hb
        cases x with
        | one v =>
          cases v with
          | ref n =>
            dsimp only at hb
            split at hb
            · rename_i vs e1
              split at hb
              · rename_i hl
                cases hb
                obtain ⟨a, rfl, ea, us, m, ho, hs, _⟩ := S.lookup e1 hx
                exact main a us m vs rfl ho hs hl rfl
              · cases hb
            · cases hb
          | _ => cases hb
        | many vs =>
          dsimp only at hb
          split at hb
          · rename_i hl
            cases hb
            obtain ⟨tt, us, m, rfl, ho, _, hs⟩ := hx
            exact main tt us m vs rfl ho hs hl rfl
          · cases hb
      · cases ht
    · cases ht
  | _ => cases ht

end
end Mine
end
section
namespace Mine
open PySem PySem.Calls PyProof.Rows

/-! Comprehensions. -/

section
variable {C : Cx} {env : Env} {A : Around} {E : Value → Shared → Prop}

theorem FR.at {σ : Sg} {ρ : List Addr} {h h' : Heap} (F : FR C env σ ρ h) (k : ∀ b, own env b → ∀ o, h.get? b = some o → h'.get? b = some o) : FR C env σ ρ h' := by
  refine ⟨F.dot, F.kind, F.glob, F.bl, ?_, fun x c hc => ?_, F.has, F.nL, F.nC, F.apart, F.bL, F.bC⟩
  · obtain ⟨m, hn, hv⟩ := F.ns
    exact ⟨m, hn.at' fun o q => k _ (.inl rfl) o q, hv⟩
  · obtain ⟨ov, ⟨o, ho, hd⟩, hv⟩ := F.cells x c hc
    exact ⟨ov, ⟨o, k _ (.inr ⟨x, hc⟩) o ho, hd⟩, hv⟩

theorem FR.less {σ σ' : Sg} {ρ : List Addr} {h : Heap} (F : FR C env σ ρ h) (l : ∀ x v, σ' x = some v → σ x = some v) : FR C env σ' ρ h := by
  refine ⟨?_, F.kind, F.glob, F.bl, ?_, fun x c hc => ?_, F.has, F.nL, F.nC, F.apart, F.bL, F.bC⟩
  · cases e : σ' dot0 with
    | none => rfl
    | some v => have := l _ _ e; rw [F.dot] at this; cases this
  · obtain ⟨m, hn, hv⟩ := F.ns
    exact ⟨m, hn, fun x v h1 h2 => hv x v (l _ _ h1) h2⟩
  · obtain ⟨ov, hi, hv⟩ := F.cells x c hc
    exact ⟨ov, hi, fun v h1 h2 => hv v (l _ _ h1) h2⟩

theorem FR.alive {σ : Sg} {ρ : List Addr} {h : Heap} (F : FR C env σ ρ h) : ∀ b, own env b → ∃ o, h.get? b = some o
  | _, .inl e => by obtain ⟨m, ⟨o, es, ep, ho, _⟩, _⟩ := F.ns; exact ⟨o, e ▸ ho⟩
  | _, .inr ⟨x, e⟩ => by obtain ⟨ov, ⟨o, ho, _⟩, _⟩ := F.cells x _ e; exact ⟨o, ho⟩

theorem adrift {ex : Addr → Prop} {ρ ρ1 : List Addr} {H1 : AHeap} {s t : Shared} {W : Addr → Prop} {h' : Heap} {tk : Nat} (st : StepG ex ρ s ρ1 t) (S : Sim C ρ1 H1 t) (hW : ∀ b, W b → s.heap.get? b = none ∧ b ∉ ρ1 ∧ C.base.get? b = none)
    (k : ∀ b o, ¬ W b → t.heap.get? b = some o → h'.get? b = some o) : StepG ex ρ s ρ1 { t with heap := h', toks := tk } ∧ Sim C ρ1 H1 { t with heap := h', toks := tk } := by
  refine ⟨⟨st.ext, fun b o hb hx e => k b o (fun w => ?_) (st.keep b o hb hx e), fun b o e => ?_⟩, ⟨S.len, S.nodup, fun i a o e q => ?_, fun b o e => k b o (fun w => ?_) (S.stays b o e), S.fresh, S.sm, S.gens, S.os⟩⟩
  · rw [(hW b w).1] at e; cases e
  · obtain ⟨o1, e1⟩ := st.live b o e
    exact ⟨o1, k b o1 (fun w => by rw [(hW b w).1] at e; cases e) e1⟩
  · exact (S.obj i a o e q).keep C [] (by simp) fun x hx => k a x (fun w => (hW a w).2.1 (List.mem_of_getElem? e)) hx
  · rw [(hW b w).2.2] at e; cases e

theorem Sim.adopt {ρ : List Addr} {H : AHeap} {t : Shared} {D : Addr} {o : AObj} (S : Sim C ρ H t) (hD : D ∉ ρ) (hb : C.base.get? D = none) (hsm : D ≠ sysModules) (ho : OR C ρ t.heap D o) :
    Sim C (ρ ++ [D]) (H ++ [o]) t ∧ VR C (ρ ++ [D]) (.ref H.length) (.ref D) := by
  refine ⟨⟨by simp [S.len], ?_, fun i b x e q => ?_, S.stays, fun i b e hi => ?_, ?_, S.gens, S.os⟩, ⟨D, rfl, by rw [← S.len]; simp⟩⟩
  · rw [List.nodup_append]
    exact ⟨S.nodup, by simp, fun x hx y hy => by simp at hy; rw [hy]; exact fun q => hD (q ▸ hx)⟩
  · rcases Nat.lt_or_ge i ρ.length with hi | hi
    · rw [List.getElem?_append_left hi] at e
      rw [List.getElem?_append_left (S.len ▸ hi)] at q
      exact (S.obj i b x e q).keep C [D] rfl fun _ x => x
    · rw [List.getElem?_append_right hi] at e
      rw [List.getElem?_append_right (S.len ▸ hi)] at q
      rw [S.len] at e
      rcases Nat.eq_zero_or_pos (i - H.length) with z | z
      · rw [z] at e q
        simp at e q
        subst e q
        exact ho.keep C [D] rfl fun _ x => x
      · rw [List.getElem?_eq_none (by simp; omega)] at e; cases e
  · rcases Nat.lt_or_ge i ρ.length with hi' | hi'
    · rw [List.getElem?_append_left hi'] at e
      exact S.fresh i b e hi
    · rw [List.getElem?_append_right hi'] at e
      rcases Nat.eq_zero_or_pos (i - ρ.length) with z | z
      · rw [z] at e; simp at e; rw [← e]; exact hb
      · rw [List.getElem?_eq_none (by simp; omega)] at e; cases e
  · intro hq
    rcases List.mem_append.mp hq with hq | hq
    · exact S.sm hq
    · simp only [List.mem_singleton] at hq
      exact hsm hq.symm

theorem step_adopt {ρ ρ1 : List Addr} {s t : Shared} {D : Addr} (st : Step ρ s ρ1 t) (hD : s.heap.get? D = none) : Step ρ s (ρ1 ++ [D]) t := by
  obtain ⟨l, e, f⟩ := st.ext
  refine ⟨⟨l ++ [D], by rw [e, List.append_assoc], fun a ha => ?_⟩, st.keep, st.live⟩
  rcases List.mem_append.mp ha with ha | ha
  · exact f a ha
  · simp at ha; rw [ha]; exact hD

theorem base_none {ρ : List Addr} {H : AHeap} {s : Shared} (S : Sim C ρ H s) {b : Addr} (h : s.heap.get? b = none) : C.base.get? b = none := by
  cases e : C.base.get? b with
  | none => rfl
  | some o => rw [S.stays b o e] at h; cases h

theorem none_ρ {ρ : List Addr} {H : AHeap} {s : Shared} (S : Sim C ρ H s) {b : Addr} (h : s.heap.get? b = none) : b ∉ ρ := fun hm => by
  obtain ⟨i, hi, e⟩ := List.getElem_of_mem hm
  have hi' : i < H.length := by rw [← S.len]; exact hi
  obtain ⟨ob, q⟩ := (S.obj i b H[i] (by rw [List.getElem?_eq_getElem hi, e]) (List.getElem?_eq_getElem hi')).alive C
  rw [h] at q; cases q

/-- what stands outside both, and is alive, stays outside -/
theorem stay_out {ex : Addr → Prop} {ρ ρ1 : List Addr} {s t : Shared} (st : StepG ex ρ s ρ1 t) {b : Addr} {o : Obj} (h : s.heap.get? b = some o) (hb : b ∉ ρ) : b ∉ ρ1 := fun hm => by
  obtain ⟨l, e, f⟩ := st.ext
  rw [e] at hm
  rcases List.mem_append.mp hm with hm | hm
  · exact hb hm
  · rw [f b hm] at h; cases h

/-! the names that a comprehension closes over -/
theorem closure_go (g : Str → Addr) : ∀ (names : List (Str × NameKind)) (acc : List (Str × Addr)), (∀ p ∈ names, p.2 = .free → env.cells.lookup p.1 = some (g p.1)) →
    (forIn names acc fun x r => match x with
      | (name, kind) => if (kind == NameKind.free) = true then do let c ← cellOf env name; pure (ForInStep.yield ((name, c) :: r)) else pure (ForInStep.yield r) : Sem (List (Str × Addr))) =
    pure (((names.filter fun p => p.2 == .free).map fun p => (p.1, g p.1)).reverse ++ acc)
  | [], acc, _ => rfl
  | (x, k) :: r, acc, h => by
    rw [List.forIn_cons]
    dsimp only
    by_cases hk : (k == NameKind.free) = true
    · have hc := h (x, k) (.head _) (by simpa using hk)
      have e1 : cellOf env x = pure (g x) := by unfold cellOf; rw [hc]
      rw [if_pos hk, e1]
      have ih := closure_go g r ((x, g x) :: acc) fun p hp => h p (.tail _ hp)
      simp only [List.filter_cons, hk, if_true, List.map_cons, List.reverse_cons, List.append_assoc, List.singleton_append]
      exact ih
    · rw [if_neg hk]
      have ih := closure_go g r acc fun p hp => h p (.tail _ hp)
      simp only [List.filter_cons, hk]
      exact ih

theorem closure_ok {sc : Scope} (hc : ∀ x, env.kindOf x = some .cell → ∃ c, env.cells.lookup x = some c) (hs : scOk sc env.kindOf = true) :
    ∃ cl, closureFor sc env = pure cl ∧ (∀ x c, cl.lookup x = some c → env.cells.lookup x = some c) ∧ (∀ x, (x, NameKind.free) ∈ sc.names → ∃ c, cl.lookup x = some c) := by
  have hs := (Bool.and_eq_true_iff.mp hs).2
  have hf : ∀ p ∈ sc.names, p.2 = .free → env.cells.lookup p.1 = some ((env.cells.lookup p.1).getD 0) := fun p hp hk => by
    have := List.all_eq_true.mp hs p hp
    rw [hk] at this
    dsimp only at this
    obtain ⟨c, hc'⟩ := hc p.1 (by simpa using this)
    rw [hc']; rfl
  refine ⟨((sc.names.filter fun p => p.2 == .free).map fun p => (p.1, (env.cells.lookup p.1).getD 0)).reverse ++ [], ?_, fun x c h => ?_, fun x h => ?_⟩
  · unfold closureFor
    have := closure_go (env := env) (fun x => (env.cells.lookup x).getD 0) sc.names [] hf
    simp only [this]
    rfl
  · have hm := mem_of_lookup h
    rw [List.append_nil, List.mem_reverse, List.mem_map] at hm
    obtain ⟨p, hp, e⟩ := hm
    obtain ⟨hp1, hp2⟩ := List.mem_filter.mp hp
    have := hf p hp1 (by simpa using hp2)
    cases e
    exact this
  · have hm : (x, (env.cells.lookup x).getD 0) ∈ ((sc.names.filter fun p => p.2 == .free).map fun p => (p.1, (env.cells.lookup p.1).getD 0)).reverse ++ [] := by
      rw [List.append_nil, List.mem_reverse, List.mem_map]
      exact ⟨(x, .free), List.mem_filter.mpr ⟨h, by rfl⟩, rfl⟩
    cases e : List.lookup x (((sc.names.filter fun (p : Str × NameKind) => p.2 == .free).map fun p => (p.1, (env.cells.lookup p.1).getD 0)).reverse ++ []) with
    | some c => exact ⟨c, rfl⟩
    | none =>
      exfalso
      rw [List.lookup_eq_none_iff] at e
      have := e _ hm
      simp at this

theorem inner_kind {sc : Scope} {cl : List (Str × Addr)} {L : Addr} (hf : env.scope.kind = .function) : (compEnvC sc cl L env).kindOf = inner sc env.kindOf := by
  funext x
  unfold Env.kindOf compEnvC relabel inner
  dsimp only
  rw [hf]
  congr 1
  refine List.map_congr_left fun p _ => ?_
  have : (NameKind.free == NameKind.free && (ScopeKind.function == ScopeKind.function)) = true := rfl
  simp only [beq_self_eq_true, Bool.and_true]
  rfl

/-- a name's kind inside, from its kind in the scope -/
theorem inner_cell {sc : Scope} (hs : scOk sc env.kindOf = true) {x : Str} (h : inner sc env.kindOf x = some .cell) : (x, NameKind.free) ∈ sc.names ∧ env.kindOf x = some .cell := by
  have hs := (Bool.and_eq_true_iff.mp hs).2
  unfold inner at h
  have hm := mem_of_lookup h
  obtain ⟨p, hp, e⟩ := List.mem_map.mp hm
  split at e
  · rename_i hc
    obtain ⟨h1, h2⟩ := Bool.and_eq_true_iff.mp hc
    cases e
    have h1 : p.2 = .free := by simpa using h1
    exact ⟨by rw [← h1]; exact hp, by simpa using h2⟩
  · have e1 : p = (x, NameKind.cell) := e
    subst e1
    have := List.all_eq_true.mp hs _ hp
    exact absurd this (by simp)

theorem inner_local {sc : Scope} (hs : scOk sc env.kindOf = true) {x : Str} (h : inner sc env.kindOf x = some .local) : (x, NameKind.local) ∈ sc.names := by
  unfold inner at h
  have hm := mem_of_lookup h
  obtain ⟨p, hp, e⟩ := List.mem_map.mp hm
  split at e
  · cases e
  · have e1 : p = (x, NameKind.local) := e
    exact e1 ▸ hp

/-- the frame that a comprehension starts in -/
theorem FR.comp {sc : Scope} {cl : List (Str × Addr)} {L : Addr} {σ σ0 : Sg} {ρ : List Addr} {h : Heap} {m : Str → Option Value} (F : FR C env σ ρ h) (hs : scOk sc env.kindOf = true) (h1 : ∀ x c, cl.lookup x = some c → env.cells.lookup x = some c)
    (h2 : ∀ x, (x, NameKind.free) ∈ sc.names → ∃ c, cl.lookup x = some c) (hl : h.Ns L m) (hL : L ∉ ρ) (hb : C.base.get? L = none) (hC : ∀ x, env.cells.lookup x ≠ some L) (l : ∀ x v, σ0 x = some v → σ x = some v ∧ (x, NameKind.local) ∉ sc.names) :
    FR C (compEnvC sc cl L env) σ0 ρ h := by
  have hk := inner_kind (sc := sc) (cl := cl) (L := L) F.kind
  refine ⟨?_, ?_, F.glob, F.bl, ⟨m, hl, fun x v e1 e2 => ?_⟩, fun x c hc => ?_, fun x hx => ?_, hL, fun x c hc => ⟨(F.nC x c (h1 x c hc)).1, fun q => ?_⟩, fun x y c hx hy => F.apart x y c (h1 _ _ hx) (h1 _ _ hy), hb, fun x c hc => F.bC x c (h1 _ _ hc)⟩
  · cases e : σ0 dot0 with
    | none => rfl
    | some v => have := (l _ _ e).1; rw [F.dot] at this; cases this
  · show sc.kind = .function
    simpa using (Bool.and_eq_true_iff.mp hs).1
  · rw [hk] at e2
    exact absurd (inner_local hs e2) (l _ _ e1).2
  · obtain ⟨ov, hi, hv⟩ := F.cells x c (h1 x c hc)
    refine ⟨ov, hi, fun v e1 e2 => hv v (l _ _ e1).1 ?_⟩
    rw [hk] at e2
    exact (inner_cell hs e2).2
  · rw [hk] at hx
    exact h2 x (inner_cell hs hx).1
  · exact hC x (by rw [h1 x c hc, q]; rfl)

end
end Mine
end
section
namespace Mine
open PySem PySem.Calls PyProof.Rows

/-! A comprehension's turns. -/

section
variable {prog : Program} {w : World} {A : Around} {R : Result → Shared → Prop} {s : Shared}

theorem compLoop_any {elt target iter : Expr} {ifs : List Expr} {scope : Scope} {pos : Pos} {it acc : Value} {env : Env} (I : Nat → Shared → Prop)
    (turn : ∀ n s, I n s → wpAny (model prog w) A (pyNext it) (fun r s₁ => match r with
      | none => R (.ok .next) s₁
      | some v => wpAny (model prog w) A (letOwnedTupleGo target it v) (fun _ s₁' => wpAny (model prog w) A (assign target env v) (fun _ s₂ =>
          wpAny (model prog w) A (forIn ifs true fun c r => if r = true then do let ok ← isTrue c env (eval c env); pure (ForInStep.yield ok) else pure (ForInStep.yield r)) (fun ok s₃ =>
            if ok = true then wpAny (model prog w) A (eval elt env) (fun x s₄ =>
              wpAny (model prog w) A (call (.builtin "list.append") [acc, x]) (fun _ s₅ => ∃ m, m < n ∧ I m s₅) (notedBy (model prog w) A env fun e s' => R (.error e) s') s₄) (notedBy (model prog w) A env fun e s' => R (.error e) s') s₃
            else ∃ m, m < n ∧ I m s₃) (notedBy (model prog w) A env fun e s' => R (.error e) s') s₂) (notedBy (model prog w) A env fun e s' => R (.error e) s') s₁')
             (notedBy (model prog w) A env fun e s' => R (.error e) s') s₁) (notedBy (model prog w) A env fun e s' => R (.error e) s') s)
    (n : Nat) (h : I n s) :
    codeAny (model prog w) A (.compLoop (.ListComp elt [⟨target, iter, ifs, 0⟩] scope pos) 0 it acc env) R s := by
  refine codeAny_loop rfl I (fun n s hI => ?_) n h
  show wpAny _ A ((compTurn (.ListComp elt [⟨target, iter, ifs, 0⟩] scope pos) 0 it acc env).onRaise (fun x => do noteFrame x env; theTreesLotGoes x)) _ _ s
  refine wpAny_noted ?_
  rw [compTurn_list]
  refine wpAny_bind (wpAny_standAt (wpAny_bind (wpAny_mono (turn n s hI) (fun r s₁ h₁ => ?_) fun _ _ h' => h')))
  cases r with
  | none => exact wpAny_pure h₁
  | some v =>
    refine wpAny_bind (wpAny_mono h₁ (fun _ s₁' h₁' => ?_) fun _ _ h' => h')
    refine wpAny_bind (wpAny_mono h₁' (fun _ s₂ h₂ => wpAny_bind (wpAny_mono h₂ (fun ok s₃ h₃ => ?_) fun _ _ h' => h')) fun _ _ h' => h')
    cases ok with
    | false => exact wpAny_pure ⟨rfl, h₃⟩
    | true =>
      exact wpAny_bind (wpAny_bind (wpAny_mono h₃ (fun x s₄ h₄ => wpAny_bind (wpAny_mono h₄ (fun _ s₅ h₅ => wpAny_pure (wpAny_pure ⟨rfl, h₅⟩)) fun _ _ h' => h')) fun _ _ h' => h'))
end

noncomputable def Sg.less (σ : Sg) (xs : List Str) : Sg := fun y => if y ∈ xs then none else σ y

theorem sets_off : ∀ (ps : List (Str × V)) (σ τ : Sg) (y : Str), (y ∈ ps.map (·.1) ∨ σ y = τ y) → σ.sets ps y = τ.sets ps y
  | [], σ, τ, y, h => by
    rcases h with h | h
    · cases h
    · exact h
  | (x, v) :: r, σ, τ, y, h => by
    unfold Sg.sets
    refine sets_off r _ _ y ?_
    by_cases e : y = x
    · right; unfold Sg.set; rw [if_pos e, if_pos e]
    · rcases h with h | h
      · left
        rw [List.map_cons] at h
        cases h with
        | head => exact absurd rfl e
        | tail _ h => exact h
      · right; unfold Sg.set; rw [if_neg e, if_neg e]; exact h

theorem sets_out : ∀ (ps : List (Str × V)) (σ : Sg) (y : Str), y ∉ ps.map (·.1) → σ.sets ps y = σ y
  | [], _, _, _ => rfl
  | (x, v) :: r, σ, y, h => by
    unfold Sg.sets
    rw [sets_out r _ y fun q => h (.tail _ q)]
    unfold Sg.set
    exact if_neg fun (q : y = x) => h (by rw [q, List.map_cons]; exact .head _)

theorem map_fst_zip {xs : List Str} {vs : List V} (h : xs.length = vs.length) : (xs.zip vs).map (·.1) = xs := by
  rw [List.map_fst_zip]; omega

theorem sets_less {xs : List Str} {vs : List V} {σ : Sg} (h : xs.length = vs.length) : (σ.less xs).sets (xs.zip vs) = σ.sets (xs.zip vs) := by
  funext y
  refine sets_off _ _ _ y ?_
  rw [map_fst_zip h]
  by_cases hy : y ∈ xs
  · exact .inl hy
  · right; unfold Sg.less; rw [if_neg hy]

theorem bindA_sets {t : Tgt} {x : Item} {H : AHeap} {σ σ' : Sg} (h : bindA t x H σ = some σ') : ∃ vs : List V, t.names.length = vs.length ∧ σ' = σ.sets (t.names.zip vs) ∧ ∀ τ, bindA t x H τ = some (τ.sets (t.names.zip vs)) := by
  unfold bindA at h
  cases t with
  | name y =>
    cases x with
    | one v => cases h; exact ⟨[v], rfl, rfl, fun τ => rfl⟩
    | many vs => cases h
  | tup ys =>
    cases x with
    | one v =>
      cases v with
      | ref n =>
        dsimp only at h
        split at h
        · rename_i vs e
          split at h
          · rename_i hl
            cases h
            exact ⟨vs, hl, rfl, fun τ => by unfold bindA; dsimp only; rw [e]; dsimp only; rw [if_pos hl]; rfl⟩
          · cases h
        · cases h
      | _ => cases h
    | many vs =>
      dsimp only at h
      split at h
      · rename_i hl
        cases h
        exact ⟨vs, hl, rfl, fun τ => by unfold bindA; dsimp only; rw [if_pos hl]; rfl⟩
      · cases h

theorem fits {k : Kd} {target : Expr} {t : Tgt} {x : Item} {H : AHeap} {σ σ' : Sg} (ht : trT k target = some t) (h : bindA t x H σ = some σ') : tgtFits target x := by
  cases target <;> first | (cases ht; done) | skip
  · unfold trT at ht
    dsimp only at ht
    split at ht
    · cases ht
      cases x with
      | one v => trivial
      | many vs => cases h
    · cases ht
  · trivial

noncomputable def TsOk (C : Cx) (K : Nat) (env : Env) (ifs : List Expr) (test : Sg → AHeap → (Bool → AHeap → Prop) → Prop) : Prop := ∀ {σ : Sg} {ρ : List Addr} {H : AHeap} {s : Shared} {A : Around} {q : Bool → AHeap → Prop} {E : Value → Shared → Prop},
  FR C env σ ρ s.heap → Sim C ρ H s → AOk K A → test σ H q →
    wpAny C.M A (forIn ifs true fun c r => if r = true then do let ok ← isTrue c env (eval c env); pure (ForInStep.yield ok) else pure (ForInStep.yield r)) (PB C ρ s q) E s
noncomputable def LtOk (C : Cx) (K : Nat) (env : Env) (e : Expr) (el : Sg → AHeap → VPost → Prop) : Prop := ∀ {σ : Sg} {ρ : List Addr} {H : AHeap} {s : Shared} {A : Around} {Q : VPost} {E : Value → Shared → Prop},
  FR C env σ ρ s.heap → Sim C ρ H s → AOk K A → el σ H Q → wpAny C.M A (eval e env) (PV C ρ s Q) E s

section
variable {C : Cx} {T : Tab} {K : Nat} {env : Env} {A : Around} {E : Value → Shared → Prop}

theorem comp_walk {elt iter target : Expr} {ifs : List Expr} {sc : Scope} {pos : Pos} {t' : Tgt} {items : List Item} {Kp : AHeap → Prop} {I : Addr} {wr : List Addr} {St : Nat → Heap → Prop} {ρ ρ0 : List Addr} {H H0 : AHeap} {s s2 : Shared} {σ : Sg}
    {test : Sg → AHeap → (Bool → AHeap → Prop) → Prop} {el : Sg → AHeap → VPost → Prop} {Q : List V → AHeap → Prop} {RR : Value → Addr → Result → Shared → Prop} {cl : List (Str × Addr)}
    (hA : AOk K A) (F : FR C env σ ρ s.heap) (S : Sim C ρ H s) (hs : scOk sc env.kindOf = true) (ho : onlyHere sc t' = true) (htr : trT (inner sc env.kindOf) target = some t')
    (h1 : ∀ x c, cl.lookup x = some c → env.cells.lookup x = some c) (h2 : ∀ x, (x, NameKind.free) ∈ sc.names → ∃ c, cl.lookup x = some c)
    (hI : Itr C A ρ0 items Kp I wr St) (hst : St 0 s2.heap) (st : Step ρ s ρ0 s2) (S2 : Sim C ρ0 H0 s2) (hw : ∀ b ∈ wr, s.heap.get? b = none ∧ b ∉ ρ0)
    (hgo : compGo Kp (fun x H' => bindA t' x H' σ) test el Q items [] H0) (hlen : items.length ≤ lid)
    (hts : ∀ cenv : Env, cenv.kindOf = inner sc env.kindOf → TsOk C K cenv ifs test) (hel : ∀ cenv : Env, cenv.kindOf = inner sc env.kindOf → LtOk C K cenv elt el)
    (hRR : ∀ D Cc ρ1 H1 acc t m, Step ρ s (ρ1 ++ [D]) t → Sim C (ρ1 ++ [D]) (H1 ++ [.list acc]) t → VR C (ρ1 ++ [D]) (.ref H1.length) (.ref D) → Q acc H1 → t.heap.Ns Cc m → Cc ∉ ρ1 ++ [D] → s.heap.get? Cc = none → RR (.ref D) Cc (.ok .next) t) :
    wpAny C.M A (newList []) (fun acc s₃ => wpAny C.M A (newFunctionEnv sc env.globals cl [] env.qual none .none (some env)) (fun cenv s₄ =>
      codeAny C.M A (.compStart (.ListComp elt [⟨target, iter, ifs, 0⟩] sc pos) 0 (.ref I) acc { cenv with scope := relabel sc env }) (RR acc cenv.locals) s₄) E s₃) E s2 := by
  have hkind : sc.kind = .function := by simpa using (Bool.and_eq_true_iff.mp hs).1
  have hcell : ∀ x ∈ sc.names, x.2 ≠ .cell := fun x hx e => by
    have := List.all_eq_true.mp (Bool.and_eq_true_iff.mp hs).2 x hx
    rw [e] at this; cases this
  refine wpAny_newObj_type (wpAny_newFunctionEnv hcell (by intro y hy; simp at hy) (fun h₁ hns₁ hsb₁ => ?_) hkind)
  dsimp only at hns₁ hsb₁ ⊢
  generalize hH2 : s2.heap.push { cls := .type "list", dict := none, data := .seq ([] : List Value).toArray } = H2 at hns₁ hsb₁ ⊢
  have hC : H2.objs.size = s2.heap.objs.size + 1 := by rw [← hH2, Heap.size_push]
  have hDC : s2.heap.objs.size ≠ H2.objs.size := by rw [hC]; exact Nat.ne_of_lt (Nat.lt_succ_self _)
  have below : ∀ b, b < s2.heap.objs.size → b ≠ H2.objs.size := fun b hb => by rw [hC]; exact Nat.ne_of_lt (Nat.lt_succ_of_lt hb)
  have old : ∀ b o, s2.heap.get? b = some o → h₁.get? b = some o := fun b o e => hsb₁.extBut b o (below b (Heap.lt_size e)) (Heap.get?_push_of_some _ (hH2 ▸ Heap.get?_push_of_some _ e))
  have hacc : h₁.PlainList s2.heap.objs.size #[] := ⟨_, hsb₁.extBut _ _ hDC (Heap.get?_push_of_some _ (hH2 ▸ Heap.get?_push_size _ rfl))⟩
  have hDn : s2.heap.get? s2.heap.objs.size = none := get_size _
  have hCn : s2.heap.get? H2.objs.size = none := by
    cases e : s2.heap.get? H2.objs.size with
    | none => rfl
    | some o => exact absurd rfl (below _ (Heap.lt_size e))
  have back : ∀ b, s2.heap.get? b = none → s.heap.get? b = none := fun b hb => by
    cases e : s.heap.get? b with
    | none => rfl
    | some o => obtain ⟨o', e'⟩ := st.live b o e; rw [hb] at e'; cases e'
  have hDsm : s2.heap.objs.size ≠ sysModules := S2.size_ne
  generalize hDD : s2.heap.objs.size = D at *
  generalize hCC : H2.objs.size = Cc at *
  have hDw : D ∉ wr := fun q => by obtain ⟨o, e⟩ := hI.alive _ _ hst D q; rw [hDn] at e; cases e
  have hCw : Cc ∉ wr := fun q => by obtain ⟨o, e⟩ := hI.alive _ _ hst Cc q; rw [hCn] at e; cases e
  obtain ⟨S3, st3⟩ := S2.grow (h' := h₁) (tk := s2.toks + ([] : List (Str × Value)).length) old
  have hst₁ : St 0 h₁ := hI.frame _ _ _ hst fun b _ o e => old b o e
  have ho1 : ∀ x ∈ t'.names, sc.names.lookup x = some .local := fun x hx => by simpa using List.all_eq_true.mp (Bool.and_eq_true_iff.mp ho).1 x hx
  have ho2 : ∀ x, (x, NameKind.local) ∈ sc.names → x = dot0 ∨ x ∈ t'.names := fun x hx => by
    have := List.all_eq_true.mp (Bool.and_eq_true_iff.mp ho).2 _ hx
    simpa using this
  have hW : ∀ ρ1 : List Addr, (∀ b ∈ wr, b ∉ ρ1) → D ∉ ρ1 → Cc ∉ ρ1 → ∀ b, (b ∈ wr ∨ b = D ∨ b = Cc) → s.heap.get? b = none ∧ b ∉ ρ1 ∧ C.base.get? b = none := fun ρ1 x1 x2 x3 b hb => by
    have hsn : s.heap.get? b = none := by
      rcases hb with hb | rfl | rfl
      · exact (hw b hb).1
      · exact back _ hDn
      · exact back _ hCn
    refine ⟨hsn, ?_, base_none S hsn⟩
    rcases hb with hb | rfl | rfl
    · exact x1 b hb
    · exact x2
    · exact x3
  have hCown : ∀ x, env.cells.lookup x ≠ some Cc := fun x e => by
    obtain ⟨o, e1⟩ := F.alive Cc (.inr ⟨x, e⟩)
    rw [back _ hCn] at e1; cases e1
  have hDown : ¬ own env D := fun e => by
    obtain ⟨o, e1⟩ := F.alive D e
    rw [back _ hDn] at e1; cases e1
  have hwown : ∀ b ∈ wr, ¬ own env b := fun b hb e => by
    obtain ⟨o, e1⟩ := F.alive b e
    rw [(hw b hb).1] at e1; cases e1
  have ownc : ∀ b, own (compEnvC sc cl Cc env) b → b = Cc ∨ own env b := fun b hb => by
    rcases hb with rfl | ⟨x, e⟩
    · exact .inl rfl
    · exact .inr (.inr ⟨x, h1 _ _ e⟩)
  have ltl : ∀ x v, σ.less t'.names x = some v → σ x = some v ∧ (x, NameKind.local) ∉ sc.names := fun x v e => by
    unfold Sg.less at e
    by_cases hx : x ∈ t'.names
    · rw [if_pos hx] at e; cases e
    · rw [if_neg hx] at e
      refine ⟨e, fun q => ?_⟩
      rcases ho2 x q with rfl | q
      · rw [F.dot] at e; cases e
      · exact hx q
  have ck := inner_kind (sc := sc) (cl := cl) (L := Cc) F.kind
  let Inv : Nat → Shared → Prop := fun n t => ∃ i acc us ρ1 H1, i + n = items.length ∧ acc.length ≤ i ∧ St i t.heap ∧ Step ρ s ρ1 t ∧ (∃ l, ρ1 = ρ0 ++ l) ∧ Sim C ρ1 H1 t ∧ (∀ b ∈ wr, b ∉ ρ1) ∧ D ∉ ρ1 ∧ Cc ∉ ρ1 ∧ t.heap.PlainList D us ∧ All2 (VR C ρ1) acc us.toList ∧
    FR C (compEnvC sc cl Cc env) (σ.less t'.names) ρ1 t.heap ∧ compGo Kp (fun x H' => bindA t' x H' σ) test el Q (items.drop i) acc H1
  have loop : ∀ s₃ : Shared, s₃ = { s2 with heap := h₁, toks := s2.toks + ([] : List (Str × Value)).length } →
      codeAny C.M A (.compLoop (.ListComp elt [⟨target, iter, ifs, 0⟩] sc pos) 0 (.ref I) (.ref D) (compEnvC sc cl Cc env)) (RR (.ref D) Cc) s₃ := by
    rintro s₃ rfl
    refine compLoop_any Inv (fun n t hInv => ?_) items.length ?_
    · obtain ⟨i, acc, us, ρ1, H1, hin, hai, hSt, st1, hl1, S1, hw1, hD1, hC1, hpl, hus, FC, hg⟩ := hInv
      cases n with
      | zero =>
        have hi : i = items.length := by omega
        subst hi
        rw [List.drop_length] at hg
        obtain ⟨hK, hq⟩ := hg
        refine wpAny_mono (hI.done ρ1 H1 t _ hSt S1 hl1 hK hw1) (fun r s1 hr => ?_) fun _ _ x => x
        obtain ⟨rfl, h', tk, rfl, hk⟩ := hr
        dsimp only
        obtain ⟨st4, S4⟩ := adrift (h' := h') (tk := tk) st1 S1 (hW ρ1 hw1 hD1 hC1) (fun b o hb e => hk b o (fun q => hb (.inl q)) e)
        have hpl' : Heap.PlainList h' D us := hpl.at fun o e => hk _ o hDw e
        obtain ⟨nn, hob⟩ := hpl'
        obtain ⟨S5, v5⟩ := S4.adopt (D := D) (o := .list acc) hD1 (base_none S (back _ hDn)) hDsm ⟨us, nn, hob, hus, by unfold lid at *; omega⟩
        obtain ⟨m, hm, _⟩ := FC.ns
        refine hRR D Cc ρ1 H1 acc _ m (step_adopt st4 (back _ hDn)) S5 v5 hq (hm.at' fun o e => hk _ o hCw e) (fun q => ?_) (back _ hCn)
        rcases List.mem_append.mp q with q | q
        · exact hC1 q
        · simp at q; exact hDC q.symm
      | succ n =>
        have hi : i < items.length := by omega
        rw [List.drop_eq_getElem_cons hi] at hg
        obtain ⟨hK, hg⟩ := hg
        dsimp only at hg
        split at hg
        · rename_i σ' hb
          obtain ⟨vs, hvl, rfl, hball⟩ := bindA_sets hb
          refine wpAny_mono (hI.next i items[i] target ρ1 H1 t _ (List.getElem?_eq_getElem hi) (fits htr hb) hSt S1 hl1 hK hw1) (fun r s1 hr => ?_) fun _ _ x => x
          obtain ⟨u, rfl, hu⟩ := hr
          refine wpAny_mono hu (fun _ s1' hs1 => ?_) fun _ _ x => x
          obtain ⟨h', tk, rfl, hIR, hSt', hk⟩ := hs1
          obtain ⟨st4, S4⟩ := adrift (h' := h') (tk := tk) st1 S1 (hW ρ1 hw1 hD1 hC1) (fun b o hb e => hk b o (fun q => hb (.inl q)) e)
          have FC4 : FR C (compEnvC sc cl Cc env) (σ.less t'.names) ρ1 h' := FC.at fun b hb o e => hk b o (fun q => by
            rcases ownc b hb with rfl | hb
            · exact hCw q
            · exact hwown b q hb) e
          have hb2 : bindA t' items[i] H1 (σ.less t'.names) = some (σ.sets (t'.names.zip vs)) := by rw [hball, sets_less hvl]
          refine assign_ok hA.h (by rw [ck]; exact htr) hb2 hIR FC4 S4 fun s5 FC5 S5 st5 => ?_
          -- what the target's store left alone
          have hk5 : ∀ b o, b ∉ ρ1 → b ≠ Cc → h'.get? b = some o → s5.heap.get? b = some o := fun b o hb hbc e => st5.keep b o hb (fun q => by
            rcases q with q | ⟨x, hx, hxc, _⟩
            · exact hbc q
            · have h3 := ho1 x hx
              rw [ck] at hxc
              have := lookup_relabel_local (env := env) h3
              have h4 := inner_kind (sc := sc) (cl := cl) (L := Cc) F.kind
              rw [← h4] at hxc
              have h5 : (compEnvC sc cl Cc env).kindOf x = some .local := this
              rw [h5] at hxc; cases hxc) e
          have st5' : Step ρ s ρ1 s5 := ⟨st4.ext, fun b o hb hx e => hk5 b o (stay_out st4 e hb) (fun q => by rw [q, back _ hCn] at e; cases e) (st4.keep b o hb hx e), fun b o e => let ⟨o1, e1⟩ := st4.live b o e; st5.live b o1 e1⟩
          have hSt5 : St (i + 1) s5.heap := hI.frame _ _ _ hSt' fun b hb o e => hk5 b o (hw1 b hb) (fun q => hCw (q ▸ hb)) e
          have hpl5 : Heap.PlainList s5.heap D us := hpl.at fun o e => hk5 _ o hD1 hDC (hk _ o hDw e)
          refine wpAny_mono (hts _ ck FC5 S5 hA hg) (fun ok s6 h6 => ?_) fun _ _ x => x
          obtain ⟨ρ2, H2', st6, S6, hg⟩ := h6
          have kept : ∀ b o, b ∉ ρ1 → s5.heap.get? b = some o → s6.heap.get? b = some o := fun b o hb e => st6.keep b o hb id e
          have out : ∀ b o, s5.heap.get? b = some o → b ∉ ρ1 → b ∉ ρ2 := fun b o e hb => stay_out st6 e hb
          have FC6 := FC5.step st6
          have hSt6 : St (i + 1) s6.heap := hI.frame _ _ _ hSt5 fun b hb o e => kept b o (hw1 b hb) e
          have hw6 : ∀ b ∈ wr, b ∉ ρ2 := fun b hb => by obtain ⟨o, e⟩ := hI.alive _ _ hSt5 b hb; exact out b o e (hw1 b hb)
          have hD6 : D ∉ ρ2 := by obtain ⟨nn, e⟩ := hpl5; exact out D _ e hD1
          have hC6 : Cc ∉ ρ2 := by
            obtain ⟨m, ⟨o, es, ep, e, _⟩, _⟩ := FC5.ns
            exact out Cc o e hC1
          have hpl6 : Heap.PlainList s6.heap D us := hpl5.at fun o e => kept _ o hD1 e
          have hl6 : ∃ l, ρ2 = ρ0 ++ l := by
            obtain ⟨l, e⟩ := hl1
            obtain ⟨l', e', _⟩ := st6.ext
            exact ⟨l ++ l', by rw [e', e, List.append_assoc]⟩
          have lessl : ∀ x v, σ.less t'.names x = some v → σ.sets (t'.names.zip vs) x = some v := fun x v e => by
            unfold Sg.less at e
            by_cases hx : x ∈ t'.names
            · rw [if_pos hx] at e; cases e
            · rw [if_neg hx] at e
              rw [sets_out _ _ _ (by rw [map_fst_zip hvl]; exact hx)]; exact e
          cases ok with
          | false =>
            rw [if_neg (by simp)]
            refine ⟨n, Nat.lt_succ_self n, i + 1, acc, us, ρ2, H2', by omega, by omega, hSt6, st5'.trans st6, hl6, S6, hw6, hD6, hC6, hpl6, st6.vrs hus, FC6.less lessl, hg⟩
          | true =>
            rw [if_pos rfl]
            refine wpAny_mono (hel _ ck FC6 S6 hA hg) (fun x s7 h7 => ?_) fun _ _ x => x
            obtain ⟨ρ3, H3, v, st7, S7, hv, hg⟩ := h7
            have kept7 : ∀ b o, b ∉ ρ2 → s6.heap.get? b = some o → s7.heap.get? b = some o := fun b o hb e => st7.keep b o hb id e
            have hpl7 : Heap.PlainList s7.heap D us := hpl6.at fun o e => kept7 _ o hD6 e
            have hus7 := st7.vrs (st6.vrs hus)
            refine wpAny_list_append_plain hpl7 (fun h8 hpl8 hsb8 => ?_) (by
              have h0 : acc.length = us.size := by rw [hus.length]; simp
              unfold lid at *; unfold sizeLine; omega)
            have FC7 := FC6.step st7
            have hD7 : D ∉ ρ3 := by obtain ⟨nn, e⟩ := hpl6; exact stay_out st7 e hD6
            have hC7 : Cc ∉ ρ3 := by
              obtain ⟨m, ⟨o, es, ep, e, _⟩, _⟩ := FC6.ns
              exact stay_out st7 e hC6
            have hw7 : ∀ b ∈ wr, b ∉ ρ3 := fun b hb => by
              obtain ⟨o, e⟩ := hI.alive _ _ hSt6 b hb
              exact stay_out st7 e (hw6 b hb)
            obtain ⟨st8, S8⟩ := adrift (h' := h8) (tk := s7.toks) ((st5'.trans st6).trans st7) S7 (hW ρ3 hw7 hD7 hC7) (fun b o hb e => hsb8.extBut b o (fun q => hb (.inr (.inl q))) e)
            refine ⟨n, Nat.lt_succ_self n, i + 1, acc ++ [v], us.push x, ρ3, H3, by omega, by simp; omega, ?_, st8, ?_, S8, hw7, hD7, hC7, hpl8, ?_, ?_, hg⟩
            · exact hI.frame _ _ _ hSt6 fun b hb o e => hsb8.extBut b o (fun q => hDw (q ▸ hb)) (kept7 b o (hw6 b hb) e)
            · obtain ⟨l, e⟩ := hl6
              obtain ⟨l', e', _⟩ := st7.ext
              exact ⟨l ++ l', by rw [e', e, List.append_assoc]⟩
            · rw [Array.toList_push]
              exact hus7.append (.cons hv .nil)
            · refine (FC7.less lessl).at fun b hb o e => hsb8.extBut b o (fun q => ?_) e
              rcases ownc b hb with rfl | hb
              · exact hDC q.symm
              · exact hDown (q ▸ hb)
        · exact hg.elim
    · refine ⟨0, [], #[], ρ0, H0, by simp, by simp, hst₁, st.trans st3, ⟨[], by simp⟩, S3, fun b hb => (hw b hb).2, none_ρ S2 hDn, none_ρ S2 hCn, hacc, .nil, ?_, by simpa using hgo⟩
      have F3 : FR C env σ ρ0 h₁ := F.step (st.trans st3)
      exact F3.comp hs h1 h2 hns₁ (none_ρ S2 hCn) (base_none S2 hCn) hCown ltl
  refine codeAny_compStart_list (loop _ rfl) (hI.self 0 _ _ _ hst₁ (loop _ rfl))

end
end Mine
end
section
namespace Mine
open PySem PySem.Calls PyProof.Rows

/-! Every expression that translates does as its translation says. -/

section
variable {C : Cx} {T : Tab} {K : Nat} {env : Env} {A : Around} {E : Value → Shared → Prop}

theorem scOk_names {sc : Scope} (hs : scOk sc env.kindOf = true) : sc.kind = .function ∧ ∀ x ∈ sc.names, x.2 = .local → sc.names.lookup x.1 = some .local := by
  refine ⟨by simpa using (Bool.and_eq_true_iff.mp hs).1, fun x hx e => ?_⟩
  have := List.all_eq_true.mp (Bool.and_eq_true_iff.mp hs).2 x hx
  rw [e] at this
  simpa using this

/-- a comprehension's value, or what is done with it -/
theorem comp_any {elt iter target : Expr} {ifs : List Expr} {sc : Scope} {pos p' : Pos} {t' : Tgt} {pit : PE} {test : Sg → AHeap → (Bool → AHeap → Prop) → Prop} {el : Sg → AHeap → VPost → Prop} {σ : Sg} {ρ : List Addr} {H : AHeap} {s : Shared} {Q : VPost} {X : XPost}
    {use : Option (Value → Sem Unit)} {R : Value → Shared → Prop}
    (hA : AOk K A) (F : FR C env σ ρ s.heap) (S : Sim C ρ H s) (hE : Takes C ρ s X E) (hs : scOk sc env.kindOf = true) (ho : onlyHere sc t' = true) (htr : trT (inner sc env.kindOf) target = some t') (hf : ∀ x, foldedSetIterable iter env x = pure x)
    (hit : ItOk C T K env iter pit)
    (hts : ∀ cenv : Env, cenv.kindOf = inner sc env.kindOf → TsOk C K cenv ifs test) (hel : ∀ cenv : Env, cenv.kindOf = inner sc env.kindOf → LtOk C K cenv elt el)
    (h : (sem T pit).it σ H (fun items Kp H1 => items.length ≤ lid ∧ compGo Kp (fun x H' => bindA t' x H' σ) test el (fun acc H' => Q (.ref H'.length) (H' ++ [.list acc])) items [] H1) X)
    (hR : ∀ D Cc t m, PV C ρ s Q (.ref D) t → t.heap.Ns Cc m → s.heap.get? Cc = none → (∀ ρ1 H1 v, Step ρ s ρ1 t → Sim C ρ1 H1 t → VR C ρ1 v (.ref D) → Q v H1 → Cc ∉ ρ1 → compPost C.M A E use R (.ref D) Cc (.ok .next) t)) :
    wpAny C.M A (comprehension (.ListComp elt [⟨target, iter, ifs, 0⟩] sc pos) sc env p' (newList []) false (eval iter env) use) R E s := by
  obtain ⟨cl, hcl, h1, h2⟩ := closure_ok (sc := sc) F.has hs
  refine wpAny_comprehension_free (use := use) rfl hf hcl (scOk_names hs).1 (scOk_names hs).2 ?_
  refine wpAny_mono (hit F S hA h hE) (fun xv s₁ h₁ => wpAny_mono h₁ (fun it s₂ h₂ => ?_) fun _ _ e => e) fun _ _ e => e
  obtain ⟨ρ0, H0, items, Kp, I, wr, St, rfl, hI, hst, st, S2, hw, hlen, hgo⟩ := h₂
  refine comp_walk (RR := fun acc Cc => compPost C.M A E use R acc Cc) hA F S hs ho htr h1 h2 hI hst st S2 hw hgo hlen hts hel ?_
  intro D Cc ρ1 H1 acc t m st1 S1 v1 hq hm hC hCn
  exact hR D Cc t m ⟨_, _, _, st1, S1, v1, hq⟩ hm hCn (ρ1 ++ [D]) _ _ st1 S1 v1 hq hC

theorem letgo_same {ρ ρ1 : List Addr} {H H1 : AHeap} {s t : Shared} {Cc : Addr} {h' : Heap} (S : Sim C ρ H s) (st : Step ρ s ρ1 t) (S1 : Sim C ρ1 H1 t) (hn : s.heap.get? Cc = none) (hC : Cc ∉ ρ1) (hs : Heap.SameBut Cc t.heap h') :
    Step ρ s ρ1 { t with heap := h' } ∧ Sim C ρ1 H1 { t with heap := h' } :=
  adrift (W := fun b => b = Cc) (tk := t.toks) st S1 (fun b hb => by subst hb; exact ⟨hn, hC, base_none S hn⟩) fun b o hb e => hs.extBut b o hb e

theorem ok_comp {elt iter target : Expr} {ifs : List Expr} {sc : Scope} {pos : Pos} {t' : Tgt} {pe pit : PE} {test : XPost → Sg → AHeap → (Bool → AHeap → Prop) → Prop} {el : XPost → Sg → AHeap → VPost → Prop}
    (hs : scOk sc env.kindOf = true) (ho : onlyHere sc t' = true) (htr : trT (inner sc env.kindOf) target = some t') (hf : ∀ x, foldedSetIterable iter env x = pure x) (hit : ItOk C T K env iter pit)
    (hts : ∀ X, ∀ cenv : Env, cenv.kindOf = inner sc env.kindOf → TsOk C K cenv ifs (test X)) (hel : ∀ X, ∀ cenv : Env, cenv.kindOf = inner sc env.kindOf → LtOk C K cenv elt (el X))
    (hsem : ∀ σ H Q X, (sem T pe).ev σ H Q X → (sem T pit).it σ H (fun items Kp H1 => items.length ≤ lid ∧ compGo Kp (fun x H' => bindA t' x H' σ) (test X) (el X) (fun acc H' => Q (.ref H'.length) (H' ++ [.list acc])) items [] H1) X) :
    EvOk C T K env (.ListComp elt [⟨target, iter, ifs, 0⟩] sc pos) pe := by
  intro σ ρ H s A Q X E F S hA h hE
  rw [eval_ListComp]
  refine comp_any (use := none) hA F S hE hs ho htr hf hit (hts X) (hel X) (hsem σ H Q X h) ?_
  intro D Cc t m _ hm hn ρ1 H1 v st1 S1 v1 hq hC
  refine ⟨m, hm, fun h' hsb => ?_⟩
  obtain ⟨st2, S2⟩ := letgo_same S st1 S1 hn hC hsb
  exact ⟨ρ1, H1, v, st2, S2, v1, hq⟩

theorem ok_dict0 {pos : Pos} : EvOk C T K env (.Dict [] [] pos) .dict0 := by
  intro σ ρ H s A Q X E F S hA h hE
  refine wpAny_Dict_empty ?_
  obtain ⟨S1, st1, v1⟩ := S.alloc (h' := s.heap.push { cls := .type "dict", data := .dict #[] }) (tk := s.toks) (a := s.heap.objs.size) (o := .dict [] 0) get_push (get_size _) S.size_ne ⟨#[], Heap.get?_push_size _ rfl, .nil, by simp, by simp⟩
  exact ⟨_, _, _, st1, S1, v1, h⟩

theorem ok_attr {o : Expr} {a : Str} {pos : Pos} {po : PE} (ho : EvOk C T K env o po) (hb : asCall o = none) : EvOk C T K env (.Attribute o a pos) (.attr po a) := by
  intro σ ρ H s A Q X E F S hA h hE
  rw [arm_eval_Attribute, attrBase hb]
  refine wpAny_bind (ho.bind F S hA h hE fun ρ1 H1 v1 u1 s1 st1 F1 S1 hv1 hq1 hE1 => ?_)
  exfalso
  unfold attrA at hq1
  split at hq1
  · rename_i n
    split at hq1
    · rename_i c d e1
      obtain ⟨a, _, _, ho⟩ := S1.lookup e1 hv1
      exact ho
    · exact hq1
  · exact hq1

/-! all together -/
theorem tr_star {n : Nat} {k : Kd} {e : Expr} {pe : PE} (h : trE n k e = some pe) : isStar e = false := by
  cases e <;> first | rfl | (cases n <;> cases h)

theorem el_ok {f : Expr → Option PE} {pos : Pos} : ∀ {es : List Expr} {pe : PE}, (∀ e pe, f e = some pe → EvOk C T K env e pe) → (∀ e pe, f e = some pe → isStar e = false) → trL f es = some pe → ElOk C T K env pos es pe
  | [], _, _, _, h => by cases h; exact ok_nil
  | e :: r, pe, h1, h2, h => by
    unfold trL at h
    split at h
    · rename_i a b ha hb
      cases h
      exact ok_cons (h1 e a ha) (el_ok h1 h2 hb) (h2 e a ha)
    · cases h

theorem els_ok {f : Expr → Option PE} {P : Expr → PE → Prop} : ∀ {es : List Expr} {ps : List PE}, (∀ e pe, f e = some pe → P e pe) → trLs f es = some ps → All2 P es ps
  | [], _, _, h => by cases h; exact .nil
  | e :: r, ps, h1, h => by
    unfold trLs at h
    split at h
    · rename_i a b ha hb; cases h; exact .cons (h1 e a ha) (els_ok h1 hb)
    · cases h

theorem bnd2_some {a b : Option PE} {f : PE → PE → PE} {r : PE} (h : bnd2 a b f = some r) : ∃ x y, a = some x ∧ b = some y ∧ r = f x y := by
  unfold bnd2 at h
  split at h
  · cases h; exact ⟨_, _, rfl, rfl, rfl⟩
  · cases h
theorem bnd3_some {a b c : Option PE} {f : PE → PE → PE → PE} {r : PE} (h : bnd3 a b c f = some r) : ∃ x y z, a = some x ∧ b = some y ∧ c = some z ∧ r = f x y z := by
  unfold bnd3 at h
  split at h
  · cases h; exact ⟨_, _, _, rfl, rfl, rfl, rfl⟩
  · cases h
theorem map_some' {a : Option PE} {f : PE → PE} {r : PE} (h : a.map f = some r) : ∃ x, a = some x ∧ r = f x := by
  cases a with
  | none => cases h
  | some x => cases h; exact ⟨x, rfl, rfl⟩

theorem folded_no {e : Expr} (h : isSet e = false) : ∀ x, foldedSetIterable e env x = pure x := by
  intro x
  cases e <;> first | rfl | cases h

theorem asName_is {e : Expr} {x : Str} {p : Pos} (h : asName e = some (x, p)) : e = .Name x p := by
  cases e <;> cases h; rfl
theorem asAttr_is {e o : Expr} {x : Str} {p : Pos} (h : asAttr e = some (o, x, p)) : e = .Attribute o x p := by
  cases e <;> cases h; rfl
theorem asCall_is {e f : Expr} {a : List Expr} {k : List Keyword} {p : Pos} (h : asCall e = some (f, a, k, p)) : e = .Call f a k p := by
  cases e <;> cases h; rfl
theorem asSlice_is {e : Expr} {a b c : Option Expr} {p : Pos} (h : asSlice e = some (a, b, c, p)) : e = .Slice a b c p := by
  cases e <;> cases h; rfl
theorem asSub_is {e a b : Expr} {p : Pos} (h : asSub e = some (a, b, p)) : e = .Subscript a b p := by
  cases e <;> cases h; rfl
theorem isGE_is {k : Kd} {e : Expr} {n : String} (h : isGE k e n = true) : ∃ g p, e = .Name g p ∧ isG k g n = true := by
  unfold isGE at h
  split at h
  · rename_i g p e1; exact ⟨g, p, asName_is e1, h⟩
  · cases h

theorem trI_ok (hT : TabOk C T K) {f : Expr → Option PE} (h1 : ∀ e pe, f e = some pe → EvOk C T K env e pe) (h2 : ∀ e pe, f e = some pe → isStar e = false) {e : Expr} {pe : PE} (h : trI env.kindOf f e = some pe) :
    ItOk C T K env e pe ∧ isSet e = false := by
  unfold trI at h
  split at h
  · cases h
  · rename_i hs
    refine ⟨?_, by simpa using hs⟩
    split at h
    · rename_i g a pos e1
      have e0 := asCall_is e1
      split at h
      · rename_i hg
        obtain ⟨g', p', rfl, hg⟩ := isGE_is hg
        obtain ⟨x, hx, rfl⟩ := map_some' h
        subst e0
        intro σ ρ H s A q X E
        exact it_range1 hT hg (h2 _ _ hx) (h1 _ _ hx)
      · split at h
        · rename_i hg
          obtain ⟨g', p', rfl, hg⟩ := isGE_is hg
          split at h
          · rename_i h' b pos' e2
            have e3 := asCall_is e2
            split at h
            · rename_i hh
              obtain ⟨g2, p2, rfl, hh⟩ := isGE_is hh
              obtain ⟨x, hx, rfl⟩ := map_some' h
              subst e3
              subst e0
              intro σ ρ H s A q X E
              exact it_rev hT hg hh (h2 _ _ hx) (h1 _ _ hx)
            · cases h
          · cases h
        · split at h
          · rename_i hg
            obtain ⟨g', p', rfl, hg⟩ := isGE_is hg
            obtain ⟨x, hx, rfl⟩ := map_some' h
            subst e0
            intro σ ρ H s A q X E
            exact it_enum hT hg (h2 _ _ hx) (h1 _ _ hx)
          · obtain ⟨x, hx, rfl⟩ := map_some' h
            intro σ ρ H s A q X E
            exact it_val (h1 _ _ hx)
    · rename_i g a b pos e1
      have e0 := asCall_is e1
      split at h
      · rename_i hg
        obtain ⟨g', p', rfl, hg⟩ := isGE_is hg
        obtain ⟨x, y, hx, hy, rfl⟩ := bnd2_some h
        subst e0
        intro σ ρ H s A q X E
        exact it_range2 hT hg (h2 _ _ hx) (h2 _ _ hy) (h1 _ _ hx) (h1 _ _ hy)
      · obtain ⟨x, hx, rfl⟩ := map_some' h
        intro σ ρ H s A q X E
        exact it_val (h1 _ _ hx)
    · obtain ⟨x, hx, rfl⟩ := map_some' h
      intro σ ρ H s A q X E
      exact it_val (h1 _ _ hx)

theorem sub_plain {i : Expr} (h : asSlice i = none) (u w : Value) : subscripted i false u w = operate [u, w] (getItem u w) := by
  cases i <;> first | rfl | cases h

theorem pt_ok {f : Expr → Option PE} (h1 : ∀ e pe, f e = some pe → EvOk C T K env e pe) {o : Option Expr} {pe : PE} (h : trO f o = some pe) : PtOk C T K env o pe := by
  cases o with
  | none => cases h; exact pt_none
  | some e => exact pt_some (h1 _ _ h)

end
end Mine
end
section
namespace Mine
open PySem PySem.Calls PyProof.Rows

section
variable {C : Cx} {T : Tab} {K : Nat}

theorem both {env : Env} {e : Expr} {pe : PE} (he : EvOk C T K env e pe) (hi : ∀ whole, isTrue e env whole = (do let v ← whole; standAt e.pos; holding [v] (truthy v))) (ht : (sem T pe).tt = (Me.ofEv (sem T pe).ev).tt) :
    EvOk C T K env e pe ∧ TtOk C T K env e pe := ⟨he, tt_of_ev hi ht he⟩

theorem ok_const {env : Env} {c : Const} {k : Nat} {pos : Pos} {pe : PE} (h : trConst c = some pe) : EvOk C T K env (.Constant c k pos) pe ∧ TtOk C T K env (.Constant c k pos) pe := by
  cases c with
  | none => cases h; exact both (fun F S hA h hE => Constant_none (here0 (v := .none) S rfl h)) (fun _ => rfl) rfl
  | bool b => cases h; exact both (fun F S hA h hE => Constant_bool (here0 (v := .bool b) S rfl h)) (fun _ => rfl) rfl
  | int i => cases h; exact both (fun F S hA h hE => wpAny_Constant_int (here S (vi _ _) h)) (fun _ => rfl) rfl
  | str x =>
    unfold trConst at h
    dsimp only at h
    split at h
    · rename_i hx
      cases h
      refine both (fun {σ ρ H s A Q X E} F S hA h hE => wpAny_Constant_str (here S (v := .str x.cps.toList) ⟨hx, s.toks, ?_⟩ h)) (fun _ => rfl) rfl
      cases x; simp
    · cases h
  | _ => cases h

theorem ok_nm (hT : TabOk C T K) {env : Env} {x : Str} {pos : Pos} {pe : PE} (h : trName env.kindOf x = some pe) : EvOk C T K env (.Name x pos) pe ∧ TtOk C T K env (.Name x pos) pe := by
  unfold trName at h
  split at h
  · cases h
  · rename_i hd
    have hd : (x == Str.ofString "__debug__") = false := by simpa using hd
    split at h
    · rename_i hx; cases h; exact both (ok_name (.inl hx) hd) (fun _ => rfl) rfl
    · rename_i hx; cases h; exact both (ok_name (.inr hx) hd) (fun _ => rfl) rfl
    · rename_i hx; cases h; exact both (ok_glob hT hx hd) (fun _ => rfl) rfl
    · cases h

theorem ok_callE (hT : TabOk C T K) {env : Env} {f : Expr → Option PE} (h1 : ∀ e pe, f e = some pe → EvOk C T K env e pe) (h2 : ∀ e pe, f e = some pe → isStar e = false) {fn : Expr} {args : List Expr} {kws : List Keyword} {pos : Pos} {pe : PE}
    (h : trCall env.kindOf f fn args kws pos = some pe) : EvOk C T K env (.Call fn args kws pos) pe ∧ TtOk C T K env (.Call fn args kws pos) pe := by
  unfold trCall at h
  split at h
  · split at h
    · rename_i hn
      split at h
      · rename_i o m apos e1
        have := asAttr_is e1
        subst this
        split at h
        · rename_i hc
          obtain ⟨hc1, hc2⟩ := Bool.and_eq_true_iff.mp hc
          obtain ⟨x, y, hx, hy, rfl⟩ := bnd2_some h
          exact both (ok_meth hT (h1 _ _ hx) (el_ok h1 h2 hy) (starEach_one h2 hy) (by simpa using hc1) (by simpa using hn) (by simpa using hc2)) (fun _ => rfl) rfl
        · cases h
      · split at h
        · rename_i hc
          obtain ⟨⟨g, p⟩, e1⟩ := Option.isSome_iff_exists.mp hc
          have := asName_is e1
          subst this
          obtain ⟨x, y, hx, hy, rfl⟩ := bnd2_some h
          exact both (ok_call hT (h1 _ _ hx) (el_ok h1 h2 hy) (starEach_one h2 hy) rfl) (fun _ => rfl) rfl
        · cases h
    · cases h
  · split at h
    · split at h
      · rename_i hc
        obtain ⟨hc1, hc2⟩ := Bool.and_eq_true_iff.mp hc
        obtain ⟨hc0, hc3⟩ := Bool.and_eq_true_iff.mp hc1
        clear hc hc1
        obtain ⟨g, p1, rfl, hc0⟩ := isGE_is hc0
        obtain ⟨y, p2, rfl, hc2⟩ := isGE_is hc2
        obtain ⟨z, hz, rfl⟩ := map_some' h
        exact both (ok_sortLen hT (h1 _ _ hz) (h2 _ _ hz) hc0 (by simpa using hc3) hc2) (fun _ => rfl) rfl
      · cases h
    · cases h
  · cases h

theorem ok_subE (hT : TabOk C T K) {env : Env} {f : Expr → Option PE} (h1 : ∀ e pe, f e = some pe → EvOk C T K env e pe) {o i : Expr} {pos : Pos} {pe : PE} (h : trSub f o i = some pe) : EvOk C T K env (.Subscript o i pos) pe ∧ TtOk C T K env (.Subscript o i pos) pe := by
  unfold trSub at h
  split at h
  · rename_i lo hi p e1
    have := asSlice_is e1
    subst this
    obtain ⟨x, y, z, hx, hy, hz, rfl⟩ := bnd3_some h
    exact both (ok_slice (h1 _ _ hx) (pt_ok h1 hy) (pt_ok h1 hz)) (fun _ => rfl) rfl
  · split at h
    · obtain ⟨x, hx, rfl⟩ := map_some' h
      refine both (fun {σ ρ H s A Q X E} F S hA h hE => ?_) (fun _ => rfl) rfl
      exact Subscript_ (EvOk.bind (h1 _ _ hx) F S hA h hE fun ρ1 H1 v1 u1 s1 st1 F1 S1 hv1 hq1 hE1 => (hT.rvs _ _ _ _ hq1).elim)
    · cases h
  · cases h
  · rename_i e1
    obtain ⟨x, y, hx, hy, rfl⟩ := bnd2_some h
    exact both (ok_sub (h1 _ _ hx) (h1 _ _ hy) (sub_plain e1)) (fun _ => rfl) rfl

/-- what a comprehension that translates is made of -/
structure CompOk (C : Cx) (T : Tab) (K : Nat) (env : Env) (elt : Expr) (gens : List Comprehension) (sc : Scope) (pe : PE) (target iter : Expr) (ifs : List Expr) (t' : Tgt) (pit : PE) (test : XPost → Sg → AHeap → (Bool → AHeap → Prop) → Prop) (el : XPost → Sg → AHeap → VPost → Prop) : Prop where
  hgens : gens = [⟨target, iter, ifs, 0⟩]
  hsc : scOk sc env.kindOf = true
  only : onlyHere sc t' = true
  tgt : trT (inner sc env.kindOf) target = some t'
  fold : ∀ x, foldedSetIterable iter env x = pure x
  hit : ItOk C T K env iter pit
  ts : ∀ X, ∀ cenv : Env, cenv.kindOf = inner sc env.kindOf → TsOk C K cenv ifs (test X)
  hel : ∀ X, ∀ cenv : Env, cenv.kindOf = inner sc env.kindOf → LtOk C K cenv elt (el X)
  hsem : ∀ σ H Q X, (sem T pe).ev σ H Q X → (sem T pit).it σ H (fun items Kp H1 => items.length ≤ lid ∧ compGo Kp (fun x H' => bindA t' x H' σ) (test X) (el X) (fun acc H' => Q (.ref H'.length) (H' ++ [.list acc])) items [] H1) X
  htt : (sem T pe).tt = (Me.ofEv (sem T pe).ev).tt

theorem tr_comp (hT : TabOk C T K) {env : Env} {f f' : Expr → Option PE} {elt : Expr} {gens : List Comprehension} {sc : Scope} {pe : PE} (h1 : ∀ e pe, f e = some pe → EvOk C T K env e pe) (h2 : ∀ e pe, f e = some pe → isStar e = false)
    (h3 : ∀ cenv : Env, cenv.kindOf = inner sc env.kindOf → ∀ e pe, f' e = some pe → EvOk C T K cenv e pe ∧ TtOk C T K cenv e pe) (h : trComp env.kindOf f f' elt gens sc = some pe) : ∃ target iter ifs t' pit test el, CompOk C T K env elt gens sc pe target iter ifs t' pit test el := by
  unfold trComp at h
  split at h
  · split at h
    · rename_i hs
      split at h
      · rename_i t' it' e' ht hit he
        obtain ⟨hit1, hit2⟩ := trI_ok hT h1 h2 hit
        split at h
        · rename_i ho
          split at h
          · cases h
            refine ⟨_, _, _, t', it', fun _ _ H' q => q true H', fun X σ' H' q => (sem T e').ev σ' H' q X, rfl, hs, ho, ht, folded_no hit2, hit1, fun X cenv hc => ?_, fun X cenv hc => ?_, fun σ H Q X h => h, rfl⟩
            · intro σ ρ H s A q E F S hA h
              exact wpAny_tests_nil ⟨ρ, H, StepG.refl _ _, S, h⟩
            · intro σ ρ H s A Q E F S hA h
              exact (h3 cenv hc _ _ he).1 F S hA h fun e s' p => p.none.elim
          · obtain ⟨c', hc', rfl⟩ := map_some' h
            refine ⟨_, _, _, t', it', fun X σ' H' q => (sem T c').tt σ' H' q X, fun X σ' H' q => (sem T e').ev σ' H' q X, rfl, hs, ho, ht, folded_no hit2, hit1, fun X cenv hc => ?_, fun X cenv hc => ?_, fun σ H Q X h => h, rfl⟩
            · intro σ ρ H s A q E F S hA h
              exact wpAny_tests_one ((h3 cenv hc _ _ hc').2 F S hA h fun e s' p => p.none.elim)
            · intro σ ρ H s A Q E F S hA h
              exact (h3 cenv hc _ _ he).1 F S hA h fun e s' p => p.none.elim
          · cases h
        · cases h
      · cases h
    · cases h
  · cases h

theorem ok_cmpE {env : Env} {f : Expr → Option PE} (h1 : ∀ e pe, f e = some pe → EvOk C T K env e pe) {a : Expr} {ops : List CmpOp} {cs : List Expr} {pos : Pos} {pe : PE} (h : trCmp f a ops cs = some pe) : EvOk C T K env (.Compare a ops cs pos) pe ∧ TtOk C T K env (.Compare a ops cs pos) pe := by
  unfold trCmp at h
  split at h
  · split at h
    · cases h
    · rename_i hs
      obtain ⟨x, y, hx, hy, rfl⟩ := bnd2_some h
      exact ok_cmp1 (by simpa using hs) (h1 _ _ hx) (h1 _ _ hy)
  · split at h
    · cases h
    · rename_i hs
      rw [Bool.or_eq_true, not_or] at hs
      obtain ⟨x, y, z, hx, hy, hz, rfl⟩ := bnd3_some h
      exact ok_cmp2 (by simpa using hs.1) (by simpa using hs.2) (h1 _ _ hx) (h1 _ _ hy) (h1 _ _ hz)
  · cases h

theorem tr_ok (hT : TabOk C T K) : ∀ (n : Nat) (k : Kd) (e : Expr) (pe : PE), trE n k e = some pe → ∀ env : Env, env.kindOf = k → EvOk C T K env e pe ∧ TtOk C T K env e pe
  | 0, _, _, _, h, _, _ => by cases h
  | n + 1, k, e, pe, h, env, hk => by
    have ih := tr_ok hT n
    subst hk
    have ih1 : ∀ e pe, trE n env.kindOf e = some pe → EvOk C T K env e pe := fun e pe h => (ih _ e pe h env rfl).1
    have ih2 : ∀ e pe, trE n env.kindOf e = some pe → TtOk C T K env e pe := fun e pe h => (ih _ e pe h env rfl).2
    have st : ∀ e pe, trE n env.kindOf e = some pe → isStar e = false := fun e pe h => tr_star h
    cases e with
    | Name x pos => exact ok_nm hT h
    | Constant c k pos => exact ok_const h
    | BinOp l op r pos =>
      obtain ⟨x, y, hx, hy, rfl⟩ := bnd2_some h
      exact both (ok_bin (ih1 _ _ hx) (ih1 _ _ hy)) (fun _ => rfl) rfl
    | UnaryOp op x pos =>
      have h : trUn (trE n env.kindOf) op x = some pe := h
      cases op with
      | Not => obtain ⟨x, hx, rfl⟩ := map_some' h; exact ok_not (ih1 _ _ hx) (ih2 _ _ hx)
      | USub => obtain ⟨x, hx, rfl⟩ := map_some' h; exact both (ok_neg (ih1 _ _ hx)) (fun _ => rfl) rfl
      | _ => cases h
    | BoolOp op vs pos =>
      have h : (trLs (trE n env.kindOf) vs).bind (trBool op) = some pe := h
      cases hps : trLs (trE n env.kindOf) vs with
      | none => rw [hps] at h; cases h
      | some ps =>
        rw [hps] at h
        obtain ⟨h1, h2⟩ := ok_bool op pos vs ps pe (els_ok (fun e pe h => ih _ e pe h env rfl) hps) h
        exact ⟨fun F S hA h hE => h1 F S hA h hE, fun F S hA h hE => by rw [arm_isTrue_BoolOp]; exact h2 F S hA h hE⟩
    | Compare a ops cs pos => exact ok_cmpE ih1 h
    | IfExp c a b pos =>
      obtain ⟨x, y, z, hx, hy, hz, rfl⟩ := bnd3_some h
      exact ok_ite (ih2 _ _ hx) (ih1 _ _ hy) (ih2 _ _ hy) (ih1 _ _ hz) (ih2 _ _ hz)
    | Call f args kws pos => exact ok_callE hT ih1 st h
    | Attribute o a pos =>
      have h : (if (asCall o).isSome then none else (trE n env.kindOf o).map fun x => PE.attr x a) = some pe := h
      split at h
      · cases h
      · rename_i hc
        obtain ⟨x, hx, rfl⟩ := map_some' h
        exact both (ok_attr (ih1 _ _ hx) (by simpa using hc)) (fun _ => rfl) rfl
    | Subscript o i pos => exact ok_subE hT ih1 h
    | List es pos =>
      obtain ⟨x, hx, rfl⟩ := map_some' (f := .list) h
      exact both (ok_list (el_ok ih1 st hx)) (fun _ => rfl) rfl
    | Tuple es k pos =>
      obtain ⟨x, hx, rfl⟩ := map_some' (f := .tuple) h
      exact both (ok_tuple (el_ok ih1 st hx)) (fun _ => rfl) rfl
    | Dict ks vs pos =>
      have h : (if ks.isEmpty && vs.isEmpty then some PE.dict0 else none) = some pe := h
      split at h
      · rename_i hc
        obtain ⟨h1, h2⟩ := Bool.and_eq_true_iff.mp hc
        have h1 := List.isEmpty_iff.mp h1
        have h2 := List.isEmpty_iff.mp h2
        subst h1 h2
        cases h; exact both ok_dict0 (fun _ => rfl) rfl
      · cases h
    | ListComp elt gens sc pos =>
      obtain ⟨target, iter, ifs, t', pit, test, el, c⟩ := tr_comp hT ih1 st (fun cenv hc e pe h => ih _ e pe h cenv hc) h
      have hg := c.hgens
      subst hg
      exact both (ok_comp c.hsc c.only c.tgt c.fold c.hit c.ts c.hel c.hsem) (fun _ => rfl) c.htt
    | _ => cases h

end
end Mine
end
section
namespace Mine
open PySem PySem.Calls PyProof.Rows

/-! Statements. -/

section
variable (C : Cx) (T : Tab) (K : Nat)

noncomputable def FlR (ρ : List Addr) : Fl → Flow → Prop
  | .next, f => f = .next
  | .brk, f => f = .brk
  | .ret v, f => ∃ u, f = .ret u ∧ VR C ρ v u

noncomputable def PF (env : Env) (ρ : List Addr) (s : Shared) (Q : SPost) : Flow → Shared → Prop := fun f s' => ∃ ρ' H' σ' fl, StepG (own env) ρ s ρ' s' ∧ Sim C ρ' H' s' ∧ FR C env σ' ρ' s'.heap ∧ FlR C ρ' fl f ∧ Q fl σ' H'

abbrev TakesS (env : Env) (ρ : List Addr) (s : Shared) (X : XPost) (E : Value → Shared → Prop) : Prop := ∀ e s', PX C (own env) ρ s X e s' → E e s'

noncomputable def BlOk (env : Env) (b : List Stmt) (ps : PS) : Prop := ∀ {σ : Sg} {ρ : List Addr} {H : AHeap} {s : Shared} {A : Around} {Q : SPost} {X : XPost} {E : Value → Shared → Prop},
  FR C env σ ρ s.heap → Sim C ρ H s → AOk K A → semS T ps σ H Q X → TakesS C env ρ s X E → wpAny C.M A (execs b env) (PF C env ρ s Q) E s
noncomputable def S1Ok (env : Env) (st : Stmt) (ps : PS) : Prop := ∀ {σ : Sg} {ρ : List Addr} {H : AHeap} {s : Shared} {A : Around} {Q : SPost} {X : XPost} {E : Value → Shared → Prop},
  FR C env σ ρ s.heap → Sim C ρ H s → AOk K A → semS T ps σ H Q X → TakesS C env ρ s X E → wpAny C.M A (exec st env) (PF C env ρ s Q) E s
end

section
variable {C : Cx} {T : Tab} {K : Nat} {env : Env}

theorem TakesS.takes {ρ : List Addr} {s : Shared} {X : XPost} {E : Value → Shared → Prop} (h : TakesS C env ρ s X E) : Takes C ρ s X E := fun e s' ⟨ρ', H', c, st, S, x, q⟩ => h e s' ⟨ρ', H', c, st.up, S, x, q⟩
theorem TakesS.on {ρ ρ1 : List Addr} {s s1 : Shared} {X : XPost} {E : Value → Shared → Prop} (h : TakesS C env ρ s X E) (st : StepG (own env) ρ s ρ1 s1) : TakesS C env ρ1 s1 X E := fun e s' p => h e s' (p.trans st)
theorem PF.trans {ρ ρ1 : List Addr} {s s1 s' : Shared} {Q : SPost} {f : Flow} (st : StepG (own env) ρ s ρ1 s1) (h : PF C env ρ1 s1 Q f s') : PF C env ρ s Q f s' :=
  let ⟨ρ', H', σ', fl, a, b, c, d, e⟩ := h; ⟨ρ', H', σ', fl, st.trans a, b, c, d, e⟩

theorem not_swap {v t : Expr} {line : Nat} (hv : isComp v = false) : swapsWith v (some t) line env = pure false := by
  cases v <;> first | rfl | cases hv
theorem not_swap0 {v : Expr} {line : Nat} (hv : isComp v = false) : swapsWith v none line env = pure false := by
  cases v <;> first | rfl | cases hv
theorem not_swap_t {v t : Expr} {line : Nat} (ht : ∀ x p, t ≠ .Name x p) : swapsWith v (some t) line env = pure false := by
  cases v <;> first | rfl | (cases t <;> first | rfl | exact absurd rfl (ht _ _))

theorem bl_nil : BlOk C T K env [] .skip := fun F S hA h hE => wpAny_execs_nil ⟨_, _, _, .next, StepG.refl _ _, S, F, rfl, h⟩

theorem bl_cons {st : Stmt} {r : List Stmt} {p q : PS} (h1 : S1Ok C T K env st p) (h2 : BlOk C T K env r q) : BlOk C T K env (st :: r) (.seq p q) := by
  intro σ ρ H s A Q X E F S hA h hE
  refine wpAny_execs_cons (wpAny_mono (h1 F S hA h hE) (fun f s1 ⟨ρ1, H1, σ1, fl, st1, S1, F1, hf, hq⟩ => ?_) fun _ _ x => x)
  cases fl with
  | next =>
    cases hf
    exact wpAny_mono (h2 F1 S1 hA hq (TakesS.on hE st1)) (fun _ _ p => PF.trans st1 p) fun _ _ x => x
  | brk => cases hf; exact ⟨ρ1, H1, σ1, .brk, st1, S1, F1, rfl, hq⟩
  | ret v => obtain ⟨u, rfl, hv⟩ := hf; exact ⟨ρ1, H1, σ1, .ret v, st1, S1, F1, ⟨u, rfl, hv⟩, hq⟩

theorem s_pass {pos : Pos} : S1Ok C T K env (.Pass pos) .skip := fun F S hA h hE => wpAny_Pass ⟨_, _, _, .next, StepG.refl _ _, S, F, rfl, h⟩
theorem s_break {pos : Pos} : S1Ok C T K env (.Break pos) .brk := fun F S hA h hE => wpAny_Break ⟨_, _, _, .brk, StepG.refl _ _, S, F, rfl, h⟩

theorem s_ret {e : Expr} {pos : Pos} {pe : PE} (he : EvOk C T K env e pe) : S1Ok C T K env (.Return (some e) pos) (.ret pe) := by
  intro σ ρ H s A Q X E F S hA h hE
  exact wpAny_Return_some (he.bind F S hA h (TakesS.takes hE) fun ρ1 H1 v u s1 st F1 S1 hv hq hE1 => ⟨ρ1, H1, σ, .ret v, st.up, S1, F1, ⟨u, rfl, hv⟩, hq⟩)
theorem s_ret0 {pos : Pos} : S1Ok C T K env (.Return none pos) (.ret .none) := fun F S hA h hE => wpAny_Return_none ⟨_, _, _, .ret .none, StepG.refl _ _, S, F, ⟨_, rfl, rfl⟩, h⟩

theorem s_expr {e : Expr} {pos : Pos} {pe : PE} (he : EvOk C T K env e pe) (hc : isComp e = false) : S1Ok C T K env (.Expr e pos) (.expr pe) := by
  intro σ ρ H s A Q X E F S hA h hE
  exact wpAny_Expr_any (he.bind F S hA h (TakesS.takes hE) fun ρ1 H1 v u s1 st F1 S1 hv hq hE1 => ⟨ρ1, H1, σ, .next, st.up, S1, F1, rfl, hq⟩) (by unfold interactive; rw [F.kind]; rfl) (not_swap0 hc)

theorem s_if {c : Expr} {a b : List Stmt} {pos : Pos} {pc : PE} {pa pb : PS} (hc : TtOk C T K env c pc) (ha : BlOk C T K env a pa) (hb : BlOk C T K env b pb) : S1Ok C T K env (.If c a b pos) (.ite pc pa pb) := by
  intro σ ρ H s A Q X E F S hA h hE
  refine wpAny_If (hc.bind F S hA h (TakesS.takes hE) fun ρ1 H1 t s1 st F1 S1 hq hE1 => ?_)
  cases t with
  | true => exact wpAny_mono (ha F1 S1 hA hq (TakesS.on hE st.up)) (fun _ _ p => PF.trans st.up p) fun _ _ x => x
  | false => exact wpAny_mono (hb F1 S1 hA hq (TakesS.on hE st.up)) (fun _ _ p => PF.trans st.up p) fun _ _ x => x

/-! a list's item set -/
theorem mapSeq_plain (f : Array Value → Array Value) (its : Array Value) (n : Nat) : ∃ m, Obj.mapSeq f { cls := .type "list", data := .seq its n } = { cls := .type "list", data := .seq (f its) m } := ⟨_, rfl⟩

theorem set_list {prog : Program} {w : World} {A : Around} {E : Value → Shared → Prop} {s : Shared} {l : Addr} {items : Array Value} {ne : Nat} {k : Int} {t : Tok} {v : Value} {Q : Unit → Shared → Prop} (ho : s.heap.get? l = some ⟨.type "list", none, .seq items ne, #[]⟩)
    (h0 : 0 ≤ k) (hfit : k < 2 ^ 63) (hn : k < items.size)
    (hQ : ∀ h' m, h'.get? l = some ⟨.type "list", none, .seq (items.setIfInBounds k.toNat v) m, #[]⟩ → Heap.SameBut l s.heap h' → Q () { s with heap := h' }) :
    wpAny (model prog w) A (setItem (.ref l) (.int k t) v) Q E s := by
  have hl : s.heap.IsList l items := ⟨_, ho, rfl, ne, rfl⟩
  unfold setItem
  try with_reducible refine wpAny_holding ?_
  first | refine wpAny_bind (wpAny_pure ?_) | skip
  refine wpAny_bind (wpAny_sequenceKey hl.typeIs (by decide) ?_)
  refine wpAny_bind (wpAny_callSpecial?_slot (name := Str.ofString "__setitem__") hl.typeIs slot_list_setitem
    (wpAny_call_entry slot_list_setitem hl.typeIs entry_list_setitem ?_ (args_list_setitem _ _ _)))
  show wpAny _ _ (Builtin.List.listSubscript? (.int k t) >>= _) _ _ s
  refine wpAny_bind (wpAny_listSubscript_int (fitsIndex_of h0 hfit) ?_)
  clear hfit
  obtain ⟨j, rfl⟩ := Int.eq_ofNat_of_zero_le h0
  have hj : j < items.size := by omega
  have hx' : items[j]? = some items[j] := Array.getElem?_eq_getElem hj
  show wpAny _ _ ((seqItemAt l j >>= fun r => pure (r.map (j, ·))) >>= _) _ _ s
  refine wpAny_bind (wpAny_bind (wpAny_seqItemAt ho rfl (wpAny_pure ?_)))
  rw [hx']
  show wpAny _ _ (setSeqItemAt l j v >>= _) _ _ s
  obtain ⟨m, hm⟩ := mapSeq_plain (·.setIfInBounds j v) items ne
  have hfin := Heap.get?_update_self (Obj.mapSeq (·.setIfInBounds j v)) ho (by rw [hm]; rfl)
  rw [hm] at hfin
  refine wpAny_bind (wpAny_setSeqItemAt ho rfl ?_)
  first
    | exact wpAny_bind (wpAny_pure (wpAny_pure ⟨.none, rfl, wpAny_pure (hQ _ m hfin (Heap.SameBut.update ..))⟩))
    | exact wpAny_pure ⟨.none, rfl, wpAny_pure (hQ _ m hfin (Heap.SameBut.update ..))⟩

theorem set_ok {o i v : V} {ou iu vu : Value} {H : AHeap} {q : AHeap → Prop} {ρ : List Addr} {s : Shared} {A : Around} {E : Value → Shared → Prop} (h : setItemA o i v H q) (S : Sim C ρ H s) (ho : VR C ρ o ou) (hi : VR C ρ i iu) (hv : VR C ρ v vu) :
    wpAny C.M A (setItem ou iu vu) (fun _ s' => ∃ H', Step ρ s ρ s' ∧ Sim C ρ H' s' ∧ q H') E s := by
  unfold setItemA at h
  split at h
  · rename_i n
    obtain ⟨hn, h⟩ := h
    split at h
    · rename_i xs k e1
      obtain ⟨h0, hk, hq⟩ := h
      obtain ⟨a, rfl, ea, us, m, hob, hs, hlen⟩ := S.lookup e1 ho
      obtain ⟨t, rfl⟩ := hi
      have hz : xs.length = us.size := by rw [hs.length]; simp
      refine set_list hob h0 (by unfold lid at hlen; omega) (by omega) fun h' m' hob' hsb => ?_
      obtain ⟨S1, st1⟩ := S.change (h' := h') (tk := s.toks) (o := .list (xs.set k.toNat v)) hn ea (fun b x hb e => hsb.extBut b x hb e) ⟨_, m', hob', by rw [Array.toList_setIfInBounds]; exact hs.set hv _, by simpa using hlen⟩
      exact ⟨_, st1, S1, hq⟩
    · exact h.elim
  · exact h.elim

theorem s_setItem {o i e : Expr} {p pos : Pos} {po pi pe : PE} (ho : EvOk C T K env o po) (hi : EvOk C T K env i pi) (he : EvOk C T K env e pe) : S1Ok C T K env (.Assign [.Subscript o i p] e pos) (.setItem po pi pe) := by
  intro σ ρ H s A Q X E F S hA h hE
  refine wpAny_Assign_Subscript (he.bind F S hA h (TakesS.takes hE) fun ρ1 H1 v1 u1 s1 st1 F1 S1 hv1 hq1 hE1 => ho.bind F1 S1 hA hq1 hE1 fun ρ2 H2 v2 u2 s2 st2 F2 S2 hv2 hq2 hE2 => hi.bind F2 S2 hA hq2 hE2 fun ρ3 H3 v3 u3 s3 st3 F3 S3 hv3 hq3 hE3 => ?_) (not_swap_t fun _ _ q => by cases q)
  refine wpAny_mono (set_ok hq3 S3 (st3.vr hv2) hv3 (st3.vr (st2.vr hv1))) (fun _ s' ⟨H', st4, S4, hq4⟩ => ?_) fun _ _ x => x
  exact ⟨ρ3, H', σ, .next, (((st1.trans st2).trans st3).trans st4).up, S4, F3.step st4, rfl, hq4⟩

theorem s_setAttr {o e : Expr} {a : Str} {p pos : Pos} {po pe : PE} (ho : EvOk C T K env o po) (he : EvOk C T K env e pe) : S1Ok C T K env (.Assign [.Attribute o a p] e pos) (.setAttr po a pe) := by
  intro σ ρ H s A Q X E F S hA h hE
  rw [exec_Assign]
  refine wpAny_bind (wpAny_standAt ?_)
  have e1 : swapsWithSole [.Attribute o a p] e pos.line env = pure false := by
    unfold swapsWithSole
    exact not_swap_t (t := .Attribute o a p) fun _ _ q => nomatch q
  rw [e1]
  refine wpAny_bind (wpAny_pure ?_)
  rw [if_neg (by decide)]
  refine wpAny_bind (he.bind F S hA h (TakesS.takes hE) fun ρ1 H1 v1 u1 s1 st1 F1 S1 hv1 hq1 hE1 => ?_)
  have e2 : swappedStores [.Attribute o a p] e env = pure none := by cases e <;> rfl
  rw [e2]
  refine wpAny_bind (wpAny_pure ?_)
  show wpAny C.M A (do assignAll u1 [assign (.Attribute o a p) env]; pure Flow.next) _ E s1
  refine wpAny_bind ?_
  show wpAny C.M A (assign (.Attribute o a p) env u1) _ E s1
  rw [arm_assign_Attribute]
  refine wpAny_bind (wpAny_holding (ho.bind F1 S1 hA hq1 hE1 fun ρ2 H2 v2 u2 s2 st2 F2 S2 hv2 hq2 hE2 => ?_))
  exfalso
  unfold setAttrA at hq2
  split at hq2
  · rename_i n
    split at hq2
    · rename_i c d e3
      obtain ⟨a, _, _, ho⟩ := S2.lookup e3 hv2
      exact ho
    · exact hq2
  · exact hq2
end
end Mine
end
section
namespace Mine
open PySem PySem.Calls PyProof.Rows

/-! Assignments to names. -/

section
variable {C : Cx} {T : Tab} {K : Nat} {env : Env}

theorem ownT_step {Z : List Str} {ρ ρ1 : List Addr} {s s1 : Shared} (st : StepG (ownT env Z) ρ s ρ1 s1) : StepG (own env) ρ s ρ1 s1 := st.mono ownT.own

theorem s_assign_plain {x : Str} {p pos : Pos} {v : Expr} {pv : PE} (hx : stored env.kindOf x = true) (hv : EvOk C T K env v pv) (hs : swapsWith v (some (.Name x p)) pos.line env = pure false) : S1Ok C T K env (.Assign [.Name x p] v pos) (.assign (.name x) pv) := by
  intro σ ρ H s A Q X E F S hA h hE
  refine wpAny_Assign_Name (hv.bind F S hA h (TakesS.takes hE) fun ρ1 H1 v1 u1 s1 st1 F1 S1 hv1 hq1 hE1 => ?_) hs
  refine store_ok (Z := [x]) F1 S1 (.head _) (stored_iff hx) (stored_ne hx) hv1 fun s2 F2 S2 st2 => ?_
  exact ⟨ρ1, H1, _, .next, (StepG.up st1).trans (ownT_step st2), S2, F2, rfl, hq1⟩

theorem s_assign_name (hT : TabOk C T K) {x : Str} {p pos : Pos} {v : Expr} {pv : PE} {n : Nat} (hx : stored env.kindOf x = true) (h : trE n env.kindOf v = some pv) : S1Ok C T K env (.Assign [.Name x p] v pos) (.assign (.name x) pv) := by
  have hv : EvOk C T K env v pv := (tr_ok hT n _ v pv h env rfl).1
  cases hc : isComp v with
  | true =>
    cases v <;> first | (cases hc; done) | skip
    · rename_i elt gens sc cpos
      cases n with
      | zero => cases h
      | succ n =>
      obtain ⟨b, hb⟩ : ∃ b, swapsWith (.ListComp elt gens sc cpos) (some (.Name x p)) pos.line env = pure b := ⟨_, rfl⟩
      cases b with
      | false => intro σ ρ H s A Q X E; exact s_assign_plain hx hv hb
      | true =>
        obtain ⟨target, iter, ifs, t', pit, test, el, cc⟩ := tr_comp hT (fun e pe h => (tr_ok hT n _ e pe h env rfl).1) (fun e pe h => tr_star h) (fun cenv hc e pe h => tr_ok hT n _ e pe h cenv hc) h
        obtain ⟨rfl, hs, ho, htr, hf, hit, hts, hel, hsem, _⟩ := cc
        intro σ ρ H s A Q X E F S hA h hE
        rw [exec_Assign_Name_used _ _ _ _ hb]
        refine wpAny_bind (wpAny_standAt (wpAny_bind ?_))
        show wpAny _ A (do let _ ← comprehension (.ListComp elt [⟨target, iter, ifs, 0⟩] sc cpos) sc env _ (newList []) false (eval iter env) (some (assign (.Name x p) env))) _ _ s
        refine wpAny_bind (wpAny_mono (Q := fun _ s' => PF C env ρ s Q .next s') ?_ (fun _ s' hq => wpAny_pure (wpAny_pure hq)) fun _ _ e => e)
        refine comp_any (use := some (assign (.Name x p) env)) hA F S (TakesS.takes hE) hs ho htr hf hit (hts X) (hel X) (hsem σ H _ X h) ?_
        intro D Cc t m _ hm hn ρ1 H1 v st1 S1 v1 hq hC
        show wpAny _ A (assign (.Name x p) env (.ref D)) _ _ _
        refine assign_Name (store_ok (Z := [x]) (F.step st1) S1 (.head _) (stored_iff hx) (stored_ne hx) v1 fun s2 F2 S2 st2 => ?_)
        have hown : ¬ own env Cc := fun q => by obtain ⟨o, e⟩ := F.alive _ q; rw [hn] at e; cases e
        obtain ⟨ob, es, ep, eC, _⟩ := id hm
        refine ⟨m, hm.at' fun o e => st2.keep _ o hC (fun q => hown (ownT.own _ q)) e, fun h' hsb => ?_⟩
        obtain ⟨st3, S3⟩ := adrift (W := fun b => b = Cc) (h' := h') (tk := s2.toks) ((StepG.up st1).trans (ownT_step st2)) S2 (fun b hb => by subst hb; exact ⟨hn, hC, base_none S hn⟩) fun b o hb e => hsb.extBut b o hb e
        exact ⟨ρ1, H1, _, .next, st3, S3, F2.at fun b hb o e => hsb.extBut b o (fun q => hown (q ▸ hb)) e, rfl, hq⟩
    · cases n <;> cases h
    · cases n <;> cases h
  | false => intro σ ρ H s A Q X E; exact s_assign_plain hx hv (not_swap hc)

/-! tuples -/
theorem sets_cons_ne : ∀ (ps : List (Str × V)) (σ : Sg) (x : Str) (v : V), x ∉ ps.map (·.1) → (σ.set x v).sets ps = (σ.sets ps).set x v
  | [], _, _, _, _ => rfl
  | (y, w) :: r, σ, x, v, h => by
    have hxy : x ≠ y := fun q => h (by rw [q, List.map_cons]; exact .head _)
    have h' : x ∉ r.map (·.1) := fun q => h (by rw [List.map_cons]; exact .tail _ q)
    unfold Sg.sets
    have : (σ.set x v).set y w = (σ.set y w).set x v := by
      funext z
      unfold Sg.set
      by_cases z1 : z = x <;> by_cases z2 : z = y
      · exact absurd (z1.symm.trans z2) hxy
      · simp [z1, hxy]
      · simp [z2, Ne.symm hxy]
      · simp [z1, z2]
    rw [this, sets_cons_ne r _ x v h']

theorem sets_append : ∀ (ps qs : List (Str × V)) (σ : Sg), σ.sets (ps ++ qs) = (σ.sets ps).sets qs
  | [], _, _ => rfl
  | (y, w) :: r, qs, σ => by
    show (σ.set y w).sets (r ++ qs) = ((σ.set y w).sets r).sets qs
    exact sets_append r qs _

theorem sets_reverse : ∀ (ps : List (Str × V)) (σ : Sg), (ps.map (·.1)).Nodup → σ.sets ps.reverse = σ.sets ps
  | [], _, _ => rfl
  | (y, w) :: r, σ, h => by
    rw [List.map_cons, List.nodup_cons] at h
    rw [List.reverse_cons, sets_append, sets_reverse r σ h.2]
    show (σ.sets r).set y w = (σ.set y w).sets r
    rw [sets_cons_ne r σ y w h.1]

theorem stores_list {A : Around} {E : Value → Shared → Prop} {Z : List Str} : ∀ (xs : List Str) (vs : List V) (us : List Value) (σ : Sg) (ρ : List Addr) (H : AHeap) (s : Shared) (Q : Unit → Shared → Prop),
    xs.length = vs.length → All2 (VR C ρ) vs us → (∀ x ∈ xs, x ∈ Z) → (∀ x ∈ xs, stored env.kindOf x = true) → FR C env σ ρ s.heap → Sim C ρ H s →
    (∀ s', FR C env (σ.sets (xs.zip vs)) ρ s'.heap → Sim C ρ H s' → StepG (ownT env Z) ρ s ρ s' → Q () s') → wpAny C.M A (assignInOrder (xs.map fun x => bindName env x) us) Q E s
  | [], [], _, σ, ρ, H, s, Q, _, .nil, _, _, F, S, h => wpAny_pure (h s F S (StepG.refl _ _))
  | x :: xs, v :: vs, _, σ, ρ, H, s, Q, hl, .cons (b := u) (bs := us) hv hr, hz, hk, F, S, h => by
    rw [List.map_cons, assignInOrder]
    refine wpAny_bind (wpAny_holding (bindName_ (store_ok F S (hz x (.head _)) (stored_iff (hk x (.head _))) (stored_ne (hk x (.head _))) hv fun s1 F1 S1 st1 => ?_)))
    refine stores_list xs vs us _ ρ H s1 Q (by simpa using hl) hr (fun y hy => hz y (.tail _ hy)) (fun y hy => hk y (.tail _ hy)) F1 S1 fun s2 F2 S2 st2 => h s2 F2 S2 (st1.trans st2)
  | [], _ :: _, _, _, _, _, _, _, hl, _, _, _, _, _, _ => by simp at hl
  | _ :: _, [], _, _, _, _, _, _, hl, _, _, _, _, _, _ => by simp at hl

theorem tgt_filter {p : Str → Pos → Bool} : ∀ {ts : List Expr} {xs : List Str}, tgtNames ts = some xs → (ts.filterMap fun | .Name id pos => if p id pos then some id else none | _ => none).length = ts.length → (ts.filterMap fun | .Name id pos => if p id pos then some id else none | _ => none) = xs
  | [], _, h, _ => by cases h; rfl
  | e :: r, xs, h, hl => by
    cases e with
    | Name x q =>
      unfold tgtNames at h
      cases hr : tgtNames r with
      | none => rw [hr] at h; cases h
      | some ys =>
        rw [hr] at h; cases h
        rw [List.filterMap_cons] at hl ⊢
        dsimp only at hl ⊢
        by_cases hp : p x q = true
        · rw [if_pos hp] at hl ⊢
          dsimp only at hl ⊢
          rw [tgt_filter hr (by simpa using hl)]
        · rw [if_neg hp] at hl
          dsimp only at hl
          have := List.length_filterMap_le (fun | .Name id pos => if p id pos then some id else none | _ => none) r
          rw [hl] at this
          simp at this
          omega
    | _ => cases h

theorem swapped_one {ts : List Expr} {k : Nat} {tp : Pos} {v : Expr} {xs : List Str} (hx : tgtNames ts = some xs) (hv : oneTup v = false) : swappedStores [.Tuple ts k tp] v env = pure none ∨ swappedStores [.Tuple ts k tp] v env = pure (some xs) := by
  cases v <;> first | exact .inl rfl | skip
  rename_i vs k' vp
  unfold swappedStores
  dsimp only
  split
  · exact .inl rfl
  · split
    · exact .inl rfl
    · split
      · exact .inl rfl
      · rename_i hn
        split
        · exact .inl rfl
        · have : (vs.all (constantsAlone 8)) = false := hv
          rw [this]
          right
          rw [if_neg (by simp)]
          rw [Bool.or_eq_true, not_or] at hn
          have hn1 := hn.1
          simp only [bne_iff_ne, ne_eq, Decidable.not_not] at hn1
          exact congrArg (fun l => (pure (some l) : Sem (Option (List Str)))) (tgt_filter (p := fun id pos => env.kindOf id == some .local && pos.line == (Option.map (fun x => x.pos.line) ts.head?).getD 0) hx hn1)

theorem All2.rev {α β : Type} {R : α → β → Prop} {as : List α} {bs : List β} (h : All2 R as bs) : All2 R as.reverse bs.reverse := h.reverse

theorem s_assign_tup {ts : List Expr} {k : Nat} {tp pos : Pos} {v : Expr} {pv : PE} {t' : Tgt} (ht : trT env.kindOf (.Tuple ts k tp) = some t') (hv : EvOk C T K env v pv) (hc : isComp v = false) (ho : oneTup v = false) : S1Ok C T K env (.Assign [.Tuple ts k tp] v pos) (.assign t' pv) := by
  intro σ ρ H s A Q X E F S hA h hE
  have hs : swapsWithSole [.Tuple ts k tp] v pos.line env = pure false := by
    unfold swapsWithSole
    exact not_swap_t (t := .Tuple ts k tp) fun _ _ q => nomatch q
  have ht0 := ht
  unfold trT at ht
  dsimp only at ht
  split at ht
  · rename_i xs hxs
    split at ht
    · rename_i hk
      cases ht
      obtain ⟨hk1, hk2⟩ := Bool.and_eq_true_iff.mp hk
      have hk1 : ∀ x ∈ xs, stored env.kindOf x = true := List.all_eq_true.mp hk1
      have hk2 : xs.Nodup := by simpa using hk2
      rcases swapped_one (env := env) (k := k) (tp := tp) hxs ho with hw | hw
      · refine Assign_Tuple (hv.bind F S hA h (TakesS.takes hE) fun ρ1 H1 v1 u1 s1 st1 F1 S1 hv1 hq1 hE1 => ?_) hs hw
        split at hq1
        · rename_i σ' hb
          refine assign_ok (x := .one v1) (h0 := s1.heap) hA.h ht0 hb hv1 F1 S1 fun s2 F2 S2 st2 => ?_
          exact ⟨ρ1, H1, σ', .next, (StepG.up st1).trans (ownT_step st2), S2, F2, rfl, hq1⟩
        · exact hq1.elim
      · refine Assign_Tuple_swapped (names := xs) (hv.bind F S hA h (TakesS.takes hE) fun ρ1 H1 v1 u1 s1 st1 F1 S1 hv1 hq1 hE1 => ?_) hs hw
        split at hq1
        · rename_i σ' hb
          unfold bindA at hb
          cases v1 with
          | ref n =>
            dsimp only at hb
            split at hb
            · rename_i vs e1
              split at hb
              · rename_i hl
                cases hb
                obtain ⟨a, rfl, ea, us, m, hob, hs', _⟩ := S1.lookup e1 hv1
                have hz : xs.length = us.size := by rw [hl, hs'.length]; simp
                refine unpack_tuple hA.h S1 hob hz fun h' hk' => ?_
                obtain ⟨S2, st2⟩ := S1.grow (h' := h') (tk := s1.toks) hk'
                refine stores_list (Z := xs) xs.reverse vs.reverse us.toList.reverse σ ρ1 H1 _ _ (by simpa using hl) hs'.reverse (fun x hx => by simpa using hx) (fun x hx => hk1 x (by simpa using hx)) (F1.step st2) S2 fun s3 F3 S3 st3 => ?_
                have e4 : xs.reverse.zip vs.reverse = (xs.zip vs).reverse := by
                  unfold List.zip; exact (List.reverse_zipWith hl).symm
                rw [e4, sets_reverse _ _ (by rw [map_fst_zip hl]; exact hk2)] at F3
                exact ⟨ρ1, H1, _, .next, ((StepG.up st1).trans (StepG.up st2)).trans (ownT_step st3), S3, F3, rfl, hq1⟩
              · cases hb
            · cases hb
          | _ => cases hb
        · exact hq1.elim
    · cases ht
  · cases ht

end
end Mine
end
section
namespace Mine
open PySem PySem.Calls PyProof.Rows

/-! Loops, and every block that translates. -/

section
variable {C : Cx} {T : Tab} {K : Nat} {env : Env}

theorem s_for {t it : Expr} {body : List Stmt} {pos : Pos} {t' : Tgt} {pit : PE} {pb : PS} (ht : trT env.kindOf t = some t') (hit : ItOk C T K env it pit) (hf : ∀ x, foldedSetIterable it env x = pure x) (hb : BlOk C T K env body pb) :
    S1Ok C T K env (.For t it body [] pos) (.for_ t' pit pb) := by
  intro σ ρ H s A Q X E F S hA h hE
  refine wpAny_For ?_ hf
  refine wpAny_mono (hit F S hA h (TakesS.takes hE)) (fun xv s₁ h₁ => wpAny_mono h₁ (fun itv s₂ h₂ => ?_) fun _ _ e => e) fun _ _ e => e
  obtain ⟨ρ0, H0, items, Kp, I, wr, St, rfl, hI, hst, st0, S0, hw, hgo⟩ := h₂
  have hwown : ∀ b ∈ wr, ¬ own env b := fun b hb e => by
    obtain ⟨o, e1⟩ := F.alive b e
    rw [(hw b hb).1] at e1; cases e1
  have hW : ∀ ρ1 : List Addr, (∀ b ∈ wr, b ∉ ρ1) → ∀ b, b ∈ wr → s.heap.get? b = none ∧ b ∉ ρ1 ∧ C.base.get? b = none := fun ρ1 x1 b hb => ⟨(hw b hb).1, x1 b hb, base_none S (hw b hb).1⟩
  let Inv : Nat → Shared → Prop := fun n t => ∃ i σ1 ρ1 H1, i + n = items.length ∧ St i t.heap ∧ StepG (own env) ρ s ρ1 t ∧ (∃ l, ρ1 = ρ0 ++ l) ∧ Sim C ρ1 H1 t ∧ (∀ b ∈ wr, b ∉ ρ1) ∧
    FR C env σ1 ρ1 t.heap ∧ forGo Kp (fun x H' σ' => bindA t' x H' σ') (fun σ' H' q => semS T pb σ' H' q X) Q (items.drop i) σ1 H1
  refine codeAny_forLoop_any Inv (fun n tt hInv => ?_) items.length ⟨0, σ, ρ0, H0, by simp, hst, StepG.up st0, ⟨[], by simp⟩, S0, fun b hb => (hw b hb).2, F.step st0, by simpa using hgo⟩
  obtain ⟨i, σ1, ρ1, H1, hin, hSt, st1, hl1, S1, hw1, F1, hg⟩ := hInv
  cases n with
  | zero =>
    have hi : i = items.length := by omega
    subst hi
    rw [List.drop_length] at hg
    obtain ⟨hK, hq⟩ := hg
    refine wpAny_mono (hI.done ρ1 H1 tt _ hSt S1 hl1 hK hw1) (fun r s1 hr => ?_) fun _ _ x => x
    obtain ⟨rfl, h', tk, rfl, hk⟩ := hr
    refine wpAny_execs_nil ?_
    obtain ⟨st4, S4⟩ := adrift (W := fun b => b ∈ wr) (h' := h') (tk := tk) st1 S1 (hW ρ1 hw1) (fun b o hb e => hk b o hb e)
    exact ⟨ρ1, H1, σ1, .next, st4, S4, F1.at fun b hb o e => hk b o (fun q => hwown b q hb) e, rfl, hq⟩
  | succ n =>
    have hi : i < items.length := by omega
    rw [List.drop_eq_getElem_cons hi] at hg
    obtain ⟨hK, hg⟩ := hg
    dsimp only at hg
    split at hg
    · rename_i σ' hb'
      refine wpAny_mono (hI.next i items[i] t ρ1 H1 tt _ (List.getElem?_eq_getElem hi) (fits ht hb') hSt S1 hl1 hK hw1) (fun r s1 hr => ?_) fun _ _ x => x
      obtain ⟨u, rfl, hu⟩ := hr
      refine wpAny_mono hu (fun _ s1' hs1 => ?_) fun _ _ x => x
      obtain ⟨h', tk, rfl, hIR, hSt', hk⟩ := hs1
      obtain ⟨st4, S4⟩ := adrift (W := fun b => b ∈ wr) (h' := h') (tk := tk) st1 S1 (hW ρ1 hw1) (fun b o hb e => hk b o hb e)
      have F4 : FR C env σ1 ρ1 h' := F1.at fun b hb o e => hk b o (fun q => hwown b q hb) e
      refine assign_ok hA.h ht hb' hIR F4 S4 fun s5 F5 S5 st5 => ?_
      have st5' := ownT_step st5
      have hSt5 : St (i + 1) s5.heap := hI.frame _ _ _ hSt' fun b hb o e => st5'.keep b o (hw1 b hb) (hwown b hb) e
      refine wpAny_mono (hb F5 S5 hA hg fun e s' p => p.none.elim) (fun f s6 h6 => ?_) fun _ _ x => x
      obtain ⟨ρ2, H2, σ2, fl, st6, S6, F6, hf6, hq6⟩ := h6
      have st46 := (st4.trans st5').trans st6
      cases fl with
      | next =>
        cases hf6
        refine ⟨n, Nat.lt_succ_self n, i + 1, σ2, ρ2, H2, by omega, hI.frame _ _ _ hSt5 fun b hb o e => st6.keep b o (hw1 b hb) (hwown b hb) e, st46, ?_, S6, fun b hb => ?_, F6, hq6⟩
        · obtain ⟨l, e⟩ := hl1
          obtain ⟨l', e', _⟩ := st6.ext
          exact ⟨l ++ l', by rw [e', e, List.append_assoc]⟩
        · obtain ⟨o, e⟩ := hI.alive _ _ hSt5 b hb
          exact stay_out st6 e (hw1 b hb)
      | brk =>
        cases hf6
        exact ⟨ρ2, H2, σ2, .next, st46, S6, F6, rfl, hq6⟩
      | ret v =>
        obtain ⟨u, rfl, hv⟩ := hf6
        exact ⟨ρ2, H2, σ2, .ret v, st46, S6, F6, ⟨u, rfl, hv⟩, hq6⟩
    · exact hg.elim

theorem s_while {c : Expr} {body : List Stmt} {pos : Pos} {pc : PE} {pb : PS} (hc : TtOk C T K env c pc) (hb : BlOk C T K env body pb) : S1Ok C T K env (.While c body [] pos) (.while_ pc pb) := by
  intro σ ρ H s A Q X E F S hA h hE
  obtain ⟨N, h⟩ := h
  refine wpAny_While ?_
  let Inv : Nat → Shared → Prop := fun n t => ∃ σ1 ρ1 H1, StepG (own env) ρ s ρ1 t ∧ Sim C ρ1 H1 t ∧ FR C env σ1 ρ1 t.heap ∧ whileGo (fun σ' H' q => (sem T pc).tt σ' H' q X) (fun σ' H' q => semS T pb σ' H' q X) Q n σ1 H1
  refine codeAny_whileLoop Inv (fun n tt hInv => ?_) N ⟨σ, ρ, H, StepG.refl _ _, S, F, h⟩
  obtain ⟨σ1, ρ1, H1, st1, S1, F1, hg⟩ := hInv
  cases n with
  | zero => exact hg.elim
  | succ n =>
    refine hc.bind F1 S1 hA hg (fun e s' p => p.none.elim) fun ρ2 H2 b s2 st2 F2 S2 hq hE2 => ?_
    cases b with
    | false =>
      rw [if_neg (by simp)]
      exact wpAny_execs_nil ⟨ρ2, H2, σ1, .next, st1.trans (StepG.up st2), S2, F2, rfl, hq⟩
    | true =>
      rw [if_pos rfl] at hq
      rw [if_pos rfl]
      refine wpAny_mono (hb F2 S2 hA hq fun e s' p => p.none.elim) (fun f s6 h6 => ?_) fun _ _ x => x
      obtain ⟨ρ3, H3, σ3, fl, st6, S6, F6, hf6, hq6⟩ := h6
      have st46 := (st1.trans (StepG.up st2)).trans st6
      cases fl with
      | next =>
        cases hf6
        exact ⟨n, Nat.lt_succ_self n, σ3, ρ3, H3, st46, S6, F6, hq6⟩
      | brk =>
        cases hf6
        exact ⟨ρ3, H3, σ3, .next, st46, S6, F6, rfl, hq6⟩
      | ret v =>
        obtain ⟨u, rfl, hv⟩ := hf6
        exact ⟨ρ3, H3, σ3, .ret v, st46, S6, F6, ⟨u, rfl, hv⟩, hq6⟩

theorem map_some_s {α β : Type} {a : Option α} {f : α → β} {r : β} (h : a.map f = some r) : ∃ x, a = some x ∧ r = f x := by
  cases a with
  | none => cases h
  | some x => cases h; exact ⟨x, rfl, rfl⟩

theorem trT_shape {k : Kd} {t : Expr} {t' : Tgt} (h : trT k t = some t') : (∃ x p, t = .Name x p ∧ t' = .name x ∧ stored k x = true) ∨ ∃ ts n p xs, t = .Tuple ts n p ∧ t' = .tup xs := by
  cases t <;> first | (cases h; done) | skip
  · unfold trT at h
    dsimp only at h
    split at h
    · rename_i hx; cases h; exact .inl ⟨_, _, rfl, rfl, hx⟩
    · cases h
  · unfold trT at h
    dsimp only at h
    split at h
    · split at h
      · cases h; exact .inr ⟨_, _, _, _, rfl, rfl⟩
      · cases h
    · cases h

theorem assign_tr (hT : TabOk C T K) {n : Nat} {ts : List Expr} {v : Expr} {pos : Pos} {ps : PS} (h : trAssign env.kindOf (trE n env.kindOf) ts v = some ps) : S1Ok C T K env (.Assign ts v pos) ps := by
  have ev : ∀ e pe, trE n env.kindOf e = some pe → EvOk C T K env e pe := fun e pe h => (tr_ok hT n _ e pe h env rfl).1
  unfold trAssign at h
  split at h
  · rename_i t
    split at h
    · rename_i o i p e1
      have := asSub_is e1
      subst this
      split at h
      · cases h
      · split at h
        · rename_i a b c ha hb hc
          cases h
          intro σ ρ H s A Q X E
          exact s_setItem (ev _ _ hb) (ev _ _ hc) (ev _ _ ha)
        · cases h
    · split at h
      · rename_i o a p e1
        have := asAttr_is e1
        subst this
        split at h
        · cases h
        · split at h
          · rename_i x y hx hy
            cases h
            intro σ ρ H s A Q X E
            exact s_setAttr (ev _ _ hy) (ev _ _ hx)
          · cases h
      · split at h
        · rename_i xs v' ht hv
          split at h
          · cases h
          · rename_i hcv
            cases h
            rcases trT_shape ht with ⟨x, p, rfl, e, _⟩ | ⟨ts, m, p, ys, rfl, e⟩
            · cases e
            · rw [Bool.or_eq_true, not_or] at hcv
              intro σ ρ H s A Q X E
              exact s_assign_tup ht (ev _ _ hv) (by simpa using hcv.1) (by simpa using hcv.2)
        · rename_i x v' ht hv
          cases h
          rcases trT_shape ht with ⟨y, p, rfl, e, hx⟩ | ⟨ts, m, p, ys, rfl, e⟩
          · cases e
            intro σ ρ H s A Q X E
            exact s_assign_name hT hx hv
          · cases e
        · cases h
  · cases h

theorem one_tr (hT : TabOk C T K) {n : Nat} {b : List Stmt → Option PS} (hb : ∀ x ps, b x = some ps → BlOk C T K env x ps) {st : Stmt} {ps : PS} (h : tr1 env.kindOf (trE n env.kindOf) b st = some ps) : S1Ok C T K env st ps := by
  have ev : ∀ e pe, trE n env.kindOf e = some pe → EvOk C T K env e pe := fun e pe h => (tr_ok hT n _ e pe h env rfl).1
  have et : ∀ e pe, trE n env.kindOf e = some pe → TtOk C T K env e pe := fun e pe h => (tr_ok hT n _ e pe h env rfl).2
  unfold tr1 at h
  split at h
  · intro σ ρ H s A Q X E
    exact assign_tr hT h
  · split at h
    · cases h
    · rename_i hc
      obtain ⟨x, hx, rfl⟩ := map_some_s h
      intro σ ρ H s A Q X E
      exact s_expr (ev _ _ hx) (by simpa using hc)
  · split at h
    · rename_i c a d hc ha hd
      cases h
      intro σ ρ H s A Q X E
      exact s_if (et _ _ hc) (hb _ _ ha) (hb _ _ hd)
    · cases h
  · split at h
    · rename_i hels
      have := List.isEmpty_iff.mp hels
      subst this
      split at h
      · rename_i t' i' b' ht hi hbb
        cases h
        obtain ⟨h1, h2⟩ := trI_ok hT ev (fun e pe h => tr_star h) hi
        intro σ ρ H s A Q X E
        exact s_for ht h1 (folded_no h2) (hb _ _ hbb)
      · cases h
    · cases h
  · split at h
    · rename_i hels
      have := List.isEmpty_iff.mp hels
      subst this
      split at h
      · rename_i c b' hc hbb
        cases h
        intro σ ρ H s A Q X E
        exact s_while (et _ _ hc) (hb _ _ hbb)
      · cases h
    · cases h
  · split at h
    · obtain ⟨x, hx, rfl⟩ := map_some_s h
      intro σ ρ H s A Q X E
      exact s_ret (ev _ _ hx)
    · cases h
      intro σ ρ H s A Q X E
      exact s_ret0
  · intro σ ρ H s A Q X E F S hA hh hE
    unfold trRaise at h
    split at h
    · split at h
      · split at h
        · split at h
          · obtain ⟨x, hx, rfl⟩ := map_some_s h
            exact hh.elim
          · cases h
        · cases h
      · cases h
    · cases h
  · cases h
    intro σ ρ H s A Q X E
    exact s_break
  · cases h
    intro σ ρ H s A Q X E
    exact s_pass
  · cases h

theorem trS_ok (hT : TabOk C T K) : ∀ (n : Nat) (b : List Stmt) (ps : PS), trS n env.kindOf b = some ps → BlOk C T K env b ps
  | 0, _, _, h => by cases h
  | _ + 1, [], _, h => by cases h; exact bl_nil
  | n + 1, st :: rest, ps, h => by
    unfold trS at h
    split at h
    · rename_i one r ho hr
      cases h
      exact bl_cons (one_tr hT (fun x ps h => trS_ok hT n x ps h) ho) (trS_ok hT n rest r hr)
    · cases h

end
end Mine
end
section
namespace Mine
open PySem PySem.Calls PyProof.Rows

/-! The program's own functions. -/

noncomputable def sgOf (xs : List Str) (vs : List V) : Sg := Sg.sets (fun _ => none) (xs.zip vs)

/-- what a function of the program does -/
noncomputable def fnSpec (T : Tab) (xs : List Str) (ps : PS) : Spec := fun vs H Q X => xs.length = vs.length ∧ semS T ps (sgOf xs vs) H (fun fl _ H' => match fl with
  | .ret v => Q v H'
  | .next => Q .none H'
  | .brk => False) X

noncomputable def plainArgs (p : Arguments) : Bool := p.posonlyargs.isEmpty && p.vararg.isNone && p.kwonlyargs.isEmpty && p.kwarg.isNone && p.defaults.isEmpty

/-- a definition that the walk can enter -/
noncomputable def goodDef (params : Arguments) (sc : Scope) : Bool :=
  let xs := params.args.map (·.arg)
  plainArgs params && decide xs.Nodup && sc.kind == .function && !sc.isCoroutine && !sc.isGenerator && xs.all (stored fun x => sc.names.lookup x)

theorem fm_congr {α β : Type} (f g : α → Option β) : ∀ (l : List α), (∀ n ∈ l, f n = g n) → l.filterMap f = l.filterMap g
  | [], _ => rfl
  | x :: r, h => by rw [List.filterMap_cons, List.filterMap_cons, h x (.head _), fm_congr f g r fun n hn => h n (.tail _ hn)]

theorem zip_lookup : ∀ (xs : List Str) (vals : List Value), xs.Nodup → xs.length = vals.length → xs.filterMap (fun n => ((xs.zip vals).lookup n).map fun v => (n, v)) = xs.zip vals
  | [], [], _, _ => rfl
  | [], _ :: _, _, h => by simp at h
  | _ :: _, [], _, h => by simp at h
  | x :: xs, v :: vals, hn, hl => by
    rw [List.nodup_cons] at hn
    rw [List.zip_cons_cons, List.filterMap_cons]
    simp only [List.lookup_cons, beq_self_eq_true]
    simp only [Option.map_some]
    congr 1
    refine Eq.trans (fm_congr _ _ xs fun n hn' => ?_) (zip_lookup xs vals hn.2 (by simpa using hl))
    have : (n == x) = false := by
      rw [beq_eq_false_iff_ne]
      exact fun q => hn.1 (q ▸ hn')
    rw [this]

theorem zip_full : ∀ (xs : List Str) (vals : List Value), xs.length = vals.length → (xs.filter fun n => ((xs.zip vals).lookup n).isNone) = [] := fun xs vals hl => by
  rw [List.filter_eq_nil_iff]
  intro n hn h
  have : ∀ (xs : List Str) (vals : List Value), xs.length = vals.length → n ∈ xs → ((xs.zip vals).lookup n).isSome = true := by
    intro xs
    induction xs with
    | nil => intro vals _ h; cases h
    | cons x xs ih =>
      intro vals hl hm
      cases vals with
      | nil => simp at hl
      | cons v vals =>
        rw [List.zip_cons_cons, List.lookup_cons]
        cases hb : n == x with
        | true => rfl
        | false =>
          cases hm with
          | head => simp at hb
          | tail _ hm => exact ih vals (by simpa using hl) hm
  have := this xs vals hl hn
  rw [Option.isNone_iff_eq_none] at h
  rw [h] at this; cases this

theorem bind_plain {name : Str} {p : Arguments} {body : List Stmt} {sc : Scope} {pm cd doc : Value} {vals : List Value} (hp : plainArgs p = true) (hn : (p.args.map (·.arg)).Nodup) (hl : (p.args.map (·.arg)).length = vals.length) :
    bindArgs (docDef name p body sc pm cd doc) ⟨vals, []⟩ = pure ((p.args.map (·.arg)).zip vals) := by
  obtain ⟨posonly, args, vararg, kwonly, kwd, kwarg, defaults⟩ := p
  unfold plainArgs at hp
  simp only [Bool.and_eq_true, List.isEmpty_iff, Option.isNone_iff_eq_none] at hp
  obtain ⟨⟨⟨⟨rfl, rfl⟩, rfl⟩, rfl⟩, rfl⟩ := hp
  unfold bindArgs
  have e1 : ∀ {α : Type} (k : Option (Array Value) → Sem α), (seqItems? (docDef name ⟨[], args, none, [], kwd, none, []⟩ body sc pm cd doc).defaults >>= k) = k none := fun k => rfl
  simp only [docDef, List.map_nil, List.nil_append, List.forIn_nil, List.append_nil]
  dsimp only at hl hn
  rw [pure_bind]
  have e2 : ∀ {α : Type} (k : Option (Array Value) → Sem α), (seqItems? Value.none >>= k) = k none := fun k => rfl
  rw [e2]
  simp only [Option.getD_none, Array.toList_empty, List.length_nil, Option.isNone_none, Bool.and_true, Nat.sub_self, List.drop_nil, Nat.sub_zero, List.zip_nil_right, List.forIn_nil]
  have h1 : ¬ (decide (vals.length > (List.map (fun x => x.arg) args).length) = true) := by simp; rw [← hl]; simp
  rw [if_neg h1]
  simp only [Nat.zero_sub, List.take_length, zip_full _ _ hl, List.isEmpty_nil, Bool.not_true, Bool.false_eq_true, if_false, pure_bind, List.drop_nil, List.zip_nil_right, List.forIn_nil, zip_lookup _ _ hn hl]

section
variable {C : Cx} {T : Tab} {K : Nat}

theorem cellsFrom_has : ∀ (names : List (Str × NameKind)) (n : Nat) (acc : List (Str × Addr)) (x : Str), ((x, NameKind.cell) ∈ names ∨ ∃ c, acc.lookup x = some c) → ∃ c, (cellsFrom n names acc).lookup x = some c
  | [], _, _, _, h => by
    rcases h with h | h
    · cases h
    · exact h
  | (y, k) :: r, n, acc, x, h => by
    unfold cellsFrom
    split
    · refine cellsFrom_has r _ _ x ?_
      by_cases e : x = y
      · right; exact ⟨n, by rw [List.lookup_cons, e]; simp⟩
      · rcases h with h | ⟨c, h⟩
        · cases h with
          | head => exact absurd rfl e
          | tail _ h => exact .inl h
        · right; exact ⟨c, by rw [List.lookup_cons, beq_eq_false_iff_ne.mpr e]; exact h⟩
    · rename_i hk
      refine cellsFrom_has r _ _ x ?_
      rcases h with h | h
      · cases h with
        | head => exact absurd rfl hk
        | tail _ h => exact .inl h
      · exact .inr h

theorem bindL_ok {ρ : List Addr} {kd : Kd} : ∀ (xs : List Str) (vs : List V) (us : List Value) (σ : Sg) (m : Str → Option Value), All2 (VR C ρ) vs us → xs.length = vs.length →
    (∀ x v, σ x = some v → kd x = some .local → ∃ u, m x = some u ∧ VR C ρ v u) → ∀ x v, σ.sets (xs.zip vs) x = some v → kd x = some .local → ∃ u, bindL kd (xs.zip us) m x = some u ∧ VR C ρ v u
  | [], _, _, _, _, _, _, h => h
  | y :: ys, w :: vs, _, σ, m, .cons (b := u) (bs := us) hv hr, hl, h => by
    rw [List.zip_cons_cons, List.zip_cons_cons]
    refine bindL_ok ys vs us _ _ hr (by simpa using hl) fun x v h1 h2 => ?_
    unfold Sg.set at h1
    by_cases e : x = y
    · subst e
      rw [if_pos rfl] at h1; cases h1
      rw [if_pos h2, if_pos rfl]
      exact ⟨u, rfl, hv⟩
    · rw [if_neg e] at h1
      obtain ⟨u', h3, h4⟩ := h x v h1 h2
      refine ⟨u', ?_, h4⟩
      by_cases hk : kd y = some .local
      · rw [if_pos hk, if_neg e]; exact h3
      · rw [if_neg hk]; exact h3
  | _ :: _, [], _, _, _, _, hl, _ => by simp at hl

theorem bindC_ok {ρ : List Addr} {kd : Kd} : ∀ (xs : List Str) (vs : List V) (us : List Value) (σ : Sg) (m : Str → Option Value), All2 (VR C ρ) vs us → xs.length = vs.length →
    (∀ x v, σ x = some v → kd x = some .cell → ∃ u, m x = some u ∧ VR C ρ v u) → ∀ x v, σ.sets (xs.zip vs) x = some v → kd x = some .cell → ∃ u, bindC kd (xs.zip us) m x = some u ∧ VR C ρ v u
  | [], _, _, _, _, _, _, h => h
  | y :: ys, w :: vs, _, σ, m, .cons (b := u) (bs := us) hv hr, hl, h => by
    rw [List.zip_cons_cons, List.zip_cons_cons]
    refine bindC_ok ys vs us _ _ hr (by simpa using hl) fun x v h1 h2 => ?_
    unfold Sg.set at h1
    by_cases e : x = y
    · subst e
      rw [if_pos rfl] at h1; cases h1
      rw [if_neg (by rw [h2]; decide), if_pos rfl]
      exact ⟨u, rfl, hv⟩
    · rw [if_neg e] at h1
      obtain ⟨u', h3, h4⟩ := h x v h1 h2
      refine ⟨u', ?_, h4⟩
      by_cases hk : kd y = some .local
      · rw [if_pos hk]; exact h3
      · rw [if_neg hk, if_neg e]; exact h3
  | _ :: _, [], _, _, _, _, hl, _ => by simp at hl

theorem fn_code (hT : TabOk C T K) {name : Str} {params : Arguments} {body : List Stmt} {sc : Scope} {pm cd doc : Value} {a : Addr} {o : Obj} {ps : PS} (ho : C.base.get? a = some o) (hd : o.data = .func (docDef name params body sc pm cd doc)) (hc : C.base.CodeRec cd name)
    (hg : goodDef params sc = true) (htr : trS 60 (fun x => sc.names.lookup x) body = some ps)
    {vs : List V} {H : AHeap} {Q : VPost} {X : XPost} {ρ : List Addr} {s : Shared} {us : List Value} {A : Around} {E : Value → Shared → Prop} (h : fnSpec T (params.args.map (·.arg)) ps vs H Q X) (S : Sim C ρ H s) (hus : All2 (VR C ρ) vs us) (hA : AOk (K + 1) A) (hE : Takes C ρ s X E) :
    codeAny C.M A (.call (.ref a) ⟨us, []⟩) (fun r s' => match r with | .ok (.ret v) => PV C ρ s Q v s' | .ok _ => False | .error e => E e s') s := by
  obtain ⟨hlen, h⟩ := h
  unfold goodDef at hg
  simp only [Bool.and_eq_true, decide_eq_true_eq, beq_iff_eq, Bool.not_eq_true'] at hg
  obtain ⟨⟨⟨⟨⟨hpl, hnd⟩, hkind⟩, hco⟩, hgen⟩, hst⟩ := hg
  have hst : ∀ x ∈ params.args.map (·.arg), stored (fun x => sc.names.lookup x) x = true := List.all_eq_true.mp hst
  have hlu : (params.args.map (·.arg)).length = us.length := by rw [hlen, hus.length]
  have hget : s.heap.get? a = some o := S.stays _ _ ho
  have hroom : A.depth < recursionLimit := by have := hA.d; omega
  refine codeAny_call_cells (binds := (params.args.map (·.arg)).zip us) hroom hget hd (C.lim.keeps S.stays) (hc.keeps S.stays) rfl (bind_plain hpl hnd hlu) rfl (fun x hx => ?_) (fun s₁ hin => ?_) hco hgen hkind
  · have hx1 : x.1 ∈ params.args.map (·.arg) := (List.of_mem_zip (a := x.1) (b := x.2) hx).1
    rcases stored_iff (hst _ hx1) with hk | hk
    · exact .inl hk
    · right
      refine ⟨hk, ?_⟩
      obtain ⟨c, hc⟩ := cellsFrom_has sc.names (s.heap.objs.size + 1) [] x.1 (.inl (mem_of_lookup hk))
      show ((cellsFrom (s.heap.objs.size + 1) sc.names []).lookup x.1).isSome = true
      rw [hc]; rfl
  · generalize henv : callEnvC (docDef name params body sc pm cd doc) s.heap.objs.size a = env at hin ⊢
    have eS : env.scope = sc := by rw [← henv]; rfl
    have eK : env.kindOf = fun x => sc.names.lookup x := by unfold Env.kindOf; rw [eS]
    have eL : env.locals = s.heap.objs.size := by rw [← henv]; rfl
    have eG : env.globals = mainGlobals := by rw [← henv]; rfl
    have eB : env.builtins = builtinsNs := by rw [← henv]; rfl
    have eC : env.cells = cellsFrom (s.heap.objs.size + 1) sc.names [] := by rw [← henv]; rfl
    obtain ⟨⟨⟨h₁, tk, rfl⟩, hns, hkeep, hfr⟩, hcell, hapart, habove⟩ := hin
    have hLn : s.heap.get? env.locals = none := by rw [eL]; exact get_size _
    have hCn : ∀ x c, env.cells.lookup x = some c → s.heap.get? c = none := fun x c hc => by
      cases e : s.heap.get? c with
      | none => rfl
      | some o' =>
        have h1 := Heap.lt_size e
        have h2 := habove x c (mem_of_lookup hc)
        exact absurd (Nat.lt_trans (Nat.lt_of_le_of_lt hfr h2) h1) (Nat.lt_irrefl _)
    have hown : ∀ b, own env b → s.heap.get? b = none := fun b hb => by
      rcases hb with rfl | ⟨x, hx⟩
      · exact hLn
      · exact hCn x b hx
    obtain ⟨S1, st1⟩ := S.grow (h' := h₁) (tk := tk) hkeep
    have F1 : FR C env (sgOf (params.args.map (·.arg)) vs) ρ h₁ := by
      refine ⟨?_, by rw [eS]; exact hkind, eG, eB, ⟨_, hns, fun x v e1 e2 => ?_⟩, fun x c hc => ⟨_, hcell x c hc, fun v e1 e2 => ?_⟩, fun x hx => ?_, none_ρ S hLn, fun x c hc => ⟨none_ρ S (hCn x c hc), fun q => ?_⟩, fun x y c hx hy => name_of_addr hapart (mem_of_lookup hx) (mem_of_lookup hy), base_none S hLn, fun x c hc => base_none S (hCn x c hc)⟩
      · unfold sgOf
        rw [sets_out _ _ _ (by rw [map_fst_zip hlen]; exact fun q => stored_ne (hst _ q) rfl)]
      · exact bindL_ok _ vs us (fun _ => none) (fun _ => none) hus hlen (fun _ _ q => by cases q) x v e1 e2
      · exact bindC_ok _ vs us (fun _ => none) (fun _ => none) hus hlen (fun _ _ q => by cases q) x v e1 e2
      · rw [eC]
        rw [eK] at hx
        exact cellsFrom_has _ _ _ _ (.inl (mem_of_lookup hx))
      · have := habove x c (mem_of_lookup hc)
        rw [q] at this
        exact Nat.lt_irrefl _ this
    have hb : BlOk C T K env body ps := trS_ok (C := C) (T := T) (K := K) (env := env) hT 60 body ps (by rw [eK]; exact htr)
    refine wpAny_mono (hb F1 S1 (hA.deeper env) h fun e s' p => p.none.elim) (fun f s' hp => ?_) fun e s' p => p
    · obtain ⟨ρ', H', σ', fl, st2, S2, F2, hf, hq⟩ := hp
      have st : Step ρ s ρ' s' := by
        refine ⟨?_, fun b ob hb hx e => st2.keep b ob hb (fun q => by rw [hown b q] at e; cases e) (hkeep b ob e), fun b ob e => st2.live b ob (hkeep b ob e)⟩
        obtain ⟨l, e, f⟩ := st2.ext
        refine ⟨l, e, fun b hb => ?_⟩
        cases q : s.heap.get? b with
        | none => rfl
        | some ob => have := f b hb; rw [hkeep b ob q] at this; cases this
      cases fl with
      | next => cases hf; exact ⟨ρ', H', .none, st, S2, rfl, hq⟩
      | brk => exact hq.elim
      | ret v => obtain ⟨u, rfl, hv⟩ := hf; exact ⟨ρ', H', v, st, S2, hv, hq⟩

theorem fn_ok (hT : TabOk C T K) {name : Str} {params : Arguments} {body : List Stmt} {sc : Scope} {pm cd doc : Value} {a : Addr} {o : Obj} {ps : PS} (ho : C.base.get? a = some o) (hd : o.data = .func (docDef name params body sc pm cd doc)) (hc : C.base.CodeRec cd name)
    (hg : goodDef params sc = true) (htr : trS 60 (fun x => sc.names.lookup x) body = some ps) : CallOk C (K + 1) (fnSpec T (params.args.map (·.arg)) ps) (.ref a) :=
  fun vs H Q X h ρ s us A E S hus hA hE => wpAny_call (fn_code hT ho hd hc hg htr h S hus hA hE)

theorem CallOk.mono {sp : Spec} {u : Value} {K' : Nat} (h : CallOk C K sp u) (hk : K ≤ K') : CallOk C K' sp u := fun vs H Q X hs ρ s us A E S hu hA hE => h vs H Q X hs ρ s us A E S hu (hA.le hk) hE

theorem TabOk.mono {K' : Nat} (h : TabOk C T K) (hk : K ≤ K') : TabOk C T K' where
  gv := h.gv
  fn := fun g hg => let ⟨u, a, b, c⟩ := h.fn g hg; ⟨u, a, b, c.mono hk⟩
  mt := fun kd m hm => let ⟨f, a, b, c⟩ := h.mt kd m hm; ⟨f, a, b.mono hk, c⟩
  sorted := h.sorted
  len := h.len
  srt := fun vs H Q X hs ρ s us A E S hu hA hE => h.srt vs H Q X hs ρ s us A E S hu (hA.le hk) hE
  rvs := h.rvs
  range := h.range
  revd := h.revd
  enum := h.enum

/-- one more function known -/
noncomputable def Tab.add (T : Tab) (f : Str) (sp : Spec) : Tab := { T with gv := fun g => if g = f then some (.glob f) else T.gv g, fn := fun g => if g = f then sp else T.fn g }

theorem TabOk.add (h : TabOk C T K) {f : Str} {sp : Spec} {u : Value} (hu : C.G f = some u) (hc : Callee C u) (hok : CallOk C (K + 1) sp u) : TabOk C (T.add f sp) (K + 1) where
  gv := fun g v hg => by
    unfold Tab.add at hg
    dsimp only at hg
    split at hg
    · rename_i e
      cases hg
      exact ⟨u, e ▸ hu, fun ρ => hu⟩
    · exact h.gv g v hg
  fn := fun g hg => by
    unfold Tab.add at hg ⊢
    dsimp only at hg ⊢
    by_cases e : g = f
    · subst e
      exact ⟨u, hu, hc, by simpa using hok⟩
    · simp only [if_neg e] at hg ⊢
      exact (h.mono (Nat.le_succ K)).fn g hg
  mt := (h.mono (Nat.le_succ K)).mt
  sorted := h.sorted
  len := h.len
  srt := (h.mono (Nat.le_succ K)).srt
  rvs := h.rvs
  range := h.range
  revd := h.revd
  enum := h.enum

end
end Mine
end
section
namespace Mine
open PySem PySem.Calls PyProof.Rows

/-! Names as numbers. -/

noncomputable def dg : Nat → Nat → List Nat
  | 0, _ => []
  | f + 1, n => if n = 0 then [] else (n % 128) :: dg f (n / 128)
noncomputable def undg : List Nat → Nat
  | [] => 0
  | d :: r => d + 128 * undg r
theorem undg_dg : ∀ (f n : Nat), n < 128 ^ f → undg (dg f n) = n
  | 0, n, h => by simp at h; subst h; rfl
  | f + 1, n, h => by
    unfold dg
    split
    · rename_i e; rw [e]; rfl
    · show n % 128 + 128 * undg (dg f (n / 128)) = n
      rw [undg_dg f (n / 128) (by rw [Nat.pow_succ] at h; omega)]
      omega
theorem dg_small : ∀ (f n : Nat), ∀ d ∈ dg f n, d < 128
  | 0, _, d, h => by cases h
  | f + 1, n, d, h => by
    unfold dg at h
    split at h
    · cases h
    · cases h with
      | head => omega
      | tail _ h => exact dg_small f _ d h

/-- the name that a number stands for -/
noncomputable def nm (n : Nat) : Str := if n < 128 ^ 40 then ⟨(dg 40 n).toArray⟩ else ⟨#[n]⟩
theorem nm_inj {a b : Nat} : nm a = nm b ↔ a = b := by
  refine ⟨fun h => ?_, fun h => h ▸ rfl⟩
  unfold nm at h
  have big : ∀ a b : Nat, ¬ b < 128 ^ 40 → ((⟨(dg 40 a).toArray⟩ : Str) = ⟨#[b]⟩) → False := fun a b hb h => by
    have h1 : (dg 40 a).toArray = #[b] := congrArg Str.cps h
    have h2 : dg 40 a = [b] := by simpa using congrArg Array.toList h1
    have := dg_small 40 a b (by rw [h2]; exact .head _)
    exact hb (Nat.lt_of_lt_of_le this (by decide))
  split at h <;> split at h
  · rename_i ha hb
    have h1 : (dg 40 a).toArray = (dg 40 b).toArray := congrArg Str.cps h
    have h2 : dg 40 a = dg 40 b := by simpa using congrArg Array.toList h1
    rw [← undg_dg 40 a ha, ← undg_dg 40 b hb, h2]
  · rename_i ha hb; exact (big a b hb h).elim
  · rename_i ha hb; exact (big b a ha h.symm).elim
  · have h1 : #[a] = #[b] := congrArg Str.cps h
    simpa using h1

theorem set_nm (σ : Sg) (a b : Nat) (v : V) : (σ.set (nm a) v) (nm b) = if b = a then some v else σ (nm b) := by
  unfold Sg.set
  by_cases h : b = a
  · rw [if_pos h, if_pos (by rw [h])]
  · rw [if_neg h, if_neg (fun q => h (nm_inj.mp q))]

/-! What is built in. -/

noncomputable def spNo : Spec := fun _ _ _ _ => False

noncomputable def lenA (v : V) (H : AHeap) : Option Nat := match v with
  | .str t => some t.length
  | .ref n => (match H[n]? with
    | some (.list xs) => some xs.length
    | some (.tuple xs) => some xs.length
    | some (.dict es _) => some es.length
    | _ => none)
  | _ => none
noncomputable def spLen : Spec := fun vs H Q _ => match vs with
  | [v] => (match lenA v H with | some n => Q (.int n) H | none => False)
  | _ => False

/-- a value's class -/
inductive Ty where
  | none | bool | int | str | list | tuple | dict
  deriving DecidableEq
noncomputable def tyA (v : V) (H : AHeap) : Option Ty := match v with
  | .none => some .none
  | .bool _ => some .bool
  | .int _ => some .int
  | .str _ => some .str
  | .ref n => (match H[n]? with
    | some (.list _) => some .list
    | some (.tuple _) => some .tuple
    | some (.dict _ _) => some .dict
    | _ => Option.none)
  | _ => Option.none
noncomputable def tyOf (g : Str) : Option Ty := if g = nm 228325346 then some .bool else if g = nm 1914729 then some .int else if g = nm 1882739 then some .str else if g = nm 245167340 then some .list else if g = nm 27340323572 then some .tuple else if g = nm 244905188 then some .dict else Option.none
noncomputable def isA : Ty → Ty → Bool
  | .bool, .int => true
  | a, b => decide (a = b)
noncomputable def spIsi : Spec := fun vs H Q _ => match vs with
  | [v, .glob g] => (match tyA v H, tyOf g with | some a, some b => Q (.bool (isA a b)) H | _, _ => False)
  | _ => False

noncomputable def spMin : Spec := fun vs H Q _ => match vs with
  | [.int a, .int b] => Q (.int (if b < a then b else a)) H
  | _ => False
noncomputable def spMax : Spec := fun vs H Q _ => match vs with
  | [.int a, .int b] => Q (.int (if b > a then b else a)) H
  | _ => False

/-- the texts of a list -/
noncomputable def txts : List V → Option (List Txt)
  | [] => some []
  | .str t :: r => (txts r).map (t :: ·)
  | _ => none

noncomputable def spJoin : Spec := fun vs H Q _ => match vs with
  | [.str [], .ref n] => (match H[n]? with
    | some (.list xs) => (match txts xs with
      | some ts => (ts.map List.length).sum + ts.length ≤ lid ∧ Q (.str ts.flatten) H
      | none => False)
    | _ => False)
  | _ => False

noncomputable def spAppend : Spec := fun vs H Q _ => match vs with
  | [.ref n, v] => n ≠ 0 ∧ (match H[n]? with
    | some (.list xs) => xs.length < lid ∧ Q .none (H.set n (.list (xs ++ [v])))
    | _ => False)
  | _ => False

section
variable {C : Cx} {K : Nat}

theorem all2_one {ρ : List Addr} {a : V} {us : List Value} (h : All2 (VR C ρ) [a] us) : ∃ u, us = [u] ∧ VR C ρ a u := by
  cases h with
  | cons h r => cases r; exact ⟨_, rfl, h⟩
theorem all2_two {ρ : List Addr} {a b : V} {us : List Value} (h : All2 (VR C ρ) [a, b] us) : ∃ u w, us = [u, w] ∧ VR C ρ a u ∧ VR C ρ b w := by
  cases h with
  | cons h r => obtain ⟨w, rfl, hw⟩ := all2_one r; exact ⟨_, w, rfl, h, hw⟩

theorem len_T (ok : Txt) : (⟨ok.toArray⟩ : Str).length = ok.length := by
  show ok.toArray.size = _; simp

theorem ok_len : CallOk C K spLen (.builtin "len") := by
  intro vs H Q X h ρ s us A E S hus hA hE
  unfold spLen at h
  split at h
  · rename_i v
    split at h
    · rename_i n hn
      obtain ⟨u, rfl, hu⟩ := all2_one hus
      unfold lenA at hn
      split at hn
      · rename_i t
        cases hn
        obtain ⟨ok, tk, rfl⟩ := hu
        have hl := (okT_iff.mp ok).1
        have e := len_T t
        unfold lid at hl
        refine len_str (by rw [e]; omega) ?_
        rw [e]
        exact here S (vi _ _) h
      · rename_i m
        split at hn
        · rename_i xs e1
          cases hn
          obtain ⟨a, rfl, ea, us, k, ho, hs, hl⟩ := S.lookup e1 hu
          have e : xs.length = us.size := by rw [hs.length]; simp
          unfold lid at hl
          refine call_len_list ⟨_, ho, rfl, k, rfl⟩ (by omega) ?_
          rw [← e]
          exact here S (vi _ _) h
        · rename_i xs e1
          cases hn
          obtain ⟨a, rfl, ea, us, k, ho, hs, hl⟩ := S.lookup e1 hu
          have e : xs.length = us.size := by rw [hs.length]; simp
          unfold lid at hl
          refine len_tuple ⟨_, ho, rfl, k, rfl⟩ (by omega) ?_
          rw [← e]
          exact here S (vi _ _) h
        · rename_i es ep e1
          cases hn
          obtain ⟨a, rfl, ea, hob⟩ := S.lookup e1 hu
          obtain ⟨kvs, ⟨o, ds, ho, ⟨h1, h2, h3⟩, h4, h5, h6, h7⟩, hk⟩ := dict_at hob
          obtain ⟨ds', ho', _, _, hl⟩ := hob
          have e : es.length = kvs.length := by have := congrArg List.length hk; simpa using this.symm
          unfold lid at hl
          have hne : (a == sysModules) = false := by
            rw [beq_eq_false_iff_ne]
            exact fun q => S.sm (q ▸ List.mem_of_getElem? ea)
          refine call_len_dict (knd := PySem.strKind C.prog C.w) (kvs := kvs) hne ?_ (by omega) ?_
          · exact ⟨o, ds, ep, ho, ⟨h1, h2, h3⟩, h4, h5, h6, h7⟩
          · rw [← e]
            exact here S (vi _ _) h
        · cases hn
      · cases hn
    · exact h.elim
  · exact h.elim

noncomputable def tyName : Ty → String
  | .none => "NoneType" | .bool => "bool" | .int => "int" | .str => "str" | .list => "list" | .tuple => "tuple" | .dict => "dict"

theorem ok_isi (hG : ∀ g b, tyOf g = some b → C.G g = some (.type (tyName b))) : CallOk C K spIsi (.builtin "isinstance") := by
  intro vs H Q X h ρ s us A E S hus hA hE
  unfold spIsi at h
  split at h
  · rename_i v g
    split at h
    · rename_i a b ha hb
      obtain ⟨u, w, rfl, hu, hw⟩ := all2_two hus
      have hw' : C.G g = some w := hw
      rw [hG g b hb] at hw'
      cases hw'
      have hbn : b ≠ .none := fun q => by
        subst q
        unfold tyOf at hb
        repeat (split at hb; · cases hb)
        cases hb
      have fin : ∀ r t, (isA a b = r) → PV C ρ s Q (.bool r) { s with toks := t } := fun r t e => by rw [← e]; exact here S (vb _) h
      have fin0 : ∀ r, (isA a b = r) → PV C ρ s Q (.bool r) s := fun r e => by rw [← e]; exact here0 S (vb _) h
      unfold tyA at ha
      split at ha
      · cases ha; cases hu
        cases b
        · exact absurd rfl hbn
        · exact IsiPair.NoneType_bool (fin _ _ rfl)
        · exact IsiPair.NoneType_int (fin _ _ rfl)
        · exact IsiPair.NoneType_str (fin _ _ rfl)
        · exact IsiPair.NoneType_list (fin _ _ rfl)
        · exact IsiPair.NoneType_tuple (fin _ _ rfl)
        · exact IsiPair.NoneType_dict (fin _ _ rfl)
      · cases ha; cases hu
        cases b
        · exact absurd rfl hbn
        · exact IsiPair.bool_bool (fin0 _ rfl)
        · exact IsiPair.bool_int (fin0 _ rfl)
        · exact IsiPair.bool_str (fin _ _ rfl)
        · exact IsiPair.bool_list (fin _ _ rfl)
        · exact IsiPair.bool_tuple (fin _ _ rfl)
        · exact IsiPair.bool_dict (fin _ _ rfl)
      · cases ha; obtain ⟨tk, rfl⟩ := hu
        cases b
        · exact absurd rfl hbn
        · exact IsiPair.int_bool (fin _ _ rfl)
        · exact IsiPair.int_int (fin0 _ rfl)
        · exact IsiPair.int_str (fin _ _ rfl)
        · exact IsiPair.int_list (fin _ _ rfl)
        · exact IsiPair.int_tuple (fin _ _ rfl)
        · exact IsiPair.int_dict (fin _ _ rfl)
      · cases ha; obtain ⟨ok, tk, rfl⟩ := hu
        cases b
        · exact absurd rfl hbn
        · exact IsiPair.str_bool (fin _ _ rfl)
        · exact IsiPair.str_int (fin _ _ rfl)
        · exact IsiPair.str_str (fin0 _ rfl)
        · exact IsiPair.str_list (fin _ _ rfl)
        · exact IsiPair.str_tuple (fin _ _ rfl)
        · exact IsiPair.str_dict (fin _ _ rfl)
      · split at ha
        · rename_i e1
          cases ha
          obtain ⟨ad, rfl, ea, us, k, ho, _⟩ := S.lookup e1 hu
          cases b
          · exact absurd rfl hbn
          · exact IsiPair.list_bool ho rfl (fin _ _ rfl)
          · exact IsiPair.list_int ho rfl (fin _ _ rfl)
          · exact IsiPair.list_str ho rfl (fin _ _ rfl)
          · exact IsiPair.list_list ho rfl (fin0 _ rfl)
          · exact IsiPair.list_tuple ho rfl (fin _ _ rfl)
          · exact IsiPair.list_dict ho rfl (fin _ _ rfl)
        · rename_i e1
          cases ha
          obtain ⟨ad, rfl, ea, us, k, ho, _⟩ := S.lookup e1 hu
          cases b
          · exact absurd rfl hbn
          · exact IsiPair.tuple_bool ho rfl (fin _ _ rfl)
          · exact IsiPair.tuple_int ho rfl (fin _ _ rfl)
          · exact IsiPair.tuple_str ho rfl (fin _ _ rfl)
          · exact IsiPair.tuple_list ho rfl (fin _ _ rfl)
          · exact IsiPair.tuple_tuple ho rfl (fin0 _ rfl)
          · exact IsiPair.tuple_dict ho rfl (fin _ _ rfl)
        · rename_i e1
          cases ha
          obtain ⟨ad, rfl, ea, us, ho, _⟩ := S.lookup e1 hu
          cases b
          · exact absurd rfl hbn
          · exact IsiPair.dict_bool ho rfl (fin _ _ rfl)
          · exact IsiPair.dict_int ho rfl (fin _ _ rfl)
          · exact IsiPair.dict_str ho rfl (fin _ _ rfl)
          · exact IsiPair.dict_list ho rfl (fin _ _ rfl)
          · exact IsiPair.dict_tuple ho rfl (fin _ _ rfl)
          · exact IsiPair.dict_dict ho rfl (fin0 _ rfl)
        · cases ha
      · cases ha
    · exact h.elim
  · exact h.elim

theorem ok_min : CallOk C K spMin (.builtin "min") := by
  intro vs H Q X h ρ s us A E S hus hA hE
  unfold spMin at h
  split at h
  · rename_i a b
    obtain ⟨u, w, rfl, ⟨t, rfl⟩, ⟨t', rfl⟩⟩ := all2_two hus
    refine min_two_ints hA.h fun h' tk hk => ?_
    obtain ⟨S1, st1⟩ := S.grow (h' := h') (tk := tk) hk
    by_cases c : b < a
    · rw [if_pos c] at h ⊢; exact ⟨ρ, H, _, st1, S1, vi _ _, h⟩
    · rw [if_neg c] at h ⊢; exact ⟨ρ, H, _, st1, S1, vi _ _, h⟩
  · exact h.elim
theorem ok_max : CallOk C K spMax (.builtin "max") := by
  intro vs H Q X h ρ s us A E S hus hA hE
  unfold spMax at h
  split at h
  · rename_i a b
    obtain ⟨u, w, rfl, ⟨t, rfl⟩, ⟨t', rfl⟩⟩ := all2_two hus
    refine max_two_ints hA.h fun h' tk hk => ?_
    obtain ⟨S1, st1⟩ := S.grow (h' := h') (tk := tk) hk
    by_cases c : b > a
    · rw [if_pos c] at h ⊢; exact ⟨ρ, H, _, st1, S1, vi _ _, h⟩
    · rw [if_neg c] at h ⊢; exact ⟨ρ, H, _, st1, S1, vi _ _, h⟩
  · exact h.elim

theorem txts_are {ρ : List Addr} : ∀ {xs : List V} {us : List Value} {ts : List Txt}, All2 (VR C ρ) xs us → txts xs = some ts → StrsAre us (ts.map fun t => ⟨t.toArray⟩) ∧ ∀ t ∈ ts, okT t = true
  | [], _, _, .nil, h => by cases h; exact ⟨.nil, fun _ h => nomatch h⟩
  | v :: xs, _, ts, .cons hv hr, h => by
    cases v with
    | str t =>
      unfold txts at h
      cases e : txts xs with
      | none => rw [e] at h; cases h
      | some r =>
        rw [e] at h; cases h
        obtain ⟨h1, h2⟩ := txts_are hr e
        obtain ⟨ok, tk, rfl⟩ := hv
        refine ⟨.cons _ _ h1, fun t' ht => ?_⟩
        cases ht with
        | head => exact ok
        | tail _ ht => exact h2 t' ht
    | _ => cases h

theorem join_flat : ∀ (ts : List Txt), Str.join ⟨#[]⟩ (ts.map fun t => ⟨t.toArray⟩) = ⟨ts.flatten.toArray⟩
  | [] => rfl
  | [t] => by simp [Str.join]
  | t :: u :: r => by
    have ih := join_flat (u :: r)
    rw [List.map_cons, List.map_cons]
    show (⟨t.toArray⟩ : Str) ++ ⟨#[]⟩ ++ Str.join ⟨#[]⟩ ((⟨u.toArray⟩ : Str) :: r.map fun t => ⟨t.toArray⟩) = _
    rw [← List.map_cons (f := fun t : Txt => (⟨t.toArray⟩ : Str)), ih]
    show (⟨t.toArray ++ #[] ++ (u :: r).flatten.toArray⟩ : Str) = _
    simp

theorem okT_flat {ts : List Txt} (h : ∀ t ∈ ts, okT t = true) (hl : (ts.map List.length).sum ≤ lid) : okT ts.flatten = true := by
  rw [okT_iff]
  refine ⟨by rw [List.length_flatten]; exact hl, fun c hc => ?_⟩
  rw [List.mem_flatten] at hc
  obtain ⟨t, ht, hc⟩ := hc
  exact (okT_iff.mp (h t ht)).2 c hc

theorem ok_join : CallOk C K spJoin (.builtin "str.join") := by
  intro vs H Q X h ρ s us A E S hus hA hE
  unfold spJoin at h
  split at h
  · rename_i n
    split at h
    · rename_i xs e1
      split at h
      · rename_i ts hts
        obtain ⟨hl, hq⟩ := h
        obtain ⟨u, w, rfl, ⟨ok, tk, rfl⟩, hw⟩ := all2_two hus
        obtain ⟨a, rfl, ea, us, k, ho, hs, _⟩ := S.lookup e1 hw
        obtain ⟨h1, h2⟩ := txts_are hs hts
        have hlen : ((ts.map fun t => (⟨t.toArray⟩ : Str)).map (·.length)).sum = (ts.map List.length).sum := by
          rw [List.map_map]
          congr 1
        refine join_list (ys := ts.map fun t => ⟨t.toArray⟩) ⟨_, ho, rfl, k, rfl⟩ h1 ?_ fun t' k' => ?_
        · rw [hlen]
          show _ + _ * 0 ≤ _
          unfold lid at hl
          omega
        · have e : PySem.Txt.join (⟨([] : Mine.Txt).toArray⟩ : Str) (ts.map fun t => ⟨t.toArray⟩) = ⟨ts.flatten.toArray⟩ := by
            show Builtin.Str.glued _ _ = _
            rw [StrLaws.glued_eq_join]
            exact join_flat ts
          rw [e]
          exact here S (vt (okT_flat h2 (by omega)) _) hq
      · exact h.elim
    · exact h.elim
  · exact h.elim

theorem ok_append : CallOk C K spAppend (.builtin "list.append") := by
  intro vs H Q X h ρ s us A E S hus hA hE
  unfold spAppend at h
  split at h
  · rename_i n v
    obtain ⟨hn, h⟩ := h
    split at h
    · rename_i xs e1
      obtain ⟨hl, hq⟩ := h
      obtain ⟨u, w, rfl, hu, hw⟩ := all2_two hus
      obtain ⟨a, rfl, ea, us, k, ho, hs, _⟩ := S.lookup e1 hu
      have e : xs.length = us.size := by rw [hs.length]; simp
      refine wpAny_list_append_plain ⟨k, ho⟩ (fun h' ⟨k', ho'⟩ hsb => ?_) (by unfold lid at hl; unfold sizeLine; omega)
      obtain ⟨S1, st1⟩ := S.change (h' := h') (tk := s.toks) (o := .list (xs ++ [v])) hn ea (fun b x hb e => hsb.extBut b x hb e) ⟨_, k', ho', by rw [Array.toList_push]; exact hs.append (.cons hw .nil), by simp; omega⟩
      exact ⟨ρ, _, .none, st1, S1, rfl, hq⟩
    · exact h.elim
  · exact h.elim

end
end Mine
end
section
namespace Mine
open PySem PySem.Calls PyProof.Rows

/-! The table of what is known, built up entry by entry. -/

noncomputable def T0 : Tab where
  gv := fun _ => none
  fn := fun _ => spNo
  has := fun _ _ => false
  mt := fun _ _ => spNo
  srt := spNo
  rvs := spNo

/-- a name and its value -/
noncomputable def Tab.val (T : Tab) (f : Str) (v : V) : Tab := { T with gv := fun g => if g = f then some v else T.gv g }
/-- a method -/
noncomputable def Tab.meth (T : Tab) (k : MK) (m : Str) (sp : Spec) : Tab := { T with has := fun kd x => if kd = k ∧ x = m then true else T.has kd x, mt := fun kd x => if kd = k ∧ x = m then sp else T.mt kd x }

/-- a function's contract: what is asked of its callers is enough for its body -/
noncomputable def Ct (T : Tab) (xs : List Str) (ps : PS) (sp : Spec) : Prop := ∀ vs H Q X, sp vs H Q X → fnSpec T xs ps vs H Q X

structure Has (T : Tab) (f : Str) (sp : Spec) : Prop where
  gv : T.gv f = some (.glob f)
  fn : T.fn f = sp
structure HasM (T : Tab) (k : MK) (m : Str) (sp : Spec) : Prop where
  has : T.has k m = true
  mt : T.mt k m = sp

/-- the program's function f stands in the globals, and its body translates -/
noncomputable def DefAt (C : Cx) (f : Str) (xs : List Str) (ps : PS) : Prop :=
  ∃ a o name params body sc pm cd doc, C.G f = some (.ref a) ∧ C.base.get? a = some o ∧ o.data = .func (docDef name params body sc pm cd doc) ∧ C.base.CodeRec cd name ∧ goodDef params sc = true ∧ trS 60 (fun x => sc.names.lookup x) body = some ps ∧ params.args.map (·.arg) = xs

section
variable {C : Cx} {T : Tab} {K : Nat}

theorem CallOk.weak {sp sp' : Spec} {u : Value} (h : CallOk C K sp u) (hw : ∀ vs H Q X, sp' vs H Q X → sp vs H Q X) : CallOk C K sp' u := fun vs H Q X hs ρ s us A E S hu hA hE => h vs H Q X (hw _ _ _ _ hs) ρ s us A E S hu hA hE

theorem TabOk.base (h1 : C.G (Str.ofString "sorted") = some (.builtin "sorted")) (h2 : C.G (Str.ofString "len") = some (.builtin "len")) (h3 : C.G (Str.ofString "range") = some (.type "range")) (h4 : C.G (Str.ofString "reversed") = some (.type "reversed"))
    (h5 : C.G (Str.ofString "enumerate") = some (.type "enumerate")) : TabOk C T0 0 where
  gv := fun _ _ h => by cases h
  fn := fun _ ⟨_, _, _, _, h⟩ => h.elim
  mt := fun _ _ h => by cases h
  sorted := h1
  len := h2
  srt := fun _ _ _ _ h => h.elim
  rvs := fun _ _ _ _ h => h
  range := h3
  revd := h4
  enum := h5

theorem TabOk.addB (h : TabOk C T K) {f : Str} {sp : Spec} {u : Value} (hu : C.G f = some u) (hc : Callee C u) (hok : CallOk C K sp u) : TabOk C (T.add f sp) K where
  gv := fun g v hg => by
    unfold Tab.add at hg
    dsimp only at hg
    split at hg
    · rename_i e
      cases hg
      exact ⟨u, e ▸ hu, fun ρ => hu⟩
    · exact h.gv g v hg
  fn := fun g hg => by
    unfold Tab.add at hg ⊢
    dsimp only at hg ⊢
    by_cases e : g = f
    · subst e
      exact ⟨u, hu, hc, by simpa using hok⟩
    · simp only [if_neg e] at hg ⊢
      exact h.fn g hg
  mt := h.mt
  sorted := h.sorted
  len := h.len
  srt := h.srt
  rvs := h.rvs
  range := h.range
  revd := h.revd
  enum := h.enum

theorem TabOk.addF (h : TabOk C T K) {f : Str} {xs : List Str} {ps : PS} {sp : Spec} (hd : DefAt C f xs ps) (hc : Ct T xs ps sp) : TabOk C (T.add f sp) (K + 1) := by
  obtain ⟨a, o, name, params, body, sc, pm, cd, doc, h1, h2, h3, h4, h5, h6, rfl⟩ := hd
  exact (h.mono (Nat.le_succ K)).addB h1 (.inr (.inr ⟨a, o, _, rfl, h2, h3⟩)) ((fn_ok h h2 h3 h4 h5 h6).weak hc)

theorem TabOk.val (h : TabOk C T K) {f : Str} {v : V} {u : Value} (hu : C.G f = some u) (hv : ∀ ρ, VR C ρ v u) : TabOk C (T.val f v) K where
  gv := fun g w hg => by
    unfold Tab.val at hg
    dsimp only at hg
    split at hg
    · rename_i e
      cases hg
      exact ⟨u, e ▸ hu, hv⟩
    · exact h.gv g w hg
  fn := h.fn
  mt := h.mt
  sorted := h.sorted
  len := h.len
  srt := h.srt
  rvs := h.rvs
  range := h.range
  revd := h.revd
  enum := h.enum

theorem TabOk.meth (h : TabOk C T K) {k : MK} {m : Str} {sp : Spec} {id : String} (hok : CallOk C K sp (.builtin id))
    (hg : ∀ v H ρ s u pl A (Q : Value × List Value → Shared → Prop) E, kindA v H = some k → Sim C ρ H s → VR C ρ v u → (∀ t, Q (.builtin id, [u]) { s with toks := t }) → wpAny C.M A (getMethod u m pl) Q E s) : TabOk C (T.meth k m sp) K where
  gv := h.gv
  fn := h.fn
  mt := fun kd x hx => by
    unfold Tab.meth at hx ⊢
    dsimp only at hx ⊢
    by_cases e : kd = k ∧ x = m
    · obtain ⟨rfl, rfl⟩ := e
      refine ⟨.builtin id, .inl ⟨id, rfl⟩, by simpa using hok, hg⟩
    · simp only [if_neg e] at hx ⊢
      exact h.mt kd x hx
  sorted := h.sorted
  len := h.len
  srt := h.srt
  rvs := h.rvs
  range := h.range
  revd := h.revd
  enum := h.enum

theorem kind_str {v : V} {H : AHeap} (h : kindA v H = some .str) : ∃ t, v = .str t := by
  unfold kindA at h
  split at h
  · exact ⟨_, rfl⟩
  · split at h <;> cases h
  · cases h
theorem kind_list {v : V} {H : AHeap} (h : kindA v H = some .list) : ∃ n xs, v = .ref n ∧ H[n]? = some (.list xs) := by
  unfold kindA at h
  split at h
  · cases h
  · split at h
    · exact ⟨_, _, rfl, by assumption⟩
    all_goals cases h
  · cases h
theorem kind_dict {v : V} {H : AHeap} (h : kindA v H = some .dict) : ∃ n es ep, v = .ref n ∧ H[n]? = some (.dict es ep) := by
  unfold kindA at h
  split at h
  · cases h
  · split at h
    · cases h
    · exact ⟨_, _, _, rfl, by assumption⟩
    all_goals cases h
  · cases h

theorem get_join : ∀ v H ρ s u pl A (Q : Value × List Value → Shared → Prop) E, kindA v H = some .str → Sim C ρ H s → VR C ρ v u → (∀ t, Q (.builtin "str.join", [u]) { s with toks := t }) → wpAny C.M A (getMethod u (nm 232421354) pl) Q E s := by
  intro v H ρ s u pl A Q E hk S hv h
  obtain ⟨t, rfl⟩ := kind_str hk
  obtain ⟨ok, tk, rfl⟩ := hv
  have e : nm 232421354 = Str.ofString "join" := by decide +kernel
  rw [e]
  exact GM.join (h s.toks)

theorem get_append : ∀ v H ρ s u pl A (Q : Value × List Value → Shared → Prop) E, kindA v H = some .list → Sim C ρ H s → VR C ρ v u → (∀ t, Q (.builtin "list.append", [u]) { s with toks := t }) → wpAny C.M A (getMethod u (nm 3465715398753) pl) Q E s := by
  intro v H ρ s u pl A Q E hk S hv h
  obtain ⟨n, xs, rfl, e1⟩ := kind_list hk
  obtain ⟨a, rfl, ea, us, k, ho, _⟩ := S.lookup e1 hv
  have e : nm 3465715398753 = Str.ofString "append" := by decide +kernel
  rw [e]
  exact getMethod_list_append ho rfl rfl (h s.toks)

/-- the globals that are built in -/
noncomputable def biL : List (Str × Value) := [(nm 1815276, .builtin "len"), (nm 938756632654307293673, .builtin "isinstance"), (nm 1815789, .builtin "min"), (nm 1978605, .builtin "max"), (nm 1800947, .builtin "sum"), (nm 1783393, .builtin "all"),
  (nm 3463330969587, .builtin "sorted"), (nm 27329802482, .type "range"), (nm 56743180225065714, .type "reversed"), (nm 7343549747291846501, .type "enumerate"), (nm 244905188, .type "dict"), (nm 245167340, .type "list"), (nm 27340323572, .type "tuple"),
  (nm 1914729, .type "int"), (nm 1882739, .type "str"), (nm 228325346, .type "bool")]

end
end Mine
end
section
namespace Mine
open PySem

/-! Steps of the abstract machine, each for values of known shape. -/

section
variable {H : AHeap} {Q : VPost} {X : XPost} {q : Bool → Prop}

theorem st_len_str (t : Txt) : spLen [.str t] H Q X = Q (.int t.length) H := rfl
theorem st_len_list {n : Nat} {xs : List V} (h : H[n]? = some (.list xs)) : spLen [.ref n] H Q X = Q (.int xs.length) H := by unfold spLen lenA; dsimp only; rw [h]
theorem st_len_tuple {n : Nat} {xs : List V} (h : H[n]? = some (.tuple xs)) : spLen [.ref n] H Q X = Q (.int xs.length) H := by unfold spLen lenA; dsimp only; rw [h]
theorem st_len_dict {n ep : Nat} {es : List (Txt × V)} (h : H[n]? = some (.dict es ep)) : spLen [.ref n] H Q X = Q (.int es.length) H := by unfold spLen lenA; dsimp only; rw [h]

theorem cut_zero {α : Type} (xs : List α) (j : Nat) : cut xs 0 j = xs.take j := by unfold cut; simp
theorem cut_all {α : Type} (xs : List α) (i : Nat) : cut xs i xs.length = xs.drop i := by unfold cut; simp
theorem clip_nat (k m : Nat) : clip (k : Int) m = min k m := by unfold clip; simp
theorem take_clip {α : Type} (xs : List α) (k : Nat) : xs.take (min k xs.length) = xs.take k := by
  rcases Nat.le_total k xs.length with h | h
  · rw [Nat.min_eq_left h]
  · rw [Nat.min_eq_right h, List.take_of_length_le h, List.take_of_length_le (Nat.le_refl _)]
theorem drop_clip {α : Type} (xs : List α) (k : Nat) : xs.drop (min k xs.length) = xs.drop k := by
  rcases Nat.le_total k xs.length with h | h
  · rw [Nat.min_eq_left h]
  · rw [Nat.min_eq_right h, List.drop_of_length_le h, List.drop_of_length_le (Nat.le_refl _)]
theorem take_clip_int {α : Type} (xs : List α) {k : Int} (h : 0 ≤ k) : xs.take (clip k xs.length) = xs.take k.toNat := by unfold clip; rw [if_pos h, take_clip]
theorem drop_clip_int {α : Type} (xs : List α) {k : Int} (h : 0 ≤ k) : xs.drop (clip k xs.length) = xs.drop k.toNat := by unfold clip; rw [if_pos h, drop_clip]
theorem cut_clip_int {α : Type} (xs : List α) {i j : Int} (hi : 0 ≤ i) (hj : 0 ≤ j) : cut xs (clip i xs.length) (clip j xs.length) = (xs.drop i.toNat).take (j.toNat - i.toNat) := by
  unfold cut
  rw [take_clip_int xs hj]
  unfold clip
  rw [if_pos hi, List.drop_take, drop_clip]
  rcases Nat.le_total i.toNat xs.length with h | h
  · rw [Nat.min_eq_left h]
  · rw [Nat.min_eq_right h, List.drop_of_length_le h]; simp

theorem st_to (t : Txt) (j : Int) : sliceA (.str t) .none (.int j) H Q = Q (.str (t.take (clip j t.length))) H := by
  show Q (.str (cut t 0 (clip j t.length))) H = _; rw [cut_zero]
theorem st_from (t : Txt) (i : Int) : sliceA (.str t) (.int i) .none H Q = Q (.str (t.drop (clip i t.length))) H := by
  show Q (.str (cut t (clip i t.length) t.length)) H = _; rw [cut_all]
theorem st_cut (t : Txt) (i j : Int) : sliceA (.str t) (.int i) (.int j) H Q = Q (.str (cut t (clip i t.length) (clip j t.length))) H := rfl
theorem st_lto {n : Nat} {xs : List V} (h : H[n]? = some (.list xs)) (j : Int) : sliceA (.ref n) .none (.int j) H Q = Q (.ref H.length) (H ++ [.list (xs.take (clip j xs.length))]) := by
  unfold sliceA; dsimp only; rw [h]; show Q _ (H ++ [.list (cut xs 0 (clip j xs.length))]) = _; rw [cut_zero]
theorem st_lfrom {n : Nat} {xs : List V} (h : H[n]? = some (.list xs)) (i : Int) : sliceA (.ref n) (.int i) .none H Q = Q (.ref H.length) (H ++ [.list (xs.drop (clip i xs.length))]) := by
  unfold sliceA; dsimp only; rw [h]; show Q _ (H ++ [.list (cut xs (clip i xs.length) xs.length)]) = _; rw [cut_all]

theorem beq_dec {α : Type} [BEq α] [LawfulBEq α] [DecidableEq α] (a b : α) : (a == b) = decide (a = b) := by rw [Bool.eq_iff_iff]; simp

theorem st_eq_str (a b : Txt) : cmpA .Eq (.str a) (.str b) H q = q (decide (a = b)) := by
  show q (a == b) = _; rw [beq_dec]
theorem st_ne_str (a b : Txt) : cmpA .NotEq (.str a) (.str b) H q = q (!decide (a = b)) := by
  show q (!(a == b)) = _; rw [beq_dec]
theorem st_eq_int (a b : Int) : cmpA .Eq (.int a) (.int b) H q = q (decide (a = b)) := by
  show q (a == b) = _; rw [beq_dec]
theorem st_ne_int (a b : Int) : cmpA .NotEq (.int a) (.int b) H q = q (!decide (a = b)) := by
  show q (!(a == b)) = _; rw [beq_dec]
theorem st_eq_none_none : cmpA .Eq .none .none H q = q true := rfl
theorem st_ne_none_none : cmpA .NotEq .none .none H q = q false := rfl
theorem st_lt (a b : Int) : cmpA .Lt (.int a) (.int b) H q = q (decide (a < b)) := rfl
theorem st_le (a b : Int) : cmpA .LtE (.int a) (.int b) H q = q (decide (a ≤ b)) := rfl
theorem st_gt (a b : Int) : cmpA .Gt (.int a) (.int b) H q = q (decide (a > b)) := rfl
theorem st_ge (a b : Int) : cmpA .GtE (.int a) (.int b) H q = q (decide (a ≥ b)) := rfl
theorem st_is (a : V) : cmpA .Is a .none H q = q (decide (a = .none)) := by show (V.none = V.none ∧ _) = _; simp
theorem st_isnot (a : V) : cmpA .IsNot a .none H q = q (!decide (a = .none)) := by show (V.none = V.none ∧ _) = _; simp

theorem st_add (a b : Int) : binA .Add (.int a) (.int b) H Q = Q (.int (a + b)) H := rfl
theorem st_sub (a b : Int) : binA .Sub (.int a) (.int b) H Q = Q (.int (a - b)) H := rfl
theorem st_mul (a b : Int) (h : a.natAbs < 2 ^ 63 ∨ b.natAbs < 2 ^ 63) : binA .Mult (.int a) (.int b) H Q = Q (.int (a * b)) H := by show (_ ∧ _) = _; simp only [h, true_and]
theorem st_div (a b : Int) (h : 0 < b) (h2 : b < 1073741824) : binA .FloorDiv (.int a) (.int b) H Q = Q (.int (a / b)) H := by show (_ ∧ _ ∧ _) = _; simp only [h, h2, true_and]
theorem st_mod (a b : Int) (h : 0 < b) : binA .Mod (.int a) (.int b) H Q = Q (.int (a % b)) H := by show (_ ∧ _) = _; simp only [h, true_and]
theorem st_cat (t u : Txt) (h : t.length + u.length ≤ lid) : binA .Add (.str t) (.str u) H Q = Q (.str (t ++ u)) H := by show (_ ∧ _) = _; simp only [h, true_and]
theorem st_lcat {m n : Nat} {xs ys : List V} (h1 : H[m]? = some (.list xs)) (h2 : H[n]? = some (.list ys)) (h : xs.length + ys.length ≤ lid) : binA .Add (.ref m) (.ref n) H Q = Q (.ref H.length) (H ++ [.list (xs ++ ys)]) := by
  show (match H[m]?, H[n]? with
    | some (.list xs), some (.list ys) => xs.length + ys.length ≤ lid ∧ Q (.ref H.length) (H ++ [AObj.list (xs ++ ys)])
    | _, _ => False) = _
  rw [h1, h2]; simp only [h, true_and]

theorem place_in {k : Int} {n : Nat} (h0 : 0 ≤ k) (h1 : k < n) : place k n = some k.toNat := by
  unfold place; rw [if_pos h0, if_pos (by omega)]
theorem st_at {n : Nat} {xs : List V} {k : Int} {p : V → Prop} (h : H[n]? = some (.list xs)) (h0 : 0 ≤ k) (h1 : k < xs.length) : subA (.ref n) (.int k) H p = p (xs[k.toNat]'(by omega)) := by
  unfold subA; dsimp only; rw [h]; dsimp only; rw [place_in h0 h1]; dsimp only; rw [List.getElem?_eq_getElem (by omega)]
theorem st_at_t {n : Nat} {xs : List V} {k : Int} {p : V → Prop} (h : H[n]? = some (.tuple xs)) (h0 : 0 ≤ k) (h1 : k < xs.length) : subA (.ref n) (.int k) H p = p (xs[k.toNat]'(by omega)) := by
  unfold subA; dsimp only; rw [h]; dsimp only; rw [place_in h0 h1]; dsimp only; rw [List.getElem?_eq_getElem (by omega)]
theorem st_sign {t : Txt} {k : Int} {p : V → Prop} (h0 : 0 ≤ k) (h1 : k < t.length) : subA (.str t) (.int k) H p = p (.str [t[k.toNat]'(by omega)]) := by
  unfold subA; dsimp only; rw [place_in h0 h1]; dsimp only
  rw [List.drop_eq_getElem_cons (by omega)]; rfl

theorem bind_name {y : Str} {v : V} {σ : Sg} : bindA (.name y) (.one v) H σ = some (σ.set y v) := rfl
theorem bind_tup {ys : List Str} {n : Nat} {vs : List V} {σ : Sg} (h : H[n]? = some (.tuple vs)) (hl : ys.length = vs.length) : bindA (.tup ys) (.one (.ref n)) H σ = some (σ.sets (ys.zip vs)) := by
  unfold bindA; dsimp only; rw [h]; dsimp only; rw [if_pos hl]
theorem bind_many {ys : List Str} {vs : List V} {σ : Sg} (hl : ys.length = vs.length) : bindA (.tup ys) (.many vs) H σ = some (σ.sets (ys.zip vs)) := by
  unfold bindA; dsimp only; rw [if_pos hl]
theorem st_list {vs : List V} {p : Prop} (h : vs.length ≤ lid) : (vs.length ≤ lid ∧ p) = p := by simp only [h, true_and]

theorem intsFrom_len (a : Int) (n : Nat) : (intsFrom a n).length = n := by unfold intsFrom; simp
theorem intsFrom_mem {a i : Int} {n : Nat} (h : i ∈ intsFrom a n) : a ≤ i ∧ i < a + n := by
  unfold intsFrom at h
  simp only [List.mem_map, List.mem_range] at h
  obtain ⟨k, hk, rfl⟩ := h
  omega

/-- a list of one-sign texts -/
theorem txts_signs {α : Type} {P : α → V → Prop} (hP : ∀ x v, P x v → ∃ c, v = .str [c]) : ∀ {xs : List α} {vs : List V}, All2 P xs vs → ∃ ts, txts vs = some ts ∧ ts.flatten.length = xs.length ∧ (ts.map List.length).sum = xs.length ∧ ts.length = xs.length
  | _, _, .nil => ⟨[], rfl, rfl, rfl, rfl⟩
  | _, _, .cons h r => by
    obtain ⟨ts, e1, e2, e3, e4⟩ := txts_signs hP r
    obtain ⟨c, rfl⟩ := hP _ _ h
    exact ⟨[c] :: ts, by simp [txts, e1], by simp [e2], by simp [e3]; omega, by simp [e4]⟩

theorem st_any {n : Nat} {xs : List V} {k : Int} {p : V → Prop} (h : H[n]? = some (.list xs)) (h0 : 0 ≤ k) (h1 : k < xs.length) (hp : ∀ v ∈ xs, p v) : subA (.ref n) (.int k) H p := by
  rw [st_at h h0 h1]; exact hp _ (List.getElem_mem _)

theorem tr_bool (b : Bool) : truthyA (.bool b) = some b := rfl
theorem tr_int (i : Int) : truthyA (.int i) = some (i != 0) := rfl
theorem tr_str (t : Txt) : truthyA (.str t) = some (!t.isEmpty) := rfl
theorem tr_none : truthyA .none = some false := rfl

theorem items_list {n : Nat} {xs : List V} {p : List Item → (AHeap → Prop) → Prop} (h : H[n]? = some (.list xs)) : itemsA (.ref n) H p = p (xs.map .one) (fun H' => H'[n]? = some (.list xs)) := by unfold itemsA; dsimp only; rw [h]
theorem items_tuple {n : Nat} {xs : List V} {p : List Item → (AHeap → Prop) → Prop} (h : H[n]? = some (.tuple xs)) : itemsA (.ref n) H p = p (xs.map .one) (fun H' => H'[n]? = some (.tuple xs)) := by unfold itemsA; dsimp only; rw [h]
theorem items_dict {n ep : Nat} {es : List (Txt × V)} {p : List Item → (AHeap → Prop) → Prop} (h : H[n]? = some (.dict es ep)) : itemsA (.ref n) H p = p (es.map fun e => .one (.str e.1)) (fun H' => H'[n]? = some (.dict es ep)) := by unfold itemsA; dsimp only; rw [h]
theorem items_str {t : Txt} {p : List Item → (AHeap → Prop) → Prop} : itemsA (.str t) H p = p (t.map fun c => .one (.str [c])) (fun _ => True) := rfl

theorem rd_tuple {a n : Nat} {xs : List V} (h : H[a]? = some (.tuple xs)) : rd H (n + 1) (.ref a) = (rdL (rd H n) xs).map .tuple := by simp only [rd, h]
theorem rd_list {a n : Nat} {xs : List V} (h : H[a]? = some (.list xs)) : rd H (n + 1) (.ref a) = (rdL (rd H n) xs).map .list := by simp only [rd, h]
theorem eq_data {a b : V} {x y : Dt} {c : Bool → Prop} (ha : rd H 6 a = some x) (hb : rd H 6 b = some y) : cmpA .Eq a b H c = c (Dt.eqv x y) := by
  show eqA H a b c = _; unfold eqA; rw [ha, hb]
theorem ne_data {a b : V} {x y : Dt} {c : Bool → Prop} (ha : rd H 6 a = some x) (hb : rd H 6 b = some y) : cmpA .NotEq a b H c = c (!Dt.eqv x y) := by
  show eqA H a b (fun r => c (!r)) = _; unfold eqA; rw [ha, hb]
theorem ty_list {n : Nat} {xs : List V} (h : H[n]? = some (.list xs)) : tyA (.ref n) H = some .list := by unfold tyA; dsimp only; rw [h]
theorem ty_tuple {n : Nat} {xs : List V} (h : H[n]? = some (.tuple xs)) : tyA (.ref n) H = some .tuple := by unfold tyA; dsimp only; rw [h]
theorem ty_dict {n ep : Nat} {es : List (Txt × V)} (h : H[n]? = some (.dict es ep)) : tyA (.ref n) H = some .dict := by unfold tyA; dsimp only; rw [h]

theorem get_new {o : AObj} : (H ++ [o])[H.length]? = some o := by simp
end

/-! a heap that has kept all that it had -/
structure Keep (H H' : AHeap) : Prop where
  le : H.length ≤ H'.length
  old : ∀ i, i < H.length → H'[i]? = H[i]?
theorem Keep.refl (H : AHeap) : Keep H H := ⟨Nat.le_refl _, fun _ _ => rfl⟩
theorem Keep.trans {H H1 H2 : AHeap} (a : Keep H H1) (b : Keep H1 H2) : Keep H H2 := ⟨Nat.le_trans a.le b.le, fun i h => (b.old i (Nat.lt_of_lt_of_le h a.le)).trans (a.old i h)⟩
theorem Keep.new (H : AHeap) (G : List AObj) : Keep H (H ++ G) := ⟨by simp, fun i h => List.getElem?_append_left h⟩
theorem Keep.get {H H' : AHeap} (k : Keep H H') {n : Nat} {o : AObj} (h : H[n]? = some o) : H'[n]? = some o := (k.old n (List.getElem?_eq_some_iff.mp h).1).trans h
theorem Keep.set {H H' : AHeap} (k : Keep H H') {n : Nat} {o : AObj} (h : H.length ≤ n) : Keep H (H'.set n o) := ⟨by simpa using k.le, fun i hi => by rw [List.getElem?_set_ne (by omega)]; exact k.old i hi⟩
theorem lt_of_get {H : AHeap} {n : Nat} {o : AObj} (h : H[n]? = some o) : n < H.length := (List.getElem?_eq_some_iff.mp h).1

/-- a comprehension whose element is found without touching what stood before -/
theorem comp_map {K : AHeap → Prop} {bind : Item → AHeap → Option Sg} {elt : Sg → AHeap → VPost → Prop} {Q : List V → AHeap → Prop} {P : Item → V → Prop} : ∀ (items : List Item) (acc : List V) (H : AHeap),
    (∀ H', Keep H H' → K H') →
    (∀ x ∈ items, ∀ H', Keep H H' → ∃ σ, bind x H' = some σ ∧ ∀ q : VPost, (∀ v H'', P x v → Keep H' H'' → q v H'') → elt σ H' q) →
    (∀ vs H', All2 P items vs → Keep H H' → Q (acc ++ vs) H') → compGo K bind (fun _ H' q => q true H') elt Q items acc H
  | [], acc, H, hK, _, hQ => ⟨hK H (Keep.refl H), by simpa using hQ [] H .nil (Keep.refl H)⟩
  | x :: xs, acc, H, hK, hx, hQ => by
    obtain ⟨σ, hb, he⟩ := hx x (.head _) H (Keep.refl H)
    refine ⟨hK H (Keep.refl H), ?_⟩
    rw [hb]
    dsimp only
    rw [if_pos rfl]
    refine he _ fun v H1 hv k1 => ?_
    refine comp_map xs (acc ++ [v]) H1 (fun H' k => hK H' (k1.trans k)) (fun y hy H' k => hx y (.tail _ hy) H' (k1.trans k)) fun vs H' hvs k => ?_
    have := hQ (v :: vs) H' (.cons hv hvs) (k1.trans k)
    simpa using this

/-- one with a test -/
theorem comp_filter {K : AHeap → Prop} {bind : Item → AHeap → Option Sg} {test : Sg → AHeap → (Bool → AHeap → Prop) → Prop} {elt : Sg → AHeap → VPost → Prop} {Q : List V → AHeap → Prop} {p : Item → Bool} {P : Item → V → Prop} : ∀ (items : List Item) (acc : List V) (H : AHeap),
    (∀ H', Keep H H' → K H') →
    (∀ x ∈ items, ∀ H', Keep H H' → ∃ σ, bind x H' = some σ ∧ (∀ q : Bool → AHeap → Prop, (∀ H'', Keep H' H'' → q (p x) H'') → test σ H' q) ∧ (p x = true → ∀ H1, Keep H' H1 → ∀ q : VPost, (∀ v H'', P x v → Keep H1 H'' → q v H'') → elt σ H1 q)) →
    (∀ vs H', All2 P (items.filter p) vs → Keep H H' → Q (acc ++ vs) H') → compGo K bind test elt Q items acc H
  | [], acc, H, hK, _, hQ => ⟨hK H (Keep.refl H), by simpa using hQ [] H .nil (Keep.refl H)⟩
  | x :: xs, acc, H, hK, hx, hQ => by
    obtain ⟨σ, hb, ht, he⟩ := hx x (.head _) H (Keep.refl H)
    refine ⟨hK H (Keep.refl H), ?_⟩
    rw [hb]
    dsimp only
    refine ht _ fun H1 k1 => ?_
    cases hp : p x with
    | true =>
      rw [if_pos rfl]
      refine he hp H1 k1 _ fun v H2 hv k2 => ?_
      have k12 := k1.trans k2
      refine comp_filter xs (acc ++ [v]) H2 (fun H' k => hK H' (k12.trans k)) (fun y hy H' k => hx y (.tail _ hy) H' (k12.trans k)) fun vs H' hvs k => ?_
      have := hQ (v :: vs) H' (by rw [List.filter_cons, if_pos hp]; exact .cons hv hvs) (k12.trans k)
      simpa using this
    | false =>
      rw [if_neg (by simp)]
      refine comp_filter xs acc H1 (fun H' k => hK H' (k1.trans k)) (fun y hy H' k => hx y (.tail _ hy) H' (k1.trans k)) fun vs H' hvs k => ?_
      exact hQ vs H' (by rw [List.filter_cons, if_neg (by simp [hp])]; exact hvs) (k1.trans k)

/-- what is asked of the law itself -/
noncomputable def spLaw : Spec := fun vs H Q _ => vs = [.ref 0] ∧ (∃ is : List Int, H[0]? = some (.list (is.map .int))) ∧ ∀ H', Q (.bool true) H'

/-! loops by what stays true -/
theorem while_ind {test : Sg → AHeap → (Bool → AHeap → Prop) → Prop} {body : Sg → AHeap → SPost → Prop} {Q : SPost} (I : Nat → Sg → AHeap → Prop)
    (step : ∀ n σ H, I n σ H → ∀ W : Sg → AHeap → Prop, (∀ m σ H, n = m + 1 → I m σ H → W σ H) →
      test σ H fun b H1 => if b then body σ H1 fun fl σ2 H2 => match fl with
        | .next => W σ2 H2
        | .brk => Q .next σ2 H2
        | .ret v => Q (.ret v) σ2 H2
      else Q .next σ H1) : ∀ n σ H, I n σ H → whileGo test body Q (n + 1) σ H
  | 0, σ, H, h => step 0 σ H h (whileGo test body Q 0) fun m _ _ e => by cases e
  | n + 1, σ, H, h => step (n + 1) σ H h (whileGo test body Q (n + 1)) fun m σ' H' e hi => by cases e; exact while_ind I step n σ' H' hi

theorem for_ind {K : AHeap → Prop} {bind : Item → AHeap → Sg → Option Sg} {body : Sg → AHeap → SPost → Prop} {Q : SPost} (I : List Item → Sg → AHeap → Prop)
    (step : ∀ x xs σ H, I (x :: xs) σ H → K H ∧ ∃ σ', bind x H σ = some σ' ∧ ∀ W : Sg → AHeap → Prop, (∀ σ2 H2, I xs σ2 H2 → W σ2 H2) → body σ' H fun fl σ2 H2 => match fl with
        | .next => W σ2 H2
        | .brk => Q .next σ2 H2
        | .ret v => Q (.ret v) σ2 H2)
    (fin : ∀ σ H, I [] σ H → K H ∧ Q .next σ H) : ∀ items σ H, I items σ H → forGo K bind body Q items σ H
  | [], σ, H, h => fin σ H h
  | x :: xs, σ, H, h => by
    obtain ⟨hK, σ', hb, hs⟩ := step x xs σ H h
    refine ⟨hK, ?_⟩
    rw [hb]
    exact hs (forGo K bind body Q xs) fun σ2 H2 h2 => for_ind I step fin xs σ2 H2 h2

end Mine
end
section
namespace Mine
open PySem PySem.Calls PyProof.Rows PySem.W

/-! From the ground that the law's head lays to the walk. -/

noncomputable def gOf (mg mb : Str → Option Value) : Str → Option Value := fun x => match mg x with
  | some .none => none
  | some v => some v
  | none => (match mb x with
    | some .none => none
    | r => r)

theorem gOf_none {mg mb : Str → Option Value} (x : Str) : gOf mg mb x ≠ some .none := by
  unfold gOf
  cases mg x with
  | none =>
    dsimp only
    cases mb x with
    | none => exact fun h => nomatch h
    | some v => cases v <;> exact fun h => nomatch h
  | some v => cases v <;> exact fun h => nomatch h
theorem gOf_is {mg mb : Str → Option Value} (x : Str) (v : Value) (h : gOf mg mb x = some v) : mg x = some v ∨ (mg x = none ∧ mb x = some v) := by
  unfold gOf at h
  cases e : mg x with
  | none =>
    rw [e] at h
    dsimp only at h
    right
    refine ⟨rfl, ?_⟩
    cases e2 : mb x with
    | none => rw [e2] at h; cases h
    | some u => rw [e2] at h; cases u <;> first | exact h | cases h
  | some u =>
    rw [e] at h
    left
    cases u <;> first | exact h | cases h

noncomputable def cxOf (prog : Program) (w : World) (s : Shared) {p : Program} {loose : List Str} {mean : ExcName → Option Value} {mg mb : Str → Option Value} (T : Top p loose mean mg mb s.heap) : Cx where
  prog := prog
  w := w
  base := s.heap
  os := s.os
  G := gOf mg mb
  mg := mg
  mb := mb
  hg := T.g
  hb := T.b
  lim := T.nolimit
  hN := gOf_none
  hG := gOf_is

/-- a definition among those of the text, translated -/
noncomputable def chk (ds : List DefRec) (f : Str) : Option (List Str × PS) := match ds.find? (fun d => d.name == f) with
  | some d => if goodDef d.params d.scope then (trS 60 (fun x => d.scope.names.lookup x) d.body).map fun ps => (d.params.args.map (·.arg), ps) else none
  | none => none

section
variable {prog : Program} {w : World} {s : Shared} {p : Program} {loose : List Str} {mean : ExcName → Option Value} {mg mb : Str → Option Value} (T : Top p loose mean mg mb s.heap)

theorem defAt_of {f : Str} {xs : List Str} {ps : PS} (h : chk (recsOf p) f = some (xs, ps)) : DefAt (cxOf prog w s T) f xs ps ∧ ∃ a, mg f = some (.ref a) := by
  unfold chk at h
  split at h
  · rename_i d hd
    split at h
    · rename_i hg
      cases ht : trS 60 (fun x => d.scope.names.lookup x) d.body with
      | none => rw [ht] at h; cases h
      | some ps' =>
        rw [ht] at h
        cases h
        have hn : d.name = f := beq_iff_eq.mp (List.find?_some (p := fun e : DefRec => e.name == f) hd)
        obtain ⟨a, o, pm, code, doc, h1, h2, h3, h4⟩ := T.fn d (List.mem_of_find?_eq_some hd)
        rw [hn] at h1
        refine ⟨⟨a, o, d.name, d.params, d.body, d.scope, pm, code, doc, ?_, h2, h3, h4, hg, ht, rfl⟩, a, h1⟩
        show gOf mg mb f = some (.ref a)
        unfold gOf
        rw [h1]
    · cases h
  · cases h

theorem boot_bi : ∀ p ∈ biL, bootBuiltins p.1 = some p.2 := by
  intro p hp
  simp only [biL, List.mem_cons, List.not_mem_nil, or_false] at hp
  rcases hp with rfl | rfl | rfl | rfl | rfl | rfl | rfl | rfl | rfl | rfl | rfl | rfl | rfl | rfl | rfl | rfl <;> kernel_rfl

noncomputable def freeOf (p : Program) (loose : List Str) (x : Str) : Bool := !startupNames.contains x && !loose.contains x && !((recsOf p).map (·.name)).contains x && !((litsOf p).map (·.1)).contains x && !((clssOf p loose).map (·.name)).contains x && x != Str.ofString "__name__"

theorem bi_of (h : (biL.all fun q => freeOf p loose q.1) = true) : ∀ q ∈ biL, (cxOf prog w s T).G q.1 = some q.2 := by
  intro q hq
  have hf := List.all_eq_true.mp h q hq
  unfold freeOf at hf
  simp only [Bool.and_eq_true, Bool.not_eq_true', List.contains_eq_mem, decide_eq_false_iff_not, bne_iff_ne] at hf
  obtain ⟨⟨⟨⟨⟨h1, h2⟩, h3⟩, h4⟩, h5⟩, h6⟩ := hf
  have hm := T.free q.1 h1 h2 h3 h4 h5
  have hb := (T.builtins q.1 h6).trans (boot_bi q hq)
  show gOf mg mb q.1 = some q.2
  unfold gOf
  rw [hm, hb]
  simp only [biL, List.mem_cons, List.not_mem_nil, or_false] at hq
  rcases hq with rfl | rfl | rfl | rfl | rfl | rfl | rfl | rfl | rfl | rfl | rfl | rfl | rfl | rfl | rfl | rfl <;> rfl

theorem ints_vr {C : Cx} {ρ : List Addr} : ∀ {vs : List Value} {ns : List Int}, IntsAre vs ns → All2 (VR C ρ) (ns.map .int) vs
  | _, _, .nil => .nil
  | _, _, .cons i t h => .cons ⟨t, rfl⟩ (ints_vr h)

/-- the state that the law starts in -/
theorem start_sim {l : Addr} {vs : List Value} {ns : List Int} {P : Params} (hw : Well P s.heap (.ref l) (ofPy (.list (ns.map .int)))) (hL : s.heap.IsList l vs.toArray) (hI : IntsAre vs ns) (hlen : ns.length ≤ 63) (hl : l ≠ sysModules) (hg : s.gens = #[]) :
    Sim (cxOf prog w s T) [l] [.list (ns.map .int)] s := by
  refine ⟨rfl, by simp, fun i a o e q => ?_, fun b o e => e, fun i a e hi => ?_, by simpa using Ne.symm hl, hg, rfl⟩
  · cases i with
    | zero =>
      simp at e q
      subst e q
      cases hw with
      | list ho _ =>
        obtain ⟨o', ho', _, n, hd⟩ := hL
        rw [ho] at ho'
        cases ho'
        simp only at hd
        injection hd with e1 e2
        refine ⟨_, _, ho, ?_, by simpa [lid] using Nat.le_trans hlen (by decide)⟩
        rw [e1]
        exact ints_vr hI
    | succ i => cases e
  · cases i with
    | zero => exact absurd rfl hi
    | succ i => cases e

/-- the law's end -/
theorem end_good {prog : Program} {c : ClaimW} {cl : Str → Option Addr} {mean' : ExcName → Option Value} {args : List WData} {ρ : List Addr} {u : Value} {s' : Shared} (hr : ∀ cls, c.raises args cls = false) (hp : c.post args (.bool true) args = true)
    (h : PV (cxOf prog w s T) ρ s (fun v _ => v = .bool true) u s') : GoodW c cl mean' args s (.ok (.ret u)) s' := by
  obtain ⟨ρ', H', v, st, S, hv, rfl⟩ := h
  have hv : u = .bool true := hv
  subst hv
  exact ⟨.inl ⟨_, .bool true, [], rfl, hr, .bool true, hp, fun _ => ⟨by simp, fun a ha => by cases ha⟩⟩, fun b o e => S.stays b o e, S.os, S.gens⟩

theorem law_done {prog : Program} {Tb : Tab} {K : Nat} {f : Str} {xs : List Str} {ps : PS} {fa l : Addr} {vs : List Value} {ns : List Int} {P : Params} {c : ClaimW} {cl : Str → Option Addr} {mean' : ExcName → Option Value} {args : List WData}
    (hT : TabOk (cxOf prog w s T) Tb K) (hK : K ≤ 200) (hd : chk (recsOf p) f = some (xs, ps)) (hct : Ct Tb xs ps spLaw) (hmg : mg f = some (.ref fa))
    (hw : Well P s.heap (.ref l) (ofPy (.list (ns.map .int)))) (hL : s.heap.IsList l vs.toArray) (hI : IntsAre vs ns) (hlen : ns.length ≤ 63) (hl : l ≠ sysModules) (hg : s.gens = #[])
    (hr : ∀ cls, c.raises args cls = false) (hp : c.post args (.bool true) args = true) : codeAny (model prog w) callerA (.call (.ref fa) ⟨[.ref l], []⟩) (GoodWG c cl mean' args s) s := by
  have S := start_sim (prog := prog) (w := w) T hw hL hI hlen hl hg
  obtain ⟨⟨a, o, name, params, body, sc, pm, cd, doc, h1, h2, h3, h4, h5, h6, rfl⟩, a', ha'⟩ := defAt_of (prog := prog) (w := w) T hd
  rw [hmg] at ha'
  cases ha'
  have e : fa = a := by
    have h1 : gOf mg mb f = some (.ref a) := h1
    unfold gOf at h1
    rw [hmg] at h1
    cases h1; rfl
  subst e
  have hA : AOk (K + 1) callerA := ⟨rfl, by show 301 + (K + 1) < 1000; omega, by show 4 + 5 * (K + 1) + 200 < 9900; omega⟩
  refine codeAny_mono (fn_code (C := cxOf prog w s T) (E := fun _ _ => False) hT h2 h3 h4 h5 h6 (vs := [.ref 0]) (Q := fun v _ => v = .bool true) (X := fun _ _ => False) (hct _ _ _ _ ⟨rfl, ⟨ns, rfl⟩, fun _ => rfl⟩) S (.cons ⟨l, rfl, rfl⟩ .nil) hA fun _ _ p => p.none) ?_
  intro r s' h
  match r, h with
  | .ok (.ret v), h => exact GoodW.toG (end_good T hr hp h)

end
end Mine
end
section
namespace Mine
open PySem PySem.Calls PyProof.Rows

/-! More of what is built in: list(), sum, all, clear. -/

noncomputable def spList : Spec := fun vs H Q _ => match vs with
  | [.ref n] => (match H[n]? with
    | some (.list xs) => Q (.ref H.length) (H ++ [.list xs])
    | some (.tuple xs) => Q (.ref H.length) (H ++ [.list xs])
    | _ => False)
  | _ => False

noncomputable def intsOf : List V → Option (List Int)
  | [] => some []
  | .int i :: r => (intsOf r).map (i :: ·)
  | _ => none
noncomputable def spSum : Spec := fun vs H Q _ => match vs with
  | [.ref n] => (match H[n]? with
    | some (.list xs) => (match intsOf xs with | some is => Q (.int is.sum) H | none => False)
    | _ => False)
  | _ => False

noncomputable def bools : List V → Option (List Bool)
  | [] => some []
  | .bool i :: r => (bools r).map (i :: ·)
  | _ => none
noncomputable def spAll : Spec := fun vs H Q _ => match vs with
  | [.ref n] => (match H[n]? with
    | some (.list xs) => (match bools xs with | some bs => Q (.bool (bs.all id)) H | none => False)
    | _ => False)
  | _ => False

noncomputable def spClear : Spec := fun vs H Q _ => match vs with
  | [.ref n] => n ≠ 0 ∧ (match H[n]? with
    | some (.list xs) => Q .none (H.set n (.list []))
    | _ => False)
  | _ => False

section
variable {C : Cx} {K : Nat}

theorem ok_list_call : CallOk C K spList (.type "list") := by
  intro vs H Q X h ρ s us A E S hus hA hE
  unfold spList at h
  split at h
  · rename_i n
    obtain ⟨u, rfl, hu⟩ := all2_one hus
    have main : ∀ {T : String} {a : Addr} {us : Array Value} {k : Nat} {xs : List V}, (T = "list" ∨ T = "tuple") → s.heap.get? a = some ⟨.type T, none, .seq us k, #[]⟩ → All2 (VR C ρ) xs us.toList → xs.length ≤ lid → Q (.ref H.length) (H ++ [.list xs]) →
        wpAny C.M A (call (.type "list") [.ref a]) (PV C ρ s Q) E s := by
      intro T a us k xs hT ho hs hl hq
      have e : xs.length = us.size := by rw [hs.length]; simp
      refine call_list_seq a hT ho rfl rfl (fun h' c' hk hD => ?_) (by unfold lid at hl; unfold sizeLine; omega)
      obtain ⟨S1, st1, v1⟩ := S.alloc (h' := h') (tk := s.toks) (a := s.heap.objs.size) (o := .list xs) hk (get_size _) S.size_ne ⟨us, c', hD, hs, hl⟩
      exact ⟨_, _, _, st1, S1, v1, hq⟩
    split at h
    · rename_i xs e1
      obtain ⟨a, rfl, ea, us, k, ho, hs, hl⟩ := S.lookup e1 hu
      exact main (.inl rfl) ho hs hl h
    · rename_i xs e1
      obtain ⟨a, rfl, ea, us, k, ho, hs, hl⟩ := S.lookup e1 hu
      exact main (.inr rfl) ho hs hl h
    · exact h.elim
  · exact h.elim

theorem ints_are {ρ : List Addr} {xs : List V} {us : List Value} (h : All2 (VR C ρ) xs us) : ∀ {is : List Int}, intsOf xs = some is → IntsAre us is := by
  induction h with
  | nil => intro is h; cases h; exact .nil
  | @cons v u xs us hv _ ih =>
    intro is h
    cases v with
    | int i =>
      unfold intsOf at h
      cases e : intsOf xs with
      | none => rw [e] at h; cases h
      | some r =>
        rw [e] at h; cases h
        obtain ⟨t, rfl⟩ := hv
        exact .cons _ _ (ih e)
    | _ => cases h

theorem ok_sum : CallOk C K spSum (.builtin "sum") := by
  intro vs H Q X h ρ s us A E S hus hA hE
  unfold spSum at h
  split at h
  · rename_i n
    obtain ⟨u, rfl, hu⟩ := all2_one hus
    split at h
    · rename_i xs e1
      split at h
      · rename_i is hi
        obtain ⟨a, rfl, ea, us, k, ho, hs, hl⟩ := S.lookup e1 hu
        have hI := ints_are hs hi
        obtain ⟨ys, hy⟩ := (hI.allInts).items
        have hy' : us = intItems ys := by rw [← hy]
        subst hy'
        refine sum_intListG hA.h ⟨_, ho, rfl, k, rfl⟩ fun h' tk t' hk => ?_
        obtain ⟨S1, st1⟩ := S.grow (h' := h') (tk := tk) hk
        have e : preSum (numAt ys) ys.size = is.sum := by
          rw [preSum_eq, List.take_of_length_le (by simp), ← hI.numsOf, nums_intItems]
        rw [e]
        exact ⟨ρ, H, _, st1, S1, vi _ _, h⟩
      · exact h.elim
    · exact h.elim
  · exact h.elim

theorem bools_at {ρ : List Addr} {xs : List V} {us : List Value} (h : All2 (VR C ρ) xs us) : ∀ {bs : List Bool}, bools xs = some bs → us = bs.map Value.bool := by
  induction h with
  | nil => intro is h; cases h; rfl
  | @cons v u xs us hv _ ih =>
    intro is h
    cases v with
    | bool i =>
      unfold bools at h
      cases e : bools xs with
      | none => rw [e] at h; cases h
      | some r =>
        rw [e] at h; cases h
        have hv : u = .bool i := hv
        rw [hv, ih e]; rfl
    | _ => cases h

theorem ok_all : CallOk C K spAll (.builtin "all") := by
  intro vs H Q X h ρ s us A E S hus hA hE
  unfold spAll at h
  split at h
  · rename_i n
    obtain ⟨u, rfl, hu⟩ := all2_one hus
    split at h
    · rename_i xs e1
      split at h
      · rename_i bs hb
        obtain ⟨a, rfl, ea, us, k, ho, hs, hl⟩ := S.lookup e1 hu
        have hus := bools_at hs hb
        have hL : s.heap.IsList a us := ⟨_, ho, rfl, k, rfl⟩
        have hlt : a < s.heap.objs.size := Heap.lt_size ho
        refine call_all_walk (wpAny_pyIter_list hL ?_)
        refine ⟨_, _, _, _, _, _, fun i => (bs[i]?).getD true, rfl, Walks.list (A := A.in1) hA.h _ a (Nat.ne_of_lt hlt) us, ⟨⟨_, Heap.get?_push_size _ rfl, rfl, rfl⟩, hL.push _⟩, ?_, fun h' tk hk => ?_⟩
        · intro i v s' Q' E' hP hQ
          have h1 : us.toList[i]? = some v := by rw [Array.getElem?_toList]; exact hP
          rw [hus, List.getElem?_map] at h1
          cases e : bs[i]? with
          | none => rw [e] at h1; cases h1
          | some b =>
            dsimp only at hQ
            rw [e] at h1 hQ
            cases h1
            exact wpAny_truthy_bool hQ
        · have hlen : us.size = bs.length := by rw [← Array.length_toList, hus]; simp
          have e2 : (List.range us.size).all (fun i => (bs[i]?).getD true) = bs.all id := by
            rw [hlen, Bool.eq_iff_iff, List.all_eq_true, List.all_eq_true]
            constructor
            · intro hh b hb'
              obtain ⟨i, hi, rfl⟩ := List.getElem_of_mem hb'
              have := hh i (by simpa using hi)
              rw [List.getElem?_eq_getElem hi] at this
              exact this
            · intro hh i hi
              have hi : i < bs.length := by simpa using hi
              rw [List.getElem?_eq_getElem hi]
              exact hh _ (List.getElem_mem _)
          rw [e2]
          obtain ⟨S1, st1⟩ := S.grow (h' := h') (tk := tk) (fun b o e => hk b o (by simp; exact Nat.ne_of_lt (Heap.lt_size e)) (Heap.get?_push_of_some _ e))
          exact ⟨ρ, H, _, st1, S1, vb _, h⟩
      · exact h.elim
    · exact h.elim
  · exact h.elim

theorem ok_clear : CallOk C K spClear (.builtin "list.clear") := by
  intro vs H Q X h ρ s us A E S hus hA hE
  unfold spClear at h
  split at h
  · rename_i n
    obtain ⟨hn, h⟩ := h
    split at h
    · rename_i xs e1
      obtain ⟨u, rfl, hu⟩ := all2_one hus
      obtain ⟨a, rfl, ea, us, k, ho, hs, hl⟩ := S.lookup e1 hu
      have e : xs.length = us.size := by rw [hs.length]; simp
      refine call_meets F.slot_list_clear ⟨_, ho, rfl⟩ F.entry_list_clear (F.args_list_clear_1 _) (AutoSeq1.list_clear_list_0 a us k (by unfold lid at hl; unfold sizeLine; omega)) ⟨ho, ?_⟩
      obtain ⟨m, hm⟩ := mapSeq_plain (fun _ => #[]) us k
      have hfin := Heap.get?_update_self (Obj.mapSeq (fun _ => #[])) ho (by rw [hm]; rfl)
      rw [hm] at hfin
      obtain ⟨S1, st1⟩ := S.change (h' := s.heap.update a (Obj.mapSeq fun _ => #[])) (tk := s.toks) (o := .list []) hn ea (fun b x hb e => (Heap.SameBut.update ..).extBut b x hb e) ⟨_, m, hfin, .nil, by simp⟩
      exact ⟨ρ, _, .none, st1, S1, rfl, h⟩
    · exact h.elim
  · exact h.elim

theorem get_clear : ∀ v H ρ s u pl A (Q : Value × List Value → Shared → Prop) E, kindA v H = some .list → Sim C ρ H s → VR C ρ v u → (∀ t, Q (.builtin "list.clear", [u]) { s with toks := t }) → wpAny C.M A (getMethod u (nm 30806734435) pl) Q E s := by
  intro v H ρ s u pl A Q E hk S hv h
  obtain ⟨n, xs, rfl, e1⟩ := kind_list hk
  obtain ⟨a, rfl, ea, us, k, ho, _⟩ := S.lookup e1 hv
  have e : nm 30806734435 = Str.ofString "clear" := by decide +kernel
  rw [e]
  exact getMethod_builtin (T := "list") ⟨_, ho, rfl⟩ F.plainAttrs_list F.slot_list_clear F.type_list_clear (fun b hb => by cases hb; exact ⟨_, ho, rfl⟩) (h s.toks)

end
end Mine
end
section
namespace Mine
open PySem PySem.Calls PyProof.Rows

/-! sorted: the shell around the sort itself. -/

/-- the sort itself puts fewer than N things in order -/
noncomputable def SortLaw (N : Nat) : Prop := ∀ (prog : Program) (w : World) (A : Around) (E : Value → Shared → Prop) (s : Shared) (κ : PyProof.Rows.KeyKind) (a₀ : Array Keyed) (st : SortSt), κ.OneLt → KeysOf κ a₀ → SBase a₀ st → 2 ≤ a₀.size → a₀.size < N →
  wpS (model prog w) A E s sortRuns' (fun _ st' => (arrOf st').Perm a₀ ∧ failedOf st' = none ∧ SortedToK κ (arrOf st') a₀.size) st

theorem sortLaw64 : SortLaw 64 := fun prog w A E s κ a₀ st hO h0 hB h2 h64 => wpS_sortRunsK hO h0 hB h2 h64 fun st' a b c => ⟨a, b, c⟩

section
variable {prog : Program} {w : World} {A : Around} {E : Value → Shared → Prop} {s : Shared}

/-- list.sort with key=f -/
theorem sort_key_tree (a : Addr) (f : String) : Builtin.«list.sort» ⟨[.ref a], [(Str.ofString "key", .builtin f)]⟩ = (do
    let items ← Builtin.List.listItems (.ref a)
    Builtin.List.listUpdate (.ref a) fun _ => #[]
    let before ← seqEpoch a
    let held ← newTuple items.toList
    let keyStore ← newList []
    holding [held, keyStore] do
      rule "list.sort.key"
      for x in items do
        match ← (call (.builtin f) [x]).attempt with
        | .ok k => Builtin.List.listUpdate keyStore (·.push k)
        | .error e =>
          rule "list.sort.key-raised"
          let made ← Builtin.List.listItems keyStore
          Builtin.List.listUpdate keyStore fun _ => #[]
          letGo made.toList.reverse [e]
          Builtin.List.listUpdate (.ref a) fun _ => items; throw e
      let keys ← Builtin.List.listItems keyStore
      let kind ← if items.size < 2 then pure general' else keyKind' keys
      let ((), s) ← (if items.size < 2 then pure () else sortRuns').run (SortSt.mk' kind (keys.zip items) #[] 7 none)
      let sorted := (arrOf s).map (·.2)
      Builtin.List.listUpdate keyStore fun _ => #[]
      letGo ((arrOf s).map (·.1)).toList (failedOf s).toList
      let touched := (← seqEpoch a) != before
      Builtin.List.listUpdate (.ref a) fun _ => sorted
      if let some e := failedOf s then rule "list.sort.comparison-raised"; throw e
      if touched then rule "list.sort.modified"; raiseError "ValueError" "list modified during sort"
      ret .none) := rfl

/-- ints in order -/
noncomputable def intK : PyProof.Rows.KeyKind where
  α := Int
  blt a b := decide (a < b)
  irrefl a := by simp
  trans a b c h1 h2 := by simp only [decide_eq_true_eq] at *; omega
  negTrans a b c h := by simp only [decide_eq_true_eq] at *; omega
  total a b h1 h2 := by simp only [decide_eq_false_iff_not] at *; omega
  keyOf v := match v with | .int i _ => some i | _ => none
  dflt := 0
theorem intK_lt : intK.OneLt := by
  intro prog w A E s x y a b Q ha hb h
  cases x <;> first | (cases ha; done) | skip
  cases y <;> first | (cases hb; done) | skip
  cases ha; cases hb
  exact oneLt_int h

/-- all but one address stands as it was, and that one is a plain list -/
structure Left (a : Addr) (h h' : Heap) (xs : Array Value) : Prop where
  keep : ∀ b o, b ≠ a → h.get? b = some o → h'.get? b = some o
  obj : ∃ n, h'.get? a = some (seqObj "list" xs n)

theorem upd_keep {h : Heap} {a : Addr} {f : Obj → Obj} : ∀ b o, b ≠ a → h.get? b = some o → (h.update a f).get? b = some o := fun b o hb e => (Heap.get?_update_other h f (Ne.symm hb)).trans e

theorem sort_plain {N : Nat} (hN : SortLaw N) (hNs : N ≤ sizeLine) {κ : PyProof.Rows.KeyKind} (hO : κ.OneLt) {a : Addr} {vs : List Value} {n : Nat} {P : Fin → Shared → Prop} (ho : s.heap.get? a = some (seqObj "list" vs.toArray n))
    (h0 : KeysOf κ (pairsOf vs)) (hkk : 2 ≤ vs.length → keyKind' vs.toArray = pure oneType') (hlt : vs.length < N)
    (h : ∀ (xs : Array Keyed) h', xs.Perm (pairsOf vs) → SortedToK κ xs (pairsOf vs).size → Left a s.heap h' (xs.map (·.2)) → P (.done (.ret .none)) { s with heap := h' }) :
    wpAny (model prog w) A (Builtin.«list.sort» ⟨[.ref a], []⟩) P E s := by
  rw [list_sort_plain]
  have ha : a < s.heap.objs.size := Heap.lt_size ho
  have hvs : vs.toArray.size ≤ sizeLine := by simp; omega
  refine wpAny_bind (listItems_at ho rfl ?_)
  refine wpAny_bind (listUpdate_at ho rfl ?_ hvs (Nat.zero_le _))
  have k1 := upd_keep (h := s.heap) (a := a) (f := Obj.mapSeq fun _ => #[])
  obtain ⟨e1, ho1⟩ : ∃ e1, (s.heap.update a (Obj.mapSeq fun _ => #[])).get? a = some (seqObj "list" #[] e1) := ⟨_, get?_update_seq ho (fun _ => #[])⟩
  generalize s.heap.update a (Obj.mapSeq fun _ => #[]) = h1 at k1 ho1
  refine wpAny_bind (seqEpoch_at ho1 rfl ?_)
  refine wpAny_bind (wpAny_newTuple ?_ (by simpa using hvs))
  refine wpAny_bind (wpAny_newList ?_ (Nat.zero_le _))
  refine wpAny_holding ?_
  have k2 : ∀ b o, h1.get? b = some o → ((h1.push (seqObj "tuple" vs.toArray 0)).push (seqObj "list" #[] 0)).get? b = some o := fun b o e => Heap.get?_push_of_some _ (Heap.get?_push_of_some _ e)
  show wpAny (model prog w) A _ P E { s with heap := (h1.push (seqObj "tuple" vs.toArray 0)).push (seqObj "list" #[] 0) }
  generalize (h1.push (seqObj "tuple" vs.toArray 0)).push (seqObj "list" #[] 0) = h2 at k2
  have ho6 := k2 _ _ ho1
  dsimp only
  have fin : ∀ (xs : Array Keyed), xs.Perm (pairsOf vs) → SortedToK κ xs (pairsOf vs).size → P (.done (.ret .none)) { s with heap := h2.update a (Obj.mapSeq fun _ => xs.map (·.2)) } := fun xs hp hs => by
    refine h xs _ hp hs ⟨fun b o hb e => upd_keep b o hb (k2 b o (k1 b o hb e)), ?_⟩
    exact ⟨_, get?_update_seq ho6 (fun _ => xs.map (·.2))⟩
  by_cases h2' : vs.toArray.size < 2
  · rw [if_pos h2', if_pos h2']
    refine wpAny_bind (wpAny_pure ?_)
    rw [StateT.run_pure]
    refine wpAny_bind (wpAny_pure ?_)
    dsimp only
    refine wpAny_bind (seqEpoch_at ho6 rfl ?_)
    refine wpAny_bind (listUpdate_at ho6 rfl ?_ (Nat.zero_le _) (by rw [Array.size_map]; show (pairsOf vs).size ≤ _; rw [pairsOf_size]; omega))
    simp only [bne_self_eq_false, Bool.false_eq_true, if_false]
    refine wpAny_pure (fin (pairsOf vs) (Array.Perm.refl _) ?_)
    intro i j hij hj
    have : i = j := by rw [pairsOf_size] at hj; simp at h2'; omega
    subst this; exact KeyOrd.kle_refl _
  · rw [if_neg h2', if_neg h2']
    have hkk' : keyKind' vs.toArray = pure oneType' := hkk (by simp at h2'; omega)
    rw [hkk']
    refine wpAny_bind (wpAny_pure ?_)
    refine wpAny_bind (wpAny_mono (hN prog w A E { s with heap := h2 } κ (pairsOf vs) (SortSt.mk' oneType' (vs.toArray.zip vs.toArray) #[] 7 none) hO h0 ⟨Array.Perm.refl _, rfl, rfl, rfl⟩ (by rw [pairsOf_size]; simp at h2'; omega) (by rw [pairsOf_size]; exact hlt)) ?_ fun _ _ e => e)
    rintro ⟨⟨⟩, st'⟩ s' ⟨rfl, hp, hf, hs⟩
    dsimp only
    refine wpAny_bind (seqEpoch_at ho6 rfl ?_)
    refine wpAny_bind (listUpdate_at ho6 rfl ?_ (Nat.zero_le _) (by refine Nat.le_trans (Nat.le_of_eq ((Array.size_map ..).trans (hp.size_eq.trans (pairsOf_size _)))) ?_; omega))
    rw [hf]
    simp only [bne_self_eq_false, Bool.false_eq_true, if_false]
    exact wpAny_pure (fin (arrOf st') hp hs)


theorem ints_len {vs : List Value} {ns : List Int} (h : IntsAre vs ns) : vs.length = ns.length := by
  induction h with
  | nil => rfl
  | cons n t _ ih => exact congrArg (· + 1) ih

theorem ints_app {vs us : List Value} {ns ms : List Int} (h : IntsAre vs ns) (k : IntsAre us ms) : IntsAre (vs ++ us) (ns ++ ms) := by
  induction h with
  | nil => exact k
  | cons n t _ ih => exact .cons n t ih

theorem sort_len {N : Nat} (hN : SortLaw N) (hNs : N ≤ sizeLine) {a : Addr} {vs : List Value} {ss : List Str} {n : Nat} {P : Fin → Shared → Prop} (ho : s.heap.get? a = some (seqObj "list" vs.toArray n)) (hS : StrsAre vs ss) (hs63 : ∀ x ∈ ss, (x.length : Int) < 2 ^ 63)
    (hlt : vs.length < N)
    (h : ∀ (ks : List Value) (xs : Array Keyed) h' tk, IntsAre ks (ss.map fun x => (x.length : Int)) → xs.Perm (ks.toArray.zip vs.toArray) → SortedToK intK xs vs.length → Left a s.heap h' (xs.map (·.2)) → P (.done (.ret .none)) { s with heap := h', toks := tk }) :
    wpAny (model prog w) A (Builtin.«list.sort» ⟨[.ref a], [(Str.ofString "key", .builtin "len")]⟩) P E s := by
  rw [sort_key_tree]
  have ha : a < s.heap.objs.size := Heap.lt_size ho
  have hvs : vs.toArray.size ≤ sizeLine := by simp; omega
  refine wpAny_bind (listItems_at ho rfl ?_)
  refine wpAny_bind (listUpdate_at ho rfl ?_ hvs (Nat.zero_le _))
  have k1 := upd_keep (h := s.heap) (a := a) (f := Obj.mapSeq fun _ => #[])
  obtain ⟨e1, ho1⟩ : ∃ e1, (s.heap.update a (Obj.mapSeq fun _ => #[])).get? a = some (seqObj "list" #[] e1) := ⟨_, get?_update_seq ho (fun _ => #[])⟩
  have hz1 : (s.heap.update a (Obj.mapSeq fun _ => #[])).objs.size = s.heap.objs.size := Heap.size_update ..
  generalize s.heap.update a (Obj.mapSeq fun _ => #[]) = h1 at k1 ho1 hz1
  refine wpAny_bind (seqEpoch_at ho1 rfl ?_)
  refine wpAny_bind (wpAny_newTuple ?_ (by simpa using hvs))
  refine wpAny_bind (wpAny_newList ?_ (Nat.zero_le _))
  refine wpAny_holding ?_
  refine wpAny_bind (wpAny_rule ?_)
  have k2 : ∀ b o, h1.get? b = some o → ((h1.push (seqObj "tuple" vs.toArray 0)).push (seqObj "list" #[] 0)).get? b = some o := fun b o e => Heap.get?_push_of_some _ (Heap.get?_push_of_some _ e)
  have hk2 : ((h1.push (seqObj "tuple" vs.toArray 0)).push (seqObj "list" #[] 0)).get? (h1.push (seqObj "tuple" vs.toArray 0)).objs.size = some (seqObj "list" #[] 0) := Heap.get?_push_size _ rfl
  have hkS : s.heap.objs.size < (h1.push (seqObj "tuple" vs.toArray 0)).objs.size := by rw [size_push', hz1]; exact Nat.lt_succ_self _
  show wpAny (model prog w) A _ P E { s with heap := (h1.push (seqObj "tuple" vs.toArray 0)).push (seqObj "list" #[] 0) }
  generalize (h1.push (seqObj "tuple" vs.toArray 0)).push (seqObj "list" #[] 0) = h2 at k2 hk2
  generalize (h1.push (seqObj "tuple" vs.toArray 0)).objs.size = kS at hk2 hkS
  have hne : a ≠ kS := Nat.ne_of_lt (Nat.lt_trans ha hkS)
  have k12 : ∀ b o, b ≠ a → s.heap.get? b = some o → h2.get? b = some o ∧ b ≠ kS := fun b o hb e => ⟨k2 b o (k1 b o hb e), Nat.ne_of_lt (Nat.lt_trans (Heap.lt_size e) hkS)⟩
  have ho2 := k2 _ _ ho1
  refine wpAny_bind ?_
  refine forIn_array_ _ (fun rest _ s' => ∃ ks hh tk m done ss1 ss2, vs = done ++ rest ∧ ss = ss1 ++ ss2 ∧ StrsAre rest ss2 ∧ ks.length = done.length ∧ IntsAre ks (ss1.map fun x => (x.length : Int)) ∧ s' = { s with heap := hh, toks := tk } ∧
      hh.get? kS = some (seqObj "list" ks.toArray m) ∧ ∀ b o, b ≠ kS → h2.get? b = some o → hh.get? b = some o) _ ?step ?fin vs.toArray _ ⟨[], h2, s.toks, 0, [], [], ss, rfl, rfl, hS, rfl, .nil, rfl, hk2, fun b o _ e => e⟩
  case step =>
    rintro x rest b s' ⟨ks, hh, tk, m, done, ss1, ss2, e1', e2', hS2, hl, hI, rfl, hk, hkeep⟩
    cases hS2 with
    | @cons y t _ ss2 hS2 =>
      have hy : (y.length : Int) < 2 ^ 63 := hs63 y (by rw [e2']; simp)
      refine wpAny_bind (wpAny_attempt (len_str (by omega) ?_))
      dsimp only
      have hlen : ks.length < N := by
        have := congrArg List.length e1'
        simp at this
        omega
      refine wpAny_bind (listUpdate_at hk rfl (wpAny_pure ?_) (by simp; omega) (by simp; omega))
      obtain ⟨m', hm'⟩ : ∃ m', (hh.update kS (Obj.mapSeq (·.push (Value.int y.length (tk + 1))))).get? kS = some (seqObj "list" (ks ++ [Value.int y.length (tk + 1)]).toArray m') := by
        have := get?_update_seq hk (·.push (Value.int y.length (tk + 1)))
        rw [List.push_toArray] at this
        exact ⟨_, this⟩
      refine ⟨ks ++ [.int y.length (tk + 1)], _, _, m', done ++ [.str y t], ss1 ++ [y], ss2, by simp [e1'], by simp [e2'], hS2, by simp [hl], ?_, rfl, hm', fun b o hb e => upd_keep b o hb (hkeep b o hb e)⟩
      rw [List.map_append]
      exact ints_app hI (.cons _ _ .nil)
  case fin =>
    rintro b s' ⟨ks, hh, tk, m, done, ss1, ss2, e1', e2', hS2, hl, hI, rfl, hk, hkeep⟩
    cases hS2
    simp only [List.append_nil] at e1' e2'
    subst e1' e2'
    refine wpAny_bind (listItems_at hk rfl ?_)
    dsimp only
    have hkl : ks.length < N := by omega
    have hoa : hh.get? a = some (seqObj "list" #[] e1) := hkeep _ _ hne ho2
    have tail : ∀ (st' : SortSt), (arrOf st').Perm (ks.toArray.zip vs.toArray) → failedOf st' = none → SortedToK intK (arrOf st') vs.length →
        wpAny (model prog w) A (do
          let sorted := (arrOf st').map (·.2)
          Builtin.List.listUpdate (.ref kS) fun _ => #[]
          letGo ((arrOf st').map (·.1)).toList (failedOf st').toList
          let touched := (← seqEpoch a) != e1
          Builtin.List.listUpdate (.ref a) fun _ => sorted
          if let some e := failedOf st' then rule "list.sort.comparison-raised"; throw e
          if touched then rule "list.sort.modified"; raiseError "ValueError" "list modified during sort"
          ret .none) P E { s with heap := hh, toks := tk } := by
      intro st' hp hf hs
      dsimp only
      refine wpAny_bind (listUpdate_at hk rfl ?_ (by simp; omega) (Nat.zero_le _))
      refine wpAny_bind (wpAny_letGo ?_)
      have hoa2 : (hh.update kS (Obj.mapSeq fun _ => #[])).get? a = some (seqObj "list" #[] e1) := upd_keep _ _ hne hoa
      refine wpAny_bind (seqEpoch_at hoa2 rfl ?_)
      refine wpAny_bind (listUpdate_at hoa2 rfl ?_ (Nat.zero_le _) (by refine Nat.le_trans (Nat.le_of_eq ((Array.size_map ..).trans hp.size_eq)) ?_; simp; omega))
      rw [hf]
      simp only [bne_self_eq_false, Bool.false_eq_true, if_false]
      generalize hout : (arrOf st').map (·.2) = out
      have hm2 := get?_update_seq hoa2 (fun _ => out)
      refine wpAny_pure (h ks (arrOf st') _ tk hI hp hs ⟨fun b o hb e => ?_, ?_⟩)
      · obtain ⟨g1, g2⟩ := k12 b o hb e
        exact upd_keep b o hb (upd_keep b o g2 (hkeep b o g2 g1))
      · rw [hout]; exact ⟨_, hm2⟩
    by_cases h2' : vs.toArray.size < 2
    · rw [if_pos h2', if_pos h2']
      refine wpAny_bind (wpAny_pure ?_)
      rw [StateT.run_pure]
      refine wpAny_bind (wpAny_pure ?_)
      have e0 : arrOf (SortSt.mk' general' (ks.toArray.zip vs.toArray) #[] 7 none) = ks.toArray.zip vs.toArray := rfl
      have := tail (SortSt.mk' general' (ks.toArray.zip vs.toArray) #[] 7 none) (by rw [e0]) rfl (fun i j hij hj => by
        have : i = j := by simp at h2'; omega
        subst this; exact KeyOrd.kle_refl _)
      exact this
    · rw [if_neg h2', if_neg h2']
      have hkk' : keyKind' ks.toArray = pure oneType' := by
        match ks, hl, hI with
        | [], hl, _ => simp at h2' hl; omega
        | [_], hl, _ => simp at h2' hl; omega
        | v₁ :: v₂ :: rest, _, hI => exact keyKind_ints hI
      rw [hkk']
      refine wpAny_bind (wpAny_pure ?_)
      have hz : (ks.toArray.zip vs.toArray).size = vs.length := by simp [hl]
      refine wpAny_bind (wpAny_mono (hN prog w A E { s with heap := hh, toks := tk } intK (ks.toArray.zip vs.toArray) (SortSt.mk' oneType' (ks.toArray.zip vs.toArray) #[] 7 none) intK_lt ?_ ⟨Array.Perm.refl _, rfl, rfl, rfl⟩ (by rw [hz]; simp at h2'; omega) (by rw [hz]; exact hlt)) ?_ fun _ _ e => e)
      · intro p hp
        rw [Array.toList_zip] at hp
        obtain ⟨i, t, e⟩ := hI.all _ (List.of_mem_zip (a := p.1) (b := p.2) hp).1
        exact ⟨i, by rw [e]; rfl⟩
      · rintro ⟨⟨⟩, st'⟩ s' ⟨rfl, hp, hf, hs⟩
        rw [hz] at hs
        exact tail st' hp hf hs


theorem args_sorted_key (l : Value) : argsOk "sorted" ⟨[l], [(Str.ofString "key", .builtin "len")]⟩ := by unfold argsOk; kernel_rfl
theorem args_sort_key (l : Value) : argsOk "list.sort" ⟨[l], [(Str.ofString "key", .builtin "len")]⟩ := by unfold argsOk; kernel_rfl

/-- what sorted makes ahead of the sort: all stands, a new list lies at the end -/
theorem sorted_new {l : Addr} {vs : List Value} {Q : Addr → Shared → Prop} (hl : s.heap.IsList l vs.toArray) (hsz : vs.length ≤ sizeLine)
    (h : ∀ h' D, (∀ b o, s.heap.get? b = some o → h'.get? b = some o) → h'.get? D = some (seqObj "list" vs.toArray 0) → s.heap.get? D = none → D ≠ sysModules → Q D { s with heap := h' }) (hsm : s.heap.objs.size ≠ 0) :
    wpAny (model prog w) A (collect (.ref l)) (fun xs s₁ => xs = vs ∧ wpAny (model prog w) A (newList xs) (fun v s₂ => ∃ D, v = .ref D ∧ Q D s₂) E s₁) E s := by
  refine collect_list hl ⟨rfl, ?_⟩ hsz
  refine wpAny_newList ?_ hsz
  have hz : ((s.heap.push (seqObj "list" #[] 0)).update s.heap.objs.size (Obj.mapSeq (· ++ vs.toArray))).objs.size = s.heap.objs.size + 1 := by
    rw [Heap.size_update, size_push']
  refine ⟨_, rfl, h _ _ (fun b o e => ?_) (Heap.get?_push_size _ rfl) ?_ ?_⟩
  · have hlt : b < s.heap.objs.size := Heap.lt_size e
    exact Heap.get?_push_of_some _ (upd_keep b o (Nat.ne_of_lt hlt) (Heap.get?_push_of_some _ e))
  · show s.heap.get? ((s.heap.push (seqObj "list" #[] 0)).update s.heap.objs.size (Obj.mapSeq (· ++ vs.toArray))).objs.size = none
    rw [hz]
    cases e : s.heap.get? (s.heap.objs.size + 1) with
    | none => rfl
    | some o => exact absurd (Heap.lt_size e) (Nat.not_lt.mpr (Nat.le_succ _))
  · show ((s.heap.push (seqObj "list" #[] 0)).update s.heap.objs.size (Obj.mapSeq (· ++ vs.toArray))).objs.size ≠ sysModules
    rw [hz]
    exact fun q => hsm (Nat.succ.inj q)

end

noncomputable def keyT : Value → Txt
  | .str x _ => x.cps.toList
  | _ => []

noncomputable def spSorted (N : Nat) : Spec := fun vs H Q _ => match vs with
  | [.ref n] => (match H[n]? with
    | some (.list xs) => (match txts xs with
      | some ts => ts.length < N ∧ ∀ ys : List Txt, ys.Perm ts → ys.Pairwise (fun a b => ¬ b < a) → Q (.ref H.length) (H ++ [.list (ys.map .str)])
      | none => False)
    | _ => False)
  | _ => False
noncomputable def spSortLen (N : Nat) : Spec := fun vs H Q _ => match vs with
  | [.ref n] => (match H[n]? with
    | some (.list xs) => (match txts xs with
      | some ts => ts.length < N ∧ ∀ ys : List Txt, ys.Perm ts → ys.Pairwise (fun a b => a.length ≤ b.length) → Q (.ref H.length) (H ++ [.list (ys.map .str)])
      | none => False)
    | _ => False)
  | _ => False

section
variable {C : Cx} {K : Nat}

theorem txts_key {ρ : List Addr} {xs : List V} {us : List Value} (h : All2 (VR C ρ) xs us) : ∀ {ts : List Txt}, txts xs = some ts → us.map keyT = ts ∧ ∀ u ∈ us, VR C ρ (.str (keyT u)) u := by
  induction h with
  | nil => intro ts h; cases h; exact ⟨rfl, fun _ h => nomatch h⟩
  | @cons v u xs us hv _ ih =>
    intro ts h
    cases v with
    | str t =>
      unfold txts at h
      cases e : txts xs with
      | none => rw [e] at h; cases h
      | some r =>
        rw [e] at h; cases h
        obtain ⟨h1, h2⟩ := ih e
        obtain ⟨ok, tk, rfl⟩ := hv
        refine ⟨by rw [List.map_cons, h1]; rfl, fun u hu => ?_⟩
        cases hu with
        | head => exact ⟨ok, tk, rfl⟩
        | tail _ hu => exact h2 u hu
    | _ => cases h

theorem vr_keys {ρ : List Addr} : ∀ (us : List Value), (∀ u ∈ us, VR C ρ (.str (keyT u)) u) → All2 (VR C ρ) ((us.map keyT).map .str) us
  | [], _ => .nil
  | u :: r, h => .cons (h u (.head _)) (vr_keys r fun x hx => h x (.tail _ hx))

theorem ok_sorted {N : Nat} (hN : SortLaw N) (hNl : N ≤ lid) : CallOk C K (spSorted N) (.builtin "sorted") := by
  intro vs H Q X h ρ s us A E S hus hA hE
  unfold spSorted at h
  split at h
  · rename_i n
    split at h
    · rename_i xs e1
      split at h
      · rename_i ts hts
        obtain ⟨hlt, hq⟩ := h
        obtain ⟨u, rfl, hu⟩ := all2_one hus
        obtain ⟨a, rfl, ea, us, k, ho, hs, hl⟩ := S.lookup e1 hu
        obtain ⟨hk1, hk2⟩ := txts_key hs hts
        obtain ⟨hst, _⟩ := txts_are hs hts
        have hn : us.toList.length < N := by have := congrArg List.length hk1; simp at this; rw [Array.length_toList]; omega
        have hNs : N ≤ sizeLine := by unfold lid at hNl; unfold sizeLine; omega
        have hL : s.heap.IsList a us.toList.toArray := ⟨_, ho, rfl, k, by simp⟩
        refine Calls.call_function_entry kind_sorted plain_sorted entry_sorted (args_sorted1 _) ?_
        unfold Builtin.«sorted»
        refine wpAny_bind (m := checkCount "sorted" 1 1 _) (wpAny_pure ?_)
        refine wpAny_bind (wpAny_mono (sorted_new (Q := fun D s₂ => wpAny C.M A.in1 (do
            let _ ← holding [.ref D] (call (.builtin "list.sort") [.ref D] [])
            ret (.ref D)) (fun fin s' => ∃ v, fin = .done (.ret v) ∧ PV C ρ s Q v s') E s₂) hL (by omega) (fun h' D hk hD hDn hsm => ?_) (fun q => by have := Heap.lt_size ho; rw [q] at this; exact absurd this (Nat.not_lt_zero _))) (fun xs' s₁ hx => ?_) fun _ _ e => e)
        · refine wpAny_bind (wpAny_holding (wpAny_call_entry slot_list_sort ⟨_, hD, rfl⟩ entry_list_sort ?_ (args_list_sort _)))
          refine sort_plain hN hNs strKind_oneLt hD hst.keysOf (fun h2 => ?_) hn fun ks h'' hp hsrt hleft => ?_
          · match us.toList, hst, h2 with
            | [], _, h2 => simp at h2
            | [_], _, h2 => simp at h2
            | v₁ :: v₂ :: r, hst, _ => exact keyKind_strs hst
          · refine ⟨_, rfl, wpAny_pure ⟨_, rfl, ?_⟩⟩
            have hpl : ks.toList.Perm (us.toList.zip us.toList) := by rw [← pairsOf_toList]; exact Array.perm_iff_toList_perm.mp hp
            have hmem : ∀ p ∈ ks.toList, p.1 = p.2 ∧ p.1 ∈ us.toList := fun p hp' => mem_zip_self (hpl.mem_iff.mp hp')
            have hout : (ks.map (·.2)).toList = ks.toList.map (·.1) := by
              rw [Array.toList_map]; exact List.map_congr_left fun p hp' => (hmem p hp').1.symm
            have hperm : ((ks.toList.map (·.1)).map keyT).Perm ts := by
              have h1 := (hpl.map (·.1)).map keyT
              rwa [List.map_fst_zip (Nat.le_refl _), hk1] at h1
            have hpw : ((ks.toList.map (·.1)).map keyT).Pairwise (fun a b => ¬ b < a) := by
              rw [List.map_map, List.pairwise_iff_getElem]
              intro i j hi hj hij
              have hi' : i < ks.size := by simpa using hi
              have hj' : j < ks.size := by simpa using hj
              have h1 := hsrt i j (Nat.le_of_lt hij) (by rw [← hp.size_eq]; exact hj')
              have kk : ∀ i (hi : i < ks.size), KK strKind ks i = keyT ks[i].1 := fun i hi => by
                unfold KK
                rw [Array.getElem?_eq_getElem hi]
                obtain ⟨ok, tk, e⟩ := hk2 _ (hmem ks[i] (by simp)).2
                show (strKind.keyOf ks[i].1).getD [] = _
                rw [e]; rfl
              rw [kk i hi', kk j hj'] at h1
              have h1 : decide (keyT ks[j].1 < keyT ks[i].1) = false := h1
              simpa using h1
            have hvr : All2 (VR C ρ) (((ks.toList.map (·.1)).map keyT).map .str) (ks.map (·.2)).toList := by
              rw [hout]
              exact vr_keys _ fun u hu => by
                obtain ⟨p, hp', rfl⟩ := List.mem_map.mp hu
                exact hk2 _ (hmem p hp').2
            obtain ⟨m, hob⟩ := hleft.obj
            obtain ⟨S1, st1, v1⟩ := S.alloc (h' := h'') (tk := s.toks) (a := D) (o := .list (((ks.toList.map (·.1)).map keyT).map .str)) (fun b x e => hleft.keep b x (fun q => by rw [q, hDn] at e; cases e) (hk b x e)) hDn hsm
              ⟨_, m, hob, hvr, by rw [List.length_map, hperm.length_eq]; omega⟩
            exact ⟨_, _, _, st1, S1, v1, hq _ hperm hpw⟩
        · obtain ⟨rfl, hx⟩ := hx
          refine wpAny_bind (wpAny_mono hx (fun v s₂ hv => ?_) fun _ _ e => e)
          obtain ⟨D, rfl, hv⟩ := hv
          exact hv
      · exact h.elim
    · exact h.elim
  · exact h.elim


theorem ok_srt {N : Nat} (hN : SortLaw N) (hNl : N ≤ lid) : ∀ vs H Q X, spSortLen N vs H Q X → ∀ ρ s us A E, Sim C ρ H s → All2 (VR C ρ) vs us → AOk K A → Takes C ρ s X E → wpAny C.M A (call (.builtin "sorted") us [(Str.ofString "key", .builtin "len")]) (PV C ρ s Q) E s := by
  intro vs H Q X h ρ s us A E S hus hA hE
  unfold spSortLen at h
  split at h
  · rename_i n
    split at h
    · rename_i xs e1
      split at h
      · rename_i ts hts
        obtain ⟨hlt, hq⟩ := h
        obtain ⟨u, rfl, hu⟩ := all2_one hus
        obtain ⟨a, rfl, ea, us, k, ho, hs, hl⟩ := S.lookup e1 hu
        obtain ⟨hk1, hk2⟩ := txts_key hs hts
        obtain ⟨hst, hokt⟩ := txts_are hs hts
        have hn : us.toList.length < N := by have := congrArg List.length hk1; simp at this; rw [Array.length_toList]; omega
        have hNs : N ≤ sizeLine := by unfold lid at hNl; unfold sizeLine; omega
        have hL : s.heap.IsList a us.toList.toArray := ⟨_, ho, rfl, k, by simp⟩
        refine call_function_entry_kw kind_sorted plain_sorted entry_sorted (args_sorted_key _) ?_
        unfold Builtin.«sorted»
        refine wpAny_bind (m := checkCount "sorted" 1 1 _) (wpAny_pure ?_)
        refine wpAny_bind (wpAny_mono (sorted_new (Q := fun D s₂ => wpAny C.M A.in1 (do
            let _ ← holding [.ref D] (call (.builtin "list.sort") [.ref D] [(Str.ofString "key", .builtin "len")])
            ret (.ref D)) (fun fin s' => ∃ v, fin = .done (.ret v) ∧ PV C ρ s Q v s') E s₂) hL (by omega) (fun h' D hk hD hDn hsm => ?_) (fun q => by have := Heap.lt_size ho; rw [q] at this; exact absurd this (Nat.not_lt_zero _))) (fun xs' s₁ hx => ?_) fun _ _ e => e)
        · refine wpAny_bind (wpAny_holding (wpAny_call_entry_kw slot_list_sort ⟨_, hD, rfl⟩ entry_list_sort ?_ (args_sort_key _)))
          refine sort_len hN hNs hD hst (fun x hx => ?_) hn fun kl ks h'' tk hI hp hsrt hleft => ?_
          · obtain ⟨t, ht, rfl⟩ := List.mem_map.mp hx
            have := (okT_iff.mp (hokt t ht)).1
            rw [len_T]; unfold lid at this; omega
          · refine ⟨_, rfl, wpAny_pure ⟨_, rfl, ?_⟩⟩
            have hpl : ks.toList.Perm (kl.zip us.toList) := by
              have := Array.perm_iff_toList_perm.mp hp
              rwa [Array.toList_zip] at this
            have hll : kl.length = us.toList.length := by
              have h1 := ints_len hI
              have h2 := hst.len_eq
              simp at h1 h2 ⊢; omega
            have hmem : ∀ p ∈ ks.toList, p.2 ∈ us.toList := fun p hp' => (List.of_mem_zip (a := p.1) (b := p.2) (hpl.mem_iff.mp hp')).2
            have hkey : ∀ p ∈ kl.zip us.toList, ∃ tk, p.1 = .int ((keyT p.2).length : Int) tk := by
              have gen : ∀ {kl : List Value} {us : List Value} {ns : List Int} {ss : List Str}, IntsAre kl ns → StrsAre us ss → ns = ss.map (fun x => (x.length : Int)) → ∀ p ∈ kl.zip us, ∃ tk, p.1 = .int ((keyT p.2).length : Int) tk := by
                intro kl us ns ss h1
                induction h1 generalizing us ss with
                | nil => intro _ _ p hp; cases hp
                | cons n t h1 ih =>
                  intro h2 e p hp
                  cases h2 with
                  | nil => cases e
                  | cons y u h2 =>
                    rw [List.map_cons] at e
                    injection e with e3 e4
                    rw [List.zip_cons_cons] at hp
                    cases hp with
                    | head => exact ⟨t, by rw [e3]; rfl⟩
                    | tail _ hp => exact ih h2 e4 p hp
              exact gen hI hst rfl
            have hperm : ((ks.toList.map (·.2)).map keyT).Perm ts := by
              have h1 := (hpl.map (·.2)).map keyT
              rwa [List.map_snd_zip (Nat.le_of_eq hll.symm), hk1] at h1
            have hsz : ks.size = us.toList.length := by
              have := hpl.length_eq
              rw [Array.length_toList, List.length_zip] at this
              omega
            have hpw : ((ks.toList.map (·.2)).map keyT).Pairwise (fun a b => a.length ≤ b.length) := by
              rw [List.map_map, List.pairwise_iff_getElem]
              intro i j hi hj hij
              have hi' : i < ks.size := by simpa using hi
              have hj' : j < ks.size := by simpa using hj
              have h1 := hsrt i j (Nat.le_of_lt hij) (by rw [← hsz]; exact hj')
              have kk : ∀ i (hi : i < ks.size), KK intK ks i = ((keyT ks[i].2).length : Int) := fun i hi => by
                unfold KK
                rw [Array.getElem?_eq_getElem hi]
                obtain ⟨tk, e⟩ := hkey ks[i] (hpl.mem_iff.mp (by simp))
                show (intK.keyOf ks[i].1).getD (0 : Int) = _
                rw [e]; rfl
              rw [kk i hi', kk j hj'] at h1
              have h1 : decide (((keyT ks[j].2).length : Int) < ((keyT ks[i].2).length : Int)) = false := h1
              simp only [decide_eq_false_iff_not] at h1
              simp only [Function.comp, List.getElem_map, Array.getElem_toList]
              omega
            have hvr : All2 (VR C ρ) (((ks.toList.map (·.2)).map keyT).map .str) (ks.map (·.2)).toList := by
              rw [Array.toList_map]
              exact vr_keys _ fun u hu => by
                obtain ⟨p, hp', rfl⟩ := List.mem_map.mp hu
                exact hk2 _ (hmem p hp')
            obtain ⟨m, hob⟩ := hleft.obj
            obtain ⟨S1, st1, v1⟩ := S.alloc (h' := h'') (tk := tk) (a := D) (o := .list (((ks.toList.map (·.2)).map keyT).map .str)) (fun b x e => hleft.keep b x (fun q => by rw [q, hDn] at e; cases e) (hk b x e)) hDn hsm
              ⟨_, m, hob, hvr, by rw [List.length_map, hperm.length_eq]; omega⟩
            exact ⟨_, _, _, st1, S1, v1, hq _ hperm hpw⟩
        · obtain ⟨rfl, hx⟩ := hx
          refine wpAny_bind (wpAny_mono hx (fun v s₂ hv => ?_) fun _ _ e => e)
          obtain ⟨D, rfl, hv⟩ := hv
          exact hv
      · exact h.elim
    · exact h.elim
  · exact h.elim

end
end Mine
end
section
namespace Mine
open PySem PySem.Calls PyProof.Rows

/-! The table: what is built in, then the functions, as a list that is looked up by number. -/

noncomputable def Tab.sortBy (T : Tab) (sp : Spec) : Tab := { T with srt := sp }
noncomputable def tabE (T : Tab) : List (Nat × Spec) → Tab
  | [] => T
  | (n, sp) :: r => (tabE T r).add (nm n) sp
noncomputable def getE : List (Nat × Spec) → Nat → Option Spec
  | [], _ => none
  | (n, sp) :: r, m => bif Nat.beq m n then some sp else getE r m

theorem Has.ent {T : Tab} {m : Nat} {sp : Spec} : ∀ {l : List (Nat × Spec)}, getE l m = some sp → Has (tabE T l) (nm m) sp
  | [], h => nomatch h
  | (n, sp') :: r, h => by
    unfold getE at h
    cases e : Nat.beq m n with
    | true =>
      rw [e] at h
      cases Nat.eq_of_beq_eq_true e
      cases h
      exact ⟨if_pos rfl, if_pos rfl⟩
    | false =>
      rw [e] at h
      have ne : ¬ nm m = nm n := fun q => Nat.ne_of_beq_eq_false e (nm_inj.mp q)
      have ih : Has (tabE T r) (nm m) sp := Has.ent h
      exact ⟨(if_neg ne).trans ih.gv, (if_neg ne).trans ih.fn⟩
theorem gvE {T : Tab} {m : Nat} {v : V} (k : T.gv (nm m) = some v) : ∀ {l : List (Nat × Spec)}, getE l m = none → (tabE T l).gv (nm m) = some v
  | [], _ => k
  | (n, sp') :: r, h => by
    unfold getE at h
    cases e : Nat.beq m n with
    | true => rw [e] at h; cases h
    | false =>
      rw [e] at h
      have ne : ¬ nm m = nm n := fun q => Nat.ne_of_beq_eq_false e (nm_inj.mp q)
      exact (if_neg ne).trans (gvE k h)
theorem HasM.ent {T : Tab} {kd : MK} {m : Str} {sp : Spec} (k : HasM T kd m sp) : ∀ (l : List (Nat × Spec)), HasM (tabE T l) kd m sp
  | [] => k
  | (_, _) :: r => ⟨(HasM.ent k r).has, (HasM.ent k r).mt⟩
theorem srtE {T : Tab} {sp : Spec} (k : T.srt = sp) : ∀ (l : List (Nat × Spec)), (tabE T l).srt = sp
  | [] => k
  | (_, _) :: r => srtE k r

theorem gvV {T : Tab} {m : Nat} {v : V} : (T.val (nm m) v).gv (nm m) = some v := if_pos rfl
theorem gvN {T : Tab} {m n : Nat} {v w : V} (k : T.gv (nm m) = some w) (h : Nat.beq m n = false) : (T.val (nm n) v).gv (nm m) = some w := (if_neg fun q => Nat.ne_of_beq_eq_false h (nm_inj.mp q)).trans k
theorem HasM.hit {T : Tab} {kd : MK} {m : Str} {sp : Spec} : HasM (T.meth kd m sp) kd m sp := ⟨if_pos ⟨rfl, rfl⟩, if_pos ⟨rfl, rfl⟩⟩
theorem HasM.miss {T : Tab} {kd kd' : MK} {m n : Nat} {sp sp' : Spec} (k : HasM T kd (nm m) sp) (h : Nat.beq m n = false) : HasM (T.meth kd' (nm n) sp') kd (nm m) sp :=
  have ne : ¬ (kd = kd' ∧ nm m = nm n) := fun q => Nat.ne_of_beq_eq_false h (nm_inj.mp q.2)
  ⟨(if_neg ne).trans k.has, (if_neg ne).trans k.mt⟩

section
variable {C : Cx} {T : Tab} {K : Nat}
theorem TabOk.sortBy (h : TabOk C T K) {N : Nat} (hN : SortLaw N) (hl : N ≤ lid) : TabOk C (T.sortBy (spSortLen N)) K where
  gv := h.gv
  fn := h.fn
  mt := h.mt
  sorted := h.sorted
  len := h.len
  srt := ok_srt hN hl
  rvs := h.rvs
  range := h.range
  revd := h.revd
  enum := h.enum

/-- the names of classes, the methods, sorted by len -/
noncomputable def TM (N : Nat) : Tab := (((((((T0.val (nm 244905188) (.glob (nm 244905188))).val (nm 27340323572) (.glob (nm 27340323572))).val (nm 1914729) (.glob (nm 1914729))).val (nm 1882739) (.glob (nm 1882739))).val (nm 228325346) (.glob (nm 228325346))).meth .str (nm 232421354) spJoin).meth .list (nm 3465715398753) spAppend).meth .list (nm 30806734435) spClear |>.sortBy (spSortLen N)
/-- the functions that are built in -/
noncomputable def bl (N : Nat) : List (Nat × Spec) := [(1815276, spLen), (938756632654307293673, spIsi), (245167340, spList), (3463330969587, spSorted N), (1800947, spSum), (1783393, spAll), (1815789, spMin), (1978605, spMax)]

theorem TM_ok {N : Nat} (hN : SortLaw N) (hl : N ≤ lid) (hb : ∀ p ∈ biL, C.G p.1 = some p.2) : TabOk C (TM N) 0 := by
  have g : ∀ i (h : i < biL.length), C.G (biL[i]).1 = some (biL[i]).2 := fun i h => hb _ (List.getElem_mem h)
  have s1 : Str.ofString "sorted" = (nm 3463330969587) := by decide +kernel
  have s2 : Str.ofString "len" = (nm 1815276) := by decide +kernel
  have s3 : Str.ofString "range" = (nm 27329802482) := by decide +kernel
  have s4 : Str.ofString "reversed" = (nm 56743180225065714) := by decide +kernel
  have s5 : Str.ofString "enumerate" = (nm 7343549747291846501) := by decide +kernel
  have base : TabOk C T0 0 := .base (by rw [s1]; exact g 6 (by decide)) (by rw [s2]; exact g 0 (by decide)) (by rw [s3]; exact g 7 (by decide)) (by rw [s4]; exact g 8 (by decide)) (by rw [s5]; exact g 9 (by decide))
  have tv : ∀ {T : Tab} {x : Str} {u : Value}, C.G x = some u → TabOk C T 0 → TabOk C (T.val x (.glob x)) 0 := fun hm h => h.val hm fun ρ => hm
  refine TabOk.sortBy ?_ hN hl
  refine TabOk.meth ?_ ok_clear get_clear
  refine TabOk.meth ?_ ok_append get_append
  refine TabOk.meth ?_ ok_join get_join
  refine tv (g 15 (by decide)) ?_
  refine tv (g 14 (by decide)) ?_
  refine tv (g 13 (by decide)) ?_
  refine tv (g 12 (by decide)) ?_
  refine tv (g 10 (by decide)) ?_
  exact base

theorem bl_ok {N : Nat} (hN : SortLaw N) (hl : N ≤ lid) (hb : ∀ p ∈ biL, C.G p.1 = some p.2) (h : TabOk C T 0) : TabOk C (tabE T (bl N)) 0 := by
  have g : ∀ i (h : i < biL.length), C.G (biL[i]).1 = some (biL[i]).2 := fun i h => hb _ (List.getElem_mem h)
  have hT : ∀ g b, tyOf g = some b → C.G g = some (.type (tyName b)) := by
    intro x b hx
    unfold tyOf at hx
    split at hx
    · rename_i e; cases hx; subst e; exact g 15 (by decide)
    split at hx
    · rename_i e; cases hx; subst e; exact g 13 (by decide)
    split at hx
    · rename_i e; cases hx; subst e; exact g 14 (by decide)
    split at hx
    · rename_i e; cases hx; subst e; exact g 11 (by decide)
    split at hx
    · rename_i e; cases hx; subst e; exact g 12 (by decide)
    split at hx
    · rename_i e; cases hx; subst e; exact g 10 (by decide)
    cases hx
  refine TabOk.addB ?_ (g 0 (by decide)) (.inl ⟨_, rfl⟩) ok_len
  refine TabOk.addB ?_ (g 1 (by decide)) (.inl ⟨_, rfl⟩) (ok_isi hT)
  refine TabOk.addB ?_ (g 11 (by decide)) (.inr (.inl ⟨_, rfl⟩)) ok_list_call
  refine TabOk.addB ?_ (g 6 (by decide)) (.inl ⟨_, rfl⟩) (ok_sorted hN hl)
  refine TabOk.addB ?_ (g 4 (by decide)) (.inl ⟨_, rfl⟩) ok_sum
  refine TabOk.addB ?_ (g 5 (by decide)) (.inl ⟨_, rfl⟩) ok_all
  refine TabOk.addB ?_ (g 2 (by decide)) (.inl ⟨_, rfl⟩) ok_min
  refine TabOk.addB ?_ (g 3 (by decide)) (.inl ⟨_, rfl⟩) ok_max
  exact h

theorem TabOk.ent {l : List (Nat × Spec)} (h : TabOk C (tabE T l) K) {n : Nat} {xs : List Str} {ps : PS} {sp : Spec} (hd : DefAt C (nm n) xs ps) (hc : Ct (tabE T l) xs ps sp) : TabOk C (tabE T ((n, sp) :: l)) (K + 1) := h.addF hd hc

/-- a constant of the program's -/
noncomputable def ConstAt (C : Cx) (f : Str) (v : V) : Prop := ∃ u, C.G f = some u ∧ ∀ ρ, VR C ρ v u
theorem TabOk.const (h : TabOk C T K) {f : Str} {v : V} (k : ConstAt C f v) : TabOk C (T.val f v) K := let ⟨_, h1, h2⟩ := k; h.val h1 h2
end
end Mine
end
section
namespace Mine
open PySem

/-! Rules for the abstract machine, one for each form, used backwards. -/

/-- what a truth test makes of a value -/
noncomputable def Tru (v : V) (q : Bool → Prop) : Prop := match truthyA v with | some b => q b | Option.none => False
/-- what comes after a statement -/
noncomputable def SQ (T : Tab) (r : PS) (Q : SPost) (X : XPost) : SPost := fun fl σ H => match fl with | .next => semS T r σ H Q X | f => Q f σ H
/-- a function's end -/
noncomputable def RQ (Q : VPost) : SPost := fun fl _ H' => match fl with
  | .ret v => Q v H'
  | .next => Q .none H'
  | .brk => False
/-- a loop's turn -/
noncomputable def LQ (W : Sg → AHeap → Prop) (Q : SPost) : SPost := fun fl σ2 H2 => match fl with
  | .next => W σ2 H2
  | .brk => Q .next σ2 H2
  | .ret v => Q (.ret v) σ2 H2
noncomputable def Rng1 (v : V) (H : AHeap) (q : List Item → (AHeap → Prop) → AHeap → Prop) : Prop := match v with
  | .int j => 0 ≤ j ∧ j ≤ lid ∧ q ((intsFrom 0 j.toNat).map fun i => .one (.int i)) (fun _ => True) H
  | _ => False
noncomputable def Rng2 (u v : V) (H : AHeap) (q : List Item → (AHeap → Prop) → AHeap → Prop) : Prop := match u, v with
  | .int i, .int j => 0 ≤ i ∧ i ≤ lid ∧ 0 ≤ j ∧ j ≤ lid ∧ q ((intsFrom i (j - i).toNat).map fun i => .one (.int i)) (fun _ => True) H
  | _, _ => False
noncomputable def RngR (v : V) (H : AHeap) (q : List Item → (AHeap → Prop) → AHeap → Prop) : Prop := match v with
  | .int j => 0 ≤ j ∧ j ≤ lid ∧ q ((intsFrom 0 j.toNat).reverse.map fun i => .one (.int i)) (fun _ => True) H
  | _ => False
noncomputable def Neg (v : V) (q : V → Prop) : Prop := match v with | .int i => q (.int (-i)) | _ => False

section
variable {T : Tab} {σ : Sg} {H : AHeap} {Q : VPost} {X : XPost} {q : Bool → AHeap → Prop} {P : SPost} {W : Sg → AHeap → Prop}

theorem hit {x : Str} {v : V} : (σ.set x v) x = some v := if_pos rfl
theorem miss {a b : Nat} {v w : V} (k : σ (nm b) = some w) (h : Nat.beq b a = false) : (σ.set (nm a) v) (nm b) = some w := by
  rw [set_nm, if_neg (Nat.ne_of_beq_eq_false h)]; exact k

theorem e_name {x : Str} {v : V} (h : σ x = some v) (k : Q v H) : (sem T (.name x)).ev σ H Q X := by
  show (match σ x with | some v => Q v H | Option.none => False); rw [h]; exact k
theorem e_glob {x : Str} {v : V} (h : T.gv x = some v) (k : Q v H) : (sem T (.glob x)).ev σ H Q X := by
  show (match T.gv x with | some v => Q v H | Option.none => False); rw [h]; exact k
theorem e_none (k : Q .none H) : (sem T .none).ev σ H Q X := k
theorem e_bool {b : Bool} (k : Q (.bool b) H) : (sem T (.bool b)).ev σ H Q X := k
theorem e_int {i : Int} (k : Q (.int i) H) : (sem T (.int i)).ev σ H Q X := k
theorem e_str {x : Str} (k : Q (.str x.cps.toList) H) : (sem T (.str x)).ev σ H Q X := k
theorem e_bin {op : Operator} {l r : PE} (k : (sem T l).ev σ H (fun a H1 => (sem T r).ev σ H1 (fun b H2 => binA op a b H2 Q) X) X) : (sem T (.bin op l r)).ev σ H Q X := k
theorem e_cmp {op : CmpOp} {l r : PE} (k : (sem T l).ev σ H (fun a H1 => (sem T r).ev σ H1 (fun b H2 => cmpA op a b H2 fun c => Q (.bool c) H2) X) X) : (sem T (.cmp1 op l r)).ev σ H Q X := k
theorem t_cmp {op : CmpOp} {l r : PE} (k : (sem T l).ev σ H (fun a H1 => (sem T r).ev σ H1 (fun b H2 => cmpA op a b H2 fun c => q c H2) X) X) : (sem T (.cmp1 op l r)).tt σ H q X := k
theorem t_cmp2 {o1 o2 : CmpOp} {a b c : PE} (k : (sem T a).ev σ H (fun x H1 => (sem T b).ev σ H1 (fun y H2 => cmpA o1 x y H2 fun c1 =>
      if c1 then (sem T c).ev σ H2 (fun z H3 => cmpA o2 y z H3 fun c2 => q c2 H3) X else q false H2) X) X) : (sem T (.cmp2 o1 o2 a b c)).tt σ H q X := k
theorem t_and {l r : PE} (k : (sem T l).tt σ H (fun b H1 => if b then (sem T r).tt σ H1 q X else q false H1) X) : (sem T (.and l r)).tt σ H q X := k
theorem t_or {l r : PE} (k : (sem T l).tt σ H (fun b H1 => if b then q true H1 else (sem T r).tt σ H1 q X) X) : (sem T (.or l r)).tt σ H q X := k
theorem t_not {e : PE} (k : (sem T e).tt σ H (fun b H1 => q (!b) H1) X) : (sem T (.not e)).tt σ H q X := k
theorem e_and {l r : PE} (k : (sem T l).ev σ H (fun v H1 => Tru v fun b => if b then (sem T r).ev σ H1 Q X else Q v H1) X) : (sem T (.and l r)).ev σ H Q X := k
theorem e_or {l r : PE} (k : (sem T l).ev σ H (fun v H1 => Tru v fun b => if b then Q v H1 else (sem T r).ev σ H1 Q X) X) : (sem T (.or l r)).ev σ H Q X := k
theorem e_not {e : PE} (k : (sem T e).ev σ H (fun v H1 => Tru v fun b => Q (.bool !b) H1) X) : (sem T (.not e)).ev σ H Q X := k
theorem e_neg {e : PE} (k : (sem T e).ev σ H (fun v H1 => Neg v fun w => Q w H1) X) : (sem T (.neg e)).ev σ H Q X := k
theorem e_ite {c a b : PE} (k : (sem T c).tt σ H (fun t H1 => if t then (sem T a).ev σ H1 Q X else (sem T b).ev σ H1 Q X) X) : (sem T (.ite c a b)).ev σ H Q X := k
theorem t_name {x : Str} {v : V} (h : σ x = some v) (k : Tru v fun b => q b H) : (sem T (.name x)).tt σ H q X := by
  show (match σ x with | some v => _ | Option.none => False); rw [h]; exact k
theorem t_sub {o i : PE} (k : (sem T o).ev σ H (fun ov H1 => (sem T i).ev σ H1 (fun iv H2 => subA ov iv H2 fun v => Tru v fun b => q b H2) X) X) : (sem T (.sub o i)).tt σ H q X := k
theorem t_bool {b : Bool} (k : q b H) : (sem T (.bool b)).tt σ H q X := k
theorem tru_bool {b : Bool} {r : Bool → Prop} (k : r b) : Tru (.bool b) r := k

theorem e_call {g : Str} {args : PE} {sp : Spec} (h : Has T g sp) (k : (sem T args).el σ H (fun vs H1 => sp vs H1 Q X) X) : (sem T (.call (.glob g) args)).ev σ H Q X := by
  show (match T.gv g with | some v => _ | Option.none => False); rw [h.gv]; show (sem T args).el σ H (fun vs H1 => T.fn g vs H1 Q X) X; rw [h.fn]; exact k
theorem t_call {g : Str} {args : PE} {sp : Spec} (h : Has T g sp) (k : (sem T args).el σ H (fun vs H1 => sp vs H1 (fun v H2 => Tru v fun b => q b H2) X) X) : (sem T (.call (.glob g) args)).tt σ H q X :=
  e_call (Q := fun v H2 => Tru v fun b => q b H2) h k
/-- a method of a name's value -/
theorem e_methN {x : Str} {args : PE} {m : Str} {v : V} {kd : MK} {sp : Spec} (hx : σ x = some v) (hk : kindA v H = some kd) (h : HasM T kd m sp) (k : (sem T args).el σ H (fun vs H2 => sp (v :: vs) H2 Q X) X) : (sem T (.meth (.name x) m args)).ev σ H Q X := by
  refine e_name (T := T) (X := X) (Q := fun ov H1 => match kindA ov H1 with
      | some kd => T.has kd m = true ∧ (sem T args).el σ H1 (fun vs H2 => T.mt kd m (ov :: vs) H2 Q X) X
      | Option.none => False) hx ?_
  rw [hk]; exact ⟨h.has, by rw [h.mt]; exact k⟩
/-- a method of a text -/
theorem e_methS {x : Str} {args : PE} {m : Str} {sp : Spec} (h : HasM T .str m sp) (k : (sem T args).el σ H (fun vs H2 => sp (.str x.cps.toList :: vs) H2 Q X) X) : (sem T (.meth (.str x) m args)).ev σ H Q X :=
  ⟨h.has, by rw [h.mt]; exact k⟩
theorem e_srt {e : PE} {sp : Spec} (h : T.srt = sp) (k : (sem T e).ev σ H (fun v H1 => sp [v] H1 Q X) X) : (sem T (.sortLen e)).ev σ H Q X := by
  subst h; exact k
theorem l0 {q : List V → AHeap → Prop} (k : q [] H) : (sem T .nil).el σ H q X := k
theorem l1 {a : PE} {q : List V → AHeap → Prop} (k : (sem T a).ev σ H (fun v H1 => q [v] H1) X) : (sem T (.cons a .nil)).el σ H q X := k
theorem l2 {a b : PE} {q : List V → AHeap → Prop} (k : (sem T a).ev σ H (fun v H1 => (sem T b).ev σ H1 (fun w H2 => q [v, w] H2) X) X) : (sem T (.cons a (.cons b .nil))).el σ H q X := k
theorem lc {a t : PE} {q : List V → AHeap → Prop} (k : (sem T a).ev σ H (fun v H1 => (sem T t).el σ H1 (fun vs H2 => q (v :: vs) H2) X) X) : (sem T (.cons a t)).el σ H q X := k
theorem e_sub {o i : PE} (k : (sem T o).ev σ H (fun ov H1 => (sem T i).ev σ H1 (fun iv H2 => subA ov iv H2 fun v => Q v H2) X) X) : (sem T (.sub o i)).ev σ H Q X := k
theorem e_slice {o lo hi : PE} (k : (sem T o).ev σ H (fun ov H1 => (sem T lo).ev σ H1 (fun l H2 => (sem T hi).ev σ H2 (fun h H3 => sliceA ov l h H3 Q) X) X) X) : (sem T (.slice o lo hi)).ev σ H Q X := k
theorem e_list {es : PE} (k : (sem T es).el σ H (fun vs H1 => vs.length ≤ lid ∧ Q (.ref H1.length) (H1 ++ [.list vs])) X) : (sem T (.list es)).ev σ H Q X := k
theorem e_tuple {es : PE} (k : (sem T es).el σ H (fun vs H1 => vs.length ≤ lid ∧ Q (.ref H1.length) (H1 ++ [.tuple vs])) X) : (sem T (.tuple es)).ev σ H Q X := k
theorem e_comp0 {elt it : PE} {t : Tgt} (k : (sem T it).it σ H (fun items K H1 =>
      items.length ≤ lid ∧ compGo K (fun x H' => bindA t x H' σ) (fun _ H' q => q true H') (fun σ' H' q => (sem T elt).ev σ' H' q X) (fun acc H' => Q (.ref H'.length) (H' ++ [.list acc])) items [] H1) X) : (sem T (.comp0 elt t it)).ev σ H Q X := k
theorem e_comp1 {elt it cond : PE} {t : Tgt} (k : (sem T it).it σ H (fun items K H1 =>
      items.length ≤ lid ∧ compGo K (fun x H' => bindA t x H' σ) (fun σ' H' q => (sem T cond).tt σ' H' q X) (fun σ' H' q => (sem T elt).ev σ' H' q X) (fun acc H' => Q (.ref H'.length) (H' ++ [.list acc])) items [] H1) X) : (sem T (.comp1 elt t it cond)).ev σ H Q X := k
theorem i_val {e : PE} {q : List Item → (AHeap → Prop) → AHeap → Prop} (k : (sem T e).ev σ H (fun v H1 => itemsA v H1 fun items K => q items K H1) X) : (sem T (.itVal e)).it σ H q X := k
theorem i_rng1 {e : PE} {q : List Item → (AHeap → Prop) → AHeap → Prop} (k : (sem T e).ev σ H (fun v H1 => Rng1 v H1 q) X) : (sem T (.itRange1 e)).it σ H q X := k
theorem i_rng2 {a b : PE} {q : List Item → (AHeap → Prop) → AHeap → Prop} (k : (sem T a).ev σ H (fun u H1 => (sem T b).ev σ H1 (fun v H2 => Rng2 u v H2 q) X) X) : (sem T (.itRange2 a b)).it σ H q X := k
theorem i_rev {e : PE} {q : List Item → (AHeap → Prop) → AHeap → Prop} (k : (sem T e).ev σ H (fun v H1 => RngR v H1 q) X) : (sem T (.itRev e)).it σ H q X := k
theorem rng1 {j : Int} {q : List Item → (AHeap → Prop) → AHeap → Prop} (h0 : 0 ≤ j) (h1 : j ≤ lid) (k : q ((intsFrom 0 j.toNat).map fun i => .one (.int i)) (fun _ => True) H) : Rng1 (.int j) H q := ⟨h0, h1, k⟩
theorem rngR {j : Int} {q : List Item → (AHeap → Prop) → AHeap → Prop} (h0 : 0 ≤ j) (h1 : j ≤ lid) (k : q ((intsFrom 0 j.toNat).reverse.map fun i => .one (.int i)) (fun _ => True) H) : RngR (.int j) H q := ⟨h0, h1, k⟩

/-! operators -/
theorem b_add {a b : Int} (k : Q (.int (a + b)) H) : binA .Add (.int a) (.int b) H Q := k
theorem b_sub {a b : Int} (k : Q (.int (a - b)) H) : binA .Sub (.int a) (.int b) H Q := k
theorem b_mul {a b : Int} (h : a.natAbs < 2 ^ 63 ∨ b.natAbs < 2 ^ 63) (k : Q (.int (a * b)) H) : binA .Mult (.int a) (.int b) H Q := ⟨h, k⟩
theorem b_div {a b : Int} (h : (decide (0 < b) && decide (b < 1073741824)) = true) (k : Q (.int (a / b)) H) : binA .FloorDiv (.int a) (.int b) H Q := by
  simp only [Bool.and_eq_true, decide_eq_true_eq] at h; exact ⟨h.1, h.2, k⟩
theorem b_mod {a b : Int} (h : 0 < b) (k : ∀ m, 0 ≤ m → m < b → Q (.int m) H) : binA .Mod (.int a) (.int b) H Q := ⟨h, k _ (Int.emod_nonneg a (by omega)) (Int.emod_lt_of_pos a h)⟩
theorem b_cat {t u : Txt} (h : t.length + u.length ≤ lid) (k : Q (.str (t ++ u)) H) : binA .Add (.str t) (.str u) H Q := ⟨h, k⟩
theorem b_lcat {m n : Nat} {xs ys : List V} (h1 : H[m]? = some (.list xs)) (h2 : H[n]? = some (.list ys)) (h : xs.length + ys.length ≤ lid) (k : Q (.ref H.length) (H ++ [.list (xs ++ ys)])) : binA .Add (.ref m) (.ref n) H Q := by
  rw [st_lcat h1 h2 h]; exact k
theorem b_rep {m : Nat} {j : Int} {x : V} (h1 : H[m]? = some (.list [x])) (h0 : 0 ≤ j) (h : j ≤ lid) (k : Q (.ref H.length) (H ++ [.list (List.replicate j.toNat x)])) : binA .Mult (.ref m) (.int j) H Q := by
  show (match H[m]? with | some (.list [x]) => 0 ≤ j ∧ j ≤ lid ∧ Q (.ref H.length) (H ++ [.list (List.replicate j.toNat x)]) | _ => False); rw [h1]; exact ⟨h0, h, k⟩
theorem c_lt {a b : Int} {r : Bool → Prop} (k : r (decide (a < b))) : cmpA .Lt (.int a) (.int b) H r := k
theorem c_le {a b : Int} {r : Bool → Prop} (k : r (decide (a ≤ b))) : cmpA .LtE (.int a) (.int b) H r := k
theorem c_gt {a b : Int} {r : Bool → Prop} (k : r (decide (b < a))) : cmpA .Gt (.int a) (.int b) H r := k
theorem c_ge {a b : Int} {r : Bool → Prop} (k : r (decide (b ≤ a))) : cmpA .GtE (.int a) (.int b) H r := k
theorem c_eqi {a b : Int} {r : Bool → Prop} (k : r (decide (a = b))) : cmpA .Eq (.int a) (.int b) H r := by rw [st_eq_int]; exact k
theorem c_nei {a b : Int} {r : Bool → Prop} (k : r (!decide (a = b))) : cmpA .NotEq (.int a) (.int b) H r := by rw [st_ne_int]; exact k
theorem c_eqs {a b : Txt} {r : Bool → Prop} (k : r (decide (a = b))) : cmpA .Eq (.str a) (.str b) H r := by rw [st_eq_str]; exact k
theorem c_nes {a b : Txt} {r : Bool → Prop} (k : r (!decide (a = b))) : cmpA .NotEq (.str a) (.str b) H r := by rw [st_ne_str]; exact k
theorem c_eqb {a b : Bool} {r : Bool → Prop} (k : r (a == b)) : cmpA .Eq (.bool a) (.bool b) H r := k
theorem c_neb {a b : Bool} {r : Bool → Prop} (k : r (!(a == b))) : cmpA .NotEq (.bool a) (.bool b) H r := k
theorem c_is {a : V} {r : Bool → Prop} (k : r (decide (a = .none))) : cmpA .Is a .none H r := ⟨rfl, k⟩
theorem c_isnot {a : V} {r : Bool → Prop} (k : r (!decide (a = .none))) : cmpA .IsNot a .none H r := ⟨rfl, k⟩
theorem c_eqd {a b : V} {x y : Dt} {r : Bool → Prop} (ha : rd H 6 a = some x) (hb : rd H 6 b = some y) (k : r (Dt.eqv x y)) : cmpA .Eq a b H r := by rw [eq_data ha hb]; exact k
theorem c_ned {a b : V} {x y : Dt} {r : Bool → Prop} (ha : rd H 6 a = some x) (hb : rd H 6 b = some y) (k : r (!Dt.eqv x y)) : cmpA .NotEq a b H r := by rw [ne_data ha hb]; exact k
theorem b_at {n : Nat} {xs : List V} {k : Int} {p : V → Prop} (h : H[n]? = some (.list xs)) (h0 : 0 ≤ k) (h1 : k < xs.length) (hp : p (xs[k.toNat]'(by omega))) : subA (.ref n) (.int k) H p := by rw [st_at h h0 h1]; exact hp
theorem b_sign {t : Txt} {k : Int} {p : V → Prop} (h0 : 0 ≤ k) (h1 : k < t.length) (hp : ∀ c ∈ t, p (.str [c])) : subA (.str t) (.int k) H p := by rw [st_sign h0 h1]; exact hp _ (List.getElem_mem _)
theorem b_to {t : Txt} {j : Int} (h0 : 0 ≤ j) (k : Q (.str (t.take j.toNat)) H) : sliceA (.str t) .none (.int j) H Q := by rw [st_to, take_clip_int _ h0]; exact k
theorem b_from {t : Txt} {j : Int} (h0 : 0 ≤ j) (k : Q (.str (t.drop j.toNat)) H) : sliceA (.str t) (.int j) .none H Q := by rw [st_from, drop_clip_int _ h0]; exact k
theorem b_cut {t : Txt} {i j : Int} (h0 : 0 ≤ i) (h1 : 0 ≤ j) (k : Q (.str ((t.drop i.toNat).take (j.toNat - i.toNat))) H) : sliceA (.str t) (.int i) (.int j) H Q := by rw [st_cut, cut_clip_int _ h0 h1]; exact k
theorem b_lto {n : Nat} {xs : List V} {j : Int} (h : H[n]? = some (.list xs)) (h0 : 0 ≤ j) (k : Q (.ref H.length) (H ++ [.list (xs.take j.toNat)])) : sliceA (.ref n) .none (.int j) H Q := by rw [st_lto h, take_clip_int _ h0]; exact k
theorem b_lfrom {n : Nat} {xs : List V} {j : Int} (h : H[n]? = some (.list xs)) (h0 : 0 ≤ j) (k : Q (.ref H.length) (H ++ [.list (xs.drop j.toNat)])) : sliceA (.ref n) (.int j) .none H Q := by rw [st_lfrom h, drop_clip_int _ h0]; exact k
theorem s_len {t : Txt} (k : Q (.int t.length) H) : spLen [.str t] H Q X := k
theorem s_lenl {n : Nat} {xs : List V} (h : H[n]? = some (.list xs)) (k : Q (.int xs.length) H) : spLen [.ref n] H Q X := by rw [st_len_list h]; exact k
theorem s_append {n : Nat} {v : V} {xs : List V} (h0 : n ≠ 0) (h : H[n]? = some (.list xs)) (hl : xs.length < lid) (k : Q .none (H.set n (.list (xs ++ [v])))) : spAppend [.ref n, v] H Q X := by
  refine ⟨h0, ?_⟩; rw [h]; exact ⟨hl, k⟩
theorem s_join {n : Nat} {xs : List V} {ts : List Txt} (h : H[n]? = some (.list xs)) (ht : txts xs = some ts) (hl : (ts.map List.length).sum + ts.length ≤ lid) (k : Q (.str ts.flatten) H) : spJoin [.str [], .ref n] H Q X := by
  unfold spJoin; dsimp only; rw [h]; dsimp only; rw [ht]; exact ⟨hl, k⟩
theorem s_isi {v : V} {g : Str} {a b : Ty} (h1 : tyA v H = some a) (h2 : tyOf g = some b) (k : Q (.bool (isA a b)) H) : spIsi [v, .glob g] H Q X := by
  unfold spIsi; dsimp only; rw [h1, h2]; exact k
theorem i_list {n : Nat} {xs : List V} {p : List Item → (AHeap → Prop) → Prop} (h : H[n]? = some (.list xs)) (k : p (xs.map .one) (fun H' => H'[n]? = some (.list xs))) : itemsA (.ref n) H p := by rw [items_list h]; exact k
theorem i_str {t : Txt} {p : List Item → (AHeap → Prop) → Prop} (k : p (t.map fun c => .one (.str [c])) (fun _ => True)) : itemsA (.str t) H p := k
theorem in_list {n : Nat} {xs : List V} {ds : List Dt} {d : Dt} {a : V} {r : Bool → Prop} (h : H[n]? = some (.list xs)) (h1 : rd H 6 (.ref n) = some (.list ds)) (h2 : rd H 6 a = some d) (k : r (ds.any fun x => Dt.eqv x d)) : cmpA .In a (.ref n) H r := by
  show inA H a (.ref n) r; unfold inA; dsimp only; rw [h]; dsimp only; rw [h1, h2]; exact k

/-! tests -/
theorem if_dec {p : Prop} [Decidable p] {A B : Prop} (h1 : p → A) (h0 : ¬ p → B) : if decide p = true then A else B := by
  by_cases h : p
  · rw [if_pos (by simpa using h)]; exact h1 h
  · rw [if_neg (by simpa using h)]; exact h0 h
theorem if_ndec {p : Prop} [Decidable p] {A B : Prop} (h1 : ¬ p → A) (h0 : p → B) : if (!decide p) = true then A else B := by
  by_cases h : p
  · rw [if_neg (by simpa using h)]; exact h0 h
  · rw [if_pos (by simpa using h)]; exact h1 h
theorem if_tt {A B : Prop} (k : A) : if true = true then A else B := k
theorem if_ff {A B : Prop} (k : B) : if false = true then A else B := k

/-! statements -/
theorem s_asg {x : Str} {e : PE} {b : PS} (k : (sem T e).ev σ H (fun v H1 => semS T b (σ.set x v) H1 P X) X) : semS T (.seq (.assign (.name x) e) b) σ H P X := k
theorem r_ret {e : PE} {b : PS} (k : (sem T e).ev σ H (fun v H1 => P (.ret v) σ H1) X) : semS T (.seq (.ret e) b) σ H P X := k
theorem s_exp {e : PE} {b : PS} (k : (sem T e).ev σ H (fun _ H1 => semS T b σ H1 P X) X) : semS T (.seq (.expr e) b) σ H P X := k
theorem s_ite {c : PE} {a b r : PS} (k : (sem T c).tt σ H (fun t H1 => if t then semS T a σ H1 (SQ T r P X) X else semS T b σ H1 (SQ T r P X) X) X) : semS T (.seq (.ite c a b) r) σ H P X := k
theorem r_for {t : Tgt} {it : PE} {b r : PS} (k : (sem T it).it σ H (fun items K H1 => forGo K (fun x H' σ' => bindA t x H' σ') (fun σ' H' q => semS T b σ' H' q X) (SQ T r P X) items σ H1) X) : semS T (.seq (.for_ t it b) r) σ H P X := k
theorem s_set {o i e : PE} {b : PS} (k : (sem T e).ev σ H (fun v H1 => (sem T o).ev σ H1 (fun ov H2 => (sem T i).ev σ H2 (fun iv H3 => setItemA ov iv v H3 fun H4 => semS T b σ H4 P X) X) X) X) : semS T (.seq (.setItem o i e) b) σ H P X := k
theorem s_skip (k : P .next σ H) : semS T .skip σ H P X := k
theorem sq_next {r : PS} (k : semS T r σ H P X) : SQ T r P X .next σ H := k
theorem sq_ret {r : PS} {v : V} (k : P (.ret v) σ H) : SQ T r P X (.ret v) σ H := k
theorem rq_ret {v : V} (k : Q v H) : RQ Q (.ret v) σ H := k
theorem lq_next (k : W σ H) : LQ W P .next σ H := k
theorem lq_ret {v : V} (k : P (.ret v) σ H) : LQ W P (.ret v) σ H := k
theorem b_set {n : Nat} {xs : List V} {k : Int} {v : V} {p : AHeap → Prop} (hn : n ≠ 0) (h : H[n]? = some (.list xs)) (h0 : 0 ≤ k) (h1 : k < xs.length) (hp : p (H.set n (.list (xs.set k.toNat v)))) : setItemA (.ref n) (.int k) v H p := by
  refine ⟨hn, ?_⟩; rw [h]; exact ⟨h0, by omega, hp⟩

end

/-! contracts -/
theorem ct1 {T : Tab} {x : Str} {ps : PS} {sp : Spec} (k : ∀ vs H Q X, sp vs H Q X → ∃ a, vs = [a] ∧ semS T ps (Sg.set (fun _ => none) x a) H (RQ Q) X) : Ct T [x] ps sp := fun vs H Q X h => by
  obtain ⟨a, rfl, k⟩ := k vs H Q X h; exact ⟨rfl, k⟩
theorem ct2 {T : Tab} {x y : Str} {ps : PS} {sp : Spec} (k : ∀ vs H Q X, sp vs H Q X → ∃ a b, vs = [a, b] ∧ semS T ps (Sg.set (Sg.set (fun _ => none) x a) y b) H (RQ Q) X) : Ct T [x, y] ps sp := fun vs H Q X h => by
  obtain ⟨a, b, rfl, k⟩ := k vs H Q X h; exact ⟨rfl, k⟩
theorem ct3 {T : Tab} {x y z : Str} {ps : PS} {sp : Spec} (k : ∀ vs H Q X, sp vs H Q X → ∃ a b c, vs = [a, b, c] ∧ semS T ps (Sg.set (Sg.set (Sg.set (fun _ => none) x a) y b) z c) H (RQ Q) X) : Ct T [x, y, z] ps sp := fun vs H Q X h => by
  obtain ⟨a, b, c, rfl, k⟩ := k vs H Q X h; exact ⟨rfl, k⟩
theorem ct4 {T : Tab} {x y z u : Str} {ps : PS} {sp : Spec} (k : ∀ vs H Q X, sp vs H Q X → ∃ a b c d, vs = [a, b, c, d] ∧ semS T ps (Sg.set (Sg.set (Sg.set (Sg.set (fun _ => none) x a) y b) z c) u d) H (RQ Q) X) : Ct T [x, y, z, u] ps sp := fun vs H Q X h => by
  obtain ⟨a, b, c, d, rfl, k⟩ := k vs H Q X h; exact ⟨rfl, k⟩

/-- a loop by what stays true -/
theorem for_inv {T : Tab} {X : XPost} {K : AHeap → Prop} {t : Tgt} {b r : PS} {P : SPost} (I : List Item → Sg → AHeap → Prop)
    (step : ∀ x xs σ H, I (x :: xs) σ H → K H ∧ ∃ σ', bindA t x H σ = some σ' ∧ ∀ W : Sg → AHeap → Prop, (∀ σ2 H2, I xs σ2 H2 → W σ2 H2) → semS T b σ' H (LQ W (SQ T r P X)) X)
    (fin : ∀ σ H, I [] σ H → K H ∧ semS T r σ H P X) {items : List Item} {σ : Sg} {H : AHeap} (h : I items σ H) : forGo K (fun x H' σ' => bindA t x H' σ') (fun σ' H' q => semS T b σ' H' q X) (SQ T r P X) items σ H :=
  for_ind I step fin items σ H h

end Mine
end
section
namespace Mine
open PySem
noncomputable def x_is_sign : List Str := [(nm 27881272436)]
noncomputable def b_is_sign : PS := (.seq (.ret (.and (.call (.glob (nm 938756632654307293673)) (.cons (.name (nm 27881272436)) (.cons (.glob (nm 1882739)) .nil))) (.and (.cmp1 .Eq (.call (.glob (nm 1815276)) (.cons (.name (nm 27881272436)) .nil)) (.int 1)) (.cmp1 .In (.name (nm 27881272436)) (.glob (nm 367874058560204)))))) .skip)
noncomputable def x_is_word : List Str := [(nm 27881272436)]
noncomputable def b_is_word_1 : PS := (.seq (.ret (.call (.glob (nm 1783393)) (.cons (.comp0 (.call (.glob (nm 487352597740009)) (.cons (.name (nm 232387827)) .nil)) (.name (nm 232387827)) (.itVal (.name (nm 27881272436)))) .nil))) .skip)
noncomputable def b_is_word : PS := (.seq (.ite (.or (.not (.call (.glob (nm 938756632654307293673)) (.cons (.name (nm 27881272436)) (.cons (.glob (nm 1882739)) .nil)))) (.not (.cmp2 .LtE .LtE (.int 1) (.call (.glob (nm 1815276)) (.cons (.name (nm 27881272436)) .nil)) (.glob (nm 771200664775530178509))))) (.seq (.ret (.bool false)) .skip) .skip) b_is_word_1)
noncomputable def x_checked : List Str := [(nm 31081674743)]
noncomputable def b_checked_4 : PS := (.seq (.ret (.call (.glob (nm 3463330969587)) (.cons (.name (nm 27076163558)) .nil))) .skip)
noncomputable def b_checked_l1_2 : PS := (.seq (.expr (.meth (.name (nm 27076163558)) (nm 3465715398753) (.cons (.name (nm 211597303)) .nil))) .skip)
noncomputable def b_checked_l1_1 : PS := (.seq (.ite (.cmp1 .In (.name (nm 211597303)) (.name (nm 27076163558))) (.seq (.raise (nm 27321334740) (.str ⟨#[97, 32, 119, 111, 114, 100, 32, 116, 119, 105, 99, 101]⟩)) .skip) .skip) b_checked_l1_2)
noncomputable def b_checked_l1 : PS := (.seq (.ite (.not (.call (.glob (nm 443751708752361)) (.cons (.name (nm 211597303)) .nil))) (.seq (.raise (nm 443751641723074) (.str ⟨#[110, 111, 32, 119, 111, 114, 100]⟩)) .skip) .skip) b_checked_l1_1)
noncomputable def b_checked_3 : PS := (.seq (.for_ (.name (nm 211597303)) (.itVal (.name (nm 31081674743))) b_checked_l1) b_checked_4)
noncomputable def b_checked_2 : PS := (.seq (.assign (.name (nm 27076163558)) (.list .nil)) b_checked_3)
noncomputable def b_checked_1 : PS := (.seq (.ite (.cmp1 .Gt (.call (.glob (nm 1815276)) (.cons (.name (nm 31081674743)) .nil)) (.glob (nm 770486307810356553677))) (.seq (.raise (nm 228276934) (.str ⟨#[109, 111, 114, 101, 32, 116, 104, 97, 110, 32, 116, 119, 101, 108, 118, 101, 32, 119, 111, 114, 100, 115]⟩)) .skip) .skip) b_checked_2)
noncomputable def b_checked : PS := (.seq (.ite (.not (.call (.glob (nm 938756632654307293673)) (.cons (.name (nm 31081674743)) (.cons (.glob (nm 245167340)) .nil)))) (.seq (.raise (nm 447668609953986) (.str ⟨#[97, 32, 99, 111, 100, 101, 32, 105, 115, 32, 97, 32, 108, 105, 115, 116, 32, 111, 102, 32, 119, 111, 114, 100, 115]⟩)) .skip) .skip) b_checked_1)
noncomputable def x_words_at : List Str := [(nm 31081674743), (nm 245248756), (nm 27321202288)]
noncomputable def b_words_at : PS := (.seq (.ret (.sortLen (.comp1 (.name (nm 211597303)) (.name (nm 211597303)) (.itVal (.name (nm 31081674743))) (.cmp1 .Eq (.slice (.name (nm 245248756)) (.name (nm 27321202288)) (.bin .Add (.name (nm 27321202288)) (.call (.glob (nm 1815276)) (.cons (.name (nm 211597303)) .nil)))) (.name (nm 211597303)))))) .skip)
noncomputable def x_law_at : List Str := [(nm 137989276334399845594719), (nm 3702244537951)]
noncomputable def b_law_at : PS := (.seq (.ite (.cmp1 .Lt (.name (nm 3702244537951)) (.call (.glob (nm 1815276)) (.cons (.name (nm 137989276334399845594719)) .nil))) (.seq (.ret (.sub (.name (nm 137989276334399845594719)) (.name (nm 3702244537951)))) .skip) .skip) (.seq (.ret (.int 0)) .skip))
noncomputable def x_law_mixed : List Str := [(nm 7843466381129971295), (nm 3702244537951)]
noncomputable def b_law_mixed_1 : PS := (.seq (.ret (.bin .Mod (.bin .Mult (.name (nm 135526128861644626359903)) (.name (nm 135526128861644626359903))) (.int 2147483629))) .skip)
noncomputable def b_law_mixed : PS := (.seq (.assign (.name (nm 135526128861644626359903)) (.bin .Mod (.bin .Mult (.bin .Add (.bin .Add (.name (nm 7843466381129971295)) (.bin .Mult (.int 7919) (.name (nm 3702244537951)))) (.int 3)) (.int 48271)) (.int 2147483647))) b_law_mixed_1)
noncomputable def x_law_whole : List Str := [(nm 930329895887808525919)]
noncomputable def b_law_whole : PS := (.seq (.ret (.and (.call (.glob (nm 938756632654307293673)) (.cons (.name (nm 930329895887808525919)) (.cons (.glob (nm 1914729)) .nil))) (.not (.call (.glob (nm 938756632654307293673)) (.cons (.name (nm 930329895887808525919)) (.cons (.glob (nm 228325346)) .nil)))))) .skip)
noncomputable def x_law_signs : List Str := [(nm 7843466381129971295)]
noncomputable def b_law_signs_2 : PS := (.seq (.ret (.meth (.str ⟨#[]⟩) (nm 232421354) (.cons (.comp0 (.sub (.name (nm 7339670703038821983)) (.bin .Mod (.bin .Add (.bin .FloorDiv (.name (nm 7843466381129971295)) (.int 6)) (.bin .Mult (.bin .Add (.int 1) (.bin .Mod (.bin .FloorDiv (.name (nm 7843466381129971295)) (.int 156)) (.int 25))) (.name (nm 3702244537951)))) (.int 26))) (.name (nm 3702244537951)) (.itRange1 (.name (nm 8781323754941216351)))) .nil))) .skip)
noncomputable def b_law_signs_1 : PS := (.seq (.assign (.name (nm 8781323754941216351)) (.sub (.list (.cons (.int 2) (.cons (.int 1) (.cons (.int 2) (.cons (.int 3) (.cons (.int 2) (.cons (.int 5) .nil))))))) (.bin .Mod (.name (nm 7843466381129971295)) (.int 6)))) b_law_signs_2)
noncomputable def b_law_signs : PS := (.seq (.assign (.name (nm 7339670703038821983)) (.str ⟨#[97, 98, 99, 100, 101, 102, 103, 104, 105, 106, 107, 108, 109, 110, 111, 112, 113, 114, 115, 116, 117, 118, 119, 120, 121, 122]⟩)) b_law_signs_1)
noncomputable def x_law_word : List Str := [(nm 7843466381129971295), (nm 32292397438104887858748106241631)]
noncomputable def b_law_word_1 : PS := (.seq (.ret (.meth (.str ⟨#[]⟩) (nm 232421354) (.cons (.comp0 (.sub (.name (nm 32292397438104887858748106241631)) (.bin .Mod (.bin .FloorDiv (.call (.glob (nm 929683040243566540383)) (.cons (.name (nm 7843466381129971295)) (.cons (.name (nm 3667884799583)) .nil))) (.int 64)) (.call (.glob (nm 1815276)) (.cons (.name (nm 32292397438104887858748106241631)) .nil)))) (.name (nm 3667884799583)) (.itRange1 (.name (nm 7346962664154232415)))) .nil))) .skip)
noncomputable def b_law_word : PS := (.seq (.assign (.name (nm 7346962664154232415)) (.sub (.list (.cons (.int 1) (.cons (.int 2) (.cons (.int 3) (.cons (.int 2) (.cons (.int 4) (.cons (.bin .Add (.int 1) (.bin .Mod (.bin .FloorDiv (.name (nm 7843466381129971295)) (.int 8)) (.int 10))) (.cons (.int 3) (.cons (.int 2) .nil))))))))) (.bin .Mod (.name (nm 7843466381129971295)) (.int 8)))) b_law_word_1)
noncomputable def x_law_any_word : List Str := [(nm 7843466381129971295)]
noncomputable def b_law_any_word_3 : PS := (.seq (.ret (.name (nm 252284354984115859945804035679))) .skip)
noncomputable def b_law_any_word_l1_1 : PS := (.seq (.assign (.name (nm 252284354984187917196244579935)) (.bin .FloorDiv (.name (nm 252284354984187917196244579935)) (.int 26))) .skip)
noncomputable def b_law_any_word_l1 : PS := (.seq (.assign (.name (nm 252284354984115859945804035679)) (.bin .Add (.name (nm 252284354984115859945804035679)) (.sub (.str ⟨#[97, 98, 99, 100, 101, 102, 103, 104, 105, 106, 107, 108, 109, 110, 111, 112, 113, 114, 115, 116, 117, 118, 119, 120, 121, 122]⟩) (.bin .Mod (.name (nm 252284354984187917196244579935)) (.int 26))))) b_law_any_word_l1_1)
noncomputable def b_law_any_word_2 : PS := (.seq (.for_ (.name (nm 3667884799583)) (.itRange1 (.bin .Add (.int 1) (.bin .Mod (.name (nm 7843466381129971295)) (.int 10)))) b_law_any_word_l1) b_law_any_word_3)
noncomputable def b_law_any_word_1 : PS := (.seq (.assign (.name (nm 252284354984187917196244579935)) (.bin .FloorDiv (.name (nm 7843466381129971295)) (.int 10))) b_law_any_word_2)
noncomputable def b_law_any_word : PS := (.seq (.assign (.name (nm 252284354984115859945804035679)) (.str ⟨#[]⟩)) b_law_any_word_1)
noncomputable def x_law_more : List Str := [(nm 32292397438104173501782932616799), (nm 7843466381129971295), (nm 32292397438104887858748106241631)]
noncomputable def b_law_more_4 : PS := (.seq (.ret (.slice (.sub (.bin .Add (.name (nm 7339670703038821983)) (.list (.cons (.slice (.name (nm 57345570095265375)) (.name (nm 15398215025955758113584735)) .none) (.cons (.slice (.name (nm 57345570095265375)) .none (.bin .Add (.name (nm 15398215025955758113584735)) (.int 1))) (.cons (.bin .Add (.slice (.name (nm 57345570095265375)) (.name (nm 15398215025955758113584735)) .none) (.name (nm 1058801290007509759583))) .nil))))) (.bin .Mod (.name (nm 7843466381129971295)) (.int 8))) .none (.int 10))) .skip)
noncomputable def b_law_more_3 : PS := (.seq (.assign (.name (nm 7339670703038821983)) (.list (.cons (.bin .Add (.name (nm 57345570095265375)) (.name (nm 1058801290007509759583))) (.cons (.bin .Add (.name (nm 57345570095265375)) (.name (nm 1058801290007509759583))) (.cons (.bin .Add (.name (nm 1058801290007509759583)) (.name (nm 57345570095265375))) (.cons (.bin .Add (.name (nm 57345570095265375)) (.call (.glob (nm 7270427996206954079)) (.cons (.bin .FloorDiv (.name (nm 7843466381129971295)) (.int 8)) (.cons (.name (nm 32292397438104887858748106241631)) .nil)))) (.cons (.bin .Add (.call (.glob (nm 7270427996206954079)) (.cons (.bin .FloorDiv (.name (nm 7843466381129971295)) (.int 8)) (.cons (.name (nm 32292397438104887858748106241631)) .nil))) (.name (nm 57345570095265375))) .nil))))))) b_law_more_4)
noncomputable def b_law_more_2 : PS := (.seq (.assign (.name (nm 15398215025955758113584735)) (.bin .Mod (.bin .FloorDiv (.name (nm 7843466381129971295)) (.int 1352)) (.call (.glob (nm 1815276)) (.cons (.name (nm 57345570095265375)) .nil)))) b_law_more_3)
noncomputable def b_law_more_1 : PS := (.seq (.assign (.name (nm 1058801290007509759583)) (.sub (.name (nm 32292397438104173501782932616799)) (.bin .Mod (.bin .FloorDiv (.name (nm 7843466381129971295)) (.int 104)) (.call (.glob (nm 1815276)) (.cons (.name (nm 32292397438104173501782932616799)) .nil))))) b_law_more_2)
noncomputable def b_law_more : PS := (.seq (.assign (.name (nm 57345570095265375)) (.sub (.name (nm 32292397438104173501782932616799)) (.bin .Mod (.bin .FloorDiv (.name (nm 7843466381129971295)) (.int 8)) (.call (.glob (nm 1815276)) (.cons (.name (nm 32292397438104173501782932616799)) .nil))))) b_law_more_1)
noncomputable def x_law_chain : List Str := [(nm 137989276334399845594719), (nm 1078262421209535247967), (nm 32292397438104887858748106241631)]
noncomputable def b_law_chain_5 : PS := (.seq (.ret (.bin .Add (.slice (.name (nm 32292397438104173501782932616799)) (.name (nm 7991030221786084959)) .none) (.slice (.name (nm 32292397438104173501782932616799)) .none (.name (nm 7991030221786084959))))) .skip)
noncomputable def b_law_chain_4 : PS := (.seq (.assign (.name (nm 7991030221786084959)) (.bin .Mod (.call (.glob (nm 513532042442335)) (.cons (.name (nm 137989276334399845594719)) (.cons (.bin .Add (.name (nm 1078262421209535247967)) (.int 2)) .nil))) (.call (.glob (nm 1815276)) (.cons (.name (nm 32292397438104173501782932616799)) .nil)))) b_law_chain_5)
noncomputable def b_law_chain_3 : PS := (.seq (.ite (.cmp1 .Eq (.bin .Mod (.bin .FloorDiv (.call (.glob (nm 513532042442335)) (.cons (.name (nm 137989276334399845594719)) (.cons (.name (nm 1078262421209535247967)) .nil))) (.int 280)) (.int 2)) (.int 1)) (.seq (.expr (.meth (.name (nm 32292397438104173501782932616799)) (nm 3465715398753) (.cons (.sub (.name (nm 1068460336826721793631)) (.neg (.int 1))) .nil))) .skip) .skip) b_law_chain_4)
noncomputable def b_law_chain_2 : PS := (.seq (.assign (.name (nm 32292397438104173501782932616799)) (.bin .Add (.list (.cons (.sub (.name (nm 1068460336826721793631)) (.int 0)) .nil)) (.comp0 (.bin .Add (.sub (.name (nm 1068460336826721793631)) (.bin .Sub (.name (nm 3702244537951)) (.int 1))) (.sub (.name (nm 1068460336826721793631)) (.name (nm 3702244537951)))) (.name (nm 3702244537951)) (.itRange2 (.int 1) (.call (.glob (nm 1815276)) (.cons (.name (nm 1068460336826721793631)) .nil)))))) b_law_chain_3)
noncomputable def b_law_chain_l1 : PS := (.seq (.expr (.meth (.name (nm 1068460336826721793631)) (nm 3465715398753) (.cons (.slice (.call (.glob (nm 7270427996206954079)) (.cons (.call (.glob (nm 929683040243566540383)) (.cons (.call (.glob (nm 513532042442335)) (.cons (.name (nm 137989276334399845594719)) (.cons (.bin .Add (.bin .Add (.name (nm 1078262421209535247967)) (.int 2)) (.bin .Mod (.name (nm 3702244537951)) (.int 6))) .nil))) (.cons (.name (nm 3702244537951)) .nil))) (.cons (.name (nm 32292397438104887858748106241631)) .nil))) .none (.int 5)) .nil))) .skip)
noncomputable def b_law_chain_1 : PS := (.seq (.for_ (.name (nm 3702244537951)) (.itRange1 (.bin .Add (.int 2) (.bin .Mod (.bin .FloorDiv (.call (.glob (nm 513532042442335)) (.cons (.name (nm 137989276334399845594719)) (.cons (.name (nm 1078262421209535247967)) .nil))) (.int 40)) (.int 7)))) b_law_chain_l1) b_law_chain_2)
noncomputable def b_law_chain : PS := (.seq (.assign (.name (nm 1068460336826721793631)) (.list .nil)) b_law_chain_1)
noncomputable def x_law_words : List Str := [(nm 137989276334399845594719), (nm 1078262421209535247967)]
noncomputable def b_law_words_5 : PS := (.seq (.ret (.name (nm 32292397438104173501782932616799))) .skip)
noncomputable def b_law_words_l1_3 : PS := (.seq (.ite (.cmp1 .NotIn (.name (nm 252284354984115859945804035679)) (.name (nm 32292397438104173501782932616799))) (.seq (.expr (.meth (.name (nm 32292397438104173501782932616799)) (nm 3465715398753) (.cons (.name (nm 252284354984115859945804035679)) .nil))) .skip) .skip) .skip)
noncomputable def b_law_words_l1_2 : PS := (.seq (.ite (.cmp1 .Eq (.bin .Mod (.bin .FloorDiv (.name (nm 7843466381129971295)) (.int 10)) (.int 4)) (.int 1)) (.seq (.assign (.name (nm 252284354984115859945804035679)) (.call (.glob (nm 1951640654478162685372954207)) (.cons (.bin .Add (.name (nm 57345570095265375)) (.name (nm 3702244537951))) .nil))) .skip) (.seq (.ite (.and (.cmp1 .NotEq (.name (nm 32292397438104173501782932616799)) (.list .nil)) (.cmp1 .Eq (.bin .Mod (.bin .FloorDiv (.call (.glob (nm 929683040243566540383)) (.cons (.name (nm 57345570095265375)) (.cons (.name (nm 3702244537951)) .nil))) (.int 1000)) (.int 2)) (.int 1))) (.seq (.assign (.name (nm 252284354984115859945804035679)) (.call (.glob (nm 7342485246647498335)) (.cons (.name (nm 32292397438104173501782932616799)) (.cons (.call (.glob (nm 929683040243566540383)) (.cons (.name (nm 57345570095265375)) (.cons (.bin .Add (.name (nm 3702244537951)) (.int 20)) .nil))) (.cons (.name (nm 32292397438104887858748106241631)) .nil))))) .skip) .skip) .skip)) b_law_words_l1_3)
noncomputable def b_law_words_l1_1 : PS := (.seq (.assign (.name (nm 252284354984115859945804035679)) (.call (.glob (nm 7270427996206954079)) (.cons (.call (.glob (nm 929683040243566540383)) (.cons (.name (nm 57345570095265375)) (.cons (.name (nm 3702244537951)) .nil))) (.cons (.name (nm 32292397438104887858748106241631)) .nil)))) b_law_words_l1_2)
noncomputable def b_law_words_l1 : PS := (.seq (.assign (.name (nm 57345570095265375)) (.call (.glob (nm 513532042442335)) (.cons (.name (nm 137989276334399845594719)) (.cons (.bin .Add (.bin .Add (.name (nm 1078262421209535247967)) (.int 2)) (.bin .Mod (.name (nm 3702244537951)) (.int 6))) .nil)))) b_law_words_l1_1)
noncomputable def b_law_words_4 : PS := (.seq (.for_ (.name (nm 3702244537951)) (.itRange1 (.sub (.list (.cons (.int 2) (.cons (.int 3) (.cons (.int 4) (.cons (.int 5) (.cons (.int 3) (.cons (.int 2) (.cons (.int 6) (.cons (.int 1) (.cons (.int 0) (.cons (.int 12) .nil))))))))))) (.bin .Mod (.name (nm 7843466381129971295)) (.int 10)))) b_law_words_l1) b_law_words_5)
noncomputable def b_law_words_l2 : PS := (.seq (.ite (.cmp1 .NotIn (.name (nm 252284354984115859945804035679)) (.name (nm 32292397438104173501782932616799))) (.seq (.expr (.meth (.name (nm 32292397438104173501782932616799)) (nm 3465715398753) (.cons (.name (nm 252284354984115859945804035679)) .nil))) .skip) .skip) .skip)
noncomputable def b_law_words_3 : PS := (.seq (.ite (.cmp1 .Eq (.bin .Mod (.bin .FloorDiv (.name (nm 7843466381129971295)) (.int 10)) (.int 4)) (.int 2)) (.seq (.for_ (.name (nm 252284354984115859945804035679)) (.itVal (.call (.glob (nm 1022192038397693425247)) (.cons (.name (nm 137989276334399845594719)) (.cons (.name (nm 1078262421209535247967)) (.cons (.name (nm 32292397438104887858748106241631)) .nil))))) b_law_words_l2) (.seq (.ret (.name (nm 32292397438104173501782932616799))) .skip)) .skip) b_law_words_4)
noncomputable def b_law_words_2 : PS := (.seq (.assign (.name (nm 32292397438104173501782932616799)) (.list .nil)) b_law_words_3)
noncomputable def b_law_words_1 : PS := (.seq (.assign (.name (nm 32292397438104887858748106241631)) (.call (.glob (nm 1068672569199679796831)) (.cons (.call (.glob (nm 513532042442335)) (.cons (.name (nm 137989276334399845594719)) (.cons (.bin .Add (.name (nm 1078262421209535247967)) (.int 1)) .nil))) .nil))) b_law_words_2)
noncomputable def b_law_words : PS := (.seq (.assign (.name (nm 7843466381129971295)) (.call (.glob (nm 513532042442335)) (.cons (.name (nm 137989276334399845594719)) (.cons (.name (nm 1078262421209535247967)) .nil)))) b_law_words_1)
noncomputable def x_law_row : List Str := [(nm 137989276334399845594719), (nm 1078262421209535247967), (nm 32292397438104173501782932616799), (nm 8423912107169838687)]
noncomputable def b_law_row_2 : PS := (.seq (.ret (.name (nm 1970971523324088107488802399))) .skip)
noncomputable def b_law_row_l1 : PS := (.seq (.expr (.meth (.name (nm 1970971523324088107488802399)) (nm 3465715398753) (.cons (.sub (.name (nm 32292397438104173501782932616799)) (.bin .Mod (.bin .FloorDiv (.call (.glob (nm 929683040243566540383)) (.cons (.call (.glob (nm 513532042442335)) (.cons (.name (nm 137989276334399845594719)) (.cons (.bin .Add (.bin .Add (.name (nm 1078262421209535247967)) (.int 1)) (.bin .Mod (.name (nm 3702244537951)) (.int 5))) .nil))) (.cons (.name (nm 3702244537951)) .nil))) (.int 16)) (.call (.glob (nm 1815276)) (.cons (.name (nm 32292397438104173501782932616799)) .nil)))) .nil))) .skip)
noncomputable def b_law_row_1 : PS := (.seq (.ite (.cmp1 .NotEq (.name (nm 32292397438104173501782932616799)) (.list .nil)) (.seq (.for_ (.name (nm 3702244537951)) (.itRange1 (.bin .Mod (.call (.glob (nm 513532042442335)) (.cons (.name (nm 137989276334399845594719)) (.cons (.name (nm 1078262421209535247967)) .nil))) (.bin .Add (.name (nm 8423912107169838687)) (.int 1)))) b_law_row_l1) .skip) .skip) b_law_row_2)
noncomputable def b_law_row : PS := (.seq (.assign (.name (nm 1970971523324088107488802399)) (.list .nil)) b_law_row_1)

/-! What the laws' own builders build. -/

/-- a word of so many letters at the most -/
structure Wd (n : Nat) (t : Txt) : Prop where
  pos : 1 ≤ t.length
  le : t.length ≤ n
  abc : ∀ c ∈ t, 97 ≤ c ∧ c ≤ 122
theorem Wd.up {n m : Nat} {t : Txt} (h : Wd n t) (k : n ≤ m) : Wd m t := ⟨h.pos, Nat.le_trans h.le k, h.abc⟩
/-- a list of words -/
noncomputable def Ws (H : AHeap) (n : Nat) (ws : List Txt) : Prop := H[n]? = some (.list (ws.map .str))
/-- the script -/
noncomputable def Scr (H : AHeap) : Prop := ∃ is : List Int, H[0]? = some (.list (is.map .int))
theorem Scr.keep {H H' : AHeap} (h : Scr H) (k : Keep H H') : Scr H' := let ⟨is, e⟩ := h; ⟨is, k.get e⟩
/-- a code -/
structure Cd (ws : List Txt) : Prop where
  le : ws.length ≤ 12
  wd : ∀ w ∈ ws, Wd 10 w
  nd : ws.Nodup

noncomputable def spAt : Spec := fun vs H Q _ => ∃ k : Int, vs = [.ref 0, .int k] ∧ 0 ≤ k ∧ Scr H ∧ ∀ i, Q (.int i) H
noncomputable def spMixed : Spec := fun vs H Q _ => ∃ c k : Int, vs = [.int c, .int k] ∧ ∀ m : Int, 0 ≤ m → m < 2147483629 → Q (.int m) H
noncomputable def spWhole : Spec := fun vs H Q _ => ∃ i : Int, vs = [.int i] ∧ Q (.bool true) H
noncomputable def spSigns : Spec := fun vs H Q _ => ∃ c : Int, vs = [.int c] ∧ ∀ t H', Wd 5 t → Keep H H' → Q (.str t) H'
noncomputable def spWord : Spec := fun vs H Q _ => ∃ (c : Int) (s : Txt), vs = [.int c, .str s] ∧ Wd 5 s ∧ ∀ t H', Wd 10 t → Keep H H' → Q (.str t) H'
noncomputable def spAnyW : Spec := fun vs H Q _ => ∃ c : Int, vs = [.int c] ∧ ∀ t, Wd 10 t → Q (.str t) H

section
variable {T : Tab}

theorem ct_law_at (h1 : Has T (nm 1815276) spLen) : Ct T x_law_at b_law_at spAt := by
  refine ct2 fun vs H Q X h => ?_
  obtain ⟨k, rfl, h0, ⟨is, hs⟩, h⟩ := h
  refine ⟨_, _, rfl, ?_⟩
  refine s_ite ?_
  (repeat (first | ((with_reducible first | apply e_name | apply t_name); case h => (repeat (first | with_reducible exact hit | with_reducible assumption | (with_reducible apply miss; case h => with_unfolding_all rfl)))) | (with_reducible first | apply e_int | apply e_str | apply e_none | apply e_bool | apply e_bin | apply l1 | apply l2 | apply l0 | apply lc | apply e_sub | apply e_slice | apply e_list | apply e_tuple | apply e_cmp | apply e_and | apply e_not | apply e_or | apply e_neg | apply t_cmp | apply t_cmp2 | apply t_and | apply t_or | apply t_not | apply t_bool | apply t_sub | apply tru_bool | apply e_comp0 | apply e_comp1 | apply i_val | apply i_rng1 | apply i_rng2 | apply i_rev | apply b_add | apply b_sub | apply c_lt | apply c_le | apply c_gt | apply c_ge | apply c_eqi | apply c_nei | apply c_eqs | apply c_nes | apply c_eqb | apply c_neb | apply c_is | apply c_isnot | apply s_len | apply if_tt | apply if_ff | apply r_ret | apply s_asg | apply s_exp | apply s_ite | apply s_set | apply s_skip | apply sq_next | apply sq_ret | apply lq_next | apply lq_ret | apply rq_ret | apply i_str) | ((with_reducible first | apply e_call | apply t_call | apply e_glob | apply e_methS | apply e_srt); case h => with_reducible assumption) | (with_reducible apply b_div; case h => with_unfolding_all rfl)))
  refine s_lenl hs ?_
  (repeat (first | ((with_reducible first | apply e_name | apply t_name); case h => (repeat (first | with_reducible exact hit | with_reducible assumption | (with_reducible apply miss; case h => with_unfolding_all rfl)))) | (with_reducible first | apply e_int | apply e_str | apply e_none | apply e_bool | apply e_bin | apply l1 | apply l2 | apply l0 | apply lc | apply e_sub | apply e_slice | apply e_list | apply e_tuple | apply e_cmp | apply e_and | apply e_not | apply e_or | apply e_neg | apply t_cmp | apply t_cmp2 | apply t_and | apply t_or | apply t_not | apply t_bool | apply t_sub | apply tru_bool | apply e_comp0 | apply e_comp1 | apply i_val | apply i_rng1 | apply i_rng2 | apply i_rev | apply b_add | apply b_sub | apply c_lt | apply c_le | apply c_gt | apply c_ge | apply c_eqi | apply c_nei | apply c_eqs | apply c_nes | apply c_eqb | apply c_neb | apply c_is | apply c_isnot | apply s_len | apply if_tt | apply if_ff | apply r_ret | apply s_asg | apply s_exp | apply s_ite | apply s_set | apply s_skip | apply sq_next | apply sq_ret | apply lq_next | apply lq_ret | apply rq_ret | apply i_str) | ((with_reducible first | apply e_call | apply t_call | apply e_glob | apply e_methS | apply e_srt); case h => with_reducible assumption) | (with_reducible apply b_div; case h => with_unfolding_all rfl)))
  refine if_dec (fun hk => ?_) fun _ => ?_
  · (repeat (first | ((with_reducible first | apply e_name | apply t_name); case h => (repeat (first | with_reducible exact hit | with_reducible assumption | (with_reducible apply miss; case h => with_unfolding_all rfl)))) | (with_reducible first | apply e_int | apply e_str | apply e_none | apply e_bool | apply e_bin | apply l1 | apply l2 | apply l0 | apply lc | apply e_sub | apply e_slice | apply e_list | apply e_tuple | apply e_cmp | apply e_and | apply e_not | apply e_or | apply e_neg | apply t_cmp | apply t_cmp2 | apply t_and | apply t_or | apply t_not | apply t_bool | apply t_sub | apply tru_bool | apply e_comp0 | apply e_comp1 | apply i_val | apply i_rng1 | apply i_rng2 | apply i_rev | apply b_add | apply b_sub | apply c_lt | apply c_le | apply c_gt | apply c_ge | apply c_eqi | apply c_nei | apply c_eqs | apply c_nes | apply c_eqb | apply c_neb | apply c_is | apply c_isnot | apply s_len | apply if_tt | apply if_ff | apply r_ret | apply s_asg | apply s_exp | apply s_ite | apply s_set | apply s_skip | apply sq_next | apply sq_ret | apply lq_next | apply lq_ret | apply rq_ret | apply i_str) | ((with_reducible first | apply e_call | apply t_call | apply e_glob | apply e_methS | apply e_srt); case h => with_reducible assumption) | (with_reducible apply b_div; case h => with_unfolding_all rfl)))
    refine st_any hs h0 hk fun v hv => ?_
    obtain ⟨i, _, rfl⟩ := List.mem_map.mp hv
    exact h i
  · (repeat (first | ((with_reducible first | apply e_name | apply t_name); case h => (repeat (first | with_reducible exact hit | with_reducible assumption | (with_reducible apply miss; case h => with_unfolding_all rfl)))) | (with_reducible first | apply e_int | apply e_str | apply e_none | apply e_bool | apply e_bin | apply l1 | apply l2 | apply l0 | apply lc | apply e_sub | apply e_slice | apply e_list | apply e_tuple | apply e_cmp | apply e_and | apply e_not | apply e_or | apply e_neg | apply t_cmp | apply t_cmp2 | apply t_and | apply t_or | apply t_not | apply t_bool | apply t_sub | apply tru_bool | apply e_comp0 | apply e_comp1 | apply i_val | apply i_rng1 | apply i_rng2 | apply i_rev | apply b_add | apply b_sub | apply c_lt | apply c_le | apply c_gt | apply c_ge | apply c_eqi | apply c_nei | apply c_eqs | apply c_nes | apply c_eqb | apply c_neb | apply c_is | apply c_isnot | apply s_len | apply if_tt | apply if_ff | apply r_ret | apply s_asg | apply s_exp | apply s_ite | apply s_set | apply s_skip | apply sq_next | apply sq_ret | apply lq_next | apply lq_ret | apply rq_ret | apply i_str) | ((with_reducible first | apply e_call | apply t_call | apply e_glob | apply e_methS | apply e_srt); case h => with_reducible assumption) | (with_reducible apply b_div; case h => with_unfolding_all rfl)))
    exact h 0

theorem ct_law_mixed : Ct T x_law_mixed b_law_mixed spMixed := by
  refine ct2 fun vs H Q X h => ?_
  obtain ⟨c, k, rfl, h⟩ := h
  refine ⟨_, _, rfl, ?_⟩
  refine s_asg ?_
  (repeat (first | ((with_reducible first | apply e_name | apply t_name); case h => (repeat (first | with_reducible exact hit | with_reducible assumption | (with_reducible apply miss; case h => with_unfolding_all rfl)))) | (with_reducible first | apply e_int | apply e_str | apply e_none | apply e_bool | apply e_bin | apply l1 | apply l2 | apply l0 | apply lc | apply e_sub | apply e_slice | apply e_list | apply e_tuple | apply e_cmp | apply e_and | apply e_not | apply e_or | apply e_neg | apply t_cmp | apply t_cmp2 | apply t_and | apply t_or | apply t_not | apply t_bool | apply t_sub | apply tru_bool | apply e_comp0 | apply e_comp1 | apply i_val | apply i_rng1 | apply i_rng2 | apply i_rev | apply b_add | apply b_sub | apply c_lt | apply c_le | apply c_gt | apply c_ge | apply c_eqi | apply c_nei | apply c_eqs | apply c_nes | apply c_eqb | apply c_neb | apply c_is | apply c_isnot | apply s_len | apply if_tt | apply if_ff | apply r_ret | apply s_asg | apply s_exp | apply s_ite | apply s_set | apply s_skip | apply sq_next | apply sq_ret | apply lq_next | apply lq_ret | apply rq_ret | apply i_str) | ((with_reducible first | apply e_call | apply t_call | apply e_glob | apply e_methS | apply e_srt); case h => with_reducible assumption) | (with_reducible apply b_div; case h => with_unfolding_all rfl)))
  refine b_mul (.inl (by decide)) ?_
  (repeat (first | ((with_reducible first | apply e_name | apply t_name); case h => (repeat (first | with_reducible exact hit | with_reducible assumption | (with_reducible apply miss; case h => with_unfolding_all rfl)))) | (with_reducible first | apply e_int | apply e_str | apply e_none | apply e_bool | apply e_bin | apply l1 | apply l2 | apply l0 | apply lc | apply e_sub | apply e_slice | apply e_list | apply e_tuple | apply e_cmp | apply e_and | apply e_not | apply e_or | apply e_neg | apply t_cmp | apply t_cmp2 | apply t_and | apply t_or | apply t_not | apply t_bool | apply t_sub | apply tru_bool | apply e_comp0 | apply e_comp1 | apply i_val | apply i_rng1 | apply i_rng2 | apply i_rev | apply b_add | apply b_sub | apply c_lt | apply c_le | apply c_gt | apply c_ge | apply c_eqi | apply c_nei | apply c_eqs | apply c_nes | apply c_eqb | apply c_neb | apply c_is | apply c_isnot | apply s_len | apply if_tt | apply if_ff | apply r_ret | apply s_asg | apply s_exp | apply s_ite | apply s_set | apply s_skip | apply sq_next | apply sq_ret | apply lq_next | apply lq_ret | apply rq_ret | apply i_str) | ((with_reducible first | apply e_call | apply t_call | apply e_glob | apply e_methS | apply e_srt); case h => with_reducible assumption) | (with_reducible apply b_div; case h => with_unfolding_all rfl)))
  refine b_mul (.inr (by decide)) ?_
  (repeat (first | ((with_reducible first | apply e_name | apply t_name); case h => (repeat (first | with_reducible exact hit | with_reducible assumption | (with_reducible apply miss; case h => with_unfolding_all rfl)))) | (with_reducible first | apply e_int | apply e_str | apply e_none | apply e_bool | apply e_bin | apply l1 | apply l2 | apply l0 | apply lc | apply e_sub | apply e_slice | apply e_list | apply e_tuple | apply e_cmp | apply e_and | apply e_not | apply e_or | apply e_neg | apply t_cmp | apply t_cmp2 | apply t_and | apply t_or | apply t_not | apply t_bool | apply t_sub | apply tru_bool | apply e_comp0 | apply e_comp1 | apply i_val | apply i_rng1 | apply i_rng2 | apply i_rev | apply b_add | apply b_sub | apply c_lt | apply c_le | apply c_gt | apply c_ge | apply c_eqi | apply c_nei | apply c_eqs | apply c_nes | apply c_eqb | apply c_neb | apply c_is | apply c_isnot | apply s_len | apply if_tt | apply if_ff | apply r_ret | apply s_asg | apply s_exp | apply s_ite | apply s_set | apply s_skip | apply sq_next | apply sq_ret | apply lq_next | apply lq_ret | apply rq_ret | apply i_str) | ((with_reducible first | apply e_call | apply t_call | apply e_glob | apply e_methS | apply e_srt); case h => with_reducible assumption) | (with_reducible apply b_div; case h => with_unfolding_all rfl)))
  refine b_mod (by decide) fun m m0 m1 => ?_
  refine r_ret ?_
  (repeat (first | ((with_reducible first | apply e_name | apply t_name); case h => (repeat (first | with_reducible exact hit | with_reducible assumption | (with_reducible apply miss; case h => with_unfolding_all rfl)))) | (with_reducible first | apply e_int | apply e_str | apply e_none | apply e_bool | apply e_bin | apply l1 | apply l2 | apply l0 | apply lc | apply e_sub | apply e_slice | apply e_list | apply e_tuple | apply e_cmp | apply e_and | apply e_not | apply e_or | apply e_neg | apply t_cmp | apply t_cmp2 | apply t_and | apply t_or | apply t_not | apply t_bool | apply t_sub | apply tru_bool | apply e_comp0 | apply e_comp1 | apply i_val | apply i_rng1 | apply i_rng2 | apply i_rev | apply b_add | apply b_sub | apply c_lt | apply c_le | apply c_gt | apply c_ge | apply c_eqi | apply c_nei | apply c_eqs | apply c_nes | apply c_eqb | apply c_neb | apply c_is | apply c_isnot | apply s_len | apply if_tt | apply if_ff | apply r_ret | apply s_asg | apply s_exp | apply s_ite | apply s_set | apply s_skip | apply sq_next | apply sq_ret | apply lq_next | apply lq_ret | apply rq_ret | apply i_str) | ((with_reducible first | apply e_call | apply t_call | apply e_glob | apply e_methS | apply e_srt); case h => with_reducible assumption) | (with_reducible apply b_div; case h => with_unfolding_all rfl)))
  refine b_mul (.inl (by omega)) ?_
  (repeat (first | ((with_reducible first | apply e_name | apply t_name); case h => (repeat (first | with_reducible exact hit | with_reducible assumption | (with_reducible apply miss; case h => with_unfolding_all rfl)))) | (with_reducible first | apply e_int | apply e_str | apply e_none | apply e_bool | apply e_bin | apply l1 | apply l2 | apply l0 | apply lc | apply e_sub | apply e_slice | apply e_list | apply e_tuple | apply e_cmp | apply e_and | apply e_not | apply e_or | apply e_neg | apply t_cmp | apply t_cmp2 | apply t_and | apply t_or | apply t_not | apply t_bool | apply t_sub | apply tru_bool | apply e_comp0 | apply e_comp1 | apply i_val | apply i_rng1 | apply i_rng2 | apply i_rev | apply b_add | apply b_sub | apply c_lt | apply c_le | apply c_gt | apply c_ge | apply c_eqi | apply c_nei | apply c_eqs | apply c_nes | apply c_eqb | apply c_neb | apply c_is | apply c_isnot | apply s_len | apply if_tt | apply if_ff | apply r_ret | apply s_asg | apply s_exp | apply s_ite | apply s_set | apply s_skip | apply sq_next | apply sq_ret | apply lq_next | apply lq_ret | apply rq_ret | apply i_str) | ((with_reducible first | apply e_call | apply t_call | apply e_glob | apply e_methS | apply e_srt); case h => with_reducible assumption) | (with_reducible apply b_div; case h => with_unfolding_all rfl)))
  exact b_mod (by decide) fun r r0 r1 => h r r0 r1


/-! helpers -/
noncomputable def inR (lo hi : Int) : V → Bool
  | .int j => decide (lo ≤ j) && decide (j ≤ hi)
  | _ => false
theorem any_int {H : AHeap} {n : Nat} {xs : List V} {k : Int} {p : V → Prop} (lo hi : Int) (h : H[n]? = some (.list xs)) (h0 : 0 ≤ k) (h1 : k < xs.length) (ha : xs.all (inR lo hi) = true) (hp : ∀ j, lo ≤ j → j ≤ hi → p (.int j)) : subA (.ref n) (.int k) H p :=
  st_any h h0 h1 fun v hv => by
    have := List.all_eq_true.mp ha v hv
    cases v <;> first | cases this | skip
    simp only [inR, Bool.and_eq_true, decide_eq_true_eq] at this
    exact hp _ this.1 this.2

theorem comp_rngA {H : AHeap} {σ : Sg} {X : XPost} {y : Str} {elt : PE} {Q : List V → AHeap → Prop} {a : Int} {j : Nat} (P : V → Prop)
    (he : ∀ i : Int, a ≤ i → i < a + j → ∀ H', Keep H H' → ∀ q : VPost, (∀ v H'', P v → Keep H' H'' → q v H'') → (sem T elt).ev (σ.set y (.int i)) H' q X)
    (hQ : ∀ vs H', vs.length = j → (∀ v ∈ vs, P v) → Keep H H' → Q vs H') :
    compGo (fun _ => True) (fun x H' => bindA (.name y) x H' σ) (fun _ H' q => q true H') (fun σ' H' q => (sem T elt).ev σ' H' q X) Q ((intsFrom a j).map fun i => .one (.int i)) [] H := by
  refine comp_map (P := fun _ v => P v) _ _ _ (fun _ _ => trivial) (fun x hx H' k => ?_) fun vs H' ha k => ?_
  · obtain ⟨i, hi, rfl⟩ := List.mem_map.mp hx
    have := intsFrom_mem hi
    exact ⟨_, rfl, fun q hq => he i this.1 this.2 H' k q hq⟩
  · have hl := ha.length
    rw [List.length_map, intsFrom_len] at hl
    exact hQ vs H' hl.symm (fun v hv => let ⟨_, _, h⟩ := ha.right v hv; h) k
theorem comp_rng {H : AHeap} {σ : Sg} {X : XPost} {y : Str} {elt : PE} {Q : List V → AHeap → Prop} {j : Nat} (P : V → Prop)
    (he : ∀ i : Int, 0 ≤ i → i < j → ∀ H', Keep H H' → ∀ q : VPost, (∀ v H'', P v → Keep H' H'' → q v H'') → (sem T elt).ev (σ.set y (.int i)) H' q X)
    (hQ : ∀ vs H', vs.length = j → (∀ v ∈ vs, P v) → Keep H H' → Q vs H') :
    compGo (fun _ => True) (fun x H' => bindA (.name y) x H' σ) (fun _ H' q => q true H') (fun σ' H' q => (sem T elt).ev σ' H' q X) Q ((intsFrom 0 j).map fun i => .one (.int i)) [] H :=
  comp_rngA P (fun i i0 i1 => he i i0 (by omega)) hQ

/-- a letter -/
noncomputable def LetV (v : V) : Prop := ∃ c, v = .str [c] ∧ 97 ≤ c ∧ c ≤ 122
theorem txts_let : ∀ (vs : List V), (∀ v ∈ vs, LetV v) → ∃ t : Txt, txts vs = some (t.map fun c => [c]) ∧ t.length = vs.length ∧ ∀ c ∈ t, 97 ≤ c ∧ c ≤ 122
  | [], _ => ⟨[], rfl, rfl, fun _ h => nomatch h⟩
  | v :: r, h => by
    obtain ⟨c, rfl, hc⟩ := h v (.head _)
    obtain ⟨t, e, l, a⟩ := txts_let r fun w hw => h w (.tail _ hw)
    refine ⟨c :: t, by simp [txts, e], by simp [l], fun d hd => ?_⟩
    cases hd with
    | head => exact hc
    | tail _ hd => exact a d hd
theorem flat_one : ∀ t : Txt, (t.map fun c => [c]).flatten = t
  | [] => rfl
  | c :: r => congrArg (c :: ·) (flat_one r)
theorem sum_one : ∀ t : Txt, ((t.map fun c => [c]).map List.length).sum = t.length
  | [] => rfl
  | c :: r => by simp only [List.map_cons, List.sum_cons, sum_one r, List.length_cons, List.length_nil]; omega
theorem j_let {H : AHeap} {Q : VPost} {X : XPost} {n : Nat} {vs : List V} (h : H[n]? = some (.list vs)) (hl : vs.length ≤ 1000) (hv : ∀ v ∈ vs, LetV v) (k : ∀ t : Txt, t.length = vs.length → (∀ c ∈ t, 97 ≤ c ∧ c ≤ 122) → Q (.str t) H) : spJoin [.str [], .ref n] H Q X := by
  obtain ⟨t, e, l, a⟩ := txts_let vs hv
  refine s_join h e (by rw [sum_one, List.length_map, l]; unfold lid; omega) ?_
  rw [flat_one]
  exact k t l a
theorem abc26 : ∀ c ∈ (Str.mk #[97, 98, 99, 100, 101, 102, 103, 104, 105, 106, 107, 108, 109, 110, 111, 112, 113, 114, 115, 116, 117, 118, 119, 120, 121, 122]).cps.toList, 97 ≤ c ∧ c ≤ 122 := by decide

theorem ct_law_signs (h1 : HasM T .str (nm 232421354) spJoin) : Ct T x_law_signs b_law_signs spSigns := by
  refine ct1 fun vs H Q X h => ?_
  obtain ⟨c, rfl, h⟩ := h
  refine ⟨_, rfl, ?_⟩
  refine s_asg ?_
  (repeat (first | ((with_reducible first | apply e_name | apply t_name); case h => (repeat (first | with_reducible exact hit | with_reducible assumption | (with_reducible apply miss; case h => with_unfolding_all rfl)))) | (with_reducible first | apply e_int | apply e_str | apply e_none | apply e_bool | apply e_bin | apply l1 | apply l2 | apply l0 | apply lc | apply e_sub | apply e_slice | apply e_list | apply e_tuple | apply e_cmp | apply e_and | apply e_not | apply e_or | apply e_neg | apply t_cmp | apply t_cmp2 | apply t_and | apply t_or | apply t_not | apply t_bool | apply t_sub | apply tru_bool | apply e_comp0 | apply e_comp1 | apply i_val | apply i_rng1 | apply i_rng2 | apply i_rev | apply b_add | apply b_sub | apply c_lt | apply c_le | apply c_gt | apply c_ge | apply c_eqi | apply c_nei | apply c_eqs | apply c_nes | apply c_eqb | apply c_neb | apply c_is | apply c_isnot | apply s_len | apply if_tt | apply if_ff | apply r_ret | apply s_asg | apply s_exp | apply s_ite | apply s_set | apply s_skip | apply sq_next | apply sq_ret | apply lq_next | apply lq_ret | apply rq_ret | apply i_str) | ((with_reducible first | apply e_call | apply t_call | apply e_glob | apply e_methS | apply e_srt); case h => with_reducible assumption) | (with_reducible apply b_div; case h => with_unfolding_all rfl)))
  refine s_asg ?_
  (repeat (first | ((with_reducible first | apply e_name | apply t_name); case h => (repeat (first | with_reducible exact hit | with_reducible assumption | (with_reducible apply miss; case h => with_unfolding_all rfl)))) | (with_reducible first | apply e_int | apply e_str | apply e_none | apply e_bool | apply e_bin | apply l1 | apply l2 | apply l0 | apply lc | apply e_sub | apply e_slice | apply e_list | apply e_tuple | apply e_cmp | apply e_and | apply e_not | apply e_or | apply e_neg | apply t_cmp | apply t_cmp2 | apply t_and | apply t_or | apply t_not | apply t_bool | apply t_sub | apply tru_bool | apply e_comp0 | apply e_comp1 | apply i_val | apply i_rng1 | apply i_rng2 | apply i_rev | apply b_add | apply b_sub | apply c_lt | apply c_le | apply c_gt | apply c_ge | apply c_eqi | apply c_nei | apply c_eqs | apply c_nes | apply c_eqb | apply c_neb | apply c_is | apply c_isnot | apply s_len | apply if_tt | apply if_ff | apply r_ret | apply s_asg | apply s_exp | apply s_ite | apply s_set | apply s_skip | apply sq_next | apply sq_ret | apply lq_next | apply lq_ret | apply rq_ret | apply i_str) | ((with_reducible first | apply e_call | apply t_call | apply e_glob | apply e_methS | apply e_srt); case h => with_reducible assumption) | (with_reducible apply b_div; case h => with_unfolding_all rfl)))
  refine ⟨by decide, ?_⟩
  (repeat (first | ((with_reducible first | apply e_name | apply t_name); case h => (repeat (first | with_reducible exact hit | with_reducible assumption | (with_reducible apply miss; case h => with_unfolding_all rfl)))) | (with_reducible first | apply e_int | apply e_str | apply e_none | apply e_bool | apply e_bin | apply l1 | apply l2 | apply l0 | apply lc | apply e_sub | apply e_slice | apply e_list | apply e_tuple | apply e_cmp | apply e_and | apply e_not | apply e_or | apply e_neg | apply t_cmp | apply t_cmp2 | apply t_and | apply t_or | apply t_not | apply t_bool | apply t_sub | apply tru_bool | apply e_comp0 | apply e_comp1 | apply i_val | apply i_rng1 | apply i_rng2 | apply i_rev | apply b_add | apply b_sub | apply c_lt | apply c_le | apply c_gt | apply c_ge | apply c_eqi | apply c_nei | apply c_eqs | apply c_nes | apply c_eqb | apply c_neb | apply c_is | apply c_isnot | apply s_len | apply if_tt | apply if_ff | apply r_ret | apply s_asg | apply s_exp | apply s_ite | apply s_set | apply s_skip | apply sq_next | apply sq_ret | apply lq_next | apply lq_ret | apply rq_ret | apply i_str) | ((with_reducible first | apply e_call | apply t_call | apply e_glob | apply e_methS | apply e_srt); case h => with_reducible assumption) | (with_reducible apply b_div; case h => with_unfolding_all rfl)))
  refine b_mod (by decide) fun m m0 m1 => any_int 1 5 get_new m0 m1 rfl fun j j0 j1 => ?_
  refine r_ret ?_
  (repeat (first | ((with_reducible first | apply e_name | apply t_name); case h => (repeat (first | with_reducible exact hit | with_reducible assumption | (with_reducible apply miss; case h => with_unfolding_all rfl)))) | (with_reducible first | apply e_int | apply e_str | apply e_none | apply e_bool | apply e_bin | apply l1 | apply l2 | apply l0 | apply lc | apply e_sub | apply e_slice | apply e_list | apply e_tuple | apply e_cmp | apply e_and | apply e_not | apply e_or | apply e_neg | apply t_cmp | apply t_cmp2 | apply t_and | apply t_or | apply t_not | apply t_bool | apply t_sub | apply tru_bool | apply e_comp0 | apply e_comp1 | apply i_val | apply i_rng1 | apply i_rng2 | apply i_rev | apply b_add | apply b_sub | apply c_lt | apply c_le | apply c_gt | apply c_ge | apply c_eqi | apply c_nei | apply c_eqs | apply c_nes | apply c_eqb | apply c_neb | apply c_is | apply c_isnot | apply s_len | apply if_tt | apply if_ff | apply r_ret | apply s_asg | apply s_exp | apply s_ite | apply s_set | apply s_skip | apply sq_next | apply sq_ret | apply lq_next | apply lq_ret | apply rq_ret | apply i_str) | ((with_reducible first | apply e_call | apply t_call | apply e_glob | apply e_methS | apply e_srt); case h => with_reducible assumption) | (with_reducible apply b_div; case h => with_unfolding_all rfl)))
  refine rng1 (by omega) (by unfold lid; omega) ⟨by rw [List.length_map, intsFrom_len]; unfold lid; omega, ?_⟩
  refine comp_rng LetV (fun i i0 i1 H' k' q hq => ?_) fun vs H' hl hv k' => ?_
  · (repeat (first | ((with_reducible first | apply e_name | apply t_name); case h => (repeat (first | with_reducible exact hit | with_reducible assumption | (with_reducible apply miss; case h => with_unfolding_all rfl)))) | (with_reducible first | apply e_int | apply e_str | apply e_none | apply e_bool | apply e_bin | apply l1 | apply l2 | apply l0 | apply lc | apply e_sub | apply e_slice | apply e_list | apply e_tuple | apply e_cmp | apply e_and | apply e_not | apply e_or | apply e_neg | apply t_cmp | apply t_cmp2 | apply t_and | apply t_or | apply t_not | apply t_bool | apply t_sub | apply tru_bool | apply e_comp0 | apply e_comp1 | apply i_val | apply i_rng1 | apply i_rng2 | apply i_rev | apply b_add | apply b_sub | apply c_lt | apply c_le | apply c_gt | apply c_ge | apply c_eqi | apply c_nei | apply c_eqs | apply c_nes | apply c_eqb | apply c_neb | apply c_is | apply c_isnot | apply s_len | apply if_tt | apply if_ff | apply r_ret | apply s_asg | apply s_exp | apply s_ite | apply s_set | apply s_skip | apply sq_next | apply sq_ret | apply lq_next | apply lq_ret | apply rq_ret | apply i_str) | ((with_reducible first | apply e_call | apply t_call | apply e_glob | apply e_methS | apply e_srt); case h => with_reducible assumption) | (with_reducible apply b_div; case h => with_unfolding_all rfl)))
    refine b_mod (by decide) fun a a0 a1 => ?_
    (repeat (first | ((with_reducible first | apply e_name | apply t_name); case h => (repeat (first | with_reducible exact hit | with_reducible assumption | (with_reducible apply miss; case h => with_unfolding_all rfl)))) | (with_reducible first | apply e_int | apply e_str | apply e_none | apply e_bool | apply e_bin | apply l1 | apply l2 | apply l0 | apply lc | apply e_sub | apply e_slice | apply e_list | apply e_tuple | apply e_cmp | apply e_and | apply e_not | apply e_or | apply e_neg | apply t_cmp | apply t_cmp2 | apply t_and | apply t_or | apply t_not | apply t_bool | apply t_sub | apply tru_bool | apply e_comp0 | apply e_comp1 | apply i_val | apply i_rng1 | apply i_rng2 | apply i_rev | apply b_add | apply b_sub | apply c_lt | apply c_le | apply c_gt | apply c_ge | apply c_eqi | apply c_nei | apply c_eqs | apply c_nes | apply c_eqb | apply c_neb | apply c_is | apply c_isnot | apply s_len | apply if_tt | apply if_ff | apply r_ret | apply s_asg | apply s_exp | apply s_ite | apply s_set | apply s_skip | apply sq_next | apply sq_ret | apply lq_next | apply lq_ret | apply rq_ret | apply i_str) | ((with_reducible first | apply e_call | apply t_call | apply e_glob | apply e_methS | apply e_srt); case h => with_reducible assumption) | (with_reducible apply b_div; case h => with_unfolding_all rfl)))
    refine b_mul (.inl (by omega)) ?_
    (repeat (first | ((with_reducible first | apply e_name | apply t_name); case h => (repeat (first | with_reducible exact hit | with_reducible assumption | (with_reducible apply miss; case h => with_unfolding_all rfl)))) | (with_reducible first | apply e_int | apply e_str | apply e_none | apply e_bool | apply e_bin | apply l1 | apply l2 | apply l0 | apply lc | apply e_sub | apply e_slice | apply e_list | apply e_tuple | apply e_cmp | apply e_and | apply e_not | apply e_or | apply e_neg | apply t_cmp | apply t_cmp2 | apply t_and | apply t_or | apply t_not | apply t_bool | apply t_sub | apply tru_bool | apply e_comp0 | apply e_comp1 | apply i_val | apply i_rng1 | apply i_rng2 | apply i_rev | apply b_add | apply b_sub | apply c_lt | apply c_le | apply c_gt | apply c_ge | apply c_eqi | apply c_nei | apply c_eqs | apply c_nes | apply c_eqb | apply c_neb | apply c_is | apply c_isnot | apply s_len | apply if_tt | apply if_ff | apply r_ret | apply s_asg | apply s_exp | apply s_ite | apply s_set | apply s_skip | apply sq_next | apply sq_ret | apply lq_next | apply lq_ret | apply rq_ret | apply i_str) | ((with_reducible first | apply e_call | apply t_call | apply e_glob | apply e_methS | apply e_srt); case h => with_reducible assumption) | (with_reducible apply b_div; case h => with_unfolding_all rfl)))
    refine b_mod (by decide) fun b b0 b1 => ?_
    exact b_sign b0 b1 fun c hc => hq _ _ ⟨c, rfl, abc26 c hc⟩ (Keep.refl _)
  · refine j_let get_new (by omega) hv fun t ht ha => ?_
    exact h t _ ⟨by omega, by omega, ha⟩ ((Keep.new _ _).trans (k'.trans (Keep.new _ _)))

theorem ct_law_word (h1 : HasM T .str (nm 232421354) spJoin) (h2 : Has T (nm 929683040243566540383) spMixed) (h3 : Has T (nm 1815276) spLen) : Ct T x_law_word b_law_word spWord := by
  refine ct2 fun vs H Q X h => ?_
  obtain ⟨c, s, rfl, hs, h⟩ := h
  have hs1 := hs.pos
  have hs2 := hs.le
  refine ⟨_, _, rfl, ?_⟩
  refine s_asg ?_
  (repeat (first | ((with_reducible first | apply e_name | apply t_name); case h => (repeat (first | with_reducible exact hit | with_reducible assumption | (with_reducible apply miss; case h => with_unfolding_all rfl)))) | (with_reducible first | apply e_int | apply e_str | apply e_none | apply e_bool | apply e_bin | apply l1 | apply l2 | apply l0 | apply lc | apply e_sub | apply e_slice | apply e_list | apply e_tuple | apply e_cmp | apply e_and | apply e_not | apply e_or | apply e_neg | apply t_cmp | apply t_cmp2 | apply t_and | apply t_or | apply t_not | apply t_bool | apply t_sub | apply tru_bool | apply e_comp0 | apply e_comp1 | apply i_val | apply i_rng1 | apply i_rng2 | apply i_rev | apply b_add | apply b_sub | apply c_lt | apply c_le | apply c_gt | apply c_ge | apply c_eqi | apply c_nei | apply c_eqs | apply c_nes | apply c_eqb | apply c_neb | apply c_is | apply c_isnot | apply s_len | apply if_tt | apply if_ff | apply r_ret | apply s_asg | apply s_exp | apply s_ite | apply s_set | apply s_skip | apply sq_next | apply sq_ret | apply lq_next | apply lq_ret | apply rq_ret | apply i_str) | ((with_reducible first | apply e_call | apply t_call | apply e_glob | apply e_methS | apply e_srt); case h => with_reducible assumption) | (with_reducible apply b_div; case h => with_unfolding_all rfl)))
  refine b_mod (by decide) fun a a0 a1 => ?_
  (repeat (first | ((with_reducible first | apply e_name | apply t_name); case h => (repeat (first | with_reducible exact hit | with_reducible assumption | (with_reducible apply miss; case h => with_unfolding_all rfl)))) | (with_reducible first | apply e_int | apply e_str | apply e_none | apply e_bool | apply e_bin | apply l1 | apply l2 | apply l0 | apply lc | apply e_sub | apply e_slice | apply e_list | apply e_tuple | apply e_cmp | apply e_and | apply e_not | apply e_or | apply e_neg | apply t_cmp | apply t_cmp2 | apply t_and | apply t_or | apply t_not | apply t_bool | apply t_sub | apply tru_bool | apply e_comp0 | apply e_comp1 | apply i_val | apply i_rng1 | apply i_rng2 | apply i_rev | apply b_add | apply b_sub | apply c_lt | apply c_le | apply c_gt | apply c_ge | apply c_eqi | apply c_nei | apply c_eqs | apply c_nes | apply c_eqb | apply c_neb | apply c_is | apply c_isnot | apply s_len | apply if_tt | apply if_ff | apply r_ret | apply s_asg | apply s_exp | apply s_ite | apply s_set | apply s_skip | apply sq_next | apply sq_ret | apply lq_next | apply lq_ret | apply rq_ret | apply i_str) | ((with_reducible first | apply e_call | apply t_call | apply e_glob | apply e_methS | apply e_srt); case h => with_reducible assumption) | (with_reducible apply b_div; case h => with_unfolding_all rfl)))
  refine ⟨Nat.le_of_ble_eq_true rfl, ?_⟩
  (repeat (first | ((with_reducible first | apply e_name | apply t_name); case h => (repeat (first | with_reducible exact hit | with_reducible assumption | (with_reducible apply miss; case h => with_unfolding_all rfl)))) | (with_reducible first | apply e_int | apply e_str | apply e_none | apply e_bool | apply e_bin | apply l1 | apply l2 | apply l0 | apply lc | apply e_sub | apply e_slice | apply e_list | apply e_tuple | apply e_cmp | apply e_and | apply e_not | apply e_or | apply e_neg | apply t_cmp | apply t_cmp2 | apply t_and | apply t_or | apply t_not | apply t_bool | apply t_sub | apply tru_bool | apply e_comp0 | apply e_comp1 | apply i_val | apply i_rng1 | apply i_rng2 | apply i_rev | apply b_add | apply b_sub | apply c_lt | apply c_le | apply c_gt | apply c_ge | apply c_eqi | apply c_nei | apply c_eqs | apply c_nes | apply c_eqb | apply c_neb | apply c_is | apply c_isnot | apply s_len | apply if_tt | apply if_ff | apply r_ret | apply s_asg | apply s_exp | apply s_ite | apply s_set | apply s_skip | apply sq_next | apply sq_ret | apply lq_next | apply lq_ret | apply rq_ret | apply i_str) | ((with_reducible first | apply e_call | apply t_call | apply e_glob | apply e_methS | apply e_srt); case h => with_reducible assumption) | (with_reducible apply b_div; case h => with_unfolding_all rfl)))
  refine b_mod (by decide) fun m m0 m1 => any_int 1 10 get_new m0 m1 (by simp [inR]; omega) fun j j0 j1 => ?_
  refine r_ret ?_
  (repeat (first | ((with_reducible first | apply e_name | apply t_name); case h => (repeat (first | with_reducible exact hit | with_reducible assumption | (with_reducible apply miss; case h => with_unfolding_all rfl)))) | (with_reducible first | apply e_int | apply e_str | apply e_none | apply e_bool | apply e_bin | apply l1 | apply l2 | apply l0 | apply lc | apply e_sub | apply e_slice | apply e_list | apply e_tuple | apply e_cmp | apply e_and | apply e_not | apply e_or | apply e_neg | apply t_cmp | apply t_cmp2 | apply t_and | apply t_or | apply t_not | apply t_bool | apply t_sub | apply tru_bool | apply e_comp0 | apply e_comp1 | apply i_val | apply i_rng1 | apply i_rng2 | apply i_rev | apply b_add | apply b_sub | apply c_lt | apply c_le | apply c_gt | apply c_ge | apply c_eqi | apply c_nei | apply c_eqs | apply c_nes | apply c_eqb | apply c_neb | apply c_is | apply c_isnot | apply s_len | apply if_tt | apply if_ff | apply r_ret | apply s_asg | apply s_exp | apply s_ite | apply s_set | apply s_skip | apply sq_next | apply sq_ret | apply lq_next | apply lq_ret | apply rq_ret | apply i_str) | ((with_reducible first | apply e_call | apply t_call | apply e_glob | apply e_methS | apply e_srt); case h => with_reducible assumption) | (with_reducible apply b_div; case h => with_unfolding_all rfl)))
  refine rng1 (by omega) (by unfold lid; omega) ⟨by rw [List.length_map, intsFrom_len]; unfold lid; omega, ?_⟩
  refine comp_rng LetV (fun i i0 i1 H' k' q hq => ?_) fun vs H' hl hv k' => ?_
  · (repeat (first | ((with_reducible first | apply e_name | apply t_name); case h => (repeat (first | with_reducible exact hit | with_reducible assumption | (with_reducible apply miss; case h => with_unfolding_all rfl)))) | (with_reducible first | apply e_int | apply e_str | apply e_none | apply e_bool | apply e_bin | apply l1 | apply l2 | apply l0 | apply lc | apply e_sub | apply e_slice | apply e_list | apply e_tuple | apply e_cmp | apply e_and | apply e_not | apply e_or | apply e_neg | apply t_cmp | apply t_cmp2 | apply t_and | apply t_or | apply t_not | apply t_bool | apply t_sub | apply tru_bool | apply e_comp0 | apply e_comp1 | apply i_val | apply i_rng1 | apply i_rng2 | apply i_rev | apply b_add | apply b_sub | apply c_lt | apply c_le | apply c_gt | apply c_ge | apply c_eqi | apply c_nei | apply c_eqs | apply c_nes | apply c_eqb | apply c_neb | apply c_is | apply c_isnot | apply s_len | apply if_tt | apply if_ff | apply r_ret | apply s_asg | apply s_exp | apply s_ite | apply s_set | apply s_skip | apply sq_next | apply sq_ret | apply lq_next | apply lq_ret | apply rq_ret | apply i_str) | ((with_reducible first | apply e_call | apply t_call | apply e_glob | apply e_methS | apply e_srt); case h => with_reducible assumption) | (with_reducible apply b_div; case h => with_unfolding_all rfl)))
    refine ⟨_, _, rfl, fun m _ _ => ?_⟩
    (repeat (first | ((with_reducible first | apply e_name | apply t_name); case h => (repeat (first | with_reducible exact hit | with_reducible assumption | (with_reducible apply miss; case h => with_unfolding_all rfl)))) | (with_reducible first | apply e_int | apply e_str | apply e_none | apply e_bool | apply e_bin | apply l1 | apply l2 | apply l0 | apply lc | apply e_sub | apply e_slice | apply e_list | apply e_tuple | apply e_cmp | apply e_and | apply e_not | apply e_or | apply e_neg | apply t_cmp | apply t_cmp2 | apply t_and | apply t_or | apply t_not | apply t_bool | apply t_sub | apply tru_bool | apply e_comp0 | apply e_comp1 | apply i_val | apply i_rng1 | apply i_rng2 | apply i_rev | apply b_add | apply b_sub | apply c_lt | apply c_le | apply c_gt | apply c_ge | apply c_eqi | apply c_nei | apply c_eqs | apply c_nes | apply c_eqb | apply c_neb | apply c_is | apply c_isnot | apply s_len | apply if_tt | apply if_ff | apply r_ret | apply s_asg | apply s_exp | apply s_ite | apply s_set | apply s_skip | apply sq_next | apply sq_ret | apply lq_next | apply lq_ret | apply rq_ret | apply i_str) | ((with_reducible first | apply e_call | apply t_call | apply e_glob | apply e_methS | apply e_srt); case h => with_reducible assumption) | (with_reducible apply b_div; case h => with_unfolding_all rfl)))
    refine b_mod (by omega) fun b b0 b1 => ?_
    exact b_sign b0 b1 fun c hc => hq _ _ ⟨c, rfl, hs.abc c hc⟩ (Keep.refl _)
  · refine j_let get_new (by omega) hv fun t ht ha => ?_
    exact h t _ ⟨by omega, by omega, ha⟩ ((Keep.new _ _).trans (k'.trans (Keep.new _ _)))

theorem ct_law_any_word : Ct T x_law_any_word b_law_any_word spAnyW := by
  refine ct1 fun vs H Q X h => ?_
  obtain ⟨c, rfl, h⟩ := h
  refine ⟨_, rfl, ?_⟩
  refine s_asg ?_
  (repeat (first | ((with_reducible first | apply e_name | apply t_name); case h => (repeat (first | with_reducible exact hit | with_reducible assumption | (with_reducible apply miss; case h => with_unfolding_all rfl)))) | (with_reducible first | apply e_int | apply e_str | apply e_none | apply e_bool | apply e_bin | apply l1 | apply l2 | apply l0 | apply lc | apply e_sub | apply e_slice | apply e_list | apply e_tuple | apply e_cmp | apply e_and | apply e_not | apply e_or | apply e_neg | apply t_cmp | apply t_cmp2 | apply t_and | apply t_or | apply t_not | apply t_bool | apply t_sub | apply tru_bool | apply e_comp0 | apply e_comp1 | apply i_val | apply i_rng1 | apply i_rng2 | apply i_rev | apply b_add | apply b_sub | apply c_lt | apply c_le | apply c_gt | apply c_ge | apply c_eqi | apply c_nei | apply c_eqs | apply c_nes | apply c_eqb | apply c_neb | apply c_is | apply c_isnot | apply s_len | apply if_tt | apply if_ff | apply r_ret | apply s_asg | apply s_exp | apply s_ite | apply s_set | apply s_skip | apply sq_next | apply sq_ret | apply lq_next | apply lq_ret | apply rq_ret | apply i_str) | ((with_reducible first | apply e_call | apply t_call | apply e_glob | apply e_methS | apply e_srt); case h => with_reducible assumption) | (with_reducible apply b_div; case h => with_unfolding_all rfl)))
  refine s_asg ?_
  (repeat (first | ((with_reducible first | apply e_name | apply t_name); case h => (repeat (first | with_reducible exact hit | with_reducible assumption | (with_reducible apply miss; case h => with_unfolding_all rfl)))) | (with_reducible first | apply e_int | apply e_str | apply e_none | apply e_bool | apply e_bin | apply l1 | apply l2 | apply l0 | apply lc | apply e_sub | apply e_slice | apply e_list | apply e_tuple | apply e_cmp | apply e_and | apply e_not | apply e_or | apply e_neg | apply t_cmp | apply t_cmp2 | apply t_and | apply t_or | apply t_not | apply t_bool | apply t_sub | apply tru_bool | apply e_comp0 | apply e_comp1 | apply i_val | apply i_rng1 | apply i_rng2 | apply i_rev | apply b_add | apply b_sub | apply c_lt | apply c_le | apply c_gt | apply c_ge | apply c_eqi | apply c_nei | apply c_eqs | apply c_nes | apply c_eqb | apply c_neb | apply c_is | apply c_isnot | apply s_len | apply if_tt | apply if_ff | apply r_ret | apply s_asg | apply s_exp | apply s_ite | apply s_set | apply s_skip | apply sq_next | apply sq_ret | apply lq_next | apply lq_ret | apply rq_ret | apply i_str) | ((with_reducible first | apply e_call | apply t_call | apply e_glob | apply e_methS | apply e_srt); case h => with_reducible assumption) | (with_reducible apply b_div; case h => with_unfolding_all rfl)))
  refine r_for ?_
  (repeat (first | ((with_reducible first | apply e_name | apply t_name); case h => (repeat (first | with_reducible exact hit | with_reducible assumption | (with_reducible apply miss; case h => with_unfolding_all rfl)))) | (with_reducible first | apply e_int | apply e_str | apply e_none | apply e_bool | apply e_bin | apply l1 | apply l2 | apply l0 | apply lc | apply e_sub | apply e_slice | apply e_list | apply e_tuple | apply e_cmp | apply e_and | apply e_not | apply e_or | apply e_neg | apply t_cmp | apply t_cmp2 | apply t_and | apply t_or | apply t_not | apply t_bool | apply t_sub | apply tru_bool | apply e_comp0 | apply e_comp1 | apply i_val | apply i_rng1 | apply i_rng2 | apply i_rev | apply b_add | apply b_sub | apply c_lt | apply c_le | apply c_gt | apply c_ge | apply c_eqi | apply c_nei | apply c_eqs | apply c_nes | apply c_eqb | apply c_neb | apply c_is | apply c_isnot | apply s_len | apply if_tt | apply if_ff | apply r_ret | apply s_asg | apply s_exp | apply s_ite | apply s_set | apply s_skip | apply sq_next | apply sq_ret | apply lq_next | apply lq_ret | apply rq_ret | apply i_str) | ((with_reducible first | apply e_call | apply t_call | apply e_glob | apply e_methS | apply e_srt); case h => with_reducible assumption) | (with_reducible apply b_div; case h => with_unfolding_all rfl)))
  refine b_mod (by decide) fun m m0 m1 => ?_
  (repeat (first | ((with_reducible first | apply e_name | apply t_name); case h => (repeat (first | with_reducible exact hit | with_reducible assumption | (with_reducible apply miss; case h => with_unfolding_all rfl)))) | (with_reducible first | apply e_int | apply e_str | apply e_none | apply e_bool | apply e_bin | apply l1 | apply l2 | apply l0 | apply lc | apply e_sub | apply e_slice | apply e_list | apply e_tuple | apply e_cmp | apply e_and | apply e_not | apply e_or | apply e_neg | apply t_cmp | apply t_cmp2 | apply t_and | apply t_or | apply t_not | apply t_bool | apply t_sub | apply tru_bool | apply e_comp0 | apply e_comp1 | apply i_val | apply i_rng1 | apply i_rng2 | apply i_rev | apply b_add | apply b_sub | apply c_lt | apply c_le | apply c_gt | apply c_ge | apply c_eqi | apply c_nei | apply c_eqs | apply c_nes | apply c_eqb | apply c_neb | apply c_is | apply c_isnot | apply s_len | apply if_tt | apply if_ff | apply r_ret | apply s_asg | apply s_exp | apply s_ite | apply s_set | apply s_skip | apply sq_next | apply sq_ret | apply lq_next | apply lq_ret | apply rq_ret | apply i_str) | ((with_reducible first | apply e_call | apply t_call | apply e_glob | apply e_methS | apply e_srt); case h => with_reducible assumption) | (with_reducible apply b_div; case h => with_unfolding_all rfl)))
  refine rng1 (by omega) (by unfold lid; omega) ?_
  refine for_inv (fun xs σ H' => H' = H ∧ ∃ (t : Txt) (i : Int), σ (nm 252284354984115859945804035679) = some (.str t) ∧ σ (nm 252284354984187917196244579935) = some (.int i) ∧ t.length + xs.length = (1 + m).toNat ∧ (∀ c ∈ t, 97 ≤ c ∧ c ≤ 122) ∧ ∀ x ∈ xs, ∃ v, x = .one v) ?_ ?_ ⟨rfl, [], _, by (repeat (first | with_reducible exact hit | with_reducible assumption | (with_reducible apply miss; case h => with_unfolding_all rfl))), hit, by rw [List.length_map, intsFrom_len, List.length_nil, Nat.zero_add], (fun _ h => nomatch h), ?_⟩
  · rintro x xs σ H' ⟨rfl, t, i, e1, e2, hl, ha, hx⟩
    obtain ⟨v, rfl⟩ := hx x (.head _)
    rw [List.length_cons] at hl
    refine ⟨trivial, _, rfl, fun W hW => ?_⟩
    refine s_asg ?_
    (repeat (first | ((with_reducible first | apply e_name | apply t_name); case h => (repeat (first | with_reducible exact hit | with_reducible assumption | (with_reducible apply miss; case h => with_unfolding_all rfl)))) | (with_reducible first | apply e_int | apply e_str | apply e_none | apply e_bool | apply e_bin | apply l1 | apply l2 | apply l0 | apply lc | apply e_sub | apply e_slice | apply e_list | apply e_tuple | apply e_cmp | apply e_and | apply e_not | apply e_or | apply e_neg | apply t_cmp | apply t_cmp2 | apply t_and | apply t_or | apply t_not | apply t_bool | apply t_sub | apply tru_bool | apply e_comp0 | apply e_comp1 | apply i_val | apply i_rng1 | apply i_rng2 | apply i_rev | apply b_add | apply b_sub | apply c_lt | apply c_le | apply c_gt | apply c_ge | apply c_eqi | apply c_nei | apply c_eqs | apply c_nes | apply c_eqb | apply c_neb | apply c_is | apply c_isnot | apply s_len | apply if_tt | apply if_ff | apply r_ret | apply s_asg | apply s_exp | apply s_ite | apply s_set | apply s_skip | apply sq_next | apply sq_ret | apply lq_next | apply lq_ret | apply rq_ret | apply i_str) | ((with_reducible first | apply e_call | apply t_call | apply e_glob | apply e_methS | apply e_srt); case h => with_reducible assumption) | (with_reducible apply b_div; case h => with_unfolding_all rfl)))
    refine b_mod (by decide) fun b b0 b1 => b_sign b0 b1 fun c hc => ?_
    refine b_cat (by rw [List.length_singleton]; unfold lid; omega) ?_
    refine s_asg ?_
    (repeat (first | ((with_reducible first | apply e_name | apply t_name); case h => (repeat (first | with_reducible exact hit | with_reducible assumption | (with_reducible apply miss; case h => with_unfolding_all rfl)))) | (with_reducible first | apply e_int | apply e_str | apply e_none | apply e_bool | apply e_bin | apply l1 | apply l2 | apply l0 | apply lc | apply e_sub | apply e_slice | apply e_list | apply e_tuple | apply e_cmp | apply e_and | apply e_not | apply e_or | apply e_neg | apply t_cmp | apply t_cmp2 | apply t_and | apply t_or | apply t_not | apply t_bool | apply t_sub | apply tru_bool | apply e_comp0 | apply e_comp1 | apply i_val | apply i_rng1 | apply i_rng2 | apply i_rev | apply b_add | apply b_sub | apply c_lt | apply c_le | apply c_gt | apply c_ge | apply c_eqi | apply c_nei | apply c_eqs | apply c_nes | apply c_eqb | apply c_neb | apply c_is | apply c_isnot | apply s_len | apply if_tt | apply if_ff | apply r_ret | apply s_asg | apply s_exp | apply s_ite | apply s_set | apply s_skip | apply sq_next | apply sq_ret | apply lq_next | apply lq_ret | apply rq_ret | apply i_str) | ((with_reducible first | apply e_call | apply t_call | apply e_glob | apply e_methS | apply e_srt); case h => with_reducible assumption) | (with_reducible apply b_div; case h => with_unfolding_all rfl)))
    refine hW _ _ ⟨rfl, t ++ [c], _, by (repeat (first | with_reducible exact hit | with_reducible assumption | (with_reducible apply miss; case h => with_unfolding_all rfl))), hit, by rw [List.length_append, List.length_singleton]; omega, fun d hd => ?_, fun y hy => hx y (.tail _ hy)⟩
    rcases List.mem_append.mp hd with hd | hd
    · exact ha d hd
    · rw [List.mem_singleton.mp hd]; exact abc26 c hc
  · rintro σ H' ⟨rfl, t, i, e1, e2, hl, ha, hx⟩
    refine ⟨trivial, ?_⟩
    refine r_ret ?_
    (repeat (first | ((with_reducible first | apply e_name | apply t_name); case h => (repeat (first | with_reducible exact hit | with_reducible assumption | (with_reducible apply miss; case h => with_unfolding_all rfl)))) | (with_reducible first | apply e_int | apply e_str | apply e_none | apply e_bool | apply e_bin | apply l1 | apply l2 | apply l0 | apply lc | apply e_sub | apply e_slice | apply e_list | apply e_tuple | apply e_cmp | apply e_and | apply e_not | apply e_or | apply e_neg | apply t_cmp | apply t_cmp2 | apply t_and | apply t_or | apply t_not | apply t_bool | apply t_sub | apply tru_bool | apply e_comp0 | apply e_comp1 | apply i_val | apply i_rng1 | apply i_rng2 | apply i_rev | apply b_add | apply b_sub | apply c_lt | apply c_le | apply c_gt | apply c_ge | apply c_eqi | apply c_nei | apply c_eqs | apply c_nes | apply c_eqb | apply c_neb | apply c_is | apply c_isnot | apply s_len | apply if_tt | apply if_ff | apply r_ret | apply s_asg | apply s_exp | apply s_ite | apply s_set | apply s_skip | apply sq_next | apply sq_ret | apply lq_next | apply lq_ret | apply rq_ret | apply i_str) | ((with_reducible first | apply e_call | apply t_call | apply e_glob | apply e_methS | apply e_srt); case h => with_reducible assumption) | (with_reducible apply b_div; case h => with_unfolding_all rfl)))
    rw [List.length_nil] at hl
    exact h t ⟨by omega, by omega, ha⟩
  · intro x hx
    obtain ⟨i, _, rfl⟩ := List.mem_map.mp hx
    exact ⟨_, rfl⟩

/-! words made of words -/
theorem Wd.cat {a b : Nat} {t u : Txt} (h : Wd a t) (k : Wd b u) : Wd (a + b) (t ++ u) := by
  have h1 := h.pos; have h2 := h.le; have h3 := k.le
  refine ⟨by rw [List.length_append]; omega, by rw [List.length_append]; omega, fun c hc => ?_⟩
  rcases List.mem_append.mp hc with hc | hc
  · exact h.abc c hc
  · exact k.abc c hc
theorem Wd.drop {a i : Nat} {t : Txt} (h : Wd a t) (hi : i < t.length) : Wd a (t.drop i) := by
  have h2 := h.le
  exact ⟨by rw [List.length_drop]; omega, by rw [List.length_drop]; omega, fun c hc => h.abc c (List.mem_of_mem_drop hc)⟩
theorem Wd.take {a i : Nat} {t : Txt} (h : Wd a t) (hi : 1 ≤ i) : Wd i (t.take i) := by
  have h1 := h.pos
  exact ⟨by rw [List.length_take]; omega, by rw [List.length_take]; omega, fun c hc => h.abc c (List.mem_of_mem_take hc)⟩
noncomputable def WV (n : Nat) (v : V) : Prop := ∃ t, v = .str t ∧ Wd n t
theorem all_nil {P : V → Prop} : ∀ v ∈ ([] : List V), P v := fun _ h => nomatch h
theorem all_cons {P : V → Prop} {a : V} {l : List V} (h : P a) (k : ∀ v ∈ l, P v) : ∀ v ∈ a :: l, P v := fun v hv => by
  cases hv with
  | head => exact h
  | tail _ hv => exact k v hv
theorem all_app {P : V → Prop} {a l : List V} (h : ∀ v ∈ a, P v) (k : ∀ v ∈ l, P v) : ∀ v ∈ a ++ l, P v := fun v hv => (List.mem_append.mp hv).elim (h v) (k v)
theorem all_map {P : V → Prop} {ws : List Txt} (h : ∀ w ∈ ws, P (.str w)) : ∀ v ∈ ws.map V.str, P v := fun v hv => by
  obtain ⟨w, hw, rfl⟩ := List.mem_map.mp hv; exact h w hw
theorem any_wd {H : AHeap} {n : Nat} {ws : List Txt} {k : Int} {p : V → Prop} (h : Ws H n ws) (h0 : 0 ≤ k) (h1 : k < ws.length) (hw : ∀ w ∈ ws, p (.str w)) : subA (.ref n) (.int k) H p :=
  st_any h h0 (by rw [List.length_map]; exact h1) (all_map hw)
theorem len_ws {H : AHeap} {n : Nat} {ws : List Txt} {Q : VPost} {X : XPost} (h : Ws H n ws) (k : Q (.int ws.length) H) : spLen [.ref n] H Q X := s_lenl h (by rw [List.length_map]; exact k)
theorem Ws.keep {H H' : AHeap} {n : Nat} {ws : List Txt} (h : Ws H n ws) (k : Keep H H') : Ws H' n ws := k.get h

noncomputable def spMore : Spec := fun vs H Q _ => ∃ (n : Nat) (c : Int) (s : Txt) (ws : List Txt), vs = [.ref n, .int c, .str s] ∧ Ws H n ws ∧ 1 ≤ ws.length ∧ (∀ w ∈ ws, Wd 10 w) ∧ Wd 5 s ∧ ∀ t H', Wd 10 t → Keep H H' → Q (.str t) H'

theorem ct_law_more (h1 : Has T (nm 7270427996206954079) spWord) (h2 : Has T (nm 1815276) spLen) : Ct T x_law_more b_law_more spMore := by
  refine ct3 fun vs H Q X h => ?_
  obtain ⟨n, c, s, ws, rfl, hn, hne, hw, hs, h⟩ := h
  refine ⟨_, _, _, rfl, ?_⟩
  refine s_asg ?_
  (repeat (first | ((with_reducible first | apply e_name | apply t_name); case h => (repeat (first | with_reducible exact hit | with_reducible assumption | (with_reducible apply miss; case h => with_unfolding_all rfl)))) | (with_reducible first | apply e_int | apply e_str | apply e_none | apply e_bool | apply e_bin | apply l1 | apply l2 | apply l0 | apply lc | apply e_sub | apply e_slice | apply e_list | apply e_tuple | apply e_cmp | apply e_and | apply e_not | apply e_or | apply e_neg | apply t_cmp | apply t_cmp2 | apply t_and | apply t_or | apply t_not | apply t_bool | apply t_sub | apply tru_bool | apply e_comp0 | apply e_comp1 | apply i_val | apply i_rng1 | apply i_rng2 | apply i_rev | apply b_add | apply b_sub | apply c_lt | apply c_le | apply c_gt | apply c_ge | apply c_eqi | apply c_nei | apply c_eqs | apply c_nes | apply c_eqb | apply c_neb | apply c_is | apply c_isnot | apply s_len | apply if_tt | apply if_ff | apply r_ret | apply s_asg | apply s_exp | apply s_ite | apply s_set | apply s_skip | apply sq_next | apply sq_ret | apply lq_next | apply lq_ret | apply rq_ret | apply i_str) | ((with_reducible first | apply e_call | apply t_call | apply e_glob | apply e_methS | apply e_srt); case h => with_reducible assumption) | (with_reducible apply b_div; case h => with_unfolding_all rfl)))
  refine len_ws hn ?_
  refine b_mod (by omega) fun a a0 a1 => any_wd hn a0 a1 fun one h_one => ?_
  refine s_asg ?_
  (repeat (first | ((with_reducible first | apply e_name | apply t_name); case h => (repeat (first | with_reducible exact hit | with_reducible assumption | (with_reducible apply miss; case h => with_unfolding_all rfl)))) | (with_reducible first | apply e_int | apply e_str | apply e_none | apply e_bool | apply e_bin | apply l1 | apply l2 | apply l0 | apply lc | apply e_sub | apply e_slice | apply e_list | apply e_tuple | apply e_cmp | apply e_and | apply e_not | apply e_or | apply e_neg | apply t_cmp | apply t_cmp2 | apply t_and | apply t_or | apply t_not | apply t_bool | apply t_sub | apply tru_bool | apply e_comp0 | apply e_comp1 | apply i_val | apply i_rng1 | apply i_rng2 | apply i_rev | apply b_add | apply b_sub | apply c_lt | apply c_le | apply c_gt | apply c_ge | apply c_eqi | apply c_nei | apply c_eqs | apply c_nes | apply c_eqb | apply c_neb | apply c_is | apply c_isnot | apply s_len | apply if_tt | apply if_ff | apply r_ret | apply s_asg | apply s_exp | apply s_ite | apply s_set | apply s_skip | apply sq_next | apply sq_ret | apply lq_next | apply lq_ret | apply rq_ret | apply i_str) | ((with_reducible first | apply e_call | apply t_call | apply e_glob | apply e_methS | apply e_srt); case h => with_reducible assumption) | (with_reducible apply b_div; case h => with_unfolding_all rfl)))
  refine len_ws hn ?_
  refine b_mod (by omega) fun b b0 b1 => any_wd hn b0 b1 fun other h_other => ?_
  replace h_one := hw _ h_one
  replace h_other := hw _ h_other
  have p1 := h_one.pos
  have p2 := h_one.le
  have q2 := h_other.le
  refine s_asg ?_
  (repeat (first | ((with_reducible first | apply e_name | apply t_name); case h => (repeat (first | with_reducible exact hit | with_reducible assumption | (with_reducible apply miss; case h => with_unfolding_all rfl)))) | (with_reducible first | apply e_int | apply e_str | apply e_none | apply e_bool | apply e_bin | apply l1 | apply l2 | apply l0 | apply lc | apply e_sub | apply e_slice | apply e_list | apply e_tuple | apply e_cmp | apply e_and | apply e_not | apply e_or | apply e_neg | apply t_cmp | apply t_cmp2 | apply t_and | apply t_or | apply t_not | apply t_bool | apply t_sub | apply tru_bool | apply e_comp0 | apply e_comp1 | apply i_val | apply i_rng1 | apply i_rng2 | apply i_rev | apply b_add | apply b_sub | apply c_lt | apply c_le | apply c_gt | apply c_ge | apply c_eqi | apply c_nei | apply c_eqs | apply c_nes | apply c_eqb | apply c_neb | apply c_is | apply c_isnot | apply s_len | apply if_tt | apply if_ff | apply r_ret | apply s_asg | apply s_exp | apply s_ite | apply s_set | apply s_skip | apply sq_next | apply sq_ret | apply lq_next | apply lq_ret | apply rq_ret | apply i_str) | ((with_reducible first | apply e_call | apply t_call | apply e_glob | apply e_methS | apply e_srt); case h => with_reducible assumption) | (with_reducible apply b_div; case h => with_unfolding_all rfl)))
  refine b_mod (by omega) fun i i0 i1 => ?_
  refine s_asg ?_
  (repeat (first | ((with_reducible first | apply e_name | apply t_name); case h => (repeat (first | with_reducible exact hit | with_reducible assumption | (with_reducible apply miss; case h => with_unfolding_all rfl)))) | (with_reducible first | apply e_int | apply e_str | apply e_none | apply e_bool | apply e_bin | apply l1 | apply l2 | apply l0 | apply lc | apply e_sub | apply e_slice | apply e_list | apply e_tuple | apply e_cmp | apply e_and | apply e_not | apply e_or | apply e_neg | apply t_cmp | apply t_cmp2 | apply t_and | apply t_or | apply t_not | apply t_bool | apply t_sub | apply tru_bool | apply e_comp0 | apply e_comp1 | apply i_val | apply i_rng1 | apply i_rng2 | apply i_rev | apply b_add | apply b_sub | apply c_lt | apply c_le | apply c_gt | apply c_ge | apply c_eqi | apply c_nei | apply c_eqs | apply c_nes | apply c_eqb | apply c_neb | apply c_is | apply c_isnot | apply s_len | apply if_tt | apply if_ff | apply r_ret | apply s_asg | apply s_exp | apply s_ite | apply s_set | apply s_skip | apply sq_next | apply sq_ret | apply lq_next | apply lq_ret | apply rq_ret | apply i_str) | ((with_reducible first | apply e_call | apply t_call | apply e_glob | apply e_methS | apply e_srt); case h => with_reducible assumption) | (with_reducible apply b_div; case h => with_unfolding_all rfl)))
  refine b_cat (by unfold lid; omega) ?_
  (repeat (first | ((with_reducible first | apply e_name | apply t_name); case h => (repeat (first | with_reducible exact hit | with_reducible assumption | (with_reducible apply miss; case h => with_unfolding_all rfl)))) | (with_reducible first | apply e_int | apply e_str | apply e_none | apply e_bool | apply e_bin | apply l1 | apply l2 | apply l0 | apply lc | apply e_sub | apply e_slice | apply e_list | apply e_tuple | apply e_cmp | apply e_and | apply e_not | apply e_or | apply e_neg | apply t_cmp | apply t_cmp2 | apply t_and | apply t_or | apply t_not | apply t_bool | apply t_sub | apply tru_bool | apply e_comp0 | apply e_comp1 | apply i_val | apply i_rng1 | apply i_rng2 | apply i_rev | apply b_add | apply b_sub | apply c_lt | apply c_le | apply c_gt | apply c_ge | apply c_eqi | apply c_nei | apply c_eqs | apply c_nes | apply c_eqb | apply c_neb | apply c_is | apply c_isnot | apply s_len | apply if_tt | apply if_ff | apply r_ret | apply s_asg | apply s_exp | apply s_ite | apply s_set | apply s_skip | apply sq_next | apply sq_ret | apply lq_next | apply lq_ret | apply rq_ret | apply i_str) | ((with_reducible first | apply e_call | apply t_call | apply e_glob | apply e_methS | apply e_srt); case h => with_reducible assumption) | (with_reducible apply b_div; case h => with_unfolding_all rfl)))
  refine b_cat (by unfold lid; omega) ?_
  (repeat (first | ((with_reducible first | apply e_name | apply t_name); case h => (repeat (first | with_reducible exact hit | with_reducible assumption | (with_reducible apply miss; case h => with_unfolding_all rfl)))) | (with_reducible first | apply e_int | apply e_str | apply e_none | apply e_bool | apply e_bin | apply l1 | apply l2 | apply l0 | apply lc | apply e_sub | apply e_slice | apply e_list | apply e_tuple | apply e_cmp | apply e_and | apply e_not | apply e_or | apply e_neg | apply t_cmp | apply t_cmp2 | apply t_and | apply t_or | apply t_not | apply t_bool | apply t_sub | apply tru_bool | apply e_comp0 | apply e_comp1 | apply i_val | apply i_rng1 | apply i_rng2 | apply i_rev | apply b_add | apply b_sub | apply c_lt | apply c_le | apply c_gt | apply c_ge | apply c_eqi | apply c_nei | apply c_eqs | apply c_nes | apply c_eqb | apply c_neb | apply c_is | apply c_isnot | apply s_len | apply if_tt | apply if_ff | apply r_ret | apply s_asg | apply s_exp | apply s_ite | apply s_set | apply s_skip | apply sq_next | apply sq_ret | apply lq_next | apply lq_ret | apply rq_ret | apply i_str) | ((with_reducible first | apply e_call | apply t_call | apply e_glob | apply e_methS | apply e_srt); case h => with_reducible assumption) | (with_reducible apply b_div; case h => with_unfolding_all rfl)))
  refine b_cat (by unfold lid; omega) ?_
  (repeat (first | ((with_reducible first | apply e_name | apply t_name); case h => (repeat (first | with_reducible exact hit | with_reducible assumption | (with_reducible apply miss; case h => with_unfolding_all rfl)))) | (with_reducible first | apply e_int | apply e_str | apply e_none | apply e_bool | apply e_bin | apply l1 | apply l2 | apply l0 | apply lc | apply e_sub | apply e_slice | apply e_list | apply e_tuple | apply e_cmp | apply e_and | apply e_not | apply e_or | apply e_neg | apply t_cmp | apply t_cmp2 | apply t_and | apply t_or | apply t_not | apply t_bool | apply t_sub | apply tru_bool | apply e_comp0 | apply e_comp1 | apply i_val | apply i_rng1 | apply i_rng2 | apply i_rev | apply b_add | apply b_sub | apply c_lt | apply c_le | apply c_gt | apply c_ge | apply c_eqi | apply c_nei | apply c_eqs | apply c_nes | apply c_eqb | apply c_neb | apply c_is | apply c_isnot | apply s_len | apply if_tt | apply if_ff | apply r_ret | apply s_asg | apply s_exp | apply s_ite | apply s_set | apply s_skip | apply sq_next | apply sq_ret | apply lq_next | apply lq_ret | apply rq_ret | apply i_str) | ((with_reducible first | apply e_call | apply t_call | apply e_glob | apply e_methS | apply e_srt); case h => with_reducible assumption) | (with_reducible apply b_div; case h => with_unfolding_all rfl)))
  refine ⟨_, _, rfl, hs, fun t1 H1 w1 k1 => ?_⟩
  refine b_cat (by have := w1.le; unfold lid; omega) ?_
  (repeat (first | ((with_reducible first | apply e_name | apply t_name); case h => (repeat (first | with_reducible exact hit | with_reducible assumption | (with_reducible apply miss; case h => with_unfolding_all rfl)))) | (with_reducible first | apply e_int | apply e_str | apply e_none | apply e_bool | apply e_bin | apply l1 | apply l2 | apply l0 | apply lc | apply e_sub | apply e_slice | apply e_list | apply e_tuple | apply e_cmp | apply e_and | apply e_not | apply e_or | apply e_neg | apply t_cmp | apply t_cmp2 | apply t_and | apply t_or | apply t_not | apply t_bool | apply t_sub | apply tru_bool | apply e_comp0 | apply e_comp1 | apply i_val | apply i_rng1 | apply i_rng2 | apply i_rev | apply b_add | apply b_sub | apply c_lt | apply c_le | apply c_gt | apply c_ge | apply c_eqi | apply c_nei | apply c_eqs | apply c_nes | apply c_eqb | apply c_neb | apply c_is | apply c_isnot | apply s_len | apply if_tt | apply if_ff | apply r_ret | apply s_asg | apply s_exp | apply s_ite | apply s_set | apply s_skip | apply sq_next | apply sq_ret | apply lq_next | apply lq_ret | apply rq_ret | apply i_str) | ((with_reducible first | apply e_call | apply t_call | apply e_glob | apply e_methS | apply e_srt); case h => with_reducible assumption) | (with_reducible apply b_div; case h => with_unfolding_all rfl)))
  refine ⟨_, _, rfl, hs, fun t2 H2 w2 k2 => ?_⟩
  (repeat (first | ((with_reducible first | apply e_name | apply t_name); case h => (repeat (first | with_reducible exact hit | with_reducible assumption | (with_reducible apply miss; case h => with_unfolding_all rfl)))) | (with_reducible first | apply e_int | apply e_str | apply e_none | apply e_bool | apply e_bin | apply l1 | apply l2 | apply l0 | apply lc | apply e_sub | apply e_slice | apply e_list | apply e_tuple | apply e_cmp | apply e_and | apply e_not | apply e_or | apply e_neg | apply t_cmp | apply t_cmp2 | apply t_and | apply t_or | apply t_not | apply t_bool | apply t_sub | apply tru_bool | apply e_comp0 | apply e_comp1 | apply i_val | apply i_rng1 | apply i_rng2 | apply i_rev | apply b_add | apply b_sub | apply c_lt | apply c_le | apply c_gt | apply c_ge | apply c_eqi | apply c_nei | apply c_eqs | apply c_nes | apply c_eqb | apply c_neb | apply c_is | apply c_isnot | apply s_len | apply if_tt | apply if_ff | apply r_ret | apply s_asg | apply s_exp | apply s_ite | apply s_set | apply s_skip | apply sq_next | apply sq_ret | apply lq_next | apply lq_ret | apply rq_ret | apply i_str) | ((with_reducible first | apply e_call | apply t_call | apply e_glob | apply e_methS | apply e_srt); case h => with_reducible assumption) | (with_reducible apply b_div; case h => with_unfolding_all rfl)))
  refine b_cat (by have := w2.le; unfold lid; omega) ?_
  (repeat (first | ((with_reducible first | apply e_name | apply t_name); case h => (repeat (first | with_reducible exact hit | with_reducible assumption | (with_reducible apply miss; case h => with_unfolding_all rfl)))) | (with_reducible first | apply e_int | apply e_str | apply e_none | apply e_bool | apply e_bin | apply l1 | apply l2 | apply l0 | apply lc | apply e_sub | apply e_slice | apply e_list | apply e_tuple | apply e_cmp | apply e_and | apply e_not | apply e_or | apply e_neg | apply t_cmp | apply t_cmp2 | apply t_and | apply t_or | apply t_not | apply t_bool | apply t_sub | apply tru_bool | apply e_comp0 | apply e_comp1 | apply i_val | apply i_rng1 | apply i_rng2 | apply i_rev | apply b_add | apply b_sub | apply c_lt | apply c_le | apply c_gt | apply c_ge | apply c_eqi | apply c_nei | apply c_eqs | apply c_nes | apply c_eqb | apply c_neb | apply c_is | apply c_isnot | apply s_len | apply if_tt | apply if_ff | apply r_ret | apply s_asg | apply s_exp | apply s_ite | apply s_set | apply s_skip | apply sq_next | apply sq_ret | apply lq_next | apply lq_ret | apply rq_ret | apply i_str) | ((with_reducible first | apply e_call | apply t_call | apply e_glob | apply e_methS | apply e_srt); case h => with_reducible assumption) | (with_reducible apply b_div; case h => with_unfolding_all rfl)))
  refine ⟨Nat.le_of_ble_eq_true rfl, ?_⟩
  refine r_ret ?_
  (repeat (first | ((with_reducible first | apply e_name | apply t_name); case h => (repeat (first | with_reducible exact hit | with_reducible assumption | (with_reducible apply miss; case h => with_unfolding_all rfl)))) | (with_reducible first | apply e_int | apply e_str | apply e_none | apply e_bool | apply e_bin | apply l1 | apply l2 | apply l0 | apply lc | apply e_sub | apply e_slice | apply e_list | apply e_tuple | apply e_cmp | apply e_and | apply e_not | apply e_or | apply e_neg | apply t_cmp | apply t_cmp2 | apply t_and | apply t_or | apply t_not | apply t_bool | apply t_sub | apply tru_bool | apply e_comp0 | apply e_comp1 | apply i_val | apply i_rng1 | apply i_rng2 | apply i_rev | apply b_add | apply b_sub | apply c_lt | apply c_le | apply c_gt | apply c_ge | apply c_eqi | apply c_nei | apply c_eqs | apply c_nes | apply c_eqb | apply c_neb | apply c_is | apply c_isnot | apply s_len | apply if_tt | apply if_ff | apply r_ret | apply s_asg | apply s_exp | apply s_ite | apply s_set | apply s_skip | apply sq_next | apply sq_ret | apply lq_next | apply lq_ret | apply rq_ret | apply i_str) | ((with_reducible first | apply e_call | apply t_call | apply e_glob | apply e_methS | apply e_srt); case h => with_reducible assumption) | (with_reducible apply b_div; case h => with_unfolding_all rfl)))
  refine b_from i0 ?_
  (repeat (first | ((with_reducible first | apply e_name | apply t_name); case h => (repeat (first | with_reducible exact hit | with_reducible assumption | (with_reducible apply miss; case h => with_unfolding_all rfl)))) | (with_reducible first | apply e_int | apply e_str | apply e_none | apply e_bool | apply e_bin | apply l1 | apply l2 | apply l0 | apply lc | apply e_sub | apply e_slice | apply e_list | apply e_tuple | apply e_cmp | apply e_and | apply e_not | apply e_or | apply e_neg | apply t_cmp | apply t_cmp2 | apply t_and | apply t_or | apply t_not | apply t_bool | apply t_sub | apply tru_bool | apply e_comp0 | apply e_comp1 | apply i_val | apply i_rng1 | apply i_rng2 | apply i_rev | apply b_add | apply b_sub | apply c_lt | apply c_le | apply c_gt | apply c_ge | apply c_eqi | apply c_nei | apply c_eqs | apply c_nes | apply c_eqb | apply c_neb | apply c_is | apply c_isnot | apply s_len | apply if_tt | apply if_ff | apply r_ret | apply s_asg | apply s_exp | apply s_ite | apply s_set | apply s_skip | apply sq_next | apply sq_ret | apply lq_next | apply lq_ret | apply rq_ret | apply i_str) | ((with_reducible first | apply e_call | apply t_call | apply e_glob | apply e_methS | apply e_srt); case h => with_reducible assumption) | (with_reducible apply b_div; case h => with_unfolding_all rfl)))
  refine b_to (by omega) ?_
  (repeat (first | ((with_reducible first | apply e_name | apply t_name); case h => (repeat (first | with_reducible exact hit | with_reducible assumption | (with_reducible apply miss; case h => with_unfolding_all rfl)))) | (with_reducible first | apply e_int | apply e_str | apply e_none | apply e_bool | apply e_bin | apply l1 | apply l2 | apply l0 | apply lc | apply e_sub | apply e_slice | apply e_list | apply e_tuple | apply e_cmp | apply e_and | apply e_not | apply e_or | apply e_neg | apply t_cmp | apply t_cmp2 | apply t_and | apply t_or | apply t_not | apply t_bool | apply t_sub | apply tru_bool | apply e_comp0 | apply e_comp1 | apply i_val | apply i_rng1 | apply i_rng2 | apply i_rev | apply b_add | apply b_sub | apply c_lt | apply c_le | apply c_gt | apply c_ge | apply c_eqi | apply c_nei | apply c_eqs | apply c_nes | apply c_eqb | apply c_neb | apply c_is | apply c_isnot | apply s_len | apply if_tt | apply if_ff | apply r_ret | apply s_asg | apply s_exp | apply s_ite | apply s_set | apply s_skip | apply sq_next | apply sq_ret | apply lq_next | apply lq_ret | apply rq_ret | apply i_str) | ((with_reducible first | apply e_call | apply t_call | apply e_glob | apply e_methS | apply e_srt); case h => with_reducible assumption) | (with_reducible apply b_div; case h => with_unfolding_all rfl)))
  refine b_from i0 ?_
  (repeat (first | ((with_reducible first | apply e_name | apply t_name); case h => (repeat (first | with_reducible exact hit | with_reducible assumption | (with_reducible apply miss; case h => with_unfolding_all rfl)))) | (with_reducible first | apply e_int | apply e_str | apply e_none | apply e_bool | apply e_bin | apply l1 | apply l2 | apply l0 | apply lc | apply e_sub | apply e_slice | apply e_list | apply e_tuple | apply e_cmp | apply e_and | apply e_not | apply e_or | apply e_neg | apply t_cmp | apply t_cmp2 | apply t_and | apply t_or | apply t_not | apply t_bool | apply t_sub | apply tru_bool | apply e_comp0 | apply e_comp1 | apply i_val | apply i_rng1 | apply i_rng2 | apply i_rev | apply b_add | apply b_sub | apply c_lt | apply c_le | apply c_gt | apply c_ge | apply c_eqi | apply c_nei | apply c_eqs | apply c_nes | apply c_eqb | apply c_neb | apply c_is | apply c_isnot | apply s_len | apply if_tt | apply if_ff | apply r_ret | apply s_asg | apply s_exp | apply s_ite | apply s_set | apply s_skip | apply sq_next | apply sq_ret | apply lq_next | apply lq_ret | apply rq_ret | apply i_str) | ((with_reducible first | apply e_call | apply t_call | apply e_glob | apply e_methS | apply e_srt); case h => with_reducible assumption) | (with_reducible apply b_div; case h => with_unfolding_all rfl)))
  have hd : Wd 10 (one.drop i.toNat) := h_one.drop (by omega)
  refine b_cat (by have := hd.le; unfold lid; omega) ?_
  (repeat (first | ((with_reducible first | apply e_name | apply t_name); case h => (repeat (first | with_reducible exact hit | with_reducible assumption | (with_reducible apply miss; case h => with_unfolding_all rfl)))) | (with_reducible first | apply e_int | apply e_str | apply e_none | apply e_bool | apply e_bin | apply l1 | apply l2 | apply l0 | apply lc | apply e_sub | apply e_slice | apply e_list | apply e_tuple | apply e_cmp | apply e_and | apply e_not | apply e_or | apply e_neg | apply t_cmp | apply t_cmp2 | apply t_and | apply t_or | apply t_not | apply t_bool | apply t_sub | apply tru_bool | apply e_comp0 | apply e_comp1 | apply i_val | apply i_rng1 | apply i_rng2 | apply i_rev | apply b_add | apply b_sub | apply c_lt | apply c_le | apply c_gt | apply c_ge | apply c_eqi | apply c_nei | apply c_eqs | apply c_nes | apply c_eqb | apply c_neb | apply c_is | apply c_isnot | apply s_len | apply if_tt | apply if_ff | apply r_ret | apply s_asg | apply s_exp | apply s_ite | apply s_set | apply s_skip | apply sq_next | apply sq_ret | apply lq_next | apply lq_ret | apply rq_ret | apply i_str) | ((with_reducible first | apply e_call | apply t_call | apply e_glob | apply e_methS | apply e_srt); case h => with_reducible assumption) | (with_reducible apply b_div; case h => with_unfolding_all rfl)))
  refine ⟨Nat.le_of_ble_eq_true rfl, ?_⟩
  refine b_lcat ((Keep.new _ _).get get_new) get_new (Nat.le_of_ble_eq_true rfl) ?_
  (repeat (first | ((with_reducible first | apply e_name | apply t_name); case h => (repeat (first | with_reducible exact hit | with_reducible assumption | (with_reducible apply miss; case h => with_unfolding_all rfl)))) | (with_reducible first | apply e_int | apply e_str | apply e_none | apply e_bool | apply e_bin | apply l1 | apply l2 | apply l0 | apply lc | apply e_sub | apply e_slice | apply e_list | apply e_tuple | apply e_cmp | apply e_and | apply e_not | apply e_or | apply e_neg | apply t_cmp | apply t_cmp2 | apply t_and | apply t_or | apply t_not | apply t_bool | apply t_sub | apply tru_bool | apply e_comp0 | apply e_comp1 | apply i_val | apply i_rng1 | apply i_rng2 | apply i_rev | apply b_add | apply b_sub | apply c_lt | apply c_le | apply c_gt | apply c_ge | apply c_eqi | apply c_nei | apply c_eqs | apply c_nes | apply c_eqb | apply c_neb | apply c_is | apply c_isnot | apply s_len | apply if_tt | apply if_ff | apply r_ret | apply s_asg | apply s_exp | apply s_ite | apply s_set | apply s_skip | apply sq_next | apply sq_ret | apply lq_next | apply lq_ret | apply rq_ret | apply i_str) | ((with_reducible first | apply e_call | apply t_call | apply e_glob | apply e_methS | apply e_srt); case h => with_reducible assumption) | (with_reducible apply b_div; case h => with_unfolding_all rfl)))
  refine b_mod (by decide) fun m m0 m1 => ?_
  have up : ∀ {a : Nat} {t : Txt}, Wd a t → a ≤ 20 → WV 20 (.str t) := fun h k => ⟨_, rfl, h.up k⟩
  have all : ∀ v ∈ ([.str (one ++ other), .str (one ++ other), .str (other ++ one), .str (one ++ t1), .str (t2 ++ one)] ++ [.str (one.drop i.toNat), .str (one.take (i + 1).toNat), .str (one.drop i.toNat ++ other)] : List V), WV 20 v :=
    all_app (all_cons (up (h_one.cat h_other) (by omega)) <| all_cons (up (h_one.cat h_other) (by omega)) <| all_cons (up (h_other.cat h_one) (by omega)) <| all_cons (up (h_one.cat w1) (by omega)) <| all_cons (up (w2.cat h_one) (by omega)) all_nil)
      (all_cons (up hd (by omega)) <| all_cons (up (h_one.take (by omega)) (by omega)) <| all_cons (up (hd.cat h_other) (by omega)) all_nil)
  refine st_any get_new m0 m1 fun v hv => ?_
  obtain ⟨t, rfl, ht⟩ := all v hv
  (repeat (first | ((with_reducible first | apply e_name | apply t_name); case h => (repeat (first | with_reducible exact hit | with_reducible assumption | (with_reducible apply miss; case h => with_unfolding_all rfl)))) | (with_reducible first | apply e_int | apply e_str | apply e_none | apply e_bool | apply e_bin | apply l1 | apply l2 | apply l0 | apply lc | apply e_sub | apply e_slice | apply e_list | apply e_tuple | apply e_cmp | apply e_and | apply e_not | apply e_or | apply e_neg | apply t_cmp | apply t_cmp2 | apply t_and | apply t_or | apply t_not | apply t_bool | apply t_sub | apply tru_bool | apply e_comp0 | apply e_comp1 | apply i_val | apply i_rng1 | apply i_rng2 | apply i_rev | apply b_add | apply b_sub | apply c_lt | apply c_le | apply c_gt | apply c_ge | apply c_eqi | apply c_nei | apply c_eqs | apply c_nes | apply c_eqb | apply c_neb | apply c_is | apply c_isnot | apply s_len | apply if_tt | apply if_ff | apply r_ret | apply s_asg | apply s_exp | apply s_ite | apply s_set | apply s_skip | apply sq_next | apply sq_ret | apply lq_next | apply lq_ret | apply rq_ret | apply i_str) | ((with_reducible first | apply e_call | apply t_call | apply e_glob | apply e_methS | apply e_srt); case h => with_reducible assumption) | (with_reducible apply b_div; case h => with_unfolding_all rfl)))
  refine b_to (by decide) ?_
  exact h _ _ (ht.take (by decide)) (k1.trans (k2.trans ((Keep.new _ _).trans ((Keep.new _ _).trans (Keep.new _ _)))))

noncomputable def spRow : Spec := fun vs H Q _ => ∃ (n : Nat) (k m : Int) (ws : List Txt), vs = [.ref 0, .int k, .ref n, .int m] ∧ 0 ≤ k ∧ 0 ≤ m ∧ m ≤ 1000 ∧ Scr H ∧ Ws H n ws ∧
  ∀ rs p H', rs.length ≤ m.toNat → (∀ r ∈ rs, r ∈ ws) → H.length ≤ p → Ws H' p rs → Keep H H' → Q (.ref p) H'

theorem rdL_str {H : AHeap} {n : Nat} : ∀ ws : List Txt, rdL (rd H n) (ws.map .str) = some (ws.map .str)
  | [] => rfl
  | w :: r => by rw [List.map_cons, List.map_cons, rdL, rdL_str r]; cases n <;> rfl
theorem rd_ws {H : AHeap} {n : Nat} {ws : List Txt} (h : Ws H n ws) : rd H 6 (.ref n) = some (.list (ws.map .str)) := by rw [rd_list h, rdL_str]; rfl
theorem eqvL_str : ∀ ws us : List Txt, Dt.eqvL (ws.map .str) (us.map .str) = decide (ws = us)
  | [], [] => rfl
  | [], _ :: _ => rfl
  | _ :: _, [] => rfl
  | a :: r, b :: t => by
    rw [List.map_cons, List.map_cons, Dt.eqvL, eqvL_str r t, Dt.eqv, beq_dec, Bool.eq_iff_iff]
    simp
theorem c_eqw {H : AHeap} {n m : Nat} {ws us : List Txt} {r : Bool → Prop} (h1 : Ws H n ws) (h2 : Ws H m us) (k : r (decide (ws = us))) : cmpA .Eq (.ref n) (.ref m) H r :=
  c_eqd (rd_ws h1) (rd_ws h2) (by rw [Dt.eqv, eqvL_str]; exact k)
theorem c_new {H : AHeap} {n m : Nat} {ws us : List Txt} {r : Bool → Prop} (h1 : Ws H n ws) (h2 : Ws H m us) (k : r (!decide (ws = us))) : cmpA .NotEq (.ref n) (.ref m) H r :=
  c_ned (rd_ws h1) (rd_ws h2) (by rw [Dt.eqv, eqvL_str]; exact k)
theorem any_str (w : Txt) : ∀ ws : List Txt, (ws.map Dt.str).any (fun x => Dt.eqv x (.str w)) = decide (w ∈ ws)
  | [] => rfl
  | a :: r => by
    rw [List.map_cons, List.any_cons, any_str w r, Dt.eqv, beq_dec, Bool.eq_iff_iff]
    simp only [Bool.or_eq_true, decide_eq_true_eq, List.mem_cons]
    exact or_congr eq_comm Iff.rfl
theorem c_inw {H : AHeap} {n : Nat} {ws : List Txt} {w : Txt} {r : Bool → Prop} (h : Ws H n ws) (k : r (decide (w ∈ ws))) : cmpA .In (.str w) (.ref n) H r :=
  in_list h (rd_ws h) rfl (by rw [any_str]; exact k)
theorem c_ninw {H : AHeap} {n : Nat} {ws : List Txt} {w : Txt} {r : Bool → Prop} (h : Ws H n ws) (k : r (!decide (w ∈ ws))) : cmpA .NotIn (.str w) (.ref n) H r :=
  in_list (r := fun c => r (!c)) h (rd_ws h) rfl (by rw [any_str]; exact k)
theorem kind_l {H : AHeap} {n : Nat} {xs : List V} (h : H[n]? = some (.list xs)) : kindA (.ref n) H = some .list := by unfold kindA; dsimp only; rw [h]
theorem Ws.push {H : AHeap} {n : Nat} {ws : List Txt} (h : Ws H n ws) (w : Txt) : Ws (H.set n (.list (ws.map .str ++ [.str w]))) n (ws ++ [w]) := by
  unfold Ws
  rw [List.getElem?_set_self (lt_of_get h), List.map_append]; rfl
theorem s_push {n : Nat} {w : Txt} {ws : List Txt} {H : AHeap} {Q : VPost} {X : XPost} (h0 : n ≠ 0) (h1 : Ws H n ws) (h2 : ws.length < lid) (k : Q .none (H.set n (.list (ws.map .str ++ [.str w])))) : spAppend [.ref n, .str w] H Q X :=
  s_append h0 h1 (by rw [List.length_map]; exact h2) k

theorem ct_law_row (h1 : Has T (nm 513532042442335) spAt) (h2 : Has T (nm 929683040243566540383) spMixed) (h3 : Has T (nm 1815276) spLen) (h4 : HasM T .list (nm 3465715398753) spAppend) : Ct T x_law_row b_law_row spRow := by
  refine ct4 fun vs H Q X h => ?_
  obtain ⟨n, k, m, ws, rfl, k0, m0, m1, hs, hn, h⟩ := h
  have hl0 : H.length ≠ 0 := by obtain ⟨is, e⟩ := hs; have := lt_of_get e; omega
  refine ⟨_, _, _, _, rfl, ?_⟩
  refine s_asg ?_
  (repeat (first | ((with_reducible first | apply e_name | apply t_name); case h => (repeat (first | with_reducible exact hit | with_reducible assumption | (with_reducible apply miss; case h => with_unfolding_all rfl)))) | (with_reducible first | apply e_int | apply e_str | apply e_none | apply e_bool | apply e_bin | apply l1 | apply l2 | apply l0 | apply lc | apply e_sub | apply e_slice | apply e_list | apply e_tuple | apply e_cmp | apply e_and | apply e_not | apply e_or | apply e_neg | apply t_cmp | apply t_cmp2 | apply t_and | apply t_or | apply t_not | apply t_bool | apply t_sub | apply tru_bool | apply e_comp0 | apply e_comp1 | apply i_val | apply i_rng1 | apply i_rng2 | apply i_rev | apply b_add | apply b_sub | apply c_lt | apply c_le | apply c_gt | apply c_ge | apply c_eqi | apply c_nei | apply c_eqs | apply c_nes | apply c_eqb | apply c_neb | apply c_is | apply c_isnot | apply s_len | apply if_tt | apply if_ff | apply r_ret | apply s_asg | apply s_exp | apply s_ite | apply s_set | apply s_skip | apply sq_next | apply sq_ret | apply lq_next | apply lq_ret | apply rq_ret | apply i_str) | ((with_reducible first | apply e_call | apply t_call | apply e_glob | apply e_methS | apply e_srt); case h => with_reducible assumption) | (with_reducible apply b_div; case h => with_unfolding_all rfl)))
  refine ⟨Nat.zero_le _, ?_⟩
  have fin : ∀ σ H' rs, σ (nm 1970971523324088107488802399) = some (.ref H.length) → Keep H H' → Ws H' H.length rs → rs.length ≤ m.toNat → (∀ r ∈ rs, r ∈ ws) → semS T b_law_row_2 σ H' (RQ Q) X := by
    intro σ H' rs e kp hr hl hm
    refine r_ret ?_
    (repeat (first | ((with_reducible first | apply e_name | apply t_name); case h => (repeat (first | with_reducible exact hit | with_reducible assumption | (with_reducible apply miss; case h => with_unfolding_all rfl)))) | (with_reducible first | apply e_int | apply e_str | apply e_none | apply e_bool | apply e_bin | apply l1 | apply l2 | apply l0 | apply lc | apply e_sub | apply e_slice | apply e_list | apply e_tuple | apply e_cmp | apply e_and | apply e_not | apply e_or | apply e_neg | apply t_cmp | apply t_cmp2 | apply t_and | apply t_or | apply t_not | apply t_bool | apply t_sub | apply tru_bool | apply e_comp0 | apply e_comp1 | apply i_val | apply i_rng1 | apply i_rng2 | apply i_rev | apply b_add | apply b_sub | apply c_lt | apply c_le | apply c_gt | apply c_ge | apply c_eqi | apply c_nei | apply c_eqs | apply c_nes | apply c_eqb | apply c_neb | apply c_is | apply c_isnot | apply s_len | apply if_tt | apply if_ff | apply r_ret | apply s_asg | apply s_exp | apply s_ite | apply s_set | apply s_skip | apply sq_next | apply sq_ret | apply lq_next | apply lq_ret | apply rq_ret | apply i_str) | ((with_reducible first | apply e_call | apply t_call | apply e_glob | apply e_methS | apply e_srt); case h => with_reducible assumption) | (with_reducible apply b_div; case h => with_unfolding_all rfl)))
    exact h rs _ H' hl hm (Nat.le_refl _) hr kp
  refine s_ite ?_
  (repeat (first | ((with_reducible first | apply e_name | apply t_name); case h => (repeat (first | with_reducible exact hit | with_reducible assumption | (with_reducible apply miss; case h => with_unfolding_all rfl)))) | (with_reducible first | apply e_int | apply e_str | apply e_none | apply e_bool | apply e_bin | apply l1 | apply l2 | apply l0 | apply lc | apply e_sub | apply e_slice | apply e_list | apply e_tuple | apply e_cmp | apply e_and | apply e_not | apply e_or | apply e_neg | apply t_cmp | apply t_cmp2 | apply t_and | apply t_or | apply t_not | apply t_bool | apply t_sub | apply tru_bool | apply e_comp0 | apply e_comp1 | apply i_val | apply i_rng1 | apply i_rng2 | apply i_rev | apply b_add | apply b_sub | apply c_lt | apply c_le | apply c_gt | apply c_ge | apply c_eqi | apply c_nei | apply c_eqs | apply c_nes | apply c_eqb | apply c_neb | apply c_is | apply c_isnot | apply s_len | apply if_tt | apply if_ff | apply r_ret | apply s_asg | apply s_exp | apply s_ite | apply s_set | apply s_skip | apply sq_next | apply sq_ret | apply lq_next | apply lq_ret | apply rq_ret | apply i_str) | ((with_reducible first | apply e_call | apply t_call | apply e_glob | apply e_methS | apply e_srt); case h => with_reducible assumption) | (with_reducible apply b_div; case h => with_unfolding_all rfl)))
  refine ⟨Nat.zero_le _, ?_⟩
  refine c_new (us := []) (hn.keep ((Keep.new _ _).trans (Keep.new _ _))) get_new ?_
  have kH : Keep H ((H ++ [.list []]) ++ [.list []]) := (Keep.new _ _).trans (Keep.new _ _)
  have hr0 : Ws ((H ++ [.list []]) ++ [.list []]) H.length [] := (Keep.new _ _).get get_new
  refine if_ndec (fun hne => ?_) fun he => ?_
  · have hwl : 1 ≤ ws.length := by cases ws with
      | nil => exact (hne rfl).elim
      | cons _ _ => simp
    refine r_for ?_
    (repeat (first | ((with_reducible first | apply e_name | apply t_name); case h => (repeat (first | with_reducible exact hit | with_reducible assumption | (with_reducible apply miss; case h => with_unfolding_all rfl)))) | (with_reducible first | apply e_int | apply e_str | apply e_none | apply e_bool | apply e_bin | apply l1 | apply l2 | apply l0 | apply lc | apply e_sub | apply e_slice | apply e_list | apply e_tuple | apply e_cmp | apply e_and | apply e_not | apply e_or | apply e_neg | apply t_cmp | apply t_cmp2 | apply t_and | apply t_or | apply t_not | apply t_bool | apply t_sub | apply tru_bool | apply e_comp0 | apply e_comp1 | apply i_val | apply i_rng1 | apply i_rng2 | apply i_rev | apply b_add | apply b_sub | apply c_lt | apply c_le | apply c_gt | apply c_ge | apply c_eqi | apply c_nei | apply c_eqs | apply c_nes | apply c_eqb | apply c_neb | apply c_is | apply c_isnot | apply s_len | apply if_tt | apply if_ff | apply r_ret | apply s_asg | apply s_exp | apply s_ite | apply s_set | apply s_skip | apply sq_next | apply sq_ret | apply lq_next | apply lq_ret | apply rq_ret | apply i_str) | ((with_reducible first | apply e_call | apply t_call | apply e_glob | apply e_methS | apply e_srt); case h => with_reducible assumption) | (with_reducible apply b_div; case h => with_unfolding_all rfl)))
    refine ⟨_, rfl, k0, hs.keep kH, fun i => ?_⟩
    (repeat (first | ((with_reducible first | apply e_name | apply t_name); case h => (repeat (first | with_reducible exact hit | with_reducible assumption | (with_reducible apply miss; case h => with_unfolding_all rfl)))) | (with_reducible first | apply e_int | apply e_str | apply e_none | apply e_bool | apply e_bin | apply l1 | apply l2 | apply l0 | apply lc | apply e_sub | apply e_slice | apply e_list | apply e_tuple | apply e_cmp | apply e_and | apply e_not | apply e_or | apply e_neg | apply t_cmp | apply t_cmp2 | apply t_and | apply t_or | apply t_not | apply t_bool | apply t_sub | apply tru_bool | apply e_comp0 | apply e_comp1 | apply i_val | apply i_rng1 | apply i_rng2 | apply i_rev | apply b_add | apply b_sub | apply c_lt | apply c_le | apply c_gt | apply c_ge | apply c_eqi | apply c_nei | apply c_eqs | apply c_nes | apply c_eqb | apply c_neb | apply c_is | apply c_isnot | apply s_len | apply if_tt | apply if_ff | apply r_ret | apply s_asg | apply s_exp | apply s_ite | apply s_set | apply s_skip | apply sq_next | apply sq_ret | apply lq_next | apply lq_ret | apply rq_ret | apply i_str) | ((with_reducible first | apply e_call | apply t_call | apply e_glob | apply e_methS | apply e_srt); case h => with_reducible assumption) | (with_reducible apply b_div; case h => with_unfolding_all rfl)))
    refine b_mod (by omega) fun j j0 j1 => rng1 j0 (by unfold lid; omega) ?_
    refine for_inv (fun xs σ H' => Keep H H' ∧ (∃ rs, Ws H' H.length rs ∧ rs.length + xs.length ≤ m.toNat ∧ ∀ r ∈ rs, r ∈ ws) ∧ (σ (nm 1970971523324088107488802399) = some (.ref H.length) ∧ σ (nm 137989276334399845594719) = some (.ref 0) ∧ σ (nm 1078262421209535247967) = some (.int k) ∧ σ (nm 32292397438104173501782932616799) = some (.ref n)) ∧ ∀ x ∈ xs, ∃ i : Int, x = .one (.int i) ∧ 0 ≤ i) ?_ ?_ ⟨kH, ⟨[], hr0, by rw [List.length_map, intsFrom_len, List.length_nil]; omega, fun _ h => nomatch h⟩, ⟨by (repeat (first | with_reducible exact hit | with_reducible assumption | (with_reducible apply miss; case h => with_unfolding_all rfl))), by (repeat (first | with_reducible exact hit | with_reducible assumption | (with_reducible apply miss; case h => with_unfolding_all rfl))), by (repeat (first | with_reducible exact hit | with_reducible assumption | (with_reducible apply miss; case h => with_unfolding_all rfl))), by (repeat (first | with_reducible exact hit | with_reducible assumption | (with_reducible apply miss; case h => with_unfolding_all rfl)))⟩, ?_⟩
    · rintro x xs σ H' ⟨kp, ⟨rs, hr, hl, hm⟩, ⟨e1, e2, e3, e4⟩, hx⟩
      obtain ⟨i, rfl, i0⟩ := hx x (.head _)
      rw [List.length_cons] at hl
      refine ⟨trivial, _, rfl, fun W hW => ?_⟩
      refine s_exp (e_methN (by (repeat (first | with_reducible exact hit | with_reducible assumption | (with_reducible apply miss; case h => with_unfolding_all rfl)))) (kind_l hr) h4 (l1 ?_))
      (repeat (first | ((with_reducible first | apply e_name | apply t_name); case h => (repeat (first | with_reducible exact hit | with_reducible assumption | (with_reducible apply miss; case h => with_unfolding_all rfl)))) | (with_reducible first | apply e_int | apply e_str | apply e_none | apply e_bool | apply e_bin | apply l1 | apply l2 | apply l0 | apply lc | apply e_sub | apply e_slice | apply e_list | apply e_tuple | apply e_cmp | apply e_and | apply e_not | apply e_or | apply e_neg | apply t_cmp | apply t_cmp2 | apply t_and | apply t_or | apply t_not | apply t_bool | apply t_sub | apply tru_bool | apply e_comp0 | apply e_comp1 | apply i_val | apply i_rng1 | apply i_rng2 | apply i_rev | apply b_add | apply b_sub | apply c_lt | apply c_le | apply c_gt | apply c_ge | apply c_eqi | apply c_nei | apply c_eqs | apply c_nes | apply c_eqb | apply c_neb | apply c_is | apply c_isnot | apply s_len | apply if_tt | apply if_ff | apply r_ret | apply s_asg | apply s_exp | apply s_ite | apply s_set | apply s_skip | apply sq_next | apply sq_ret | apply lq_next | apply lq_ret | apply rq_ret | apply i_str) | ((with_reducible first | apply e_call | apply t_call | apply e_glob | apply e_methS | apply e_srt); case h => with_reducible assumption) | (with_reducible apply b_div; case h => with_unfolding_all rfl)))
      refine b_mod (by decide) fun a a0 a1 => ?_
      (repeat (first | ((with_reducible first | apply e_name | apply t_name); case h => (repeat (first | with_reducible exact hit | with_reducible assumption | (with_reducible apply miss; case h => with_unfolding_all rfl)))) | (with_reducible first | apply e_int | apply e_str | apply e_none | apply e_bool | apply e_bin | apply l1 | apply l2 | apply l0 | apply lc | apply e_sub | apply e_slice | apply e_list | apply e_tuple | apply e_cmp | apply e_and | apply e_not | apply e_or | apply e_neg | apply t_cmp | apply t_cmp2 | apply t_and | apply t_or | apply t_not | apply t_bool | apply t_sub | apply tru_bool | apply e_comp0 | apply e_comp1 | apply i_val | apply i_rng1 | apply i_rng2 | apply i_rev | apply b_add | apply b_sub | apply c_lt | apply c_le | apply c_gt | apply c_ge | apply c_eqi | apply c_nei | apply c_eqs | apply c_nes | apply c_eqb | apply c_neb | apply c_is | apply c_isnot | apply s_len | apply if_tt | apply if_ff | apply r_ret | apply s_asg | apply s_exp | apply s_ite | apply s_set | apply s_skip | apply sq_next | apply sq_ret | apply lq_next | apply lq_ret | apply rq_ret | apply i_str) | ((with_reducible first | apply e_call | apply t_call | apply e_glob | apply e_methS | apply e_srt); case h => with_reducible assumption) | (with_reducible apply b_div; case h => with_unfolding_all rfl)))
      refine ⟨_, rfl, by omega, hs.keep kp, fun b => ?_⟩
      (repeat (first | ((with_reducible first | apply e_name | apply t_name); case h => (repeat (first | with_reducible exact hit | with_reducible assumption | (with_reducible apply miss; case h => with_unfolding_all rfl)))) | (with_reducible first | apply e_int | apply e_str | apply e_none | apply e_bool | apply e_bin | apply l1 | apply l2 | apply l0 | apply lc | apply e_sub | apply e_slice | apply e_list | apply e_tuple | apply e_cmp | apply e_and | apply e_not | apply e_or | apply e_neg | apply t_cmp | apply t_cmp2 | apply t_and | apply t_or | apply t_not | apply t_bool | apply t_sub | apply tru_bool | apply e_comp0 | apply e_comp1 | apply i_val | apply i_rng1 | apply i_rng2 | apply i_rev | apply b_add | apply b_sub | apply c_lt | apply c_le | apply c_gt | apply c_ge | apply c_eqi | apply c_nei | apply c_eqs | apply c_nes | apply c_eqb | apply c_neb | apply c_is | apply c_isnot | apply s_len | apply if_tt | apply if_ff | apply r_ret | apply s_asg | apply s_exp | apply s_ite | apply s_set | apply s_skip | apply sq_next | apply sq_ret | apply lq_next | apply lq_ret | apply rq_ret | apply i_str) | ((with_reducible first | apply e_call | apply t_call | apply e_glob | apply e_methS | apply e_srt); case h => with_reducible assumption) | (with_reducible apply b_div; case h => with_unfolding_all rfl)))
      refine ⟨_, _, rfl, fun c _ _ => ?_⟩
      (repeat (first | ((with_reducible first | apply e_name | apply t_name); case h => (repeat (first | with_reducible exact hit | with_reducible assumption | (with_reducible apply miss; case h => with_unfolding_all rfl)))) | (with_reducible first | apply e_int | apply e_str | apply e_none | apply e_bool | apply e_bin | apply l1 | apply l2 | apply l0 | apply lc | apply e_sub | apply e_slice | apply e_list | apply e_tuple | apply e_cmp | apply e_and | apply e_not | apply e_or | apply e_neg | apply t_cmp | apply t_cmp2 | apply t_and | apply t_or | apply t_not | apply t_bool | apply t_sub | apply tru_bool | apply e_comp0 | apply e_comp1 | apply i_val | apply i_rng1 | apply i_rng2 | apply i_rev | apply b_add | apply b_sub | apply c_lt | apply c_le | apply c_gt | apply c_ge | apply c_eqi | apply c_nei | apply c_eqs | apply c_nes | apply c_eqb | apply c_neb | apply c_is | apply c_isnot | apply s_len | apply if_tt | apply if_ff | apply r_ret | apply s_asg | apply s_exp | apply s_ite | apply s_set | apply s_skip | apply sq_next | apply sq_ret | apply lq_next | apply lq_ret | apply rq_ret | apply i_str) | ((with_reducible first | apply e_call | apply t_call | apply e_glob | apply e_methS | apply e_srt); case h => with_reducible assumption) | (with_reducible apply b_div; case h => with_unfolding_all rfl)))
      refine len_ws (hn.keep kp) ?_
      refine b_mod (by omega) fun d d0 d1 => any_wd (hn.keep kp) d0 d1 fun w hw => ?_
      refine s_push hl0 hr (by unfold lid; omega) ?_
      (repeat (first | ((with_reducible first | apply e_name | apply t_name); case h => (repeat (first | with_reducible exact hit | with_reducible assumption | (with_reducible apply miss; case h => with_unfolding_all rfl)))) | (with_reducible first | apply e_int | apply e_str | apply e_none | apply e_bool | apply e_bin | apply l1 | apply l2 | apply l0 | apply lc | apply e_sub | apply e_slice | apply e_list | apply e_tuple | apply e_cmp | apply e_and | apply e_not | apply e_or | apply e_neg | apply t_cmp | apply t_cmp2 | apply t_and | apply t_or | apply t_not | apply t_bool | apply t_sub | apply tru_bool | apply e_comp0 | apply e_comp1 | apply i_val | apply i_rng1 | apply i_rng2 | apply i_rev | apply b_add | apply b_sub | apply c_lt | apply c_le | apply c_gt | apply c_ge | apply c_eqi | apply c_nei | apply c_eqs | apply c_nes | apply c_eqb | apply c_neb | apply c_is | apply c_isnot | apply s_len | apply if_tt | apply if_ff | apply r_ret | apply s_asg | apply s_exp | apply s_ite | apply s_set | apply s_skip | apply sq_next | apply sq_ret | apply lq_next | apply lq_ret | apply rq_ret | apply i_str) | ((with_reducible first | apply e_call | apply t_call | apply e_glob | apply e_methS | apply e_srt); case h => with_reducible assumption) | (with_reducible apply b_div; case h => with_unfolding_all rfl)))
      refine hW _ _ ⟨kp.set (Nat.le_refl _), ⟨rs ++ [w], hr.push w, by rw [List.length_append, List.length_singleton]; omega, fun r hr' => ?_⟩, ⟨by (repeat (first | with_reducible exact hit | with_reducible assumption | (with_reducible apply miss; case h => with_unfolding_all rfl))), by (repeat (first | with_reducible exact hit | with_reducible assumption | (with_reducible apply miss; case h => with_unfolding_all rfl))), by (repeat (first | with_reducible exact hit | with_reducible assumption | (with_reducible apply miss; case h => with_unfolding_all rfl))), by (repeat (first | with_reducible exact hit | with_reducible assumption | (with_reducible apply miss; case h => with_unfolding_all rfl)))⟩, fun y hy => hx y (.tail _ hy)⟩
      rcases List.mem_append.mp hr' with hr' | hr'
      · exact hm r hr'
      · rw [List.mem_singleton.mp hr']; exact hw
    · rintro σ H' ⟨kp, ⟨rs, hr, hl, hm⟩, ⟨e1, e2, e3, e4⟩, hx⟩
      refine ⟨trivial, ?_⟩
      (repeat (first | ((with_reducible first | apply e_name | apply t_name); case h => (repeat (first | with_reducible exact hit | with_reducible assumption | (with_reducible apply miss; case h => with_unfolding_all rfl)))) | (with_reducible first | apply e_int | apply e_str | apply e_none | apply e_bool | apply e_bin | apply l1 | apply l2 | apply l0 | apply lc | apply e_sub | apply e_slice | apply e_list | apply e_tuple | apply e_cmp | apply e_and | apply e_not | apply e_or | apply e_neg | apply t_cmp | apply t_cmp2 | apply t_and | apply t_or | apply t_not | apply t_bool | apply t_sub | apply tru_bool | apply e_comp0 | apply e_comp1 | apply i_val | apply i_rng1 | apply i_rng2 | apply i_rev | apply b_add | apply b_sub | apply c_lt | apply c_le | apply c_gt | apply c_ge | apply c_eqi | apply c_nei | apply c_eqs | apply c_nes | apply c_eqb | apply c_neb | apply c_is | apply c_isnot | apply s_len | apply if_tt | apply if_ff | apply r_ret | apply s_asg | apply s_exp | apply s_ite | apply s_set | apply s_skip | apply sq_next | apply sq_ret | apply lq_next | apply lq_ret | apply rq_ret | apply i_str) | ((with_reducible first | apply e_call | apply t_call | apply e_glob | apply e_methS | apply e_srt); case h => with_reducible assumption) | (with_reducible apply b_div; case h => with_unfolding_all rfl)))
      exact fin σ H' rs e1 kp hr (by rw [List.length_nil] at hl; exact hl) hm
    · intro x hx
      obtain ⟨i, hi, rfl⟩ := List.mem_map.mp hx
      exact ⟨_, rfl, (intsFrom_mem hi).1⟩
  · (repeat (first | ((with_reducible first | apply e_name | apply t_name); case h => (repeat (first | with_reducible exact hit | with_reducible assumption | (with_reducible apply miss; case h => with_unfolding_all rfl)))) | (with_reducible first | apply e_int | apply e_str | apply e_none | apply e_bool | apply e_bin | apply l1 | apply l2 | apply l0 | apply lc | apply e_sub | apply e_slice | apply e_list | apply e_tuple | apply e_cmp | apply e_and | apply e_not | apply e_or | apply e_neg | apply t_cmp | apply t_cmp2 | apply t_and | apply t_or | apply t_not | apply t_bool | apply t_sub | apply tru_bool | apply e_comp0 | apply e_comp1 | apply i_val | apply i_rng1 | apply i_rng2 | apply i_rev | apply b_add | apply b_sub | apply c_lt | apply c_le | apply c_gt | apply c_ge | apply c_eqi | apply c_nei | apply c_eqs | apply c_nes | apply c_eqb | apply c_neb | apply c_is | apply c_isnot | apply s_len | apply if_tt | apply if_ff | apply r_ret | apply s_asg | apply s_exp | apply s_ite | apply s_set | apply s_skip | apply sq_next | apply sq_ret | apply lq_next | apply lq_ret | apply rq_ret | apply i_str) | ((with_reducible first | apply e_call | apply t_call | apply e_glob | apply e_methS | apply e_srt); case h => with_reducible assumption) | (with_reducible apply b_div; case h => with_unfolding_all rfl)))
    exact fin _ _ [] (by (repeat (first | with_reducible exact hit | with_reducible assumption | (with_reducible apply miss; case h => with_unfolding_all rfl)))) kH hr0 (Nat.zero_le _) fun _ h => nomatch h

theorem all_ws {n : Nat} : ∀ xs : List V, (∀ v ∈ xs, WV n v) → ∃ ws : List Txt, xs = ws.map .str ∧ ∀ w ∈ ws, Wd n w
  | [], _ => ⟨[], rfl, fun _ h => nomatch h⟩
  | v :: r, h => by
    obtain ⟨t, rfl, ht⟩ := h v (.head _)
    obtain ⟨ws, rfl, hw⟩ := all_ws r fun w hw => h w (.tail _ hw)
    refine ⟨t :: ws, rfl, fun w hw' => ?_⟩
    cases hw' with
    | head => exact ht
    | tail _ hw' => exact hw w hw'
theorem WV.up {n m : Nat} {v : V} (h : WV n v) (k : n ≤ m) : WV m v := let ⟨t, e, w⟩ := h; ⟨t, e, w.up k⟩
theorem neg_int {i : Int} {q : V → Prop} (k : q (.int (-i))) : Neg (.int i) q := k
theorem any_last {H : AHeap} {n : Nat} {ws : List Txt} {p : V → Prop} (h : Ws H n ws) (h1 : 1 ≤ ws.length) (hw : ∀ w ∈ ws, p (.str w)) : subA (.ref n) (.int (-1)) H p := by
  have e : place (-1) (ws.map V.str).length = some (ws.length - 1) := by
    unfold place; rw [if_neg (by decide), List.length_map, if_pos (by omega)]; congr 1; omega
  unfold subA; dsimp only; rw [h]; dsimp only; rw [e]; dsimp only
  rw [List.getElem?_eq_getElem (by rw [List.length_map]; omega)]
  exact all_map hw _ (List.getElem_mem _)
theorem rng2 {H : AHeap} {i j : Int} {q : List Item → (AHeap → Prop) → AHeap → Prop} (h0 : 0 ≤ i) (h1 : i ≤ lid) (h2 : 0 ≤ j) (h3 : j ≤ lid) (k : q ((intsFrom i (j - i).toNat).map fun i => .one (.int i)) (fun _ => True) H) : Rng2 (.int i) (.int j) H q := ⟨h0, h1, h2, h3, k⟩

noncomputable def spChain : Spec := fun vs H Q _ => ∃ (k : Int) (s : Txt), vs = [.ref 0, .int k, .str s] ∧ 0 ≤ k ∧ Scr H ∧ Wd 5 s ∧
  ∀ ws p H', ws.length ≤ 9 → (∀ w ∈ ws, Wd 10 w) → H.length ≤ p → Ws H' p ws → Keep H H' → Q (.ref p) H'

theorem ct_law_chain (h1 : Has T (nm 513532042442335) spAt) (h2 : Has T (nm 929683040243566540383) spMixed) (h3 : Has T (nm 1815276) spLen) (h4 : HasM T .list (nm 3465715398753) spAppend) (h5 : Has T (nm 7270427996206954079) spWord) : Ct T x_law_chain b_law_chain spChain := by
  refine ct3 fun vs H Q X h => ?_
  obtain ⟨k, s, rfl, k0, hs, hw, h⟩ := h
  have hl0 : H.length ≠ 0 := by obtain ⟨is, e⟩ := hs; have := lt_of_get e; omega
  refine ⟨_, _, _, rfl, ?_⟩
  refine s_asg ?_
  (repeat (first | ((with_reducible first | apply e_name | apply t_name); case h => (repeat (first | with_reducible exact hit | with_reducible assumption | (with_reducible apply miss; case h => with_unfolding_all rfl)))) | (with_reducible first | apply e_int | apply e_str | apply e_none | apply e_bool | apply e_bin | apply l1 | apply l2 | apply l0 | apply lc | apply e_sub | apply e_slice | apply e_list | apply e_tuple | apply e_cmp | apply e_and | apply e_not | apply e_or | apply e_neg | apply t_cmp | apply t_cmp2 | apply t_and | apply t_or | apply t_not | apply t_bool | apply t_sub | apply tru_bool | apply e_comp0 | apply e_comp1 | apply i_val | apply i_rng1 | apply i_rng2 | apply i_rev | apply b_add | apply b_sub | apply c_lt | apply c_le | apply c_gt | apply c_ge | apply c_eqi | apply c_nei | apply c_eqs | apply c_nes | apply c_eqb | apply c_neb | apply c_is | apply c_isnot | apply s_len | apply if_tt | apply if_ff | apply r_ret | apply s_asg | apply s_exp | apply s_ite | apply s_set | apply s_skip | apply sq_next | apply sq_ret | apply lq_next | apply lq_ret | apply rq_ret | apply i_str) | ((with_reducible first | apply e_call | apply t_call | apply e_glob | apply e_methS | apply e_srt); case h => with_reducible assumption) | (with_reducible apply b_div; case h => with_unfolding_all rfl)))
  refine ⟨Nat.zero_le _, ?_⟩
  have kH : Keep H (H ++ [.list []]) := Keep.new _ _
  have fin : ∀ σ H' ws p, σ (nm 137989276334399845594719) = some (.ref 0) → σ (nm 1078262421209535247967) = some (.int k) → σ (nm 32292397438104173501782932616799) = some (.ref p) → Keep H H' → Ws H' p ws → 1 ≤ ws.length → ws.length ≤ 9 → (∀ w ∈ ws, Wd 10 w) → semS T b_law_chain_4 σ H' (RQ Q) X := by
    intro σ H' ws p e1 e2 e3 kp hp l1 l2 hw
    refine s_asg ?_
    (repeat (first | ((with_reducible first | apply e_name | apply t_name); case h => (repeat (first | with_reducible exact hit | with_reducible assumption | (with_reducible apply miss; case h => with_unfolding_all rfl)))) | (with_reducible first | apply e_int | apply e_str | apply e_none | apply e_bool | apply e_bin | apply l1 | apply l2 | apply l0 | apply lc | apply e_sub | apply e_slice | apply e_list | apply e_tuple | apply e_cmp | apply e_and | apply e_not | apply e_or | apply e_neg | apply t_cmp | apply t_cmp2 | apply t_and | apply t_or | apply t_not | apply t_bool | apply t_sub | apply tru_bool | apply e_comp0 | apply e_comp1 | apply i_val | apply i_rng1 | apply i_rng2 | apply i_rev | apply b_add | apply b_sub | apply c_lt | apply c_le | apply c_gt | apply c_ge | apply c_eqi | apply c_nei | apply c_eqs | apply c_nes | apply c_eqb | apply c_neb | apply c_is | apply c_isnot | apply s_len | apply if_tt | apply if_ff | apply r_ret | apply s_asg | apply s_exp | apply s_ite | apply s_set | apply s_skip | apply sq_next | apply sq_ret | apply lq_next | apply lq_ret | apply rq_ret | apply i_str) | ((with_reducible first | apply e_call | apply t_call | apply e_glob | apply e_methS | apply e_srt); case h => with_reducible assumption) | (with_reducible apply b_div; case h => with_unfolding_all rfl)))
    refine ⟨_, rfl, by omega, hs.keep kp, fun i => ?_⟩
    (repeat (first | ((with_reducible first | apply e_name | apply t_name); case h => (repeat (first | with_reducible exact hit | with_reducible assumption | (with_reducible apply miss; case h => with_unfolding_all rfl)))) | (with_reducible first | apply e_int | apply e_str | apply e_none | apply e_bool | apply e_bin | apply l1 | apply l2 | apply l0 | apply lc | apply e_sub | apply e_slice | apply e_list | apply e_tuple | apply e_cmp | apply e_and | apply e_not | apply e_or | apply e_neg | apply t_cmp | apply t_cmp2 | apply t_and | apply t_or | apply t_not | apply t_bool | apply t_sub | apply tru_bool | apply e_comp0 | apply e_comp1 | apply i_val | apply i_rng1 | apply i_rng2 | apply i_rev | apply b_add | apply b_sub | apply c_lt | apply c_le | apply c_gt | apply c_ge | apply c_eqi | apply c_nei | apply c_eqs | apply c_nes | apply c_eqb | apply c_neb | apply c_is | apply c_isnot | apply s_len | apply if_tt | apply if_ff | apply r_ret | apply s_asg | apply s_exp | apply s_ite | apply s_set | apply s_skip | apply sq_next | apply sq_ret | apply lq_next | apply lq_ret | apply rq_ret | apply i_str) | ((with_reducible first | apply e_call | apply t_call | apply e_glob | apply e_methS | apply e_srt); case h => with_reducible assumption) | (with_reducible apply b_div; case h => with_unfolding_all rfl)))
    refine len_ws hp ?_
    refine b_mod (by omega) fun j j0 j1 => ?_
    refine r_ret ?_
    (repeat (first | ((with_reducible first | apply e_name | apply t_name); case h => (repeat (first | with_reducible exact hit | with_reducible assumption | (with_reducible apply miss; case h => with_unfolding_all rfl)))) | (with_reducible first | apply e_int | apply e_str | apply e_none | apply e_bool | apply e_bin | apply l1 | apply l2 | apply l0 | apply lc | apply e_sub | apply e_slice | apply e_list | apply e_tuple | apply e_cmp | apply e_and | apply e_not | apply e_or | apply e_neg | apply t_cmp | apply t_cmp2 | apply t_and | apply t_or | apply t_not | apply t_bool | apply t_sub | apply tru_bool | apply e_comp0 | apply e_comp1 | apply i_val | apply i_rng1 | apply i_rng2 | apply i_rev | apply b_add | apply b_sub | apply c_lt | apply c_le | apply c_gt | apply c_ge | apply c_eqi | apply c_nei | apply c_eqs | apply c_nes | apply c_eqb | apply c_neb | apply c_is | apply c_isnot | apply s_len | apply if_tt | apply if_ff | apply r_ret | apply s_asg | apply s_exp | apply s_ite | apply s_set | apply s_skip | apply sq_next | apply sq_ret | apply lq_next | apply lq_ret | apply rq_ret | apply i_str) | ((with_reducible first | apply e_call | apply t_call | apply e_glob | apply e_methS | apply e_srt); case h => with_reducible assumption) | (with_reducible apply b_div; case h => with_unfolding_all rfl)))
    refine b_lfrom hp j0 ?_
    (repeat (first | ((with_reducible first | apply e_name | apply t_name); case h => (repeat (first | with_reducible exact hit | with_reducible assumption | (with_reducible apply miss; case h => with_unfolding_all rfl)))) | (with_reducible first | apply e_int | apply e_str | apply e_none | apply e_bool | apply e_bin | apply l1 | apply l2 | apply l0 | apply lc | apply e_sub | apply e_slice | apply e_list | apply e_tuple | apply e_cmp | apply e_and | apply e_not | apply e_or | apply e_neg | apply t_cmp | apply t_cmp2 | apply t_and | apply t_or | apply t_not | apply t_bool | apply t_sub | apply tru_bool | apply e_comp0 | apply e_comp1 | apply i_val | apply i_rng1 | apply i_rng2 | apply i_rev | apply b_add | apply b_sub | apply c_lt | apply c_le | apply c_gt | apply c_ge | apply c_eqi | apply c_nei | apply c_eqs | apply c_nes | apply c_eqb | apply c_neb | apply c_is | apply c_isnot | apply s_len | apply if_tt | apply if_ff | apply r_ret | apply s_asg | apply s_exp | apply s_ite | apply s_set | apply s_skip | apply sq_next | apply sq_ret | apply lq_next | apply lq_ret | apply rq_ret | apply i_str) | ((with_reducible first | apply e_call | apply t_call | apply e_glob | apply e_methS | apply e_srt); case h => with_reducible assumption) | (with_reducible apply b_div; case h => with_unfolding_all rfl)))
    refine b_lto ((Keep.new _ _).get hp) j0 ?_
    rw [← List.map_drop, ← List.map_take]
    refine b_lcat ((Keep.new _ _).get get_new) get_new ?_ ?_
    · rw [List.length_map, List.length_map, List.length_drop, List.length_take]; unfold lid; omega
    rw [← List.map_append]
    refine h (ws.drop j.toNat ++ ws.take j.toNat) _ _ ?_ (fun w hw' => ?_) ?_ get_new (kp.trans ((Keep.new _ _).trans ((Keep.new _ _).trans (Keep.new _ _))))
    · rw [List.length_append, List.length_drop, List.length_take]; omega
    · rcases List.mem_append.mp hw' with q | q
      · exact hw w (List.mem_of_mem_drop q)
      · exact hw w (List.mem_of_mem_take q)
    · exact (kp.trans ((Keep.new _ _).trans (Keep.new _ _))).le
  refine r_for ?_
  (repeat (first | ((with_reducible first | apply e_name | apply t_name); case h => (repeat (first | with_reducible exact hit | with_reducible assumption | (with_reducible apply miss; case h => with_unfolding_all rfl)))) | (with_reducible first | apply e_int | apply e_str | apply e_none | apply e_bool | apply e_bin | apply l1 | apply l2 | apply l0 | apply lc | apply e_sub | apply e_slice | apply e_list | apply e_tuple | apply e_cmp | apply e_and | apply e_not | apply e_or | apply e_neg | apply t_cmp | apply t_cmp2 | apply t_and | apply t_or | apply t_not | apply t_bool | apply t_sub | apply tru_bool | apply e_comp0 | apply e_comp1 | apply i_val | apply i_rng1 | apply i_rng2 | apply i_rev | apply b_add | apply b_sub | apply c_lt | apply c_le | apply c_gt | apply c_ge | apply c_eqi | apply c_nei | apply c_eqs | apply c_nes | apply c_eqb | apply c_neb | apply c_is | apply c_isnot | apply s_len | apply if_tt | apply if_ff | apply r_ret | apply s_asg | apply s_exp | apply s_ite | apply s_set | apply s_skip | apply sq_next | apply sq_ret | apply lq_next | apply lq_ret | apply rq_ret | apply i_str) | ((with_reducible first | apply e_call | apply t_call | apply e_glob | apply e_methS | apply e_srt); case h => with_reducible assumption) | (with_reducible apply b_div; case h => with_unfolding_all rfl)))
  refine ⟨_, rfl, k0, hs.keep kH, fun i => ?_⟩
  (repeat (first | ((with_reducible first | apply e_name | apply t_name); case h => (repeat (first | with_reducible exact hit | with_reducible assumption | (with_reducible apply miss; case h => with_unfolding_all rfl)))) | (with_reducible first | apply e_int | apply e_str | apply e_none | apply e_bool | apply e_bin | apply l1 | apply l2 | apply l0 | apply lc | apply e_sub | apply e_slice | apply e_list | apply e_tuple | apply e_cmp | apply e_and | apply e_not | apply e_or | apply e_neg | apply t_cmp | apply t_cmp2 | apply t_and | apply t_or | apply t_not | apply t_bool | apply t_sub | apply tru_bool | apply e_comp0 | apply e_comp1 | apply i_val | apply i_rng1 | apply i_rng2 | apply i_rev | apply b_add | apply b_sub | apply c_lt | apply c_le | apply c_gt | apply c_ge | apply c_eqi | apply c_nei | apply c_eqs | apply c_nes | apply c_eqb | apply c_neb | apply c_is | apply c_isnot | apply s_len | apply if_tt | apply if_ff | apply r_ret | apply s_asg | apply s_exp | apply s_ite | apply s_set | apply s_skip | apply sq_next | apply sq_ret | apply lq_next | apply lq_ret | apply rq_ret | apply i_str) | ((with_reducible first | apply e_call | apply t_call | apply e_glob | apply e_methS | apply e_srt); case h => with_reducible assumption) | (with_reducible apply b_div; case h => with_unfolding_all rfl)))
  refine b_mod (by decide) fun j j0 j1 => ?_
  (repeat (first | ((with_reducible first | apply e_name | apply t_name); case h => (repeat (first | with_reducible exact hit | with_reducible assumption | (with_reducible apply miss; case h => with_unfolding_all rfl)))) | (with_reducible first | apply e_int | apply e_str | apply e_none | apply e_bool | apply e_bin | apply l1 | apply l2 | apply l0 | apply lc | apply e_sub | apply e_slice | apply e_list | apply e_tuple | apply e_cmp | apply e_and | apply e_not | apply e_or | apply e_neg | apply t_cmp | apply t_cmp2 | apply t_and | apply t_or | apply t_not | apply t_bool | apply t_sub | apply tru_bool | apply e_comp0 | apply e_comp1 | apply i_val | apply i_rng1 | apply i_rng2 | apply i_rev | apply b_add | apply b_sub | apply c_lt | apply c_le | apply c_gt | apply c_ge | apply c_eqi | apply c_nei | apply c_eqs | apply c_nes | apply c_eqb | apply c_neb | apply c_is | apply c_isnot | apply s_len | apply if_tt | apply if_ff | apply r_ret | apply s_asg | apply s_exp | apply s_ite | apply s_set | apply s_skip | apply sq_next | apply sq_ret | apply lq_next | apply lq_ret | apply rq_ret | apply i_str) | ((with_reducible first | apply e_call | apply t_call | apply e_glob | apply e_methS | apply e_srt); case h => with_reducible assumption) | (with_reducible apply b_div; case h => with_unfolding_all rfl)))
  refine rng1 (by omega) (by unfold lid; omega) ?_
  refine for_inv (fun xs σ H' => Keep H H' ∧ (∃ rs, Ws H' H.length rs ∧ rs.length + xs.length = (2 + j).toNat ∧ ∀ r ∈ rs, Wd 5 r) ∧ (σ (nm 1068460336826721793631) = some (.ref H.length) ∧ σ (nm 137989276334399845594719) = some (.ref 0) ∧ σ (nm 1078262421209535247967) = some (.int k) ∧ σ (nm 32292397438104887858748106241631) = some (.str s)) ∧ ∀ x ∈ xs, ∃ i : Int, x = .one (.int i) ∧ 0 ≤ i) ?_ ?_ ⟨kH, ⟨[], get_new, by rw [List.length_map, intsFrom_len, List.length_nil, Nat.zero_add], fun _ h => nomatch h⟩, ⟨by (repeat (first | with_reducible exact hit | with_reducible assumption | (with_reducible apply miss; case h => with_unfolding_all rfl))), by (repeat (first | with_reducible exact hit | with_reducible assumption | (with_reducible apply miss; case h => with_unfolding_all rfl))), by (repeat (first | with_reducible exact hit | with_reducible assumption | (with_reducible apply miss; case h => with_unfolding_all rfl))), by (repeat (first | with_reducible exact hit | with_reducible assumption | (with_reducible apply miss; case h => with_unfolding_all rfl)))⟩, ?_⟩
  · rintro x xs σ H' ⟨kp, ⟨rs, hr, hl, hm⟩, ⟨e1, e2, e3, e4⟩, hx⟩
    obtain ⟨i, rfl, i0⟩ := hx x (.head _)
    rw [List.length_cons] at hl
    refine ⟨trivial, _, rfl, fun W hW => ?_⟩
    refine s_exp (e_methN (by (repeat (first | with_reducible exact hit | with_reducible assumption | (with_reducible apply miss; case h => with_unfolding_all rfl)))) (kind_l hr) h4 (l1 ?_))
    (repeat (first | ((with_reducible first | apply e_name | apply t_name); case h => (repeat (first | with_reducible exact hit | with_reducible assumption | (with_reducible apply miss; case h => with_unfolding_all rfl)))) | (with_reducible first | apply e_int | apply e_str | apply e_none | apply e_bool | apply e_bin | apply l1 | apply l2 | apply l0 | apply lc | apply e_sub | apply e_slice | apply e_list | apply e_tuple | apply e_cmp | apply e_and | apply e_not | apply e_or | apply e_neg | apply t_cmp | apply t_cmp2 | apply t_and | apply t_or | apply t_not | apply t_bool | apply t_sub | apply tru_bool | apply e_comp0 | apply e_comp1 | apply i_val | apply i_rng1 | apply i_rng2 | apply i_rev | apply b_add | apply b_sub | apply c_lt | apply c_le | apply c_gt | apply c_ge | apply c_eqi | apply c_nei | apply c_eqs | apply c_nes | apply c_eqb | apply c_neb | apply c_is | apply c_isnot | apply s_len | apply if_tt | apply if_ff | apply r_ret | apply s_asg | apply s_exp | apply s_ite | apply s_set | apply s_skip | apply sq_next | apply sq_ret | apply lq_next | apply lq_ret | apply rq_ret | apply i_str) | ((with_reducible first | apply e_call | apply t_call | apply e_glob | apply e_methS | apply e_srt); case h => with_reducible assumption) | (with_reducible apply b_div; case h => with_unfolding_all rfl)))
    refine b_mod (by decide) fun a a0 a1 => ?_
    (repeat (first | ((with_reducible first | apply e_name | apply t_name); case h => (repeat (first | with_reducible exact hit | with_reducible assumption | (with_reducible apply miss; case h => with_unfolding_all rfl)))) | (with_reducible first | apply e_int | apply e_str | apply e_none | apply e_bool | apply e_bin | apply l1 | apply l2 | apply l0 | apply lc | apply e_sub | apply e_slice | apply e_list | apply e_tuple | apply e_cmp | apply e_and | apply e_not | apply e_or | apply e_neg | apply t_cmp | apply t_cmp2 | apply t_and | apply t_or | apply t_not | apply t_bool | apply t_sub | apply tru_bool | apply e_comp0 | apply e_comp1 | apply i_val | apply i_rng1 | apply i_rng2 | apply i_rev | apply b_add | apply b_sub | apply c_lt | apply c_le | apply c_gt | apply c_ge | apply c_eqi | apply c_nei | apply c_eqs | apply c_nes | apply c_eqb | apply c_neb | apply c_is | apply c_isnot | apply s_len | apply if_tt | apply if_ff | apply r_ret | apply s_asg | apply s_exp | apply s_ite | apply s_set | apply s_skip | apply sq_next | apply sq_ret | apply lq_next | apply lq_ret | apply rq_ret | apply i_str) | ((with_reducible first | apply e_call | apply t_call | apply e_glob | apply e_methS | apply e_srt); case h => with_reducible assumption) | (with_reducible apply b_div; case h => with_unfolding_all rfl)))
    refine ⟨_, rfl, by omega, hs.keep kp, fun b => ?_⟩
    (repeat (first | ((with_reducible first | apply e_name | apply t_name); case h => (repeat (first | with_reducible exact hit | with_reducible assumption | (with_reducible apply miss; case h => with_unfolding_all rfl)))) | (with_reducible first | apply e_int | apply e_str | apply e_none | apply e_bool | apply e_bin | apply l1 | apply l2 | apply l0 | apply lc | apply e_sub | apply e_slice | apply e_list | apply e_tuple | apply e_cmp | apply e_and | apply e_not | apply e_or | apply e_neg | apply t_cmp | apply t_cmp2 | apply t_and | apply t_or | apply t_not | apply t_bool | apply t_sub | apply tru_bool | apply e_comp0 | apply e_comp1 | apply i_val | apply i_rng1 | apply i_rng2 | apply i_rev | apply b_add | apply b_sub | apply c_lt | apply c_le | apply c_gt | apply c_ge | apply c_eqi | apply c_nei | apply c_eqs | apply c_nes | apply c_eqb | apply c_neb | apply c_is | apply c_isnot | apply s_len | apply if_tt | apply if_ff | apply r_ret | apply s_asg | apply s_exp | apply s_ite | apply s_set | apply s_skip | apply sq_next | apply sq_ret | apply lq_next | apply lq_ret | apply rq_ret | apply i_str) | ((with_reducible first | apply e_call | apply t_call | apply e_glob | apply e_methS | apply e_srt); case h => with_reducible assumption) | (with_reducible apply b_div; case h => with_unfolding_all rfl)))
    refine ⟨_, _, rfl, fun c _ _ => ?_⟩
    (repeat (first | ((with_reducible first | apply e_name | apply t_name); case h => (repeat (first | with_reducible exact hit | with_reducible assumption | (with_reducible apply miss; case h => with_unfolding_all rfl)))) | (with_reducible first | apply e_int | apply e_str | apply e_none | apply e_bool | apply e_bin | apply l1 | apply l2 | apply l0 | apply lc | apply e_sub | apply e_slice | apply e_list | apply e_tuple | apply e_cmp | apply e_and | apply e_not | apply e_or | apply e_neg | apply t_cmp | apply t_cmp2 | apply t_and | apply t_or | apply t_not | apply t_bool | apply t_sub | apply tru_bool | apply e_comp0 | apply e_comp1 | apply i_val | apply i_rng1 | apply i_rng2 | apply i_rev | apply b_add | apply b_sub | apply c_lt | apply c_le | apply c_gt | apply c_ge | apply c_eqi | apply c_nei | apply c_eqs | apply c_nes | apply c_eqb | apply c_neb | apply c_is | apply c_isnot | apply s_len | apply if_tt | apply if_ff | apply r_ret | apply s_asg | apply s_exp | apply s_ite | apply s_set | apply s_skip | apply sq_next | apply sq_ret | apply lq_next | apply lq_ret | apply rq_ret | apply i_str) | ((with_reducible first | apply e_call | apply t_call | apply e_glob | apply e_methS | apply e_srt); case h => with_reducible assumption) | (with_reducible apply b_div; case h => with_unfolding_all rfl)))
    refine ⟨_, _, rfl, hw, fun t H2 ht k2 => ?_⟩
    (repeat (first | ((with_reducible first | apply e_name | apply t_name); case h => (repeat (first | with_reducible exact hit | with_reducible assumption | (with_reducible apply miss; case h => with_unfolding_all rfl)))) | (with_reducible first | apply e_int | apply e_str | apply e_none | apply e_bool | apply e_bin | apply l1 | apply l2 | apply l0 | apply lc | apply e_sub | apply e_slice | apply e_list | apply e_tuple | apply e_cmp | apply e_and | apply e_not | apply e_or | apply e_neg | apply t_cmp | apply t_cmp2 | apply t_and | apply t_or | apply t_not | apply t_bool | apply t_sub | apply tru_bool | apply e_comp0 | apply e_comp1 | apply i_val | apply i_rng1 | apply i_rng2 | apply i_rev | apply b_add | apply b_sub | apply c_lt | apply c_le | apply c_gt | apply c_ge | apply c_eqi | apply c_nei | apply c_eqs | apply c_nes | apply c_eqb | apply c_neb | apply c_is | apply c_isnot | apply s_len | apply if_tt | apply if_ff | apply r_ret | apply s_asg | apply s_exp | apply s_ite | apply s_set | apply s_skip | apply sq_next | apply sq_ret | apply lq_next | apply lq_ret | apply rq_ret | apply i_str) | ((with_reducible first | apply e_call | apply t_call | apply e_glob | apply e_methS | apply e_srt); case h => with_reducible assumption) | (with_reducible apply b_div; case h => with_unfolding_all rfl)))
    refine b_to (by decide) ?_
    have hr2 : Ws H2 H.length rs := hr.keep k2
    refine s_push hl0 hr2 (by unfold lid; omega) ?_
    (repeat (first | ((with_reducible first | apply e_name | apply t_name); case h => (repeat (first | with_reducible exact hit | with_reducible assumption | (with_reducible apply miss; case h => with_unfolding_all rfl)))) | (with_reducible first | apply e_int | apply e_str | apply e_none | apply e_bool | apply e_bin | apply l1 | apply l2 | apply l0 | apply lc | apply e_sub | apply e_slice | apply e_list | apply e_tuple | apply e_cmp | apply e_and | apply e_not | apply e_or | apply e_neg | apply t_cmp | apply t_cmp2 | apply t_and | apply t_or | apply t_not | apply t_bool | apply t_sub | apply tru_bool | apply e_comp0 | apply e_comp1 | apply i_val | apply i_rng1 | apply i_rng2 | apply i_rev | apply b_add | apply b_sub | apply c_lt | apply c_le | apply c_gt | apply c_ge | apply c_eqi | apply c_nei | apply c_eqs | apply c_nes | apply c_eqb | apply c_neb | apply c_is | apply c_isnot | apply s_len | apply if_tt | apply if_ff | apply r_ret | apply s_asg | apply s_exp | apply s_ite | apply s_set | apply s_skip | apply sq_next | apply sq_ret | apply lq_next | apply lq_ret | apply rq_ret | apply i_str) | ((with_reducible first | apply e_call | apply t_call | apply e_glob | apply e_methS | apply e_srt); case h => with_reducible assumption) | (with_reducible apply b_div; case h => with_unfolding_all rfl)))
    refine hW _ _ ⟨(kp.trans k2).set (Nat.le_refl _), ⟨_, hr2.push _, by rw [List.length_append, List.length_singleton]; omega, fun r hr' => ?_⟩, ⟨by (repeat (first | with_reducible exact hit | with_reducible assumption | (with_reducible apply miss; case h => with_unfolding_all rfl))), by (repeat (first | with_reducible exact hit | with_reducible assumption | (with_reducible apply miss; case h => with_unfolding_all rfl))), by (repeat (first | with_reducible exact hit | with_reducible assumption | (with_reducible apply miss; case h => with_unfolding_all rfl))), by (repeat (first | with_reducible exact hit | with_reducible assumption | (with_reducible apply miss; case h => with_unfolding_all rfl)))⟩, fun y hy => hx y (.tail _ hy)⟩
    rcases List.mem_append.mp hr' with hr' | hr'
    · exact hm r hr'
    · rw [List.mem_singleton.mp hr']; exact ht.take (by decide)
  · rintro σ H' ⟨kp, ⟨rs, hr, hl, hm⟩, ⟨e1, e2, e3, e4⟩, hx⟩
    refine ⟨trivial, ?_⟩
    rw [List.length_nil, Nat.add_zero] at hl
    refine s_asg ?_
    (repeat (first | ((with_reducible first | apply e_name | apply t_name); case h => (repeat (first | with_reducible exact hit | with_reducible assumption | (with_reducible apply miss; case h => with_unfolding_all rfl)))) | (with_reducible first | apply e_int | apply e_str | apply e_none | apply e_bool | apply e_bin | apply l1 | apply l2 | apply l0 | apply lc | apply e_sub | apply e_slice | apply e_list | apply e_tuple | apply e_cmp | apply e_and | apply e_not | apply e_or | apply e_neg | apply t_cmp | apply t_cmp2 | apply t_and | apply t_or | apply t_not | apply t_bool | apply t_sub | apply tru_bool | apply e_comp0 | apply e_comp1 | apply i_val | apply i_rng1 | apply i_rng2 | apply i_rev | apply b_add | apply b_sub | apply c_lt | apply c_le | apply c_gt | apply c_ge | apply c_eqi | apply c_nei | apply c_eqs | apply c_nes | apply c_eqb | apply c_neb | apply c_is | apply c_isnot | apply s_len | apply if_tt | apply if_ff | apply r_ret | apply s_asg | apply s_exp | apply s_ite | apply s_set | apply s_skip | apply sq_next | apply sq_ret | apply lq_next | apply lq_ret | apply rq_ret | apply i_str) | ((with_reducible first | apply e_call | apply t_call | apply e_glob | apply e_methS | apply e_srt); case h => with_reducible assumption) | (with_reducible apply b_div; case h => with_unfolding_all rfl)))
    refine any_wd hr (by decide) (by omega) fun l0 hl0' => ?_
    refine ⟨Nat.le_of_ble_eq_true rfl, ?_⟩
    (repeat (first | ((with_reducible first | apply e_name | apply t_name); case h => (repeat (first | with_reducible exact hit | with_reducible assumption | (with_reducible apply miss; case h => with_unfolding_all rfl)))) | (with_reducible first | apply e_int | apply e_str | apply e_none | apply e_bool | apply e_bin | apply l1 | apply l2 | apply l0 | apply lc | apply e_sub | apply e_slice | apply e_list | apply e_tuple | apply e_cmp | apply e_and | apply e_not | apply e_or | apply e_neg | apply t_cmp | apply t_cmp2 | apply t_and | apply t_or | apply t_not | apply t_bool | apply t_sub | apply tru_bool | apply e_comp0 | apply e_comp1 | apply i_val | apply i_rng1 | apply i_rng2 | apply i_rev | apply b_add | apply b_sub | apply c_lt | apply c_le | apply c_gt | apply c_ge | apply c_eqi | apply c_nei | apply c_eqs | apply c_nes | apply c_eqb | apply c_neb | apply c_is | apply c_isnot | apply s_len | apply if_tt | apply if_ff | apply r_ret | apply s_asg | apply s_exp | apply s_ite | apply s_set | apply s_skip | apply sq_next | apply sq_ret | apply lq_next | apply lq_ret | apply rq_ret | apply i_str) | ((with_reducible first | apply e_call | apply t_call | apply e_glob | apply e_methS | apply e_srt); case h => with_reducible assumption) | (with_reducible apply b_div; case h => with_unfolding_all rfl)))
    have hr2 : Ws (H' ++ [AObj.list [V.str l0]]) H.length rs := hr.keep (Keep.new _ _)
    refine len_ws hr2 ?_
    refine rng2 (by decide) (by decide) (by omega) (by unfold lid; omega) ⟨by rw [List.length_map, intsFrom_len]; unfold lid; omega, ?_⟩
    refine comp_rngA (WV 10) (fun i i0 i1 H2 k2 q hq => ?_) fun vs H2 hvl hv k2 => ?_
    · (repeat (first | ((with_reducible first | apply e_name | apply t_name); case h => (repeat (first | with_reducible exact hit | with_reducible assumption | (with_reducible apply miss; case h => with_unfolding_all rfl)))) | (with_reducible first | apply e_int | apply e_str | apply e_none | apply e_bool | apply e_bin | apply l1 | apply l2 | apply l0 | apply lc | apply e_sub | apply e_slice | apply e_list | apply e_tuple | apply e_cmp | apply e_and | apply e_not | apply e_or | apply e_neg | apply t_cmp | apply t_cmp2 | apply t_and | apply t_or | apply t_not | apply t_bool | apply t_sub | apply tru_bool | apply e_comp0 | apply e_comp1 | apply i_val | apply i_rng1 | apply i_rng2 | apply i_rev | apply b_add | apply b_sub | apply c_lt | apply c_le | apply c_gt | apply c_ge | apply c_eqi | apply c_nei | apply c_eqs | apply c_nes | apply c_eqb | apply c_neb | apply c_is | apply c_isnot | apply s_len | apply if_tt | apply if_ff | apply r_ret | apply s_asg | apply s_exp | apply s_ite | apply s_set | apply s_skip | apply sq_next | apply sq_ret | apply lq_next | apply lq_ret | apply rq_ret | apply i_str) | ((with_reducible first | apply e_call | apply t_call | apply e_glob | apply e_methS | apply e_srt); case h => with_reducible assumption) | (with_reducible apply b_div; case h => with_unfolding_all rfl)))
      refine any_wd (hr2.keep k2) (by omega) (by omega) fun u hu => ?_
      (repeat (first | ((with_reducible first | apply e_name | apply t_name); case h => (repeat (first | with_reducible exact hit | with_reducible assumption | (with_reducible apply miss; case h => with_unfolding_all rfl)))) | (with_reducible first | apply e_int | apply e_str | apply e_none | apply e_bool | apply e_bin | apply l1 | apply l2 | apply l0 | apply lc | apply e_sub | apply e_slice | apply e_list | apply e_tuple | apply e_cmp | apply e_and | apply e_not | apply e_or | apply e_neg | apply t_cmp | apply t_cmp2 | apply t_and | apply t_or | apply t_not | apply t_bool | apply t_sub | apply tru_bool | apply e_comp0 | apply e_comp1 | apply i_val | apply i_rng1 | apply i_rng2 | apply i_rev | apply b_add | apply b_sub | apply c_lt | apply c_le | apply c_gt | apply c_ge | apply c_eqi | apply c_nei | apply c_eqs | apply c_nes | apply c_eqb | apply c_neb | apply c_is | apply c_isnot | apply s_len | apply if_tt | apply if_ff | apply r_ret | apply s_asg | apply s_exp | apply s_ite | apply s_set | apply s_skip | apply sq_next | apply sq_ret | apply lq_next | apply lq_ret | apply rq_ret | apply i_str) | ((with_reducible first | apply e_call | apply t_call | apply e_glob | apply e_methS | apply e_srt); case h => with_reducible assumption) | (with_reducible apply b_div; case h => with_unfolding_all rfl)))
      refine any_wd (hr2.keep k2) (by omega) (by omega) fun w hw' => ?_
      have q1 := hm u hu
      have q2 := hm w hw'
      refine b_cat (by have := q1.le; have := q2.le; unfold lid; omega) ?_
      exact hq _ _ ⟨_, rfl, q1.cat q2⟩ (Keep.refl _)
    · refine b_lcat ((k2.trans (Keep.new _ _)).get get_new) get_new ?_ ?_
      · rw [List.length_singleton, hvl]; unfold lid; omega
      obtain ⟨ws, hws, hwd⟩ := all_ws ([V.str l0] ++ vs) (all_app (all_cons ⟨_, rfl, (hm l0 hl0').up (by decide)⟩ all_nil) hv)
      have hwl : ws.length = (1 : Nat) + vs.length := by
        have := congrArg List.length hws
        rw [List.length_append, List.length_map, List.length_singleton] at this; exact this.symm
      rw [hws]
      have kp2 : Keep H' _ := (Keep.new _ _).trans (k2.trans ((Keep.new _ [AObj.list vs]).trans (Keep.new _ [AObj.list (ws.map V.str)])))
      have hp : Ws _ _ ws := get_new (H := H2 ++ [AObj.list vs]) (o := .list (ws.map .str))
      have hpl : H.length ≤ (H2 ++ [AObj.list vs]).length := (kp.trans ((Keep.new _ _).trans (k2.trans (Keep.new _ _)))).le
      refine s_ite ?_
      (repeat (first | ((with_reducible first | apply e_name | apply t_name); case h => (repeat (first | with_reducible exact hit | with_reducible assumption | (with_reducible apply miss; case h => with_unfolding_all rfl)))) | (with_reducible first | apply e_int | apply e_str | apply e_none | apply e_bool | apply e_bin | apply l1 | apply l2 | apply l0 | apply lc | apply e_sub | apply e_slice | apply e_list | apply e_tuple | apply e_cmp | apply e_and | apply e_not | apply e_or | apply e_neg | apply t_cmp | apply t_cmp2 | apply t_and | apply t_or | apply t_not | apply t_bool | apply t_sub | apply tru_bool | apply e_comp0 | apply e_comp1 | apply i_val | apply i_rng1 | apply i_rng2 | apply i_rev | apply b_add | apply b_sub | apply c_lt | apply c_le | apply c_gt | apply c_ge | apply c_eqi | apply c_nei | apply c_eqs | apply c_nes | apply c_eqb | apply c_neb | apply c_is | apply c_isnot | apply s_len | apply if_tt | apply if_ff | apply r_ret | apply s_asg | apply s_exp | apply s_ite | apply s_set | apply s_skip | apply sq_next | apply sq_ret | apply lq_next | apply lq_ret | apply rq_ret | apply i_str) | ((with_reducible first | apply e_call | apply t_call | apply e_glob | apply e_methS | apply e_srt); case h => with_reducible assumption) | (with_reducible apply b_div; case h => with_unfolding_all rfl)))
      refine ⟨_, rfl, k0, hs.keep (kp.trans kp2), fun i => ?_⟩
      (repeat (first | ((with_reducible first | apply e_name | apply t_name); case h => (repeat (first | with_reducible exact hit | with_reducible assumption | (with_reducible apply miss; case h => with_unfolding_all rfl)))) | (with_reducible first | apply e_int | apply e_str | apply e_none | apply e_bool | apply e_bin | apply l1 | apply l2 | apply l0 | apply lc | apply e_sub | apply e_slice | apply e_list | apply e_tuple | apply e_cmp | apply e_and | apply e_not | apply e_or | apply e_neg | apply t_cmp | apply t_cmp2 | apply t_and | apply t_or | apply t_not | apply t_bool | apply t_sub | apply tru_bool | apply e_comp0 | apply e_comp1 | apply i_val | apply i_rng1 | apply i_rng2 | apply i_rev | apply b_add | apply b_sub | apply c_lt | apply c_le | apply c_gt | apply c_ge | apply c_eqi | apply c_nei | apply c_eqs | apply c_nes | apply c_eqb | apply c_neb | apply c_is | apply c_isnot | apply s_len | apply if_tt | apply if_ff | apply r_ret | apply s_asg | apply s_exp | apply s_ite | apply s_set | apply s_skip | apply sq_next | apply sq_ret | apply lq_next | apply lq_ret | apply rq_ret | apply i_str) | ((with_reducible first | apply e_call | apply t_call | apply e_glob | apply e_methS | apply e_srt); case h => with_reducible assumption) | (with_reducible apply b_div; case h => with_unfolding_all rfl)))
      refine b_mod (by decide) fun a a0 a1 => ?_
      (repeat (first | ((with_reducible first | apply e_name | apply t_name); case h => (repeat (first | with_reducible exact hit | with_reducible assumption | (with_reducible apply miss; case h => with_unfolding_all rfl)))) | (with_reducible first | apply e_int | apply e_str | apply e_none | apply e_bool | apply e_bin | apply l1 | apply l2 | apply l0 | apply lc | apply e_sub | apply e_slice | apply e_list | apply e_tuple | apply e_cmp | apply e_and | apply e_not | apply e_or | apply e_neg | apply t_cmp | apply t_cmp2 | apply t_and | apply t_or | apply t_not | apply t_bool | apply t_sub | apply tru_bool | apply e_comp0 | apply e_comp1 | apply i_val | apply i_rng1 | apply i_rng2 | apply i_rev | apply b_add | apply b_sub | apply c_lt | apply c_le | apply c_gt | apply c_ge | apply c_eqi | apply c_nei | apply c_eqs | apply c_nes | apply c_eqb | apply c_neb | apply c_is | apply c_isnot | apply s_len | apply if_tt | apply if_ff | apply r_ret | apply s_asg | apply s_exp | apply s_ite | apply s_set | apply s_skip | apply sq_next | apply sq_ret | apply lq_next | apply lq_ret | apply rq_ret | apply i_str) | ((with_reducible first | apply e_call | apply t_call | apply e_glob | apply e_methS | apply e_srt); case h => with_reducible assumption) | (with_reducible apply b_div; case h => with_unfolding_all rfl)))
      refine if_dec (fun _ => ?_) fun _ => ?_
      · refine s_exp (e_methN (by (repeat (first | with_reducible exact hit | with_reducible assumption | (with_reducible apply miss; case h => with_unfolding_all rfl)))) (kind_l hp) h4 (l1 ?_))
        (repeat (first | ((with_reducible first | apply e_name | apply t_name); case h => (repeat (first | with_reducible exact hit | with_reducible assumption | (with_reducible apply miss; case h => with_unfolding_all rfl)))) | (with_reducible first | apply e_int | apply e_str | apply e_none | apply e_bool | apply e_bin | apply l1 | apply l2 | apply l0 | apply lc | apply e_sub | apply e_slice | apply e_list | apply e_tuple | apply e_cmp | apply e_and | apply e_not | apply e_or | apply e_neg | apply t_cmp | apply t_cmp2 | apply t_and | apply t_or | apply t_not | apply t_bool | apply t_sub | apply tru_bool | apply e_comp0 | apply e_comp1 | apply i_val | apply i_rng1 | apply i_rng2 | apply i_rev | apply b_add | apply b_sub | apply c_lt | apply c_le | apply c_gt | apply c_ge | apply c_eqi | apply c_nei | apply c_eqs | apply c_nes | apply c_eqb | apply c_neb | apply c_is | apply c_isnot | apply s_len | apply if_tt | apply if_ff | apply r_ret | apply s_asg | apply s_exp | apply s_ite | apply s_set | apply s_skip | apply sq_next | apply sq_ret | apply lq_next | apply lq_ret | apply rq_ret | apply i_str) | ((with_reducible first | apply e_call | apply t_call | apply e_glob | apply e_methS | apply e_srt); case h => with_reducible assumption) | (with_reducible apply b_div; case h => with_unfolding_all rfl)))
        refine neg_int ?_
        refine any_last (hr.keep kp2) (by omega) fun w hw' => ?_
        refine s_push (by omega) hp (by unfold lid; omega) ?_
        (repeat (first | ((with_reducible first | apply e_name | apply t_name); case h => (repeat (first | with_reducible exact hit | with_reducible assumption | (with_reducible apply miss; case h => with_unfolding_all rfl)))) | (with_reducible first | apply e_int | apply e_str | apply e_none | apply e_bool | apply e_bin | apply l1 | apply l2 | apply l0 | apply lc | apply e_sub | apply e_slice | apply e_list | apply e_tuple | apply e_cmp | apply e_and | apply e_not | apply e_or | apply e_neg | apply t_cmp | apply t_cmp2 | apply t_and | apply t_or | apply t_not | apply t_bool | apply t_sub | apply tru_bool | apply e_comp0 | apply e_comp1 | apply i_val | apply i_rng1 | apply i_rng2 | apply i_rev | apply b_add | apply b_sub | apply c_lt | apply c_le | apply c_gt | apply c_ge | apply c_eqi | apply c_nei | apply c_eqs | apply c_nes | apply c_eqb | apply c_neb | apply c_is | apply c_isnot | apply s_len | apply if_tt | apply if_ff | apply r_ret | apply s_asg | apply s_exp | apply s_ite | apply s_set | apply s_skip | apply sq_next | apply sq_ret | apply lq_next | apply lq_ret | apply rq_ret | apply i_str) | ((with_reducible first | apply e_call | apply t_call | apply e_glob | apply e_methS | apply e_srt); case h => with_reducible assumption) | (with_reducible apply b_div; case h => with_unfolding_all rfl)))
        refine fin _ _ _ _ (by (repeat (first | with_reducible exact hit | with_reducible assumption | (with_reducible apply miss; case h => with_unfolding_all rfl)))) (by (repeat (first | with_reducible exact hit | with_reducible assumption | (with_reducible apply miss; case h => with_unfolding_all rfl)))) (by (repeat (first | with_reducible exact hit | with_reducible assumption | (with_reducible apply miss; case h => with_unfolding_all rfl)))) ((kp.trans kp2).set hpl) (hp.push w) ?_ ?_ ?_
        · rw [List.length_append, List.length_singleton]; omega
        · rw [List.length_append, List.length_singleton]; omega
        · intro u hu
          rcases List.mem_append.mp hu with hu | hu
          · exact hwd u hu
          · rw [List.mem_singleton.mp hu]; exact (hm w hw').up (by decide)
      · (repeat (first | ((with_reducible first | apply e_name | apply t_name); case h => (repeat (first | with_reducible exact hit | with_reducible assumption | (with_reducible apply miss; case h => with_unfolding_all rfl)))) | (with_reducible first | apply e_int | apply e_str | apply e_none | apply e_bool | apply e_bin | apply l1 | apply l2 | apply l0 | apply lc | apply e_sub | apply e_slice | apply e_list | apply e_tuple | apply e_cmp | apply e_and | apply e_not | apply e_or | apply e_neg | apply t_cmp | apply t_cmp2 | apply t_and | apply t_or | apply t_not | apply t_bool | apply t_sub | apply tru_bool | apply e_comp0 | apply e_comp1 | apply i_val | apply i_rng1 | apply i_rng2 | apply i_rev | apply b_add | apply b_sub | apply c_lt | apply c_le | apply c_gt | apply c_ge | apply c_eqi | apply c_nei | apply c_eqs | apply c_nes | apply c_eqb | apply c_neb | apply c_is | apply c_isnot | apply s_len | apply if_tt | apply if_ff | apply r_ret | apply s_asg | apply s_exp | apply s_ite | apply s_set | apply s_skip | apply sq_next | apply sq_ret | apply lq_next | apply lq_ret | apply rq_ret | apply i_str) | ((with_reducible first | apply e_call | apply t_call | apply e_glob | apply e_methS | apply e_srt); case h => with_reducible assumption) | (with_reducible apply b_div; case h => with_unfolding_all rfl)))
        exact fin _ _ ws _ (by (repeat (first | with_reducible exact hit | with_reducible assumption | (with_reducible apply miss; case h => with_unfolding_all rfl)))) (by (repeat (first | with_reducible exact hit | with_reducible assumption | (with_reducible apply miss; case h => with_unfolding_all rfl)))) (by (repeat (first | with_reducible exact hit | with_reducible assumption | (with_reducible apply miss; case h => with_unfolding_all rfl)))) (kp.trans kp2) hp (by omega) (by omega) hwd
  · intro x hx
    obtain ⟨i, hi, rfl⟩ := List.mem_map.mp hx
    exact ⟨_, rfl, (intsFrom_mem hi).1⟩

end
end Mine
end
section
namespace Mine
open PySem

noncomputable def spWords : Spec := fun vs H Q _ => ∃ k : Int, vs = [.ref 0, .int k] ∧ 0 ≤ k ∧ Scr H ∧ ∀ ws p H', Cd ws → H.length ≤ p → Ws H' p ws → Keep H H' → Q (.ref p) H'

section
variable {T : Tab}

/-- «if word not in words: words.append(word)» -/
theorem add_word {σ : Sg} {H H0 : AHeap} {P : SPost} {X : XPost} {w : Txt} {q : Nat} {us : List Txt} (h4 : HasM T .list (nm 3465715398753) spAppend) (e1 : σ (nm 252284354984115859945804035679) = some (.str w)) (e2 : σ (nm 32292397438104173501782932616799) = some (.ref q)) (hq : q ≠ 0)
    (hu : Ws H q us) (hl : us.length ≤ 1000) (hn : us.Nodup) (ha : ∀ u ∈ us, Wd 10 u) (hw : Wd 10 w) (kp : Keep H0 H) (hq0 : H0.length ≤ q)
    (k : ∀ H' us', (∀ i, i ≠ q → H'[i]? = H[i]?) → Keep H0 H' → Ws H' q us' → us'.length ≤ us.length + 1 → us'.Nodup → (∀ u ∈ us', Wd 10 u) → P .next σ H') : semS T b_law_words_l2 σ H P X := by
  refine s_ite ?_
  (repeat (first | ((with_reducible first | apply e_name | apply t_name); case h => (repeat (first | with_reducible exact hit | with_reducible assumption | (with_reducible apply miss; case h => with_unfolding_all rfl)))) | (with_reducible first | apply e_int | apply e_str | apply e_none | apply e_bool | apply e_bin | apply l1 | apply l2 | apply l0 | apply lc | apply e_sub | apply e_slice | apply e_list | apply e_tuple | apply e_cmp | apply e_and | apply e_not | apply e_or | apply e_neg | apply t_cmp | apply t_cmp2 | apply t_and | apply t_or | apply t_not | apply t_bool | apply t_sub | apply tru_bool | apply e_comp0 | apply e_comp1 | apply i_val | apply i_rng1 | apply i_rng2 | apply i_rev | apply b_add | apply b_sub | apply c_lt | apply c_le | apply c_gt | apply c_ge | apply c_eqi | apply c_nei | apply c_eqs | apply c_nes | apply c_eqb | apply c_neb | apply c_is | apply c_isnot | apply s_len | apply if_tt | apply if_ff | apply r_ret | apply s_asg | apply s_exp | apply s_ite | apply s_set | apply s_skip | apply sq_next | apply sq_ret | apply lq_next | apply lq_ret | apply rq_ret | apply i_str) | ((with_reducible first | apply e_call | apply t_call | apply e_glob | apply e_methS | apply e_srt); case h => with_reducible assumption) | (with_reducible apply b_div; case h => with_unfolding_all rfl)))
  refine c_ninw hu ?_
  refine if_ndec (fun hnw => ?_) fun _ => ?_
  · refine s_exp (e_methN (by (repeat (first | with_reducible exact hit | with_reducible assumption | (with_reducible apply miss; case h => with_unfolding_all rfl)))) (kind_l hu) h4 (l1 ?_))
    (repeat (first | ((with_reducible first | apply e_name | apply t_name); case h => (repeat (first | with_reducible exact hit | with_reducible assumption | (with_reducible apply miss; case h => with_unfolding_all rfl)))) | (with_reducible first | apply e_int | apply e_str | apply e_none | apply e_bool | apply e_bin | apply l1 | apply l2 | apply l0 | apply lc | apply e_sub | apply e_slice | apply e_list | apply e_tuple | apply e_cmp | apply e_and | apply e_not | apply e_or | apply e_neg | apply t_cmp | apply t_cmp2 | apply t_and | apply t_or | apply t_not | apply t_bool | apply t_sub | apply tru_bool | apply e_comp0 | apply e_comp1 | apply i_val | apply i_rng1 | apply i_rng2 | apply i_rev | apply b_add | apply b_sub | apply c_lt | apply c_le | apply c_gt | apply c_ge | apply c_eqi | apply c_nei | apply c_eqs | apply c_nes | apply c_eqb | apply c_neb | apply c_is | apply c_isnot | apply s_len | apply if_tt | apply if_ff | apply r_ret | apply s_asg | apply s_exp | apply s_ite | apply s_set | apply s_skip | apply sq_next | apply sq_ret | apply lq_next | apply lq_ret | apply rq_ret | apply i_str) | ((with_reducible first | apply e_call | apply t_call | apply e_glob | apply e_methS | apply e_srt); case h => with_reducible assumption) | (with_reducible apply b_div; case h => with_unfolding_all rfl)))
    refine s_push hq hu (by unfold lid; omega) ?_
    (repeat (first | ((with_reducible first | apply e_name | apply t_name); case h => (repeat (first | with_reducible exact hit | with_reducible assumption | (with_reducible apply miss; case h => with_unfolding_all rfl)))) | (with_reducible first | apply e_int | apply e_str | apply e_none | apply e_bool | apply e_bin | apply l1 | apply l2 | apply l0 | apply lc | apply e_sub | apply e_slice | apply e_list | apply e_tuple | apply e_cmp | apply e_and | apply e_not | apply e_or | apply e_neg | apply t_cmp | apply t_cmp2 | apply t_and | apply t_or | apply t_not | apply t_bool | apply t_sub | apply tru_bool | apply e_comp0 | apply e_comp1 | apply i_val | apply i_rng1 | apply i_rng2 | apply i_rev | apply b_add | apply b_sub | apply c_lt | apply c_le | apply c_gt | apply c_ge | apply c_eqi | apply c_nei | apply c_eqs | apply c_nes | apply c_eqb | apply c_neb | apply c_is | apply c_isnot | apply s_len | apply if_tt | apply if_ff | apply r_ret | apply s_asg | apply s_exp | apply s_ite | apply s_set | apply s_skip | apply sq_next | apply sq_ret | apply lq_next | apply lq_ret | apply rq_ret | apply i_str) | ((with_reducible first | apply e_call | apply t_call | apply e_glob | apply e_methS | apply e_srt); case h => with_reducible assumption) | (with_reducible apply b_div; case h => with_unfolding_all rfl)))
    refine k _ _ (fun i hi => List.getElem?_set_ne (Ne.symm hi)) (kp.set hq0) (hu.push w) (by rw [List.length_append, List.length_singleton]; omega) ?_ ?_
    · rw [List.nodup_append]
      refine ⟨hn, by simp, fun a ha' b hb => ?_⟩
      rw [List.mem_singleton.mp hb]
      exact fun e => hnw (e ▸ ha')
    · intro u hu'
      rcases List.mem_append.mp hu' with hu' | hu'
      · exact ha u hu'
      · rw [List.mem_singleton.mp hu']; exact hw
  · (repeat (first | ((with_reducible first | apply e_name | apply t_name); case h => (repeat (first | with_reducible exact hit | with_reducible assumption | (with_reducible apply miss; case h => with_unfolding_all rfl)))) | (with_reducible first | apply e_int | apply e_str | apply e_none | apply e_bool | apply e_bin | apply l1 | apply l2 | apply l0 | apply lc | apply e_sub | apply e_slice | apply e_list | apply e_tuple | apply e_cmp | apply e_and | apply e_not | apply e_or | apply e_neg | apply t_cmp | apply t_cmp2 | apply t_and | apply t_or | apply t_not | apply t_bool | apply t_sub | apply tru_bool | apply e_comp0 | apply e_comp1 | apply i_val | apply i_rng1 | apply i_rng2 | apply i_rev | apply b_add | apply b_sub | apply c_lt | apply c_le | apply c_gt | apply c_ge | apply c_eqi | apply c_nei | apply c_eqs | apply c_nes | apply c_eqb | apply c_neb | apply c_is | apply c_isnot | apply s_len | apply if_tt | apply if_ff | apply r_ret | apply s_asg | apply s_exp | apply s_ite | apply s_set | apply s_skip | apply sq_next | apply sq_ret | apply lq_next | apply lq_ret | apply rq_ret | apply i_str) | ((with_reducible first | apply e_call | apply t_call | apply e_glob | apply e_methS | apply e_srt); case h => with_reducible assumption) | (with_reducible apply b_div; case h => with_unfolding_all rfl)))
    exact k _ us (fun _ _ => rfl) kp hu (by omega) hn ha

theorem ct_law_words (h1 : Has T (nm 513532042442335) spAt) (h2 : Has T (nm 929683040243566540383) spMixed) (h3 : Has T (nm 1068672569199679796831) spSigns) (h4 : HasM T .list (nm 3465715398753) spAppend) (h5 : Has T (nm 7270427996206954079) spWord) (h6 : Has T (nm 1951640654478162685372954207) spAnyW) (h7 : Has T (nm 7342485246647498335) spMore) (h8 : Has T (nm 1022192038397693425247) spChain) : Ct T x_law_words b_law_words spWords := by
  refine ct2 fun vs H Q X h => ?_
  obtain ⟨k, rfl, k0, hs, h⟩ := h
  have hl0 : H.length ≠ 0 := by obtain ⟨is, e⟩ := hs; have := lt_of_get e; omega
  refine ⟨_, _, rfl, ?_⟩
  refine s_asg ?_
  (repeat (first | ((with_reducible first | apply e_name | apply t_name); case h => (repeat (first | with_reducible exact hit | with_reducible assumption | (with_reducible apply miss; case h => with_unfolding_all rfl)))) | (with_reducible first | apply e_int | apply e_str | apply e_none | apply e_bool | apply e_bin | apply l1 | apply l2 | apply l0 | apply lc | apply e_sub | apply e_slice | apply e_list | apply e_tuple | apply e_cmp | apply e_and | apply e_not | apply e_or | apply e_neg | apply t_cmp | apply t_cmp2 | apply t_and | apply t_or | apply t_not | apply t_bool | apply t_sub | apply tru_bool | apply e_comp0 | apply e_comp1 | apply i_val | apply i_rng1 | apply i_rng2 | apply i_rev | apply b_add | apply b_sub | apply c_lt | apply c_le | apply c_gt | apply c_ge | apply c_eqi | apply c_nei | apply c_eqs | apply c_nes | apply c_eqb | apply c_neb | apply c_is | apply c_isnot | apply s_len | apply if_tt | apply if_ff | apply r_ret | apply s_asg | apply s_exp | apply s_ite | apply s_set | apply s_skip | apply sq_next | apply sq_ret | apply lq_next | apply lq_ret | apply rq_ret | apply i_str) | ((with_reducible first | apply e_call | apply t_call | apply e_glob | apply e_methS | apply e_srt); case h => with_reducible assumption) | (with_reducible apply b_div; case h => with_unfolding_all rfl)))
  refine ⟨_, rfl, k0, hs, fun cell => ?_⟩
  refine s_asg ?_
  (repeat (first | ((with_reducible first | apply e_name | apply t_name); case h => (repeat (first | with_reducible exact hit | with_reducible assumption | (with_reducible apply miss; case h => with_unfolding_all rfl)))) | (with_reducible first | apply e_int | apply e_str | apply e_none | apply e_bool | apply e_bin | apply l1 | apply l2 | apply l0 | apply lc | apply e_sub | apply e_slice | apply e_list | apply e_tuple | apply e_cmp | apply e_and | apply e_not | apply e_or | apply e_neg | apply t_cmp | apply t_cmp2 | apply t_and | apply t_or | apply t_not | apply t_bool | apply t_sub | apply tru_bool | apply e_comp0 | apply e_comp1 | apply i_val | apply i_rng1 | apply i_rng2 | apply i_rev | apply b_add | apply b_sub | apply c_lt | apply c_le | apply c_gt | apply c_ge | apply c_eqi | apply c_nei | apply c_eqs | apply c_nes | apply c_eqb | apply c_neb | apply c_is | apply c_isnot | apply s_len | apply if_tt | apply if_ff | apply r_ret | apply s_asg | apply s_exp | apply s_ite | apply s_set | apply s_skip | apply sq_next | apply sq_ret | apply lq_next | apply lq_ret | apply rq_ret | apply i_str) | ((with_reducible first | apply e_call | apply t_call | apply e_glob | apply e_methS | apply e_srt); case h => with_reducible assumption) | (with_reducible apply b_div; case h => with_unfolding_all rfl)))
  refine ⟨_, rfl, by omega, hs, fun c1 => ?_⟩
  (repeat (first | ((with_reducible first | apply e_name | apply t_name); case h => (repeat (first | with_reducible exact hit | with_reducible assumption | (with_reducible apply miss; case h => with_unfolding_all rfl)))) | (with_reducible first | apply e_int | apply e_str | apply e_none | apply e_bool | apply e_bin | apply l1 | apply l2 | apply l0 | apply lc | apply e_sub | apply e_slice | apply e_list | apply e_tuple | apply e_cmp | apply e_and | apply e_not | apply e_or | apply e_neg | apply t_cmp | apply t_cmp2 | apply t_and | apply t_or | apply t_not | apply t_bool | apply t_sub | apply tru_bool | apply e_comp0 | apply e_comp1 | apply i_val | apply i_rng1 | apply i_rng2 | apply i_rev | apply b_add | apply b_sub | apply c_lt | apply c_le | apply c_gt | apply c_ge | apply c_eqi | apply c_nei | apply c_eqs | apply c_nes | apply c_eqb | apply c_neb | apply c_is | apply c_isnot | apply s_len | apply if_tt | apply if_ff | apply r_ret | apply s_asg | apply s_exp | apply s_ite | apply s_set | apply s_skip | apply sq_next | apply sq_ret | apply lq_next | apply lq_ret | apply rq_ret | apply i_str) | ((with_reducible first | apply e_call | apply t_call | apply e_glob | apply e_methS | apply e_srt); case h => with_reducible assumption) | (with_reducible apply b_div; case h => with_unfolding_all rfl)))
  refine ⟨_, rfl, fun s H1 hsg k1 => ?_⟩
  refine s_asg ?_
  (repeat (first | ((with_reducible first | apply e_name | apply t_name); case h => (repeat (first | with_reducible exact hit | with_reducible assumption | (with_reducible apply miss; case h => with_unfolding_all rfl)))) | (with_reducible first | apply e_int | apply e_str | apply e_none | apply e_bool | apply e_bin | apply l1 | apply l2 | apply l0 | apply lc | apply e_sub | apply e_slice | apply e_list | apply e_tuple | apply e_cmp | apply e_and | apply e_not | apply e_or | apply e_neg | apply t_cmp | apply t_cmp2 | apply t_and | apply t_or | apply t_not | apply t_bool | apply t_sub | apply tru_bool | apply e_comp0 | apply e_comp1 | apply i_val | apply i_rng1 | apply i_rng2 | apply i_rev | apply b_add | apply b_sub | apply c_lt | apply c_le | apply c_gt | apply c_ge | apply c_eqi | apply c_nei | apply c_eqs | apply c_nes | apply c_eqb | apply c_neb | apply c_is | apply c_isnot | apply s_len | apply if_tt | apply if_ff | apply r_ret | apply s_asg | apply s_exp | apply s_ite | apply s_set | apply s_skip | apply sq_next | apply sq_ret | apply lq_next | apply lq_ret | apply rq_ret | apply i_str) | ((with_reducible first | apply e_call | apply t_call | apply e_glob | apply e_methS | apply e_srt); case h => with_reducible assumption) | (with_reducible apply b_div; case h => with_unfolding_all rfl)))
  refine ⟨Nat.zero_le _, ?_⟩
  have kH : Keep H (H1 ++ [.list []]) := k1.trans (Keep.new _ _)
  have hq := k1.le
  have fin : ∀ σ H' ws, σ (nm 32292397438104173501782932616799) = some (.ref H1.length) → Keep H H' → Ws H' H1.length ws → ws.length ≤ 12 → ws.Nodup → (∀ w ∈ ws, Wd 10 w) → ∀ (r : PS) (P : SPost), (∀ v, Q v H' → P (.ret v) σ H') → semS T (.seq (.ret (.name (nm 32292397438104173501782932616799))) r) σ H' P X := by
    intro σ H' ws e kp hp hl hn hw r P hP
    (repeat (first | ((with_reducible first | apply e_name | apply t_name); case h => (repeat (first | with_reducible exact hit | with_reducible assumption | (with_reducible apply miss; case h => with_unfolding_all rfl)))) | (with_reducible first | apply e_int | apply e_str | apply e_none | apply e_bool | apply e_bin | apply l1 | apply l2 | apply l0 | apply lc | apply e_sub | apply e_slice | apply e_list | apply e_tuple | apply e_cmp | apply e_and | apply e_not | apply e_or | apply e_neg | apply t_cmp | apply t_cmp2 | apply t_and | apply t_or | apply t_not | apply t_bool | apply t_sub | apply tru_bool | apply e_comp0 | apply e_comp1 | apply i_val | apply i_rng1 | apply i_rng2 | apply i_rev | apply b_add | apply b_sub | apply c_lt | apply c_le | apply c_gt | apply c_ge | apply c_eqi | apply c_nei | apply c_eqs | apply c_nes | apply c_eqb | apply c_neb | apply c_is | apply c_isnot | apply s_len | apply if_tt | apply if_ff | apply r_ret | apply s_asg | apply s_exp | apply s_ite | apply s_set | apply s_skip | apply sq_next | apply sq_ret | apply lq_next | apply lq_ret | apply rq_ret | apply i_str) | ((with_reducible first | apply e_call | apply t_call | apply e_glob | apply e_methS | apply e_srt); case h => with_reducible assumption) | (with_reducible apply b_div; case h => with_unfolding_all rfl)))
    exact hP _ (h ws _ H' ⟨hl, hw, hn⟩ hq hp kp)
  refine s_ite ?_
  (repeat (first | ((with_reducible first | apply e_name | apply t_name); case h => (repeat (first | with_reducible exact hit | with_reducible assumption | (with_reducible apply miss; case h => with_unfolding_all rfl)))) | (with_reducible first | apply e_int | apply e_str | apply e_none | apply e_bool | apply e_bin | apply l1 | apply l2 | apply l0 | apply lc | apply e_sub | apply e_slice | apply e_list | apply e_tuple | apply e_cmp | apply e_and | apply e_not | apply e_or | apply e_neg | apply t_cmp | apply t_cmp2 | apply t_and | apply t_or | apply t_not | apply t_bool | apply t_sub | apply tru_bool | apply e_comp0 | apply e_comp1 | apply i_val | apply i_rng1 | apply i_rng2 | apply i_rev | apply b_add | apply b_sub | apply c_lt | apply c_le | apply c_gt | apply c_ge | apply c_eqi | apply c_nei | apply c_eqs | apply c_nes | apply c_eqb | apply c_neb | apply c_is | apply c_isnot | apply s_len | apply if_tt | apply if_ff | apply r_ret | apply s_asg | apply s_exp | apply s_ite | apply s_set | apply s_skip | apply sq_next | apply sq_ret | apply lq_next | apply lq_ret | apply rq_ret | apply i_str) | ((with_reducible first | apply e_call | apply t_call | apply e_glob | apply e_methS | apply e_srt); case h => with_reducible assumption) | (with_reducible apply b_div; case h => with_unfolding_all rfl)))
  refine b_mod (by decide) fun a a0 a1 => ?_
  (repeat (first | ((with_reducible first | apply e_name | apply t_name); case h => (repeat (first | with_reducible exact hit | with_reducible assumption | (with_reducible apply miss; case h => with_unfolding_all rfl)))) | (with_reducible first | apply e_int | apply e_str | apply e_none | apply e_bool | apply e_bin | apply l1 | apply l2 | apply l0 | apply lc | apply e_sub | apply e_slice | apply e_list | apply e_tuple | apply e_cmp | apply e_and | apply e_not | apply e_or | apply e_neg | apply t_cmp | apply t_cmp2 | apply t_and | apply t_or | apply t_not | apply t_bool | apply t_sub | apply tru_bool | apply e_comp0 | apply e_comp1 | apply i_val | apply i_rng1 | apply i_rng2 | apply i_rev | apply b_add | apply b_sub | apply c_lt | apply c_le | apply c_gt | apply c_ge | apply c_eqi | apply c_nei | apply c_eqs | apply c_nes | apply c_eqb | apply c_neb | apply c_is | apply c_isnot | apply s_len | apply if_tt | apply if_ff | apply r_ret | apply s_asg | apply s_exp | apply s_ite | apply s_set | apply s_skip | apply sq_next | apply sq_ret | apply lq_next | apply lq_ret | apply rq_ret | apply i_str) | ((with_reducible first | apply e_call | apply t_call | apply e_glob | apply e_methS | apply e_srt); case h => with_reducible assumption) | (with_reducible apply b_div; case h => with_unfolding_all rfl)))
  refine if_dec (fun _ => ?_) fun _ => ?_
  · refine r_for ?_
    (repeat (first | ((with_reducible first | apply e_name | apply t_name); case h => (repeat (first | with_reducible exact hit | with_reducible assumption | (with_reducible apply miss; case h => with_unfolding_all rfl)))) | (with_reducible first | apply e_int | apply e_str | apply e_none | apply e_bool | apply e_bin | apply l1 | apply l2 | apply l0 | apply lc | apply e_sub | apply e_slice | apply e_list | apply e_tuple | apply e_cmp | apply e_and | apply e_not | apply e_or | apply e_neg | apply t_cmp | apply t_cmp2 | apply t_and | apply t_or | apply t_not | apply t_bool | apply t_sub | apply tru_bool | apply e_comp0 | apply e_comp1 | apply i_val | apply i_rng1 | apply i_rng2 | apply i_rev | apply b_add | apply b_sub | apply c_lt | apply c_le | apply c_gt | apply c_ge | apply c_eqi | apply c_nei | apply c_eqs | apply c_nes | apply c_eqb | apply c_neb | apply c_is | apply c_isnot | apply s_len | apply if_tt | apply if_ff | apply r_ret | apply s_asg | apply s_exp | apply s_ite | apply s_set | apply s_skip | apply sq_next | apply sq_ret | apply lq_next | apply lq_ret | apply rq_ret | apply i_str) | ((with_reducible first | apply e_call | apply t_call | apply e_glob | apply e_methS | apply e_srt); case h => with_reducible assumption) | (with_reducible apply b_div; case h => with_unfolding_all rfl)))
    refine ⟨_, _, rfl, k0, hs.keep kH, hsg, fun ws p H2 hwl hw hp hpw k2 => ?_⟩
    refine i_list hpw ?_
    have hne : p ≠ H1.length := by rw [List.length_append, List.length_singleton] at hp; omega
    refine for_inv (fun xs σ H' => Keep H H' ∧ Ws H' p ws ∧ (∃ us, Ws H' H1.length us ∧ us.length + xs.length ≤ 12 ∧ us.Nodup ∧ ∀ u ∈ us, Wd 10 u) ∧ σ (nm 32292397438104173501782932616799) = some (.ref H1.length) ∧ ∀ x ∈ xs, ∃ w, x = .one (.str w) ∧ Wd 10 w) ?_ ?_ ⟨kH.trans k2, hpw, ⟨[], k2.get get_new, by rw [List.length_map, List.length_map, List.length_nil]; omega, List.nodup_nil, fun _ h => nomatch h⟩, by (repeat (first | with_reducible exact hit | with_reducible assumption | (with_reducible apply miss; case h => with_unfolding_all rfl))), ?_⟩
    · rintro x xs σ H' ⟨kp, hpw', ⟨us, hu, hl, hn, ha⟩, e1, hx⟩
      obtain ⟨w, rfl, hw'⟩ := hx x (.head _)
      rw [List.length_cons] at hl
      refine ⟨hpw', _, rfl, fun W hW => ?_⟩
      refine add_word h4 hit (by (repeat (first | with_reducible exact hit | with_reducible assumption | (with_reducible apply miss; case h => with_unfolding_all rfl)))) (by omega) hu (by omega) hn ha hw' kp hq fun H3 us' ho k3 hu' hl' hn' ha' => ?_
      exact hW _ _ ⟨k3, (ho p hne).trans hpw', ⟨us', hu', by omega, hn', ha'⟩, by (repeat (first | with_reducible exact hit | with_reducible assumption | (with_reducible apply miss; case h => with_unfolding_all rfl))), fun y hy => hx y (.tail _ hy)⟩
    · rintro σ H' ⟨kp, hpw', ⟨us, hu, hl, hn, ha⟩, e1, hx⟩
      exact ⟨hpw', fin σ H' us e1 kp hu (by omega) hn ha _ _ fun _ h => h⟩
    · intro x hx
      obtain ⟨v, hv, rfl⟩ := List.mem_map.mp hx
      obtain ⟨w, hw', rfl⟩ := List.mem_map.mp hv
      exact ⟨w, rfl, hw w hw'⟩
  · (repeat (first | ((with_reducible first | apply e_name | apply t_name); case h => (repeat (first | with_reducible exact hit | with_reducible assumption | (with_reducible apply miss; case h => with_unfolding_all rfl)))) | (with_reducible first | apply e_int | apply e_str | apply e_none | apply e_bool | apply e_bin | apply l1 | apply l2 | apply l0 | apply lc | apply e_sub | apply e_slice | apply e_list | apply e_tuple | apply e_cmp | apply e_and | apply e_not | apply e_or | apply e_neg | apply t_cmp | apply t_cmp2 | apply t_and | apply t_or | apply t_not | apply t_bool | apply t_sub | apply tru_bool | apply e_comp0 | apply e_comp1 | apply i_val | apply i_rng1 | apply i_rng2 | apply i_rev | apply b_add | apply b_sub | apply c_lt | apply c_le | apply c_gt | apply c_ge | apply c_eqi | apply c_nei | apply c_eqs | apply c_nes | apply c_eqb | apply c_neb | apply c_is | apply c_isnot | apply s_len | apply if_tt | apply if_ff | apply r_ret | apply s_asg | apply s_exp | apply s_ite | apply s_set | apply s_skip | apply sq_next | apply sq_ret | apply lq_next | apply lq_ret | apply rq_ret | apply i_str) | ((with_reducible first | apply e_call | apply t_call | apply e_glob | apply e_methS | apply e_srt); case h => with_reducible assumption) | (with_reducible apply b_div; case h => with_unfolding_all rfl)))
    refine r_for ?_
    (repeat (first | ((with_reducible first | apply e_name | apply t_name); case h => (repeat (first | with_reducible exact hit | with_reducible assumption | (with_reducible apply miss; case h => with_unfolding_all rfl)))) | (with_reducible first | apply e_int | apply e_str | apply e_none | apply e_bool | apply e_bin | apply l1 | apply l2 | apply l0 | apply lc | apply e_sub | apply e_slice | apply e_list | apply e_tuple | apply e_cmp | apply e_and | apply e_not | apply e_or | apply e_neg | apply t_cmp | apply t_cmp2 | apply t_and | apply t_or | apply t_not | apply t_bool | apply t_sub | apply tru_bool | apply e_comp0 | apply e_comp1 | apply i_val | apply i_rng1 | apply i_rng2 | apply i_rev | apply b_add | apply b_sub | apply c_lt | apply c_le | apply c_gt | apply c_ge | apply c_eqi | apply c_nei | apply c_eqs | apply c_nes | apply c_eqb | apply c_neb | apply c_is | apply c_isnot | apply s_len | apply if_tt | apply if_ff | apply r_ret | apply s_asg | apply s_exp | apply s_ite | apply s_set | apply s_skip | apply sq_next | apply sq_ret | apply lq_next | apply lq_ret | apply rq_ret | apply i_str) | ((with_reducible first | apply e_call | apply t_call | apply e_glob | apply e_methS | apply e_srt); case h => with_reducible assumption) | (with_reducible apply b_div; case h => with_unfolding_all rfl)))
    refine ⟨Nat.le_of_ble_eq_true rfl, ?_⟩
    (repeat (first | ((with_reducible first | apply e_name | apply t_name); case h => (repeat (first | with_reducible exact hit | with_reducible assumption | (with_reducible apply miss; case h => with_unfolding_all rfl)))) | (with_reducible first | apply e_int | apply e_str | apply e_none | apply e_bool | apply e_bin | apply l1 | apply l2 | apply l0 | apply lc | apply e_sub | apply e_slice | apply e_list | apply e_tuple | apply e_cmp | apply e_and | apply e_not | apply e_or | apply e_neg | apply t_cmp | apply t_cmp2 | apply t_and | apply t_or | apply t_not | apply t_bool | apply t_sub | apply tru_bool | apply e_comp0 | apply e_comp1 | apply i_val | apply i_rng1 | apply i_rng2 | apply i_rev | apply b_add | apply b_sub | apply c_lt | apply c_le | apply c_gt | apply c_ge | apply c_eqi | apply c_nei | apply c_eqs | apply c_nes | apply c_eqb | apply c_neb | apply c_is | apply c_isnot | apply s_len | apply if_tt | apply if_ff | apply r_ret | apply s_asg | apply s_exp | apply s_ite | apply s_set | apply s_skip | apply sq_next | apply sq_ret | apply lq_next | apply lq_ret | apply rq_ret | apply i_str) | ((with_reducible first | apply e_call | apply t_call | apply e_glob | apply e_methS | apply e_srt); case h => with_reducible assumption) | (with_reducible apply b_div; case h => with_unfolding_all rfl)))
    have kH2 : ∀ l, Keep H (H1 ++ [.list []] ++ [.list l]) := fun l => kH.trans (Keep.new _ _)
    refine b_mod (by decide) fun m m0 m1 => any_int 0 12 get_new m0 m1 rfl fun j j0 j1 => ?_
    refine rng1 j0 (by unfold lid; omega) ?_
    refine for_inv (fun xs σ H' => Keep H H' ∧ (∃ us, Ws H' H1.length us ∧ us.length + xs.length ≤ 12 ∧ us.Nodup ∧ ∀ u ∈ us, Wd 10 u) ∧ (σ (nm 32292397438104173501782932616799) = some (.ref H1.length) ∧ σ (nm 137989276334399845594719) = some (.ref 0) ∧ σ (nm 1078262421209535247967) = some (.int k) ∧ σ (nm 7843466381129971295) = some (.int cell) ∧ σ (nm 32292397438104887858748106241631) = some (.str s)) ∧ ∀ x ∈ xs, ∃ i : Int, x = .one (.int i) ∧ 0 ≤ i) ?_ ?_ ⟨kH2 _, ⟨[], (Keep.new _ _).get get_new, by rw [List.length_map, intsFrom_len, List.length_nil]; omega, List.nodup_nil, fun _ h => nomatch h⟩, ⟨by (repeat (first | with_reducible exact hit | with_reducible assumption | (with_reducible apply miss; case h => with_unfolding_all rfl))), by (repeat (first | with_reducible exact hit | with_reducible assumption | (with_reducible apply miss; case h => with_unfolding_all rfl))), by (repeat (first | with_reducible exact hit | with_reducible assumption | (with_reducible apply miss; case h => with_unfolding_all rfl))), by (repeat (first | with_reducible exact hit | with_reducible assumption | (with_reducible apply miss; case h => with_unfolding_all rfl))), by (repeat (first | with_reducible exact hit | with_reducible assumption | (with_reducible apply miss; case h => with_unfolding_all rfl)))⟩, ?_⟩
    · rintro x xs σ H' ⟨kp, ⟨us, hu, hl, hn, ha⟩, ⟨e1, e2, e3, e4, e5⟩, hx⟩
      obtain ⟨i, rfl, i0⟩ := hx x (.head _)
      rw [List.length_cons] at hl
      refine ⟨trivial, _, rfl, fun W hW => ?_⟩
      have step : ∀ σ' H2 w, σ' (nm 252284354984115859945804035679) = some (.str w) → σ' (nm 32292397438104173501782932616799) = some (.ref H1.length) → σ' (nm 137989276334399845594719) = some (.ref 0) → σ' (nm 1078262421209535247967) = some (.int k) → σ' (nm 7843466381129971295) = some (.int cell) → σ' (nm 32292397438104887858748106241631) = some (.str s) → Wd 10 w → Keep H' H2 →
          semS T b_law_words_l1_3 σ' H2 (LQ W (SQ T b_law_words_5 (RQ Q) X)) X := by
        intro σ' H2 w f0 f1 f2 f3 f4 f5 hw' k2
        refine add_word h4 f0 f1 (by omega) (hu.keep k2) (by omega) hn ha hw' (kp.trans k2) hq fun H3 us' ho k3 hu' hl' hn' ha' => ?_
        exact hW _ _ ⟨k3, ⟨us', hu', by omega, hn', ha'⟩, ⟨f1, f2, f3, f4, f5⟩, fun y hy => hx y (.tail _ hy)⟩
      refine s_asg ?_
      (repeat (first | ((with_reducible first | apply e_name | apply t_name); case h => (repeat (first | with_reducible exact hit | with_reducible assumption | (with_reducible apply miss; case h => with_unfolding_all rfl)))) | (with_reducible first | apply e_int | apply e_str | apply e_none | apply e_bool | apply e_bin | apply l1 | apply l2 | apply l0 | apply lc | apply e_sub | apply e_slice | apply e_list | apply e_tuple | apply e_cmp | apply e_and | apply e_not | apply e_or | apply e_neg | apply t_cmp | apply t_cmp2 | apply t_and | apply t_or | apply t_not | apply t_bool | apply t_sub | apply tru_bool | apply e_comp0 | apply e_comp1 | apply i_val | apply i_rng1 | apply i_rng2 | apply i_rev | apply b_add | apply b_sub | apply c_lt | apply c_le | apply c_gt | apply c_ge | apply c_eqi | apply c_nei | apply c_eqs | apply c_nes | apply c_eqb | apply c_neb | apply c_is | apply c_isnot | apply s_len | apply if_tt | apply if_ff | apply r_ret | apply s_asg | apply s_exp | apply s_ite | apply s_set | apply s_skip | apply sq_next | apply sq_ret | apply lq_next | apply lq_ret | apply rq_ret | apply i_str) | ((with_reducible first | apply e_call | apply t_call | apply e_glob | apply e_methS | apply e_srt); case h => with_reducible assumption) | (with_reducible apply b_div; case h => with_unfolding_all rfl)))
      refine b_mod (by decide) fun b b0 b1 => ?_
      (repeat (first | ((with_reducible first | apply e_name | apply t_name); case h => (repeat (first | with_reducible exact hit | with_reducible assumption | (with_reducible apply miss; case h => with_unfolding_all rfl)))) | (with_reducible first | apply e_int | apply e_str | apply e_none | apply e_bool | apply e_bin | apply l1 | apply l2 | apply l0 | apply lc | apply e_sub | apply e_slice | apply e_list | apply e_tuple | apply e_cmp | apply e_and | apply e_not | apply e_or | apply e_neg | apply t_cmp | apply t_cmp2 | apply t_and | apply t_or | apply t_not | apply t_bool | apply t_sub | apply tru_bool | apply e_comp0 | apply e_comp1 | apply i_val | apply i_rng1 | apply i_rng2 | apply i_rev | apply b_add | apply b_sub | apply c_lt | apply c_le | apply c_gt | apply c_ge | apply c_eqi | apply c_nei | apply c_eqs | apply c_nes | apply c_eqb | apply c_neb | apply c_is | apply c_isnot | apply s_len | apply if_tt | apply if_ff | apply r_ret | apply s_asg | apply s_exp | apply s_ite | apply s_set | apply s_skip | apply sq_next | apply sq_ret | apply lq_next | apply lq_ret | apply rq_ret | apply i_str) | ((with_reducible first | apply e_call | apply t_call | apply e_glob | apply e_methS | apply e_srt); case h => with_reducible assumption) | (with_reducible apply b_div; case h => with_unfolding_all rfl)))
      refine ⟨_, rfl, by omega, hs.keep kp, fun one => ?_⟩
      refine s_asg ?_
      (repeat (first | ((with_reducible first | apply e_name | apply t_name); case h => (repeat (first | with_reducible exact hit | with_reducible assumption | (with_reducible apply miss; case h => with_unfolding_all rfl)))) | (with_reducible first | apply e_int | apply e_str | apply e_none | apply e_bool | apply e_bin | apply l1 | apply l2 | apply l0 | apply lc | apply e_sub | apply e_slice | apply e_list | apply e_tuple | apply e_cmp | apply e_and | apply e_not | apply e_or | apply e_neg | apply t_cmp | apply t_cmp2 | apply t_and | apply t_or | apply t_not | apply t_bool | apply t_sub | apply tru_bool | apply e_comp0 | apply e_comp1 | apply i_val | apply i_rng1 | apply i_rng2 | apply i_rev | apply b_add | apply b_sub | apply c_lt | apply c_le | apply c_gt | apply c_ge | apply c_eqi | apply c_nei | apply c_eqs | apply c_nes | apply c_eqb | apply c_neb | apply c_is | apply c_isnot | apply s_len | apply if_tt | apply if_ff | apply r_ret | apply s_asg | apply s_exp | apply s_ite | apply s_set | apply s_skip | apply sq_next | apply sq_ret | apply lq_next | apply lq_ret | apply rq_ret | apply i_str) | ((with_reducible first | apply e_call | apply t_call | apply e_glob | apply e_methS | apply e_srt); case h => with_reducible assumption) | (with_reducible apply b_div; case h => with_unfolding_all rfl)))
      refine ⟨_, _, rfl, fun c _ _ => ?_⟩
      (repeat (first | ((with_reducible first | apply e_name | apply t_name); case h => (repeat (first | with_reducible exact hit | with_reducible assumption | (with_reducible apply miss; case h => with_unfolding_all rfl)))) | (with_reducible first | apply e_int | apply e_str | apply e_none | apply e_bool | apply e_bin | apply l1 | apply l2 | apply l0 | apply lc | apply e_sub | apply e_slice | apply e_list | apply e_tuple | apply e_cmp | apply e_and | apply e_not | apply e_or | apply e_neg | apply t_cmp | apply t_cmp2 | apply t_and | apply t_or | apply t_not | apply t_bool | apply t_sub | apply tru_bool | apply e_comp0 | apply e_comp1 | apply i_val | apply i_rng1 | apply i_rng2 | apply i_rev | apply b_add | apply b_sub | apply c_lt | apply c_le | apply c_gt | apply c_ge | apply c_eqi | apply c_nei | apply c_eqs | apply c_nes | apply c_eqb | apply c_neb | apply c_is | apply c_isnot | apply s_len | apply if_tt | apply if_ff | apply r_ret | apply s_asg | apply s_exp | apply s_ite | apply s_set | apply s_skip | apply sq_next | apply sq_ret | apply lq_next | apply lq_ret | apply rq_ret | apply i_str) | ((with_reducible first | apply e_call | apply t_call | apply e_glob | apply e_methS | apply e_srt); case h => with_reducible assumption) | (with_reducible apply b_div; case h => with_unfolding_all rfl)))
      refine ⟨_, _, rfl, hsg, fun t H2 ht k2 => ?_⟩
      refine s_ite ?_
      (repeat (first | ((with_reducible first | apply e_name | apply t_name); case h => (repeat (first | with_reducible exact hit | with_reducible assumption | (with_reducible apply miss; case h => with_unfolding_all rfl)))) | (with_reducible first | apply e_int | apply e_str | apply e_none | apply e_bool | apply e_bin | apply l1 | apply l2 | apply l0 | apply lc | apply e_sub | apply e_slice | apply e_list | apply e_tuple | apply e_cmp | apply e_and | apply e_not | apply e_or | apply e_neg | apply t_cmp | apply t_cmp2 | apply t_and | apply t_or | apply t_not | apply t_bool | apply t_sub | apply tru_bool | apply e_comp0 | apply e_comp1 | apply i_val | apply i_rng1 | apply i_rng2 | apply i_rev | apply b_add | apply b_sub | apply c_lt | apply c_le | apply c_gt | apply c_ge | apply c_eqi | apply c_nei | apply c_eqs | apply c_nes | apply c_eqb | apply c_neb | apply c_is | apply c_isnot | apply s_len | apply if_tt | apply if_ff | apply r_ret | apply s_asg | apply s_exp | apply s_ite | apply s_set | apply s_skip | apply sq_next | apply sq_ret | apply lq_next | apply lq_ret | apply rq_ret | apply i_str) | ((with_reducible first | apply e_call | apply t_call | apply e_glob | apply e_methS | apply e_srt); case h => with_reducible assumption) | (with_reducible apply b_div; case h => with_unfolding_all rfl)))
      refine b_mod (by decide) fun d d0 d1 => ?_
      (repeat (first | ((with_reducible first | apply e_name | apply t_name); case h => (repeat (first | with_reducible exact hit | with_reducible assumption | (with_reducible apply miss; case h => with_unfolding_all rfl)))) | (with_reducible first | apply e_int | apply e_str | apply e_none | apply e_bool | apply e_bin | apply l1 | apply l2 | apply l0 | apply lc | apply e_sub | apply e_slice | apply e_list | apply e_tuple | apply e_cmp | apply e_and | apply e_not | apply e_or | apply e_neg | apply t_cmp | apply t_cmp2 | apply t_and | apply t_or | apply t_not | apply t_bool | apply t_sub | apply tru_bool | apply e_comp0 | apply e_comp1 | apply i_val | apply i_rng1 | apply i_rng2 | apply i_rev | apply b_add | apply b_sub | apply c_lt | apply c_le | apply c_gt | apply c_ge | apply c_eqi | apply c_nei | apply c_eqs | apply c_nes | apply c_eqb | apply c_neb | apply c_is | apply c_isnot | apply s_len | apply if_tt | apply if_ff | apply r_ret | apply s_asg | apply s_exp | apply s_ite | apply s_set | apply s_skip | apply sq_next | apply sq_ret | apply lq_next | apply lq_ret | apply rq_ret | apply i_str) | ((with_reducible first | apply e_call | apply t_call | apply e_glob | apply e_methS | apply e_srt); case h => with_reducible assumption) | (with_reducible apply b_div; case h => with_unfolding_all rfl)))
      refine if_dec (fun _ => ?_) fun _ => ?_
      · (repeat (first | ((with_reducible first | apply e_name | apply t_name); case h => (repeat (first | with_reducible exact hit | with_reducible assumption | (with_reducible apply miss; case h => with_unfolding_all rfl)))) | (with_reducible first | apply e_int | apply e_str | apply e_none | apply e_bool | apply e_bin | apply l1 | apply l2 | apply l0 | apply lc | apply e_sub | apply e_slice | apply e_list | apply e_tuple | apply e_cmp | apply e_and | apply e_not | apply e_or | apply e_neg | apply t_cmp | apply t_cmp2 | apply t_and | apply t_or | apply t_not | apply t_bool | apply t_sub | apply tru_bool | apply e_comp0 | apply e_comp1 | apply i_val | apply i_rng1 | apply i_rng2 | apply i_rev | apply b_add | apply b_sub | apply c_lt | apply c_le | apply c_gt | apply c_ge | apply c_eqi | apply c_nei | apply c_eqs | apply c_nes | apply c_eqb | apply c_neb | apply c_is | apply c_isnot | apply s_len | apply if_tt | apply if_ff | apply r_ret | apply s_asg | apply s_exp | apply s_ite | apply s_set | apply s_skip | apply sq_next | apply sq_ret | apply lq_next | apply lq_ret | apply rq_ret | apply i_str) | ((with_reducible first | apply e_call | apply t_call | apply e_glob | apply e_methS | apply e_srt); case h => with_reducible assumption) | (with_reducible apply b_div; case h => with_unfolding_all rfl)))
        refine ⟨_, rfl, fun t2 ht2 => ?_⟩
        (repeat (first | ((with_reducible first | apply e_name | apply t_name); case h => (repeat (first | with_reducible exact hit | with_reducible assumption | (with_reducible apply miss; case h => with_unfolding_all rfl)))) | (with_reducible first | apply e_int | apply e_str | apply e_none | apply e_bool | apply e_bin | apply l1 | apply l2 | apply l0 | apply lc | apply e_sub | apply e_slice | apply e_list | apply e_tuple | apply e_cmp | apply e_and | apply e_not | apply e_or | apply e_neg | apply t_cmp | apply t_cmp2 | apply t_and | apply t_or | apply t_not | apply t_bool | apply t_sub | apply tru_bool | apply e_comp0 | apply e_comp1 | apply i_val | apply i_rng1 | apply i_rng2 | apply i_rev | apply b_add | apply b_sub | apply c_lt | apply c_le | apply c_gt | apply c_ge | apply c_eqi | apply c_nei | apply c_eqs | apply c_nes | apply c_eqb | apply c_neb | apply c_is | apply c_isnot | apply s_len | apply if_tt | apply if_ff | apply r_ret | apply s_asg | apply s_exp | apply s_ite | apply s_set | apply s_skip | apply sq_next | apply sq_ret | apply lq_next | apply lq_ret | apply rq_ret | apply i_str) | ((with_reducible first | apply e_call | apply t_call | apply e_glob | apply e_methS | apply e_srt); case h => with_reducible assumption) | (with_reducible apply b_div; case h => with_unfolding_all rfl)))
        exact step _ _ t2 (by (repeat (first | with_reducible exact hit | with_reducible assumption | (with_reducible apply miss; case h => with_unfolding_all rfl)))) (by (repeat (first | with_reducible exact hit | with_reducible assumption | (with_reducible apply miss; case h => with_unfolding_all rfl)))) (by (repeat (first | with_reducible exact hit | with_reducible assumption | (with_reducible apply miss; case h => with_unfolding_all rfl)))) (by (repeat (first | with_reducible exact hit | with_reducible assumption | (with_reducible apply miss; case h => with_unfolding_all rfl)))) (by (repeat (first | with_reducible exact hit | with_reducible assumption | (with_reducible apply miss; case h => with_unfolding_all rfl)))) (by (repeat (first | with_reducible exact hit | with_reducible assumption | (with_reducible apply miss; case h => with_unfolding_all rfl)))) ht2 k2
      · (repeat (first | ((with_reducible first | apply e_name | apply t_name); case h => (repeat (first | with_reducible exact hit | with_reducible assumption | (with_reducible apply miss; case h => with_unfolding_all rfl)))) | (with_reducible first | apply e_int | apply e_str | apply e_none | apply e_bool | apply e_bin | apply l1 | apply l2 | apply l0 | apply lc | apply e_sub | apply e_slice | apply e_list | apply e_tuple | apply e_cmp | apply e_and | apply e_not | apply e_or | apply e_neg | apply t_cmp | apply t_cmp2 | apply t_and | apply t_or | apply t_not | apply t_bool | apply t_sub | apply tru_bool | apply e_comp0 | apply e_comp1 | apply i_val | apply i_rng1 | apply i_rng2 | apply i_rev | apply b_add | apply b_sub | apply c_lt | apply c_le | apply c_gt | apply c_ge | apply c_eqi | apply c_nei | apply c_eqs | apply c_nes | apply c_eqb | apply c_neb | apply c_is | apply c_isnot | apply s_len | apply if_tt | apply if_ff | apply r_ret | apply s_asg | apply s_exp | apply s_ite | apply s_set | apply s_skip | apply sq_next | apply sq_ret | apply lq_next | apply lq_ret | apply rq_ret | apply i_str) | ((with_reducible first | apply e_call | apply t_call | apply e_glob | apply e_methS | apply e_srt); case h => with_reducible assumption) | (with_reducible apply b_div; case h => with_unfolding_all rfl)))
        refine ⟨Nat.zero_le _, ?_⟩
        refine c_new (us := []) (hu.keep (k2.trans (Keep.new _ _))) get_new ?_
        have k3 : Keep H' (H2 ++ [.list []]) := k2.trans (Keep.new _ _)
        have no : ∀ {σ'' : Sg}, σ'' = σ'' → True := fun _ => trivial
        refine if_ndec (fun hne => ?_) fun _ => ?_
        · (repeat (first | ((with_reducible first | apply e_name | apply t_name); case h => (repeat (first | with_reducible exact hit | with_reducible assumption | (with_reducible apply miss; case h => with_unfolding_all rfl)))) | (with_reducible first | apply e_int | apply e_str | apply e_none | apply e_bool | apply e_bin | apply l1 | apply l2 | apply l0 | apply lc | apply e_sub | apply e_slice | apply e_list | apply e_tuple | apply e_cmp | apply e_and | apply e_not | apply e_or | apply e_neg | apply t_cmp | apply t_cmp2 | apply t_and | apply t_or | apply t_not | apply t_bool | apply t_sub | apply tru_bool | apply e_comp0 | apply e_comp1 | apply i_val | apply i_rng1 | apply i_rng2 | apply i_rev | apply b_add | apply b_sub | apply c_lt | apply c_le | apply c_gt | apply c_ge | apply c_eqi | apply c_nei | apply c_eqs | apply c_nes | apply c_eqb | apply c_neb | apply c_is | apply c_isnot | apply s_len | apply if_tt | apply if_ff | apply r_ret | apply s_asg | apply s_exp | apply s_ite | apply s_set | apply s_skip | apply sq_next | apply sq_ret | apply lq_next | apply lq_ret | apply rq_ret | apply i_str) | ((with_reducible first | apply e_call | apply t_call | apply e_glob | apply e_methS | apply e_srt); case h => with_reducible assumption) | (with_reducible apply b_div; case h => with_unfolding_all rfl)))
          refine ⟨_, _, rfl, fun e _ _ => ?_⟩
          (repeat (first | ((with_reducible first | apply e_name | apply t_name); case h => (repeat (first | with_reducible exact hit | with_reducible assumption | (with_reducible apply miss; case h => with_unfolding_all rfl)))) | (with_reducible first | apply e_int | apply e_str | apply e_none | apply e_bool | apply e_bin | apply l1 | apply l2 | apply l0 | apply lc | apply e_sub | apply e_slice | apply e_list | apply e_tuple | apply e_cmp | apply e_and | apply e_not | apply e_or | apply e_neg | apply t_cmp | apply t_cmp2 | apply t_and | apply t_or | apply t_not | apply t_bool | apply t_sub | apply tru_bool | apply e_comp0 | apply e_comp1 | apply i_val | apply i_rng1 | apply i_rng2 | apply i_rev | apply b_add | apply b_sub | apply c_lt | apply c_le | apply c_gt | apply c_ge | apply c_eqi | apply c_nei | apply c_eqs | apply c_nes | apply c_eqb | apply c_neb | apply c_is | apply c_isnot | apply s_len | apply if_tt | apply if_ff | apply r_ret | apply s_asg | apply s_exp | apply s_ite | apply s_set | apply s_skip | apply sq_next | apply sq_ret | apply lq_next | apply lq_ret | apply rq_ret | apply i_str) | ((with_reducible first | apply e_call | apply t_call | apply e_glob | apply e_methS | apply e_srt); case h => with_reducible assumption) | (with_reducible apply b_div; case h => with_unfolding_all rfl)))
          refine b_mod (by decide) fun f f0 f1 => ?_
          (repeat (first | ((with_reducible first | apply e_name | apply t_name); case h => (repeat (first | with_reducible exact hit | with_reducible assumption | (with_reducible apply miss; case h => with_unfolding_all rfl)))) | (with_reducible first | apply e_int | apply e_str | apply e_none | apply e_bool | apply e_bin | apply l1 | apply l2 | apply l0 | apply lc | apply e_sub | apply e_slice | apply e_list | apply e_tuple | apply e_cmp | apply e_and | apply e_not | apply e_or | apply e_neg | apply t_cmp | apply t_cmp2 | apply t_and | apply t_or | apply t_not | apply t_bool | apply t_sub | apply tru_bool | apply e_comp0 | apply e_comp1 | apply i_val | apply i_rng1 | apply i_rng2 | apply i_rev | apply b_add | apply b_sub | apply c_lt | apply c_le | apply c_gt | apply c_ge | apply c_eqi | apply c_nei | apply c_eqs | apply c_nes | apply c_eqb | apply c_neb | apply c_is | apply c_isnot | apply s_len | apply if_tt | apply if_ff | apply r_ret | apply s_asg | apply s_exp | apply s_ite | apply s_set | apply s_skip | apply sq_next | apply sq_ret | apply lq_next | apply lq_ret | apply rq_ret | apply i_str) | ((with_reducible first | apply e_call | apply t_call | apply e_glob | apply e_methS | apply e_srt); case h => with_reducible assumption) | (with_reducible apply b_div; case h => with_unfolding_all rfl)))
          refine if_dec (fun _ => ?_) fun _ => ?_
          · (repeat (first | ((with_reducible first | apply e_name | apply t_name); case h => (repeat (first | with_reducible exact hit | with_reducible assumption | (with_reducible apply miss; case h => with_unfolding_all rfl)))) | (with_reducible first | apply e_int | apply e_str | apply e_none | apply e_bool | apply e_bin | apply l1 | apply l2 | apply l0 | apply lc | apply e_sub | apply e_slice | apply e_list | apply e_tuple | apply e_cmp | apply e_and | apply e_not | apply e_or | apply e_neg | apply t_cmp | apply t_cmp2 | apply t_and | apply t_or | apply t_not | apply t_bool | apply t_sub | apply tru_bool | apply e_comp0 | apply e_comp1 | apply i_val | apply i_rng1 | apply i_rng2 | apply i_rev | apply b_add | apply b_sub | apply c_lt | apply c_le | apply c_gt | apply c_ge | apply c_eqi | apply c_nei | apply c_eqs | apply c_nes | apply c_eqb | apply c_neb | apply c_is | apply c_isnot | apply s_len | apply if_tt | apply if_ff | apply r_ret | apply s_asg | apply s_exp | apply s_ite | apply s_set | apply s_skip | apply sq_next | apply sq_ret | apply lq_next | apply lq_ret | apply rq_ret | apply i_str) | ((with_reducible first | apply e_call | apply t_call | apply e_glob | apply e_methS | apply e_srt); case h => with_reducible assumption) | (with_reducible apply b_div; case h => with_unfolding_all rfl)))
            refine ⟨_, _, rfl, fun g _ _ => ?_⟩
            (repeat (first | ((with_reducible first | apply e_name | apply t_name); case h => (repeat (first | with_reducible exact hit | with_reducible assumption | (with_reducible apply miss; case h => with_unfolding_all rfl)))) | (with_reducible first | apply e_int | apply e_str | apply e_none | apply e_bool | apply e_bin | apply l1 | apply l2 | apply l0 | apply lc | apply e_sub | apply e_slice | apply e_list | apply e_tuple | apply e_cmp | apply e_and | apply e_not | apply e_or | apply e_neg | apply t_cmp | apply t_cmp2 | apply t_and | apply t_or | apply t_not | apply t_bool | apply t_sub | apply tru_bool | apply e_comp0 | apply e_comp1 | apply i_val | apply i_rng1 | apply i_rng2 | apply i_rev | apply b_add | apply b_sub | apply c_lt | apply c_le | apply c_gt | apply c_ge | apply c_eqi | apply c_nei | apply c_eqs | apply c_nes | apply c_eqb | apply c_neb | apply c_is | apply c_isnot | apply s_len | apply if_tt | apply if_ff | apply r_ret | apply s_asg | apply s_exp | apply s_ite | apply s_set | apply s_skip | apply sq_next | apply sq_ret | apply lq_next | apply lq_ret | apply rq_ret | apply i_str) | ((with_reducible first | apply e_call | apply t_call | apply e_glob | apply e_methS | apply e_srt); case h => with_reducible assumption) | (with_reducible apply b_div; case h => with_unfolding_all rfl)))
            refine ⟨_, _, _, us, rfl, hu.keep k3, ?_, ha, hsg, fun t2 H4 ht2 k4 => ?_⟩
            · cases us with
              | nil => exact (hne rfl).elim
              | cons _ _ => simp
            (repeat (first | ((with_reducible first | apply e_name | apply t_name); case h => (repeat (first | with_reducible exact hit | with_reducible assumption | (with_reducible apply miss; case h => with_unfolding_all rfl)))) | (with_reducible first | apply e_int | apply e_str | apply e_none | apply e_bool | apply e_bin | apply l1 | apply l2 | apply l0 | apply lc | apply e_sub | apply e_slice | apply e_list | apply e_tuple | apply e_cmp | apply e_and | apply e_not | apply e_or | apply e_neg | apply t_cmp | apply t_cmp2 | apply t_and | apply t_or | apply t_not | apply t_bool | apply t_sub | apply tru_bool | apply e_comp0 | apply e_comp1 | apply i_val | apply i_rng1 | apply i_rng2 | apply i_rev | apply b_add | apply b_sub | apply c_lt | apply c_le | apply c_gt | apply c_ge | apply c_eqi | apply c_nei | apply c_eqs | apply c_nes | apply c_eqb | apply c_neb | apply c_is | apply c_isnot | apply s_len | apply if_tt | apply if_ff | apply r_ret | apply s_asg | apply s_exp | apply s_ite | apply s_set | apply s_skip | apply sq_next | apply sq_ret | apply lq_next | apply lq_ret | apply rq_ret | apply i_str) | ((with_reducible first | apply e_call | apply t_call | apply e_glob | apply e_methS | apply e_srt); case h => with_reducible assumption) | (with_reducible apply b_div; case h => with_unfolding_all rfl)))
            exact step _ _ t2 (by (repeat (first | with_reducible exact hit | with_reducible assumption | (with_reducible apply miss; case h => with_unfolding_all rfl)))) (by (repeat (first | with_reducible exact hit | with_reducible assumption | (with_reducible apply miss; case h => with_unfolding_all rfl)))) (by (repeat (first | with_reducible exact hit | with_reducible assumption | (with_reducible apply miss; case h => with_unfolding_all rfl)))) (by (repeat (first | with_reducible exact hit | with_reducible assumption | (with_reducible apply miss; case h => with_unfolding_all rfl)))) (by (repeat (first | with_reducible exact hit | with_reducible assumption | (with_reducible apply miss; case h => with_unfolding_all rfl)))) (by (repeat (first | with_reducible exact hit | with_reducible assumption | (with_reducible apply miss; case h => with_unfolding_all rfl)))) ht2 (k3.trans k4)
          · (repeat (first | ((with_reducible first | apply e_name | apply t_name); case h => (repeat (first | with_reducible exact hit | with_reducible assumption | (with_reducible apply miss; case h => with_unfolding_all rfl)))) | (with_reducible first | apply e_int | apply e_str | apply e_none | apply e_bool | apply e_bin | apply l1 | apply l2 | apply l0 | apply lc | apply e_sub | apply e_slice | apply e_list | apply e_tuple | apply e_cmp | apply e_and | apply e_not | apply e_or | apply e_neg | apply t_cmp | apply t_cmp2 | apply t_and | apply t_or | apply t_not | apply t_bool | apply t_sub | apply tru_bool | apply e_comp0 | apply e_comp1 | apply i_val | apply i_rng1 | apply i_rng2 | apply i_rev | apply b_add | apply b_sub | apply c_lt | apply c_le | apply c_gt | apply c_ge | apply c_eqi | apply c_nei | apply c_eqs | apply c_nes | apply c_eqb | apply c_neb | apply c_is | apply c_isnot | apply s_len | apply if_tt | apply if_ff | apply r_ret | apply s_asg | apply s_exp | apply s_ite | apply s_set | apply s_skip | apply sq_next | apply sq_ret | apply lq_next | apply lq_ret | apply rq_ret | apply i_str) | ((with_reducible first | apply e_call | apply t_call | apply e_glob | apply e_methS | apply e_srt); case h => with_reducible assumption) | (with_reducible apply b_div; case h => with_unfolding_all rfl)))
            exact step _ _ t (by (repeat (first | with_reducible exact hit | with_reducible assumption | (with_reducible apply miss; case h => with_unfolding_all rfl)))) (by (repeat (first | with_reducible exact hit | with_reducible assumption | (with_reducible apply miss; case h => with_unfolding_all rfl)))) (by (repeat (first | with_reducible exact hit | with_reducible assumption | (with_reducible apply miss; case h => with_unfolding_all rfl)))) (by (repeat (first | with_reducible exact hit | with_reducible assumption | (with_reducible apply miss; case h => with_unfolding_all rfl)))) (by (repeat (first | with_reducible exact hit | with_reducible assumption | (with_reducible apply miss; case h => with_unfolding_all rfl)))) (by (repeat (first | with_reducible exact hit | with_reducible assumption | (with_reducible apply miss; case h => with_unfolding_all rfl)))) ht k3
        · (repeat (first | ((with_reducible first | apply e_name | apply t_name); case h => (repeat (first | with_reducible exact hit | with_reducible assumption | (with_reducible apply miss; case h => with_unfolding_all rfl)))) | (with_reducible first | apply e_int | apply e_str | apply e_none | apply e_bool | apply e_bin | apply l1 | apply l2 | apply l0 | apply lc | apply e_sub | apply e_slice | apply e_list | apply e_tuple | apply e_cmp | apply e_and | apply e_not | apply e_or | apply e_neg | apply t_cmp | apply t_cmp2 | apply t_and | apply t_or | apply t_not | apply t_bool | apply t_sub | apply tru_bool | apply e_comp0 | apply e_comp1 | apply i_val | apply i_rng1 | apply i_rng2 | apply i_rev | apply b_add | apply b_sub | apply c_lt | apply c_le | apply c_gt | apply c_ge | apply c_eqi | apply c_nei | apply c_eqs | apply c_nes | apply c_eqb | apply c_neb | apply c_is | apply c_isnot | apply s_len | apply if_tt | apply if_ff | apply r_ret | apply s_asg | apply s_exp | apply s_ite | apply s_set | apply s_skip | apply sq_next | apply sq_ret | apply lq_next | apply lq_ret | apply rq_ret | apply i_str) | ((with_reducible first | apply e_call | apply t_call | apply e_glob | apply e_methS | apply e_srt); case h => with_reducible assumption) | (with_reducible apply b_div; case h => with_unfolding_all rfl)))
          exact step _ _ t (by (repeat (first | with_reducible exact hit | with_reducible assumption | (with_reducible apply miss; case h => with_unfolding_all rfl)))) (by (repeat (first | with_reducible exact hit | with_reducible assumption | (with_reducible apply miss; case h => with_unfolding_all rfl)))) (by (repeat (first | with_reducible exact hit | with_reducible assumption | (with_reducible apply miss; case h => with_unfolding_all rfl)))) (by (repeat (first | with_reducible exact hit | with_reducible assumption | (with_reducible apply miss; case h => with_unfolding_all rfl)))) (by (repeat (first | with_reducible exact hit | with_reducible assumption | (with_reducible apply miss; case h => with_unfolding_all rfl)))) (by (repeat (first | with_reducible exact hit | with_reducible assumption | (with_reducible apply miss; case h => with_unfolding_all rfl)))) ht k3
    · rintro σ H' ⟨kp, ⟨us, hu, hl, hn, ha⟩, ⟨e1, e2, e3, e4, e5⟩, hx⟩
      exact ⟨trivial, fin σ H' us e1 kp hu (by omega) hn ha _ _ fun _ h => h⟩
    · intro x hx
      obtain ⟨i, hi, rfl⟩ := List.mem_map.mp hx
      exact ⟨_, rfl, (intsFrom_mem hi).1⟩

/-! the program's own words -/
theorem tyOf_str : tyOf (nm 1882739) = some .str := by simp [tyOf, nm_inj]
theorem tyOf_int : tyOf (nm 1914729) = some .int := by simp [tyOf, nm_inj]
theorem tyOf_bool : tyOf (nm 228325346) = some .bool := by simp [tyOf, nm_inj]
theorem tyOf_list : tyOf (nm 245167340) = some .list := by simp [tyOf, nm_inj]
theorem tyOf_tuple : tyOf (nm 27340323572) = some .tuple := by simp [tyOf, nm_inj]
theorem if_t {b : Bool} {A B : Prop} (h : b = true) (k : A) : if b = true then A else B := by rw [if_pos h]; exact k
theorem if_f {b : Bool} {A B : Prop} (h : b = false) (k : B) : if b = true then A else B := by rw [if_neg (by rw [h]; decide)]; exact k
theorem c_ins {H : AHeap} {c : Nat} {u : Txt} {r : Bool → Prop} (k : r (decide (c ∈ u))) : cmpA .In (.str [c]) (.str u) H r := k
noncomputable def az : Str := ⟨#[97, 98, 99, 100, 101, 102, 103, 104, 105, 106, 107, 108, 109, 110, 111, 112, 113, 114, 115, 116, 117, 118, 119, 120, 121, 122]⟩
theorem mem26 {c : Nat} (h : 97 ≤ c ∧ c ≤ 122) : c ∈ az.cps.toList := by
  have : ∀ c ∈ List.range 123, 97 ≤ c → c ∈ az.cps.toList := by decide
  exact this c (List.mem_range.mpr (by omega)) h.1
theorem bools_true : ∀ vs : List V, (∀ v ∈ vs, v = .bool true) → bools vs = some (vs.map fun _ => true)
  | [], _ => rfl
  | v :: r, h => by
    rw [h v (.head _), bools, bools_true r fun w hw => h w (.tail _ hw)]; rfl
theorem s_all {H : AHeap} {Q : VPost} {X : XPost} {n : Nat} {vs : List V} (h : H[n]? = some (.list vs)) (hv : ∀ v ∈ vs, v = .bool true) (k : Q (.bool true) H) : spAll [.ref n] H Q X := by
  unfold spAll; dsimp only; rw [h]; dsimp only; rw [bools_true vs hv]
  dsimp only
  have : (vs.map fun _ => true).all id = true := by simp
  rw [this]; exact k
theorem txts_ws : ∀ ws : List Txt, txts (ws.map .str) = some ws
  | [] => rfl
  | w :: r => by rw [List.map_cons, txts, txts_ws r]; rfl
theorem s_sorted {H : AHeap} {Q : VPost} {X : XPost} {n N : Nat} {ws : List Txt} (h : Ws H n ws) (hl : ws.length < N) (k : ∀ ys : List Txt, ys.Perm ws → ys.Pairwise (fun a b => ¬ b < a) → Q (.ref H.length) (H ++ [.list (ys.map .str)])) : spSorted N [.ref n] H Q X := by
  unfold spSorted; dsimp only; rw [h]; dsimp only; rw [txts_ws]; exact ⟨hl, k⟩
theorem s_sortLen {H : AHeap} {Q : VPost} {X : XPost} {n N : Nat} {ws : List Txt} (h : Ws H n ws) (hl : ws.length < N) (k : ∀ ys : List Txt, ys.Perm ws → ys.Pairwise (fun a b => a.length ≤ b.length) → Q (.ref H.length) (H ++ [.list (ys.map .str)])) : spSortLen N [.ref n] H Q X := by
  unfold spSortLen; dsimp only; rw [h]; dsimp only; rw [txts_ws]; exact ⟨hl, k⟩

noncomputable def spSign : Spec := fun vs H Q _ => ∃ c : Nat, vs = [.str [c]] ∧ (97 ≤ c ∧ c ≤ 122) ∧ Q (.bool true) H
noncomputable def spIsWord : Spec := fun vs H Q _ => ∃ w : Txt, vs = [.str w] ∧ Wd 10 w ∧ ∀ H', Keep H H' → Q (.bool true) H'
noncomputable def spChecked : Spec := fun vs H Q _ => ∃ (n : Nat) (ws : List Txt), vs = [.ref n] ∧ n < H.length ∧ Ws H n ws ∧ Cd ws ∧ 1 ≤ H.length ∧ ∀ ys p H', ys.Perm ws → ys.Pairwise (fun a b => ¬ b < a) → H.length ≤ p → Ws H' p ys → Keep H H' → Q (.ref p) H'
noncomputable def spWordsAt : Spec := fun vs H Q _ => ∃ (n : Nat) (t : Txt) (i : Int) (ws : List Txt), vs = [.ref n, .str t, .int i] ∧ Ws H n ws ∧ ws.length < 64 ∧ 0 ≤ i ∧
  ∀ ys p H', ys.Perm (ws.filter fun w => decide ((t.drop i.toNat).take w.length = w)) → ys.Pairwise (fun a b => a.length ≤ b.length) → H.length ≤ p → Ws H' p ys → Keep H H' → Q (.ref p) H'

theorem ct_law_whole (h1 : Has T (nm 938756632654307293673) spIsi) (g1 : T.gv (nm 1914729) = some (.glob (nm 1914729))) (g2 : T.gv (nm 228325346) = some (.glob (nm 228325346))) : Ct T x_law_whole b_law_whole spWhole := by
  refine ct1 fun vs H Q X h => ?_
  obtain ⟨i, rfl, h⟩ := h
  refine ⟨_, rfl, ?_⟩
  refine r_ret ?_
  (repeat (first | ((with_reducible first | apply e_name | apply t_name); case h => (repeat (first | with_reducible exact hit | with_reducible assumption | (with_reducible apply miss; case h => with_unfolding_all rfl)))) | (with_reducible first | apply e_int | apply e_str | apply e_none | apply e_bool | apply e_bin | apply l1 | apply l2 | apply l0 | apply lc | apply e_sub | apply e_slice | apply e_list | apply e_tuple | apply e_cmp | apply e_and | apply e_not | apply e_or | apply e_neg | apply t_cmp | apply t_cmp2 | apply t_and | apply t_or | apply t_not | apply t_bool | apply t_sub | apply tru_bool | apply e_comp0 | apply e_comp1 | apply i_val | apply i_rng1 | apply i_rng2 | apply i_rev | apply b_add | apply b_sub | apply c_lt | apply c_le | apply c_gt | apply c_ge | apply c_eqi | apply c_nei | apply c_eqs | apply c_nes | apply c_eqb | apply c_neb | apply c_is | apply c_isnot | apply s_len | apply if_tt | apply if_ff | apply r_ret | apply s_asg | apply s_exp | apply s_ite | apply s_set | apply s_skip | apply sq_next | apply sq_ret | apply lq_next | apply lq_ret | apply rq_ret | apply i_str) | ((with_reducible first | apply e_call | apply t_call | apply e_glob | apply e_methS | apply e_srt); case h => with_reducible assumption) | (with_reducible apply b_div; case h => with_unfolding_all rfl)))
  refine s_isi rfl tyOf_int ?_
  (repeat (first | ((with_reducible first | apply e_name | apply t_name); case h => (repeat (first | with_reducible exact hit | with_reducible assumption | (with_reducible apply miss; case h => with_unfolding_all rfl)))) | (with_reducible first | apply e_int | apply e_str | apply e_none | apply e_bool | apply e_bin | apply l1 | apply l2 | apply l0 | apply lc | apply e_sub | apply e_slice | apply e_list | apply e_tuple | apply e_cmp | apply e_and | apply e_not | apply e_or | apply e_neg | apply t_cmp | apply t_cmp2 | apply t_and | apply t_or | apply t_not | apply t_bool | apply t_sub | apply tru_bool | apply e_comp0 | apply e_comp1 | apply i_val | apply i_rng1 | apply i_rng2 | apply i_rev | apply b_add | apply b_sub | apply c_lt | apply c_le | apply c_gt | apply c_ge | apply c_eqi | apply c_nei | apply c_eqs | apply c_nes | apply c_eqb | apply c_neb | apply c_is | apply c_isnot | apply s_len | apply if_tt | apply if_ff | apply r_ret | apply s_asg | apply s_exp | apply s_ite | apply s_set | apply s_skip | apply sq_next | apply sq_ret | apply lq_next | apply lq_ret | apply rq_ret | apply i_str) | ((with_reducible first | apply e_call | apply t_call | apply e_glob | apply e_methS | apply e_srt); case h => with_reducible assumption) | (with_reducible apply b_div; case h => with_unfolding_all rfl)))
  refine if_t rfl ?_
  (repeat (first | ((with_reducible first | apply e_name | apply t_name); case h => (repeat (first | with_reducible exact hit | with_reducible assumption | (with_reducible apply miss; case h => with_unfolding_all rfl)))) | (with_reducible first | apply e_int | apply e_str | apply e_none | apply e_bool | apply e_bin | apply l1 | apply l2 | apply l0 | apply lc | apply e_sub | apply e_slice | apply e_list | apply e_tuple | apply e_cmp | apply e_and | apply e_not | apply e_or | apply e_neg | apply t_cmp | apply t_cmp2 | apply t_and | apply t_or | apply t_not | apply t_bool | apply t_sub | apply tru_bool | apply e_comp0 | apply e_comp1 | apply i_val | apply i_rng1 | apply i_rng2 | apply i_rev | apply b_add | apply b_sub | apply c_lt | apply c_le | apply c_gt | apply c_ge | apply c_eqi | apply c_nei | apply c_eqs | apply c_nes | apply c_eqb | apply c_neb | apply c_is | apply c_isnot | apply s_len | apply if_tt | apply if_ff | apply r_ret | apply s_asg | apply s_exp | apply s_ite | apply s_set | apply s_skip | apply sq_next | apply sq_ret | apply lq_next | apply lq_ret | apply rq_ret | apply i_str) | ((with_reducible first | apply e_call | apply t_call | apply e_glob | apply e_methS | apply e_srt); case h => with_reducible assumption) | (with_reducible apply b_div; case h => with_unfolding_all rfl)))
  refine s_isi rfl tyOf_bool ?_
  (repeat (first | ((with_reducible first | apply e_name | apply t_name); case h => (repeat (first | with_reducible exact hit | with_reducible assumption | (with_reducible apply miss; case h => with_unfolding_all rfl)))) | (with_reducible first | apply e_int | apply e_str | apply e_none | apply e_bool | apply e_bin | apply l1 | apply l2 | apply l0 | apply lc | apply e_sub | apply e_slice | apply e_list | apply e_tuple | apply e_cmp | apply e_and | apply e_not | apply e_or | apply e_neg | apply t_cmp | apply t_cmp2 | apply t_and | apply t_or | apply t_not | apply t_bool | apply t_sub | apply tru_bool | apply e_comp0 | apply e_comp1 | apply i_val | apply i_rng1 | apply i_rng2 | apply i_rev | apply b_add | apply b_sub | apply c_lt | apply c_le | apply c_gt | apply c_ge | apply c_eqi | apply c_nei | apply c_eqs | apply c_nes | apply c_eqb | apply c_neb | apply c_is | apply c_isnot | apply s_len | apply if_tt | apply if_ff | apply r_ret | apply s_asg | apply s_exp | apply s_ite | apply s_set | apply s_skip | apply sq_next | apply sq_ret | apply lq_next | apply lq_ret | apply rq_ret | apply i_str) | ((with_reducible first | apply e_call | apply t_call | apply e_glob | apply e_methS | apply e_srt); case h => with_reducible assumption) | (with_reducible apply b_div; case h => with_unfolding_all rfl)))
  exact h

theorem ct_is_sign (h1 : Has T (nm 938756632654307293673) spIsi) (h2 : Has T (nm 1815276) spLen) (g1 : T.gv (nm 1882739) = some (.glob (nm 1882739))) (g2 : T.gv (nm 367874058560204) = some (.str az.cps.toList)) : Ct T x_is_sign b_is_sign spSign := by
  refine ct1 fun vs H Q X h => ?_
  obtain ⟨c, rfl, hc, h⟩ := h
  refine ⟨_, rfl, ?_⟩
  refine r_ret ?_
  (repeat (first | ((with_reducible first | apply e_name | apply t_name); case h => (repeat (first | with_reducible exact hit | with_reducible assumption | (with_reducible apply miss; case h => with_unfolding_all rfl)))) | (with_reducible first | apply e_int | apply e_str | apply e_none | apply e_bool | apply e_bin | apply l1 | apply l2 | apply l0 | apply lc | apply e_sub | apply e_slice | apply e_list | apply e_tuple | apply e_cmp | apply e_and | apply e_not | apply e_or | apply e_neg | apply t_cmp | apply t_cmp2 | apply t_and | apply t_or | apply t_not | apply t_bool | apply t_sub | apply tru_bool | apply e_comp0 | apply e_comp1 | apply i_val | apply i_rng1 | apply i_rng2 | apply i_rev | apply b_add | apply b_sub | apply c_lt | apply c_le | apply c_gt | apply c_ge | apply c_eqi | apply c_nei | apply c_eqs | apply c_nes | apply c_eqb | apply c_neb | apply c_is | apply c_isnot | apply s_len | apply if_tt | apply if_ff | apply r_ret | apply s_asg | apply s_exp | apply s_ite | apply s_set | apply s_skip | apply sq_next | apply sq_ret | apply lq_next | apply lq_ret | apply rq_ret | apply i_str) | ((with_reducible first | apply e_call | apply t_call | apply e_glob | apply e_methS | apply e_srt); case h => with_reducible assumption) | (with_reducible apply b_div; case h => with_unfolding_all rfl)))
  refine s_isi rfl tyOf_str ?_
  (repeat (first | ((with_reducible first | apply e_name | apply t_name); case h => (repeat (first | with_reducible exact hit | with_reducible assumption | (with_reducible apply miss; case h => with_unfolding_all rfl)))) | (with_reducible first | apply e_int | apply e_str | apply e_none | apply e_bool | apply e_bin | apply l1 | apply l2 | apply l0 | apply lc | apply e_sub | apply e_slice | apply e_list | apply e_tuple | apply e_cmp | apply e_and | apply e_not | apply e_or | apply e_neg | apply t_cmp | apply t_cmp2 | apply t_and | apply t_or | apply t_not | apply t_bool | apply t_sub | apply tru_bool | apply e_comp0 | apply e_comp1 | apply i_val | apply i_rng1 | apply i_rng2 | apply i_rev | apply b_add | apply b_sub | apply c_lt | apply c_le | apply c_gt | apply c_ge | apply c_eqi | apply c_nei | apply c_eqs | apply c_nes | apply c_eqb | apply c_neb | apply c_is | apply c_isnot | apply s_len | apply if_tt | apply if_ff | apply r_ret | apply s_asg | apply s_exp | apply s_ite | apply s_set | apply s_skip | apply sq_next | apply sq_ret | apply lq_next | apply lq_ret | apply rq_ret | apply i_str) | ((with_reducible first | apply e_call | apply t_call | apply e_glob | apply e_methS | apply e_srt); case h => with_reducible assumption) | (with_reducible apply b_div; case h => with_unfolding_all rfl)))
  refine if_t rfl ?_
  (repeat (first | ((with_reducible first | apply e_name | apply t_name); case h => (repeat (first | with_reducible exact hit | with_reducible assumption | (with_reducible apply miss; case h => with_unfolding_all rfl)))) | (with_reducible first | apply e_int | apply e_str | apply e_none | apply e_bool | apply e_bin | apply l1 | apply l2 | apply l0 | apply lc | apply e_sub | apply e_slice | apply e_list | apply e_tuple | apply e_cmp | apply e_and | apply e_not | apply e_or | apply e_neg | apply t_cmp | apply t_cmp2 | apply t_and | apply t_or | apply t_not | apply t_bool | apply t_sub | apply tru_bool | apply e_comp0 | apply e_comp1 | apply i_val | apply i_rng1 | apply i_rng2 | apply i_rev | apply b_add | apply b_sub | apply c_lt | apply c_le | apply c_gt | apply c_ge | apply c_eqi | apply c_nei | apply c_eqs | apply c_nes | apply c_eqb | apply c_neb | apply c_is | apply c_isnot | apply s_len | apply if_tt | apply if_ff | apply r_ret | apply s_asg | apply s_exp | apply s_ite | apply s_set | apply s_skip | apply sq_next | apply sq_ret | apply lq_next | apply lq_ret | apply rq_ret | apply i_str) | ((with_reducible first | apply e_call | apply t_call | apply e_glob | apply e_methS | apply e_srt); case h => with_reducible assumption) | (with_reducible apply b_div; case h => with_unfolding_all rfl)))
  refine if_t rfl ?_
  (repeat (first | ((with_reducible first | apply e_name | apply t_name); case h => (repeat (first | with_reducible exact hit | with_reducible assumption | (with_reducible apply miss; case h => with_unfolding_all rfl)))) | (with_reducible first | apply e_int | apply e_str | apply e_none | apply e_bool | apply e_bin | apply l1 | apply l2 | apply l0 | apply lc | apply e_sub | apply e_slice | apply e_list | apply e_tuple | apply e_cmp | apply e_and | apply e_not | apply e_or | apply e_neg | apply t_cmp | apply t_cmp2 | apply t_and | apply t_or | apply t_not | apply t_bool | apply t_sub | apply tru_bool | apply e_comp0 | apply e_comp1 | apply i_val | apply i_rng1 | apply i_rng2 | apply i_rev | apply b_add | apply b_sub | apply c_lt | apply c_le | apply c_gt | apply c_ge | apply c_eqi | apply c_nei | apply c_eqs | apply c_nes | apply c_eqb | apply c_neb | apply c_is | apply c_isnot | apply s_len | apply if_tt | apply if_ff | apply r_ret | apply s_asg | apply s_exp | apply s_ite | apply s_set | apply s_skip | apply sq_next | apply sq_ret | apply lq_next | apply lq_ret | apply rq_ret | apply i_str) | ((with_reducible first | apply e_call | apply t_call | apply e_glob | apply e_methS | apply e_srt); case h => with_reducible assumption) | (with_reducible apply b_div; case h => with_unfolding_all rfl)))
  refine c_ins ?_
  (repeat (first | ((with_reducible first | apply e_name | apply t_name); case h => (repeat (first | with_reducible exact hit | with_reducible assumption | (with_reducible apply miss; case h => with_unfolding_all rfl)))) | (with_reducible first | apply e_int | apply e_str | apply e_none | apply e_bool | apply e_bin | apply l1 | apply l2 | apply l0 | apply lc | apply e_sub | apply e_slice | apply e_list | apply e_tuple | apply e_cmp | apply e_and | apply e_not | apply e_or | apply e_neg | apply t_cmp | apply t_cmp2 | apply t_and | apply t_or | apply t_not | apply t_bool | apply t_sub | apply tru_bool | apply e_comp0 | apply e_comp1 | apply i_val | apply i_rng1 | apply i_rng2 | apply i_rev | apply b_add | apply b_sub | apply c_lt | apply c_le | apply c_gt | apply c_ge | apply c_eqi | apply c_nei | apply c_eqs | apply c_nes | apply c_eqb | apply c_neb | apply c_is | apply c_isnot | apply s_len | apply if_tt | apply if_ff | apply r_ret | apply s_asg | apply s_exp | apply s_ite | apply s_set | apply s_skip | apply sq_next | apply sq_ret | apply lq_next | apply lq_ret | apply rq_ret | apply i_str) | ((with_reducible first | apply e_call | apply t_call | apply e_glob | apply e_methS | apply e_srt); case h => with_reducible assumption) | (with_reducible apply b_div; case h => with_unfolding_all rfl)))
  rw [decide_eq_true (mem26 hc)]
  exact h

theorem ct_is_word (h1 : Has T (nm 938756632654307293673) spIsi) (h2 : Has T (nm 1815276) spLen) (h3 : Has T (nm 1783393) spAll) (h4 : Has T (nm 487352597740009) spSign) (g1 : T.gv (nm 1882739) = some (.glob (nm 1882739))) (g2 : T.gv (nm 771200664775530178509) = some (.int 10)) : Ct T x_is_word b_is_word spIsWord := by
  refine ct1 fun vs H Q X h => ?_
  obtain ⟨w, rfl, hw, h⟩ := h
  have p1 := hw.pos
  have p2 := hw.le
  refine ⟨_, rfl, ?_⟩
  refine s_ite ?_
  (repeat (first | ((with_reducible first | apply e_name | apply t_name); case h => (repeat (first | with_reducible exact hit | with_reducible assumption | (with_reducible apply miss; case h => with_unfolding_all rfl)))) | (with_reducible first | apply e_int | apply e_str | apply e_none | apply e_bool | apply e_bin | apply l1 | apply l2 | apply l0 | apply lc | apply e_sub | apply e_slice | apply e_list | apply e_tuple | apply e_cmp | apply e_and | apply e_not | apply e_or | apply e_neg | apply t_cmp | apply t_cmp2 | apply t_and | apply t_or | apply t_not | apply t_bool | apply t_sub | apply tru_bool | apply e_comp0 | apply e_comp1 | apply i_val | apply i_rng1 | apply i_rng2 | apply i_rev | apply b_add | apply b_sub | apply c_lt | apply c_le | apply c_gt | apply c_ge | apply c_eqi | apply c_nei | apply c_eqs | apply c_nes | apply c_eqb | apply c_neb | apply c_is | apply c_isnot | apply s_len | apply if_tt | apply if_ff | apply r_ret | apply s_asg | apply s_exp | apply s_ite | apply s_set | apply s_skip | apply sq_next | apply sq_ret | apply lq_next | apply lq_ret | apply rq_ret | apply i_str) | ((with_reducible first | apply e_call | apply t_call | apply e_glob | apply e_methS | apply e_srt); case h => with_reducible assumption) | (with_reducible apply b_div; case h => with_unfolding_all rfl)))
  refine s_isi rfl tyOf_str ?_
  (repeat (first | ((with_reducible first | apply e_name | apply t_name); case h => (repeat (first | with_reducible exact hit | with_reducible assumption | (with_reducible apply miss; case h => with_unfolding_all rfl)))) | (with_reducible first | apply e_int | apply e_str | apply e_none | apply e_bool | apply e_bin | apply l1 | apply l2 | apply l0 | apply lc | apply e_sub | apply e_slice | apply e_list | apply e_tuple | apply e_cmp | apply e_and | apply e_not | apply e_or | apply e_neg | apply t_cmp | apply t_cmp2 | apply t_and | apply t_or | apply t_not | apply t_bool | apply t_sub | apply tru_bool | apply e_comp0 | apply e_comp1 | apply i_val | apply i_rng1 | apply i_rng2 | apply i_rev | apply b_add | apply b_sub | apply c_lt | apply c_le | apply c_gt | apply c_ge | apply c_eqi | apply c_nei | apply c_eqs | apply c_nes | apply c_eqb | apply c_neb | apply c_is | apply c_isnot | apply s_len | apply if_tt | apply if_ff | apply r_ret | apply s_asg | apply s_exp | apply s_ite | apply s_set | apply s_skip | apply sq_next | apply sq_ret | apply lq_next | apply lq_ret | apply rq_ret | apply i_str) | ((with_reducible first | apply e_call | apply t_call | apply e_glob | apply e_methS | apply e_srt); case h => with_reducible assumption) | (with_reducible apply b_div; case h => with_unfolding_all rfl)))
  refine if_f rfl ?_
  (repeat (first | ((with_reducible first | apply e_name | apply t_name); case h => (repeat (first | with_reducible exact hit | with_reducible assumption | (with_reducible apply miss; case h => with_unfolding_all rfl)))) | (with_reducible first | apply e_int | apply e_str | apply e_none | apply e_bool | apply e_bin | apply l1 | apply l2 | apply l0 | apply lc | apply e_sub | apply e_slice | apply e_list | apply e_tuple | apply e_cmp | apply e_and | apply e_not | apply e_or | apply e_neg | apply t_cmp | apply t_cmp2 | apply t_and | apply t_or | apply t_not | apply t_bool | apply t_sub | apply tru_bool | apply e_comp0 | apply e_comp1 | apply i_val | apply i_rng1 | apply i_rng2 | apply i_rev | apply b_add | apply b_sub | apply c_lt | apply c_le | apply c_gt | apply c_ge | apply c_eqi | apply c_nei | apply c_eqs | apply c_nes | apply c_eqb | apply c_neb | apply c_is | apply c_isnot | apply s_len | apply if_tt | apply if_ff | apply r_ret | apply s_asg | apply s_exp | apply s_ite | apply s_set | apply s_skip | apply sq_next | apply sq_ret | apply lq_next | apply lq_ret | apply rq_ret | apply i_str) | ((with_reducible first | apply e_call | apply t_call | apply e_glob | apply e_methS | apply e_srt); case h => with_reducible assumption) | (with_reducible apply b_div; case h => with_unfolding_all rfl)))
  refine if_t (decide_eq_true (by omega)) ?_
  (repeat (first | ((with_reducible first | apply e_name | apply t_name); case h => (repeat (first | with_reducible exact hit | with_reducible assumption | (with_reducible apply miss; case h => with_unfolding_all rfl)))) | (with_reducible first | apply e_int | apply e_str | apply e_none | apply e_bool | apply e_bin | apply l1 | apply l2 | apply l0 | apply lc | apply e_sub | apply e_slice | apply e_list | apply e_tuple | apply e_cmp | apply e_and | apply e_not | apply e_or | apply e_neg | apply t_cmp | apply t_cmp2 | apply t_and | apply t_or | apply t_not | apply t_bool | apply t_sub | apply tru_bool | apply e_comp0 | apply e_comp1 | apply i_val | apply i_rng1 | apply i_rng2 | apply i_rev | apply b_add | apply b_sub | apply c_lt | apply c_le | apply c_gt | apply c_ge | apply c_eqi | apply c_nei | apply c_eqs | apply c_nes | apply c_eqb | apply c_neb | apply c_is | apply c_isnot | apply s_len | apply if_tt | apply if_ff | apply r_ret | apply s_asg | apply s_exp | apply s_ite | apply s_set | apply s_skip | apply sq_next | apply sq_ret | apply lq_next | apply lq_ret | apply rq_ret | apply i_str) | ((with_reducible first | apply e_call | apply t_call | apply e_glob | apply e_methS | apply e_srt); case h => with_reducible assumption) | (with_reducible apply b_div; case h => with_unfolding_all rfl)))
  refine if_f (by rw [decide_eq_true (by omega)]; rfl) ?_
  (repeat (first | ((with_reducible first | apply e_name | apply t_name); case h => (repeat (first | with_reducible exact hit | with_reducible assumption | (with_reducible apply miss; case h => with_unfolding_all rfl)))) | (with_reducible first | apply e_int | apply e_str | apply e_none | apply e_bool | apply e_bin | apply l1 | apply l2 | apply l0 | apply lc | apply e_sub | apply e_slice | apply e_list | apply e_tuple | apply e_cmp | apply e_and | apply e_not | apply e_or | apply e_neg | apply t_cmp | apply t_cmp2 | apply t_and | apply t_or | apply t_not | apply t_bool | apply t_sub | apply tru_bool | apply e_comp0 | apply e_comp1 | apply i_val | apply i_rng1 | apply i_rng2 | apply i_rev | apply b_add | apply b_sub | apply c_lt | apply c_le | apply c_gt | apply c_ge | apply c_eqi | apply c_nei | apply c_eqs | apply c_nes | apply c_eqb | apply c_neb | apply c_is | apply c_isnot | apply s_len | apply if_tt | apply if_ff | apply r_ret | apply s_asg | apply s_exp | apply s_ite | apply s_set | apply s_skip | apply sq_next | apply sq_ret | apply lq_next | apply lq_ret | apply rq_ret | apply i_str) | ((with_reducible first | apply e_call | apply t_call | apply e_glob | apply e_methS | apply e_srt); case h => with_reducible assumption) | (with_reducible apply b_div; case h => with_unfolding_all rfl)))
  refine r_ret ?_
  (repeat (first | ((with_reducible first | apply e_name | apply t_name); case h => (repeat (first | with_reducible exact hit | with_reducible assumption | (with_reducible apply miss; case h => with_unfolding_all rfl)))) | (with_reducible first | apply e_int | apply e_str | apply e_none | apply e_bool | apply e_bin | apply l1 | apply l2 | apply l0 | apply lc | apply e_sub | apply e_slice | apply e_list | apply e_tuple | apply e_cmp | apply e_and | apply e_not | apply e_or | apply e_neg | apply t_cmp | apply t_cmp2 | apply t_and | apply t_or | apply t_not | apply t_bool | apply t_sub | apply tru_bool | apply e_comp0 | apply e_comp1 | apply i_val | apply i_rng1 | apply i_rng2 | apply i_rev | apply b_add | apply b_sub | apply c_lt | apply c_le | apply c_gt | apply c_ge | apply c_eqi | apply c_nei | apply c_eqs | apply c_nes | apply c_eqb | apply c_neb | apply c_is | apply c_isnot | apply s_len | apply if_tt | apply if_ff | apply r_ret | apply s_asg | apply s_exp | apply s_ite | apply s_set | apply s_skip | apply sq_next | apply sq_ret | apply lq_next | apply lq_ret | apply rq_ret | apply i_str) | ((with_reducible first | apply e_call | apply t_call | apply e_glob | apply e_methS | apply e_srt); case h => with_reducible assumption) | (with_reducible apply b_div; case h => with_unfolding_all rfl)))
  refine ⟨by rw [List.length_map]; unfold lid; omega, ?_⟩
  refine comp_map (P := fun _ v => v = .bool true) _ _ _ (fun _ _ => trivial) (fun x hx H' k' => ?_) fun vs H' ha k' => ?_
  · obtain ⟨c, hc, rfl⟩ := List.mem_map.mp hx
    refine ⟨_, rfl, fun q hq => ?_⟩
    (repeat (first | ((with_reducible first | apply e_name | apply t_name); case h => (repeat (first | with_reducible exact hit | with_reducible assumption | (with_reducible apply miss; case h => with_unfolding_all rfl)))) | (with_reducible first | apply e_int | apply e_str | apply e_none | apply e_bool | apply e_bin | apply l1 | apply l2 | apply l0 | apply lc | apply e_sub | apply e_slice | apply e_list | apply e_tuple | apply e_cmp | apply e_and | apply e_not | apply e_or | apply e_neg | apply t_cmp | apply t_cmp2 | apply t_and | apply t_or | apply t_not | apply t_bool | apply t_sub | apply tru_bool | apply e_comp0 | apply e_comp1 | apply i_val | apply i_rng1 | apply i_rng2 | apply i_rev | apply b_add | apply b_sub | apply c_lt | apply c_le | apply c_gt | apply c_ge | apply c_eqi | apply c_nei | apply c_eqs | apply c_nes | apply c_eqb | apply c_neb | apply c_is | apply c_isnot | apply s_len | apply if_tt | apply if_ff | apply r_ret | apply s_asg | apply s_exp | apply s_ite | apply s_set | apply s_skip | apply sq_next | apply sq_ret | apply lq_next | apply lq_ret | apply rq_ret | apply i_str) | ((with_reducible first | apply e_call | apply t_call | apply e_glob | apply e_methS | apply e_srt); case h => with_reducible assumption) | (with_reducible apply b_div; case h => with_unfolding_all rfl)))
    exact ⟨c, rfl, hw.abc c hc, hq _ _ rfl (Keep.refl _)⟩
  · exact s_all get_new (fun v hv => let ⟨_, _, e⟩ := ha.right v hv; e) (h _ (k'.trans (Keep.new _ _)))

theorem ct_checked {N : Nat} (hN : 64 ≤ N) (h1 : Has T (nm 938756632654307293673) spIsi) (h2 : Has T (nm 1815276) spLen) (h3 : Has T (nm 443751708752361) spIsWord) (h4 : HasM T .list (nm 3465715398753) spAppend) (h5 : Has T (nm 3463330969587) (spSorted N)) (g1 : T.gv (nm 245167340) = some (.glob (nm 245167340))) (g2 : T.gv (nm 770486307810356553677) = some (.int 12)) : Ct T x_checked b_checked spChecked := by
  refine ct1 fun vs H Q X h => ?_
  obtain ⟨n, ws, rfl, hnl, hn, hc, hl1, h⟩ := h
  have p1 := hc.le
  refine ⟨_, rfl, ?_⟩
  refine s_ite ?_
  (repeat (first | ((with_reducible first | apply e_name | apply t_name); case h => (repeat (first | with_reducible exact hit | with_reducible assumption | (with_reducible apply miss; case h => with_unfolding_all rfl)))) | (with_reducible first | apply e_int | apply e_str | apply e_none | apply e_bool | apply e_bin | apply l1 | apply l2 | apply l0 | apply lc | apply e_sub | apply e_slice | apply e_list | apply e_tuple | apply e_cmp | apply e_and | apply e_not | apply e_or | apply e_neg | apply t_cmp | apply t_cmp2 | apply t_and | apply t_or | apply t_not | apply t_bool | apply t_sub | apply tru_bool | apply e_comp0 | apply e_comp1 | apply i_val | apply i_rng1 | apply i_rng2 | apply i_rev | apply b_add | apply b_sub | apply c_lt | apply c_le | apply c_gt | apply c_ge | apply c_eqi | apply c_nei | apply c_eqs | apply c_nes | apply c_eqb | apply c_neb | apply c_is | apply c_isnot | apply s_len | apply if_tt | apply if_ff | apply r_ret | apply s_asg | apply s_exp | apply s_ite | apply s_set | apply s_skip | apply sq_next | apply sq_ret | apply lq_next | apply lq_ret | apply rq_ret | apply i_str) | ((with_reducible first | apply e_call | apply t_call | apply e_glob | apply e_methS | apply e_srt); case h => with_reducible assumption) | (with_reducible apply b_div; case h => with_unfolding_all rfl)))
  refine s_isi (ty_list hn) tyOf_list ?_
  (repeat (first | ((with_reducible first | apply e_name | apply t_name); case h => (repeat (first | with_reducible exact hit | with_reducible assumption | (with_reducible apply miss; case h => with_unfolding_all rfl)))) | (with_reducible first | apply e_int | apply e_str | apply e_none | apply e_bool | apply e_bin | apply l1 | apply l2 | apply l0 | apply lc | apply e_sub | apply e_slice | apply e_list | apply e_tuple | apply e_cmp | apply e_and | apply e_not | apply e_or | apply e_neg | apply t_cmp | apply t_cmp2 | apply t_and | apply t_or | apply t_not | apply t_bool | apply t_sub | apply tru_bool | apply e_comp0 | apply e_comp1 | apply i_val | apply i_rng1 | apply i_rng2 | apply i_rev | apply b_add | apply b_sub | apply c_lt | apply c_le | apply c_gt | apply c_ge | apply c_eqi | apply c_nei | apply c_eqs | apply c_nes | apply c_eqb | apply c_neb | apply c_is | apply c_isnot | apply s_len | apply if_tt | apply if_ff | apply r_ret | apply s_asg | apply s_exp | apply s_ite | apply s_set | apply s_skip | apply sq_next | apply sq_ret | apply lq_next | apply lq_ret | apply rq_ret | apply i_str) | ((with_reducible first | apply e_call | apply t_call | apply e_glob | apply e_methS | apply e_srt); case h => with_reducible assumption) | (with_reducible apply b_div; case h => with_unfolding_all rfl)))
  refine if_f rfl ?_
  (repeat (first | ((with_reducible first | apply e_name | apply t_name); case h => (repeat (first | with_reducible exact hit | with_reducible assumption | (with_reducible apply miss; case h => with_unfolding_all rfl)))) | (with_reducible first | apply e_int | apply e_str | apply e_none | apply e_bool | apply e_bin | apply l1 | apply l2 | apply l0 | apply lc | apply e_sub | apply e_slice | apply e_list | apply e_tuple | apply e_cmp | apply e_and | apply e_not | apply e_or | apply e_neg | apply t_cmp | apply t_cmp2 | apply t_and | apply t_or | apply t_not | apply t_bool | apply t_sub | apply tru_bool | apply e_comp0 | apply e_comp1 | apply i_val | apply i_rng1 | apply i_rng2 | apply i_rev | apply b_add | apply b_sub | apply c_lt | apply c_le | apply c_gt | apply c_ge | apply c_eqi | apply c_nei | apply c_eqs | apply c_nes | apply c_eqb | apply c_neb | apply c_is | apply c_isnot | apply s_len | apply if_tt | apply if_ff | apply r_ret | apply s_asg | apply s_exp | apply s_ite | apply s_set | apply s_skip | apply sq_next | apply sq_ret | apply lq_next | apply lq_ret | apply rq_ret | apply i_str) | ((with_reducible first | apply e_call | apply t_call | apply e_glob | apply e_methS | apply e_srt); case h => with_reducible assumption) | (with_reducible apply b_div; case h => with_unfolding_all rfl)))
  refine s_ite ?_
  (repeat (first | ((with_reducible first | apply e_name | apply t_name); case h => (repeat (first | with_reducible exact hit | with_reducible assumption | (with_reducible apply miss; case h => with_unfolding_all rfl)))) | (with_reducible first | apply e_int | apply e_str | apply e_none | apply e_bool | apply e_bin | apply l1 | apply l2 | apply l0 | apply lc | apply e_sub | apply e_slice | apply e_list | apply e_tuple | apply e_cmp | apply e_and | apply e_not | apply e_or | apply e_neg | apply t_cmp | apply t_cmp2 | apply t_and | apply t_or | apply t_not | apply t_bool | apply t_sub | apply tru_bool | apply e_comp0 | apply e_comp1 | apply i_val | apply i_rng1 | apply i_rng2 | apply i_rev | apply b_add | apply b_sub | apply c_lt | apply c_le | apply c_gt | apply c_ge | apply c_eqi | apply c_nei | apply c_eqs | apply c_nes | apply c_eqb | apply c_neb | apply c_is | apply c_isnot | apply s_len | apply if_tt | apply if_ff | apply r_ret | apply s_asg | apply s_exp | apply s_ite | apply s_set | apply s_skip | apply sq_next | apply sq_ret | apply lq_next | apply lq_ret | apply rq_ret | apply i_str) | ((with_reducible first | apply e_call | apply t_call | apply e_glob | apply e_methS | apply e_srt); case h => with_reducible assumption) | (with_reducible apply b_div; case h => with_unfolding_all rfl)))
  refine len_ws hn ?_
  (repeat (first | ((with_reducible first | apply e_name | apply t_name); case h => (repeat (first | with_reducible exact hit | with_reducible assumption | (with_reducible apply miss; case h => with_unfolding_all rfl)))) | (with_reducible first | apply e_int | apply e_str | apply e_none | apply e_bool | apply e_bin | apply l1 | apply l2 | apply l0 | apply lc | apply e_sub | apply e_slice | apply e_list | apply e_tuple | apply e_cmp | apply e_and | apply e_not | apply e_or | apply e_neg | apply t_cmp | apply t_cmp2 | apply t_and | apply t_or | apply t_not | apply t_bool | apply t_sub | apply tru_bool | apply e_comp0 | apply e_comp1 | apply i_val | apply i_rng1 | apply i_rng2 | apply i_rev | apply b_add | apply b_sub | apply c_lt | apply c_le | apply c_gt | apply c_ge | apply c_eqi | apply c_nei | apply c_eqs | apply c_nes | apply c_eqb | apply c_neb | apply c_is | apply c_isnot | apply s_len | apply if_tt | apply if_ff | apply r_ret | apply s_asg | apply s_exp | apply s_ite | apply s_set | apply s_skip | apply sq_next | apply sq_ret | apply lq_next | apply lq_ret | apply rq_ret | apply i_str) | ((with_reducible first | apply e_call | apply t_call | apply e_glob | apply e_methS | apply e_srt); case h => with_reducible assumption) | (with_reducible apply b_div; case h => with_unfolding_all rfl)))
  refine if_f (decide_eq_false (by omega)) ?_
  (repeat (first | ((with_reducible first | apply e_name | apply t_name); case h => (repeat (first | with_reducible exact hit | with_reducible assumption | (with_reducible apply miss; case h => with_unfolding_all rfl)))) | (with_reducible first | apply e_int | apply e_str | apply e_none | apply e_bool | apply e_bin | apply l1 | apply l2 | apply l0 | apply lc | apply e_sub | apply e_slice | apply e_list | apply e_tuple | apply e_cmp | apply e_and | apply e_not | apply e_or | apply e_neg | apply t_cmp | apply t_cmp2 | apply t_and | apply t_or | apply t_not | apply t_bool | apply t_sub | apply tru_bool | apply e_comp0 | apply e_comp1 | apply i_val | apply i_rng1 | apply i_rng2 | apply i_rev | apply b_add | apply b_sub | apply c_lt | apply c_le | apply c_gt | apply c_ge | apply c_eqi | apply c_nei | apply c_eqs | apply c_nes | apply c_eqb | apply c_neb | apply c_is | apply c_isnot | apply s_len | apply if_tt | apply if_ff | apply r_ret | apply s_asg | apply s_exp | apply s_ite | apply s_set | apply s_skip | apply sq_next | apply sq_ret | apply lq_next | apply lq_ret | apply rq_ret | apply i_str) | ((with_reducible first | apply e_call | apply t_call | apply e_glob | apply e_methS | apply e_srt); case h => with_reducible assumption) | (with_reducible apply b_div; case h => with_unfolding_all rfl)))
  refine s_asg ?_
  (repeat (first | ((with_reducible first | apply e_name | apply t_name); case h => (repeat (first | with_reducible exact hit | with_reducible assumption | (with_reducible apply miss; case h => with_unfolding_all rfl)))) | (with_reducible first | apply e_int | apply e_str | apply e_none | apply e_bool | apply e_bin | apply l1 | apply l2 | apply l0 | apply lc | apply e_sub | apply e_slice | apply e_list | apply e_tuple | apply e_cmp | apply e_and | apply e_not | apply e_or | apply e_neg | apply t_cmp | apply t_cmp2 | apply t_and | apply t_or | apply t_not | apply t_bool | apply t_sub | apply tru_bool | apply e_comp0 | apply e_comp1 | apply i_val | apply i_rng1 | apply i_rng2 | apply i_rev | apply b_add | apply b_sub | apply c_lt | apply c_le | apply c_gt | apply c_ge | apply c_eqi | apply c_nei | apply c_eqs | apply c_nes | apply c_eqb | apply c_neb | apply c_is | apply c_isnot | apply s_len | apply if_tt | apply if_ff | apply r_ret | apply s_asg | apply s_exp | apply s_ite | apply s_set | apply s_skip | apply sq_next | apply sq_ret | apply lq_next | apply lq_ret | apply rq_ret | apply i_str) | ((with_reducible first | apply e_call | apply t_call | apply e_glob | apply e_methS | apply e_srt); case h => with_reducible assumption) | (with_reducible apply b_div; case h => with_unfolding_all rfl)))
  refine ⟨Nat.zero_le _, ?_⟩
  refine r_for ?_
  (repeat (first | ((with_reducible first | apply e_name | apply t_name); case h => (repeat (first | with_reducible exact hit | with_reducible assumption | (with_reducible apply miss; case h => with_unfolding_all rfl)))) | (with_reducible first | apply e_int | apply e_str | apply e_none | apply e_bool | apply e_bin | apply l1 | apply l2 | apply l0 | apply lc | apply e_sub | apply e_slice | apply e_list | apply e_tuple | apply e_cmp | apply e_and | apply e_not | apply e_or | apply e_neg | apply t_cmp | apply t_cmp2 | apply t_and | apply t_or | apply t_not | apply t_bool | apply t_sub | apply tru_bool | apply e_comp0 | apply e_comp1 | apply i_val | apply i_rng1 | apply i_rng2 | apply i_rev | apply b_add | apply b_sub | apply c_lt | apply c_le | apply c_gt | apply c_ge | apply c_eqi | apply c_nei | apply c_eqs | apply c_nes | apply c_eqb | apply c_neb | apply c_is | apply c_isnot | apply s_len | apply if_tt | apply if_ff | apply r_ret | apply s_asg | apply s_exp | apply s_ite | apply s_set | apply s_skip | apply sq_next | apply sq_ret | apply lq_next | apply lq_ret | apply rq_ret | apply i_str) | ((with_reducible first | apply e_call | apply t_call | apply e_glob | apply e_methS | apply e_srt); case h => with_reducible assumption) | (with_reducible apply b_div; case h => with_unfolding_all rfl)))
  have kH : Keep H (H ++ [.list []]) := Keep.new _ _
  refine i_list (hn.keep kH) ?_
  refine for_inv (fun xs σ H' => Keep H H' ∧ (∃ us rs, ws = us ++ rs ∧ xs = rs.map (fun w => .one (.str w)) ∧ Ws H' H.length us) ∧ σ (nm 27076163558) = some (.ref H.length)) ?_ ?_ ⟨kH, ⟨[], ws, rfl, List.map_map, get_new⟩, by (repeat (first | with_reducible exact hit | with_reducible assumption | (with_reducible apply miss; case h => with_unfolding_all rfl)))⟩
  · rintro x xs σ H' ⟨kp, ⟨us, rs, e, ex, hu⟩, e1⟩
    cases rs with
    | nil => cases ex
    | cons w rs =>
      obtain ⟨rfl, rfl⟩ := List.cons.inj ex
      have hw : Wd 10 w := hc.wd w (by rw [e]; simp)
      have hnw : ¬ w ∈ us := by
        have := hc.nd
        rw [e, List.nodup_append] at this
        exact fun hm => this.2.2 w hm w (.head _) rfl
      have hul : us.length ≤ 12 := by rw [e, List.length_append] at p1; omega
      refine ⟨hn.keep kp, _, rfl, fun W hW => ?_⟩
      refine s_ite ?_
      (repeat (first | ((with_reducible first | apply e_name | apply t_name); case h => (repeat (first | with_reducible exact hit | with_reducible assumption | (with_reducible apply miss; case h => with_unfolding_all rfl)))) | (with_reducible first | apply e_int | apply e_str | apply e_none | apply e_bool | apply e_bin | apply l1 | apply l2 | apply l0 | apply lc | apply e_sub | apply e_slice | apply e_list | apply e_tuple | apply e_cmp | apply e_and | apply e_not | apply e_or | apply e_neg | apply t_cmp | apply t_cmp2 | apply t_and | apply t_or | apply t_not | apply t_bool | apply t_sub | apply tru_bool | apply e_comp0 | apply e_comp1 | apply i_val | apply i_rng1 | apply i_rng2 | apply i_rev | apply b_add | apply b_sub | apply c_lt | apply c_le | apply c_gt | apply c_ge | apply c_eqi | apply c_nei | apply c_eqs | apply c_nes | apply c_eqb | apply c_neb | apply c_is | apply c_isnot | apply s_len | apply if_tt | apply if_ff | apply r_ret | apply s_asg | apply s_exp | apply s_ite | apply s_set | apply s_skip | apply sq_next | apply sq_ret | apply lq_next | apply lq_ret | apply rq_ret | apply i_str) | ((with_reducible first | apply e_call | apply t_call | apply e_glob | apply e_methS | apply e_srt); case h => with_reducible assumption) | (with_reducible apply b_div; case h => with_unfolding_all rfl)))
      refine ⟨w, rfl, hw, fun H2 k2 => ?_⟩
      (repeat (first | ((with_reducible first | apply e_name | apply t_name); case h => (repeat (first | with_reducible exact hit | with_reducible assumption | (with_reducible apply miss; case h => with_unfolding_all rfl)))) | (with_reducible first | apply e_int | apply e_str | apply e_none | apply e_bool | apply e_bin | apply l1 | apply l2 | apply l0 | apply lc | apply e_sub | apply e_slice | apply e_list | apply e_tuple | apply e_cmp | apply e_and | apply e_not | apply e_or | apply e_neg | apply t_cmp | apply t_cmp2 | apply t_and | apply t_or | apply t_not | apply t_bool | apply t_sub | apply tru_bool | apply e_comp0 | apply e_comp1 | apply i_val | apply i_rng1 | apply i_rng2 | apply i_rev | apply b_add | apply b_sub | apply c_lt | apply c_le | apply c_gt | apply c_ge | apply c_eqi | apply c_nei | apply c_eqs | apply c_nes | apply c_eqb | apply c_neb | apply c_is | apply c_isnot | apply s_len | apply if_tt | apply if_ff | apply r_ret | apply s_asg | apply s_exp | apply s_ite | apply s_set | apply s_skip | apply sq_next | apply sq_ret | apply lq_next | apply lq_ret | apply rq_ret | apply i_str) | ((with_reducible first | apply e_call | apply t_call | apply e_glob | apply e_methS | apply e_srt); case h => with_reducible assumption) | (with_reducible apply b_div; case h => with_unfolding_all rfl)))
      refine if_f rfl ?_
      (repeat (first | ((with_reducible first | apply e_name | apply t_name); case h => (repeat (first | with_reducible exact hit | with_reducible assumption | (with_reducible apply miss; case h => with_unfolding_all rfl)))) | (with_reducible first | apply e_int | apply e_str | apply e_none | apply e_bool | apply e_bin | apply l1 | apply l2 | apply l0 | apply lc | apply e_sub | apply e_slice | apply e_list | apply e_tuple | apply e_cmp | apply e_and | apply e_not | apply e_or | apply e_neg | apply t_cmp | apply t_cmp2 | apply t_and | apply t_or | apply t_not | apply t_bool | apply t_sub | apply tru_bool | apply e_comp0 | apply e_comp1 | apply i_val | apply i_rng1 | apply i_rng2 | apply i_rev | apply b_add | apply b_sub | apply c_lt | apply c_le | apply c_gt | apply c_ge | apply c_eqi | apply c_nei | apply c_eqs | apply c_nes | apply c_eqb | apply c_neb | apply c_is | apply c_isnot | apply s_len | apply if_tt | apply if_ff | apply r_ret | apply s_asg | apply s_exp | apply s_ite | apply s_set | apply s_skip | apply sq_next | apply sq_ret | apply lq_next | apply lq_ret | apply rq_ret | apply i_str) | ((with_reducible first | apply e_call | apply t_call | apply e_glob | apply e_methS | apply e_srt); case h => with_reducible assumption) | (with_reducible apply b_div; case h => with_unfolding_all rfl)))
      refine s_ite ?_
      (repeat (first | ((with_reducible first | apply e_name | apply t_name); case h => (repeat (first | with_reducible exact hit | with_reducible assumption | (with_reducible apply miss; case h => with_unfolding_all rfl)))) | (with_reducible first | apply e_int | apply e_str | apply e_none | apply e_bool | apply e_bin | apply l1 | apply l2 | apply l0 | apply lc | apply e_sub | apply e_slice | apply e_list | apply e_tuple | apply e_cmp | apply e_and | apply e_not | apply e_or | apply e_neg | apply t_cmp | apply t_cmp2 | apply t_and | apply t_or | apply t_not | apply t_bool | apply t_sub | apply tru_bool | apply e_comp0 | apply e_comp1 | apply i_val | apply i_rng1 | apply i_rng2 | apply i_rev | apply b_add | apply b_sub | apply c_lt | apply c_le | apply c_gt | apply c_ge | apply c_eqi | apply c_nei | apply c_eqs | apply c_nes | apply c_eqb | apply c_neb | apply c_is | apply c_isnot | apply s_len | apply if_tt | apply if_ff | apply r_ret | apply s_asg | apply s_exp | apply s_ite | apply s_set | apply s_skip | apply sq_next | apply sq_ret | apply lq_next | apply lq_ret | apply rq_ret | apply i_str) | ((with_reducible first | apply e_call | apply t_call | apply e_glob | apply e_methS | apply e_srt); case h => with_reducible assumption) | (with_reducible apply b_div; case h => with_unfolding_all rfl)))
      refine c_inw (hu.keep k2) ?_
      refine if_f (decide_eq_false hnw) ?_
      (repeat (first | ((with_reducible first | apply e_name | apply t_name); case h => (repeat (first | with_reducible exact hit | with_reducible assumption | (with_reducible apply miss; case h => with_unfolding_all rfl)))) | (with_reducible first | apply e_int | apply e_str | apply e_none | apply e_bool | apply e_bin | apply l1 | apply l2 | apply l0 | apply lc | apply e_sub | apply e_slice | apply e_list | apply e_tuple | apply e_cmp | apply e_and | apply e_not | apply e_or | apply e_neg | apply t_cmp | apply t_cmp2 | apply t_and | apply t_or | apply t_not | apply t_bool | apply t_sub | apply tru_bool | apply e_comp0 | apply e_comp1 | apply i_val | apply i_rng1 | apply i_rng2 | apply i_rev | apply b_add | apply b_sub | apply c_lt | apply c_le | apply c_gt | apply c_ge | apply c_eqi | apply c_nei | apply c_eqs | apply c_nes | apply c_eqb | apply c_neb | apply c_is | apply c_isnot | apply s_len | apply if_tt | apply if_ff | apply r_ret | apply s_asg | apply s_exp | apply s_ite | apply s_set | apply s_skip | apply sq_next | apply sq_ret | apply lq_next | apply lq_ret | apply rq_ret | apply i_str) | ((with_reducible first | apply e_call | apply t_call | apply e_glob | apply e_methS | apply e_srt); case h => with_reducible assumption) | (with_reducible apply b_div; case h => with_unfolding_all rfl)))
      refine s_exp (e_methN (by (repeat (first | with_reducible exact hit | with_reducible assumption | (with_reducible apply miss; case h => with_unfolding_all rfl)))) (kind_l (hu.keep k2)) h4 (l1 ?_))
      (repeat (first | ((with_reducible first | apply e_name | apply t_name); case h => (repeat (first | with_reducible exact hit | with_reducible assumption | (with_reducible apply miss; case h => with_unfolding_all rfl)))) | (with_reducible first | apply e_int | apply e_str | apply e_none | apply e_bool | apply e_bin | apply l1 | apply l2 | apply l0 | apply lc | apply e_sub | apply e_slice | apply e_list | apply e_tuple | apply e_cmp | apply e_and | apply e_not | apply e_or | apply e_neg | apply t_cmp | apply t_cmp2 | apply t_and | apply t_or | apply t_not | apply t_bool | apply t_sub | apply tru_bool | apply e_comp0 | apply e_comp1 | apply i_val | apply i_rng1 | apply i_rng2 | apply i_rev | apply b_add | apply b_sub | apply c_lt | apply c_le | apply c_gt | apply c_ge | apply c_eqi | apply c_nei | apply c_eqs | apply c_nes | apply c_eqb | apply c_neb | apply c_is | apply c_isnot | apply s_len | apply if_tt | apply if_ff | apply r_ret | apply s_asg | apply s_exp | apply s_ite | apply s_set | apply s_skip | apply sq_next | apply sq_ret | apply lq_next | apply lq_ret | apply rq_ret | apply i_str) | ((with_reducible first | apply e_call | apply t_call | apply e_glob | apply e_methS | apply e_srt); case h => with_reducible assumption) | (with_reducible apply b_div; case h => with_unfolding_all rfl)))
      refine s_push (by omega) (hu.keep k2) (by unfold lid; omega) ?_
      (repeat (first | ((with_reducible first | apply e_name | apply t_name); case h => (repeat (first | with_reducible exact hit | with_reducible assumption | (with_reducible apply miss; case h => with_unfolding_all rfl)))) | (with_reducible first | apply e_int | apply e_str | apply e_none | apply e_bool | apply e_bin | apply l1 | apply l2 | apply l0 | apply lc | apply e_sub | apply e_slice | apply e_list | apply e_tuple | apply e_cmp | apply e_and | apply e_not | apply e_or | apply e_neg | apply t_cmp | apply t_cmp2 | apply t_and | apply t_or | apply t_not | apply t_bool | apply t_sub | apply tru_bool | apply e_comp0 | apply e_comp1 | apply i_val | apply i_rng1 | apply i_rng2 | apply i_rev | apply b_add | apply b_sub | apply c_lt | apply c_le | apply c_gt | apply c_ge | apply c_eqi | apply c_nei | apply c_eqs | apply c_nes | apply c_eqb | apply c_neb | apply c_is | apply c_isnot | apply s_len | apply if_tt | apply if_ff | apply r_ret | apply s_asg | apply s_exp | apply s_ite | apply s_set | apply s_skip | apply sq_next | apply sq_ret | apply lq_next | apply lq_ret | apply rq_ret | apply i_str) | ((with_reducible first | apply e_call | apply t_call | apply e_glob | apply e_methS | apply e_srt); case h => with_reducible assumption) | (with_reducible apply b_div; case h => with_unfolding_all rfl)))
      exact hW _ _ ⟨(kp.trans k2).set (Nat.le_refl _), ⟨us ++ [w], rs, by rw [e, List.append_assoc]; rfl, rfl, (Ws.keep hu k2).push w⟩, by (repeat (first | with_reducible exact hit | with_reducible assumption | (with_reducible apply miss; case h => with_unfolding_all rfl)))⟩
  · rintro σ H' ⟨kp, ⟨us, rs, e, ex, hu⟩, e1⟩
    refine ⟨hn.keep kp, ?_⟩
    cases rs with
    | cons _ _ => cases ex
    | nil =>
      rw [List.append_nil] at e
      subst e
      refine r_ret ?_
      (repeat (first | ((with_reducible first | apply e_name | apply t_name); case h => (repeat (first | with_reducible exact hit | with_reducible assumption | (with_reducible apply miss; case h => with_unfolding_all rfl)))) | (with_reducible first | apply e_int | apply e_str | apply e_none | apply e_bool | apply e_bin | apply l1 | apply l2 | apply l0 | apply lc | apply e_sub | apply e_slice | apply e_list | apply e_tuple | apply e_cmp | apply e_and | apply e_not | apply e_or | apply e_neg | apply t_cmp | apply t_cmp2 | apply t_and | apply t_or | apply t_not | apply t_bool | apply t_sub | apply tru_bool | apply e_comp0 | apply e_comp1 | apply i_val | apply i_rng1 | apply i_rng2 | apply i_rev | apply b_add | apply b_sub | apply c_lt | apply c_le | apply c_gt | apply c_ge | apply c_eqi | apply c_nei | apply c_eqs | apply c_nes | apply c_eqb | apply c_neb | apply c_is | apply c_isnot | apply s_len | apply if_tt | apply if_ff | apply r_ret | apply s_asg | apply s_exp | apply s_ite | apply s_set | apply s_skip | apply sq_next | apply sq_ret | apply lq_next | apply lq_ret | apply rq_ret | apply i_str) | ((with_reducible first | apply e_call | apply t_call | apply e_glob | apply e_methS | apply e_srt); case h => with_reducible assumption) | (with_reducible apply b_div; case h => with_unfolding_all rfl)))
      refine s_sorted hu (by omega) fun ys hp hs => ?_
      exact h ys _ _ hp hs kp.le get_new (kp.trans (Keep.new _ _))

/-- [w for w in ws if ..] -/
theorem comp_ws {H : AHeap} {σ : Sg} {X : XPost} {y : Str} {cond : PE} {Q : List V → AHeap → Prop} {n : Nat} {ws : List Txt} (p : Txt → Bool) (hn : Ws H n ws)
    (ht : ∀ w ∈ ws, ∀ H', Keep H H' → ∀ q : Bool → AHeap → Prop, (∀ H'', Keep H' H'' → q (p w) H'') → (sem T cond).tt (σ.set y (.str w)) H' q X)
    (hQ : ∀ H', Keep H H' → Q ((ws.filter p).map .str) H') :
    compGo (fun H' => H'[n]? = some (.list (ws.map .str))) (fun x H' => bindA (.name y) x H' σ) (fun σ' H' q => (sem T cond).tt σ' H' q X) (fun σ' H' q => (sem T (.name y)).ev σ' H' q X) Q ((ws.map .str).map .one) [] H := by
  refine comp_filter (p := fun x => match x with | .one (.str w) => p w | _ => false) (P := fun x v => x = .one v) _ _ _ (fun H' k => hn.keep k) (fun x hx H' k => ?_) fun vs H' ha k => ?_
  · obtain ⟨v, hv, rfl⟩ := List.mem_map.mp hx
    obtain ⟨w, hw, rfl⟩ := List.mem_map.mp hv
    exact ⟨_, rfl, fun q hq => ht w hw H' k q hq, fun _ H1 k1 q hq => e_name hit (hq _ _ rfl (Keep.refl _))⟩
  · have e : vs = (ws.filter p).map .str := by
      have e1 : ((ws.map V.str).map Item.one).filter (fun x => match x with | .one (.str w) => p w | _ => false) = ((ws.filter p).map V.str).map Item.one := by
        rw [List.filter_map, List.filter_map]; rfl
      rw [e1] at ha
      have go : ∀ (us vs : List V), All2 (fun x v => x = Item.one v) (us.map .one) vs → vs = us := by
        intro us
        induction us with
        | nil => intro vs h; cases h; rfl
        | cons u us ih => intro vs h; cases h with
          | cons h1 h2 => cases h1; rw [ih _ h2]
      exact go _ _ ha
    rw [e]; exact hQ H' k

theorem ct_words_at {N : Nat} (hN : 64 ≤ N) (h1 : Has T (nm 1815276) spLen) (h2 : T.srt = spSortLen N) : Ct T x_words_at b_words_at spWordsAt := by
  refine ct3 fun vs H Q X h => ?_
  obtain ⟨n, t, i, ws, rfl, hn, hl, i0, h⟩ := h
  refine ⟨_, _, _, rfl, ?_⟩
  refine r_ret ?_
  (repeat (first | ((with_reducible first | apply e_name | apply t_name); case h => (repeat (first | with_reducible exact hit | with_reducible assumption | (with_reducible apply miss; case h => with_unfolding_all rfl)))) | (with_reducible first | apply e_int | apply e_str | apply e_none | apply e_bool | apply e_bin | apply l1 | apply l2 | apply l0 | apply lc | apply e_sub | apply e_slice | apply e_list | apply e_tuple | apply e_cmp | apply e_and | apply e_not | apply e_or | apply e_neg | apply t_cmp | apply t_cmp2 | apply t_and | apply t_or | apply t_not | apply t_bool | apply t_sub | apply tru_bool | apply e_comp0 | apply e_comp1 | apply i_val | apply i_rng1 | apply i_rng2 | apply i_rev | apply b_add | apply b_sub | apply c_lt | apply c_le | apply c_gt | apply c_ge | apply c_eqi | apply c_nei | apply c_eqs | apply c_nes | apply c_eqb | apply c_neb | apply c_is | apply c_isnot | apply s_len | apply if_tt | apply if_ff | apply r_ret | apply s_asg | apply s_exp | apply s_ite | apply s_set | apply s_skip | apply sq_next | apply sq_ret | apply lq_next | apply lq_ret | apply rq_ret | apply i_str) | ((with_reducible first | apply e_call | apply t_call | apply e_glob | apply e_methS | apply e_srt); case h => with_reducible assumption) | (with_reducible apply b_div; case h => with_unfolding_all rfl)))
  refine i_list hn ⟨by rw [List.length_map, List.length_map]; unfold lid; omega, ?_⟩
  refine comp_ws (fun w => decide ((t.drop i.toNat).take w.length = w)) hn (fun w hw H' k' q hq => ?_) fun H' k' => ?_
  · (repeat (first | ((with_reducible first | apply e_name | apply t_name); case h => (repeat (first | with_reducible exact hit | with_reducible assumption | (with_reducible apply miss; case h => with_unfolding_all rfl)))) | (with_reducible first | apply e_int | apply e_str | apply e_none | apply e_bool | apply e_bin | apply l1 | apply l2 | apply l0 | apply lc | apply e_sub | apply e_slice | apply e_list | apply e_tuple | apply e_cmp | apply e_and | apply e_not | apply e_or | apply e_neg | apply t_cmp | apply t_cmp2 | apply t_and | apply t_or | apply t_not | apply t_bool | apply t_sub | apply tru_bool | apply e_comp0 | apply e_comp1 | apply i_val | apply i_rng1 | apply i_rng2 | apply i_rev | apply b_add | apply b_sub | apply c_lt | apply c_le | apply c_gt | apply c_ge | apply c_eqi | apply c_nei | apply c_eqs | apply c_nes | apply c_eqb | apply c_neb | apply c_is | apply c_isnot | apply s_len | apply if_tt | apply if_ff | apply r_ret | apply s_asg | apply s_exp | apply s_ite | apply s_set | apply s_skip | apply sq_next | apply sq_ret | apply lq_next | apply lq_ret | apply rq_ret | apply i_str) | ((with_reducible first | apply e_call | apply t_call | apply e_glob | apply e_methS | apply e_srt); case h => with_reducible assumption) | (with_reducible apply b_div; case h => with_unfolding_all rfl)))
    refine b_cut i0 (by omega) ?_
    (repeat (first | ((with_reducible first | apply e_name | apply t_name); case h => (repeat (first | with_reducible exact hit | with_reducible assumption | (with_reducible apply miss; case h => with_unfolding_all rfl)))) | (with_reducible first | apply e_int | apply e_str | apply e_none | apply e_bool | apply e_bin | apply l1 | apply l2 | apply l0 | apply lc | apply e_sub | apply e_slice | apply e_list | apply e_tuple | apply e_cmp | apply e_and | apply e_not | apply e_or | apply e_neg | apply t_cmp | apply t_cmp2 | apply t_and | apply t_or | apply t_not | apply t_bool | apply t_sub | apply tru_bool | apply e_comp0 | apply e_comp1 | apply i_val | apply i_rng1 | apply i_rng2 | apply i_rev | apply b_add | apply b_sub | apply c_lt | apply c_le | apply c_gt | apply c_ge | apply c_eqi | apply c_nei | apply c_eqs | apply c_nes | apply c_eqb | apply c_neb | apply c_is | apply c_isnot | apply s_len | apply if_tt | apply if_ff | apply r_ret | apply s_asg | apply s_exp | apply s_ite | apply s_set | apply s_skip | apply sq_next | apply sq_ret | apply lq_next | apply lq_ret | apply rq_ret | apply i_str) | ((with_reducible first | apply e_call | apply t_call | apply e_glob | apply e_methS | apply e_srt); case h => with_reducible assumption) | (with_reducible apply b_div; case h => with_unfolding_all rfl)))
    rw [show (i + (w.length : Int)).toNat - i.toNat = w.length by omega]
    exact hq _ (Keep.refl _)
  · have hfl := List.length_filter_le (fun w => decide ((t.drop i.toNat).take w.length = w)) ws
    refine s_sortLen get_new (Nat.lt_of_le_of_lt hfl (by omega)) fun ys hp hs => ?_
    exact h ys _ _ hp hs (k'.trans (Keep.new _ _)).le get_new (k'.trans ((Keep.new _ _).trans (Keep.new _ _)))

end
end Mine
end
section
namespace Mine
open PySem
noncomputable def x_law_text : List Str := [(nm 137989276334399845594719), (nm 1078262421209535247967), (nm 32292397438104173501782932616799)]
noncomputable def b_law_text_5 : PS := (.seq (.ret (.sub (.bin .Add (.name (nm 7339670703038821983)) (.list (.cons (.bin .Add (.bin .Add (.slice (.name (nm 252284354985272115066587084383)) .none (.name (nm 15398215025955758113584735))) (.name (nm 7984784961380578911))) (.slice (.name (nm 252284354985272115066587084383)) (.bin .Add (.name (nm 15398215025955758113584735)) (.int 1)) .none)) .nil))) (.bin .Mod (.name (nm 7843466381129971295)) (.int 8)))) .skip)
noncomputable def b_law_text_4 : PS := (.seq (.assign (.name (nm 7339670703038821983)) (.list (.cons (.name (nm 252284354985272115066587084383)) (.cons (.name (nm 252284354985272115066587084383)) (.cons (.name (nm 252284354985272115066587084383)) (.cons (.name (nm 252284354985272115066587084383)) (.cons (.bin .Add (.bin .Add (.slice (.name (nm 252284354985272115066587084383)) .none (.name (nm 15398215025955758113584735))) (.name (nm 7984784961380578911))) (.slice (.name (nm 252284354985272115066587084383)) (.name (nm 15398215025955758113584735)) .none)) (.cons (.bin .Add (.slice (.name (nm 252284354985272115066587084383)) .none (.name (nm 15398215025955758113584735))) (.slice (.name (nm 252284354985272115066587084383)) (.bin .Add (.name (nm 15398215025955758113584735)) (.int 1)) .none)) (.cons (.slice (.name (nm 252284354985272115066587084383)) .none (.name (nm 15398215025955758113584735))) .nil))))))))) b_law_text_5)
noncomputable def b_law_text_3 : PS := (.seq (.assign (.name (nm 7984784961380578911)) (.sub (.meth (.str ⟨#[]⟩) (nm 232421354) (.cons (.bin .Add (.name (nm 32292397438104173501782932616799)) (.list (.cons (.str ⟨#[113]⟩) .nil))) .nil)) (.bin .Mod (.bin .FloorDiv (.name (nm 7843466381129971295)) (.int 512)) (.call (.glob (nm 1815276)) (.cons (.meth (.str ⟨#[]⟩) (nm 232421354) (.cons (.bin .Add (.name (nm 32292397438104173501782932616799)) (.list (.cons (.str ⟨#[113]⟩) .nil))) .nil)) .nil))))) b_law_text_4)
noncomputable def b_law_text_2 : PS := (.seq (.assign (.name (nm 15398215025955758113584735)) (.bin .Mod (.bin .FloorDiv (.name (nm 7843466381129971295)) (.int 8)) (.bin .Add (.call (.glob (nm 1815276)) (.cons (.name (nm 252284354985272115066587084383)) .nil)) (.int 1)))) b_law_text_3)
noncomputable def b_law_text_1 : PS := (.seq (.assign (.name (nm 7843466381129971295)) (.call (.glob (nm 513532042442335)) (.cons (.name (nm 137989276334399845594719)) (.cons (.bin .Add (.name (nm 1078262421209535247967)) (.int 6)) .nil)))) b_law_text_2)
noncomputable def b_law_text : PS := (.seq (.assign (.name (nm 252284354985272115066587084383)) (.meth (.str ⟨#[]⟩) (nm 232421354) (.cons (.call (.glob (nm 67483170382575199)) (.cons (.name (nm 137989276334399845594719)) (.cons (.name (nm 1078262421209535247967)) (.cons (.name (nm 32292397438104173501782932616799)) (.cons (.int 8) .nil))))) .nil))) b_law_text_1)

/-! the text that the laws build -/
section
variable {T : Tab}

theorem sum_le : ∀ ws : List Txt, (∀ w ∈ ws, w.length ≤ 10) → (ws.map List.length).sum ≤ 10 * ws.length
  | [], _ => Nat.le_refl _
  | w :: r, h => by
    have h1 := h w (.head _)
    have h2 := sum_le r fun u hu => h u (.tail _ hu)
    rw [List.map_cons, List.sum_cons, List.length_cons]; omega
theorem flat_len (ws : List Txt) : ws.flatten.length = (ws.map List.length).sum := List.length_flatten

noncomputable def spText : Spec := fun vs H Q _ => ∃ (n : Nat) (k : Int) (ws : List Txt), vs = [.ref 0, .int k, .ref n] ∧ 0 ≤ k ∧ Scr H ∧ Ws H n ws ∧ ws.length ≤ 12 ∧ (∀ w ∈ ws, Wd 10 w) ∧ ∀ t H', t.length ≤ 81 → Keep H H' → Q (.str t) H'

noncomputable def TV (n : Nat) (v : V) : Prop := ∃ t : Txt, v = .str t ∧ t.length ≤ n

theorem ct_law_text (h1 : Has T (nm 513532042442335) spAt) (h2 : Has T (nm 67483170382575199) spRow) (h3 : Has T (nm 1815276) spLen) (h4 : HasM T .str (nm 232421354) spJoin) : Ct T x_law_text b_law_text spText := by
  refine ct3 fun vs H Q X h => ?_
  obtain ⟨n, k, ws, rfl, k0, hs, hn, hwl, hw, h⟩ := h
  refine ⟨_, _, _, rfl, ?_⟩
  refine s_asg ?_
  (repeat (first | ((with_reducible first | apply e_name | apply t_name); case h => (repeat (first | with_reducible exact hit | with_reducible assumption | (with_reducible apply miss; case h => with_unfolding_all rfl)))) | (with_reducible first | apply e_int | apply e_str | apply e_none | apply e_bool | apply e_bin | apply l1 | apply l2 | apply l0 | apply lc | apply e_sub | apply e_slice | apply e_list | apply e_tuple | apply e_cmp | apply e_and | apply e_not | apply e_or | apply e_neg | apply t_cmp | apply t_cmp2 | apply t_and | apply t_or | apply t_not | apply t_bool | apply t_sub | apply tru_bool | apply e_comp0 | apply e_comp1 | apply i_val | apply i_rng1 | apply i_rng2 | apply i_rev | apply b_add | apply b_sub | apply c_lt | apply c_le | apply c_gt | apply c_ge | apply c_eqi | apply c_nei | apply c_eqs | apply c_nes | apply c_eqb | apply c_neb | apply c_is | apply c_isnot | apply s_len | apply if_tt | apply if_ff | apply r_ret | apply s_asg | apply s_exp | apply s_ite | apply s_set | apply s_skip | apply sq_next | apply sq_ret | apply lq_next | apply lq_ret | apply rq_ret | apply i_str) | ((with_reducible first | apply e_call | apply t_call | apply e_glob | apply e_methS | apply e_srt); case h => with_reducible assumption) | (with_reducible apply b_div; case h => with_unfolding_all rfl)))
  refine ⟨n, k, 8, ws, rfl, k0, by decide, by decide, hs, hn, fun rs p H1 hrl hr hp hrs k1 => ?_⟩
  have hr10 : ∀ r ∈ rs, r.length ≤ 10 := fun r hr' => (hw r (hr r hr')).le
  have hsum := sum_le rs hr10
  have hrl' : rs.length ≤ 8 := hrl
  refine s_join hrs (txts_ws rs) (by unfold lid; omega) ?_
  have htl : rs.flatten.length ≤ 80 := by rw [flat_len]; omega
  generalize rs.flatten = t at htl
  refine s_asg ?_
  (repeat (first | ((with_reducible first | apply e_name | apply t_name); case h => (repeat (first | with_reducible exact hit | with_reducible assumption | (with_reducible apply miss; case h => with_unfolding_all rfl)))) | (with_reducible first | apply e_int | apply e_str | apply e_none | apply e_bool | apply e_bin | apply l1 | apply l2 | apply l0 | apply lc | apply e_sub | apply e_slice | apply e_list | apply e_tuple | apply e_cmp | apply e_and | apply e_not | apply e_or | apply e_neg | apply t_cmp | apply t_cmp2 | apply t_and | apply t_or | apply t_not | apply t_bool | apply t_sub | apply tru_bool | apply e_comp0 | apply e_comp1 | apply i_val | apply i_rng1 | apply i_rng2 | apply i_rev | apply b_add | apply b_sub | apply c_lt | apply c_le | apply c_gt | apply c_ge | apply c_eqi | apply c_nei | apply c_eqs | apply c_nes | apply c_eqb | apply c_neb | apply c_is | apply c_isnot | apply s_len | apply if_tt | apply if_ff | apply r_ret | apply s_asg | apply s_exp | apply s_ite | apply s_set | apply s_skip | apply sq_next | apply sq_ret | apply lq_next | apply lq_ret | apply rq_ret | apply i_str) | ((with_reducible first | apply e_call | apply t_call | apply e_glob | apply e_methS | apply e_srt); case h => with_reducible assumption) | (with_reducible apply b_div; case h => with_unfolding_all rfl)))
  refine ⟨_, rfl, by omega, hs.keep k1, fun cell => ?_⟩
  refine s_asg ?_
  (repeat (first | ((with_reducible first | apply e_name | apply t_name); case h => (repeat (first | with_reducible exact hit | with_reducible assumption | (with_reducible apply miss; case h => with_unfolding_all rfl)))) | (with_reducible first | apply e_int | apply e_str | apply e_none | apply e_bool | apply e_bin | apply l1 | apply l2 | apply l0 | apply lc | apply e_sub | apply e_slice | apply e_list | apply e_tuple | apply e_cmp | apply e_and | apply e_not | apply e_or | apply e_neg | apply t_cmp | apply t_cmp2 | apply t_and | apply t_or | apply t_not | apply t_bool | apply t_sub | apply tru_bool | apply e_comp0 | apply e_comp1 | apply i_val | apply i_rng1 | apply i_rng2 | apply i_rev | apply b_add | apply b_sub | apply c_lt | apply c_le | apply c_gt | apply c_ge | apply c_eqi | apply c_nei | apply c_eqs | apply c_nes | apply c_eqb | apply c_neb | apply c_is | apply c_isnot | apply s_len | apply if_tt | apply if_ff | apply r_ret | apply s_asg | apply s_exp | apply s_ite | apply s_set | apply s_skip | apply sq_next | apply sq_ret | apply lq_next | apply lq_ret | apply rq_ret | apply i_str) | ((with_reducible first | apply e_call | apply t_call | apply e_glob | apply e_methS | apply e_srt); case h => with_reducible assumption) | (with_reducible apply b_div; case h => with_unfolding_all rfl)))
  refine b_mod (by omega) fun a a0 a1 => ?_
  refine s_asg ?_
  (repeat (first | ((with_reducible first | apply e_name | apply t_name); case h => (repeat (first | with_reducible exact hit | with_reducible assumption | (with_reducible apply miss; case h => with_unfolding_all rfl)))) | (with_reducible first | apply e_int | apply e_str | apply e_none | apply e_bool | apply e_bin | apply l1 | apply l2 | apply l0 | apply lc | apply e_sub | apply e_slice | apply e_list | apply e_tuple | apply e_cmp | apply e_and | apply e_not | apply e_or | apply e_neg | apply t_cmp | apply t_cmp2 | apply t_and | apply t_or | apply t_not | apply t_bool | apply t_sub | apply tru_bool | apply e_comp0 | apply e_comp1 | apply i_val | apply i_rng1 | apply i_rng2 | apply i_rev | apply b_add | apply b_sub | apply c_lt | apply c_le | apply c_gt | apply c_ge | apply c_eqi | apply c_nei | apply c_eqs | apply c_nes | apply c_eqb | apply c_neb | apply c_is | apply c_isnot | apply s_len | apply if_tt | apply if_ff | apply r_ret | apply s_asg | apply s_exp | apply s_ite | apply s_set | apply s_skip | apply sq_next | apply sq_ret | apply lq_next | apply lq_ret | apply rq_ret | apply i_str) | ((with_reducible first | apply e_call | apply t_call | apply e_glob | apply e_methS | apply e_srt); case h => with_reducible assumption) | (with_reducible apply b_div; case h => with_unfolding_all rfl)))
  have hj : ∀ {H' : AHeap} {X : XPost} {Q : VPost} {m : Nat}, Ws H' m (ws ++ [[113]]) → (Q (.str (ws ++ [[113]]).flatten) H') → spJoin [.str [], .ref m] H' Q X := fun {H' X Q m} hm hk => by
    have h10 : ∀ r ∈ ws ++ [[113]], r.length ≤ 10 := fun r hr => by
      rcases List.mem_append.mp hr with hr | hr
      · exact (hw r hr).le
      · rw [List.mem_singleton.mp hr]; decide
    have := sum_le _ h10
    rw [List.length_append, List.length_singleton] at this
    exact s_join hm (txts_ws _) (by rw [List.length_append, List.length_singleton]; unfold lid; omega) hk
  have hj1 : 1 ≤ (ws ++ [[113]]).flatten.length := by rw [List.flatten_append, List.length_append]; simp
  refine ⟨Nat.le_of_ble_eq_true rfl, ?_⟩
  refine b_lcat (((hn.keep k1).keep (Keep.new _ _))) get_new (by rw [List.length_map]; show ws.length + 1 ≤ lid; unfold lid; omega) ?_
  have e113 : ws.map V.str ++ [V.str (Str.mk #[113]).cps.toList] = (ws ++ [[113]]).map .str := by rw [List.map_append]; rfl
  rw [e113]
  refine hj get_new ?_
  (repeat (first | ((with_reducible first | apply e_name | apply t_name); case h => (repeat (first | with_reducible exact hit | with_reducible assumption | (with_reducible apply miss; case h => with_unfolding_all rfl)))) | (with_reducible first | apply e_int | apply e_str | apply e_none | apply e_bool | apply e_bin | apply l1 | apply l2 | apply l0 | apply lc | apply e_sub | apply e_slice | apply e_list | apply e_tuple | apply e_cmp | apply e_and | apply e_not | apply e_or | apply e_neg | apply t_cmp | apply t_cmp2 | apply t_and | apply t_or | apply t_not | apply t_bool | apply t_sub | apply tru_bool | apply e_comp0 | apply e_comp1 | apply i_val | apply i_rng1 | apply i_rng2 | apply i_rev | apply b_add | apply b_sub | apply c_lt | apply c_le | apply c_gt | apply c_ge | apply c_eqi | apply c_nei | apply c_eqs | apply c_nes | apply c_eqb | apply c_neb | apply c_is | apply c_isnot | apply s_len | apply if_tt | apply if_ff | apply r_ret | apply s_asg | apply s_exp | apply s_ite | apply s_set | apply s_skip | apply sq_next | apply sq_ret | apply lq_next | apply lq_ret | apply rq_ret | apply i_str) | ((with_reducible first | apply e_call | apply t_call | apply e_glob | apply e_methS | apply e_srt); case h => with_reducible assumption) | (with_reducible apply b_div; case h => with_unfolding_all rfl)))
  refine ⟨Nat.le_of_ble_eq_true rfl, ?_⟩
  refine b_lcat ((hn.keep k1).keep ((Keep.new _ _).trans ((Keep.new _ _).trans (Keep.new _ _)))) get_new (by rw [List.length_map]; show ws.length + 1 ≤ lid; unfold lid; omega) ?_
  rw [e113]
  refine hj get_new ?_
  (repeat (first | ((with_reducible first | apply e_name | apply t_name); case h => (repeat (first | with_reducible exact hit | with_reducible assumption | (with_reducible apply miss; case h => with_unfolding_all rfl)))) | (with_reducible first | apply e_int | apply e_str | apply e_none | apply e_bool | apply e_bin | apply l1 | apply l2 | apply l0 | apply lc | apply e_sub | apply e_slice | apply e_list | apply e_tuple | apply e_cmp | apply e_and | apply e_not | apply e_or | apply e_neg | apply t_cmp | apply t_cmp2 | apply t_and | apply t_or | apply t_not | apply t_bool | apply t_sub | apply tru_bool | apply e_comp0 | apply e_comp1 | apply i_val | apply i_rng1 | apply i_rng2 | apply i_rev | apply b_add | apply b_sub | apply c_lt | apply c_le | apply c_gt | apply c_ge | apply c_eqi | apply c_nei | apply c_eqs | apply c_nes | apply c_eqb | apply c_neb | apply c_is | apply c_isnot | apply s_len | apply if_tt | apply if_ff | apply r_ret | apply s_asg | apply s_exp | apply s_ite | apply s_set | apply s_skip | apply sq_next | apply sq_ret | apply lq_next | apply lq_ret | apply rq_ret | apply i_str) | ((with_reducible first | apply e_call | apply t_call | apply e_glob | apply e_methS | apply e_srt); case h => with_reducible assumption) | (with_reducible apply b_div; case h => with_unfolding_all rfl)))
  refine b_mod (by omega) fun b b0 b1 => b_sign b0 b1 fun c _ => ?_
  have k5 := (Keep.new H1 [AObj.list [V.str (Str.mk #[113]).cps.toList]]).trans ((Keep.new _ [AObj.list ((ws ++ [[113]]).map V.str)]).trans ((Keep.new _ [AObj.list [V.str (Str.mk #[113]).cps.toList]]).trans (Keep.new _ [AObj.list ((ws ++ [[113]]).map V.str)])))
  generalize H1 ++ [AObj.list [V.str (Str.mk #[113]).cps.toList]] ++ [AObj.list ((ws ++ [[113]]).map V.str)] ++ [AObj.list [V.str (Str.mk #[113]).cps.toList]] ++ [AObj.list ((ws ++ [[113]]).map V.str)] = H5 at k5
  have l1 : (t.take a.toNat).length ≤ 80 := by rw [List.length_take]; omega
  have l2 : (t.take a.toNat).length + (t.drop a.toNat).length ≤ 80 := by rw [List.length_take, List.length_drop]; omega
  have l3 : (t.take a.toNat).length + (t.drop (a + 1).toNat).length ≤ 80 := by rw [List.length_take, List.length_drop]; omega
  refine s_asg ?_
  (repeat (first | ((with_reducible first | apply e_name | apply t_name); case h => (repeat (first | with_reducible exact hit | with_reducible assumption | (with_reducible apply miss; case h => with_unfolding_all rfl)))) | (with_reducible first | apply e_int | apply e_str | apply e_none | apply e_bool | apply e_bin | apply l1 | apply l2 | apply l0 | apply lc | apply e_sub | apply e_slice | apply e_list | apply e_tuple | apply e_cmp | apply e_and | apply e_not | apply e_or | apply e_neg | apply t_cmp | apply t_cmp2 | apply t_and | apply t_or | apply t_not | apply t_bool | apply t_sub | apply tru_bool | apply e_comp0 | apply e_comp1 | apply i_val | apply i_rng1 | apply i_rng2 | apply i_rev | apply b_add | apply b_sub | apply c_lt | apply c_le | apply c_gt | apply c_ge | apply c_eqi | apply c_nei | apply c_eqs | apply c_nes | apply c_eqb | apply c_neb | apply c_is | apply c_isnot | apply s_len | apply if_tt | apply if_ff | apply r_ret | apply s_asg | apply s_exp | apply s_ite | apply s_set | apply s_skip | apply sq_next | apply sq_ret | apply lq_next | apply lq_ret | apply rq_ret | apply i_str) | ((with_reducible first | apply e_call | apply t_call | apply e_glob | apply e_methS | apply e_srt); case h => with_reducible assumption) | (with_reducible apply b_div; case h => with_unfolding_all rfl)))
  refine b_to a0 ?_
  (repeat (first | ((with_reducible first | apply e_name | apply t_name); case h => (repeat (first | with_reducible exact hit | with_reducible assumption | (with_reducible apply miss; case h => with_unfolding_all rfl)))) | (with_reducible first | apply e_int | apply e_str | apply e_none | apply e_bool | apply e_bin | apply l1 | apply l2 | apply l0 | apply lc | apply e_sub | apply e_slice | apply e_list | apply e_tuple | apply e_cmp | apply e_and | apply e_not | apply e_or | apply e_neg | apply t_cmp | apply t_cmp2 | apply t_and | apply t_or | apply t_not | apply t_bool | apply t_sub | apply tru_bool | apply e_comp0 | apply e_comp1 | apply i_val | apply i_rng1 | apply i_rng2 | apply i_rev | apply b_add | apply b_sub | apply c_lt | apply c_le | apply c_gt | apply c_ge | apply c_eqi | apply c_nei | apply c_eqs | apply c_nes | apply c_eqb | apply c_neb | apply c_is | apply c_isnot | apply s_len | apply if_tt | apply if_ff | apply r_ret | apply s_asg | apply s_exp | apply s_ite | apply s_set | apply s_skip | apply sq_next | apply sq_ret | apply lq_next | apply lq_ret | apply rq_ret | apply i_str) | ((with_reducible first | apply e_call | apply t_call | apply e_glob | apply e_methS | apply e_srt); case h => with_reducible assumption) | (with_reducible apply b_div; case h => with_unfolding_all rfl)))
  refine b_cat (by rw [List.length_singleton]; unfold lid; omega) ?_
  (repeat (first | ((with_reducible first | apply e_name | apply t_name); case h => (repeat (first | with_reducible exact hit | with_reducible assumption | (with_reducible apply miss; case h => with_unfolding_all rfl)))) | (with_reducible first | apply e_int | apply e_str | apply e_none | apply e_bool | apply e_bin | apply l1 | apply l2 | apply l0 | apply lc | apply e_sub | apply e_slice | apply e_list | apply e_tuple | apply e_cmp | apply e_and | apply e_not | apply e_or | apply e_neg | apply t_cmp | apply t_cmp2 | apply t_and | apply t_or | apply t_not | apply t_bool | apply t_sub | apply tru_bool | apply e_comp0 | apply e_comp1 | apply i_val | apply i_rng1 | apply i_rng2 | apply i_rev | apply b_add | apply b_sub | apply c_lt | apply c_le | apply c_gt | apply c_ge | apply c_eqi | apply c_nei | apply c_eqs | apply c_nes | apply c_eqb | apply c_neb | apply c_is | apply c_isnot | apply s_len | apply if_tt | apply if_ff | apply r_ret | apply s_asg | apply s_exp | apply s_ite | apply s_set | apply s_skip | apply sq_next | apply sq_ret | apply lq_next | apply lq_ret | apply rq_ret | apply i_str) | ((with_reducible first | apply e_call | apply t_call | apply e_glob | apply e_methS | apply e_srt); case h => with_reducible assumption) | (with_reducible apply b_div; case h => with_unfolding_all rfl)))
  refine b_from a0 ?_
  refine b_cat (by rw [List.length_append, List.length_singleton]; unfold lid; omega) ?_
  (repeat (first | ((with_reducible first | apply e_name | apply t_name); case h => (repeat (first | with_reducible exact hit | with_reducible assumption | (with_reducible apply miss; case h => with_unfolding_all rfl)))) | (with_reducible first | apply e_int | apply e_str | apply e_none | apply e_bool | apply e_bin | apply l1 | apply l2 | apply l0 | apply lc | apply e_sub | apply e_slice | apply e_list | apply e_tuple | apply e_cmp | apply e_and | apply e_not | apply e_or | apply e_neg | apply t_cmp | apply t_cmp2 | apply t_and | apply t_or | apply t_not | apply t_bool | apply t_sub | apply tru_bool | apply e_comp0 | apply e_comp1 | apply i_val | apply i_rng1 | apply i_rng2 | apply i_rev | apply b_add | apply b_sub | apply c_lt | apply c_le | apply c_gt | apply c_ge | apply c_eqi | apply c_nei | apply c_eqs | apply c_nes | apply c_eqb | apply c_neb | apply c_is | apply c_isnot | apply s_len | apply if_tt | apply if_ff | apply r_ret | apply s_asg | apply s_exp | apply s_ite | apply s_set | apply s_skip | apply sq_next | apply sq_ret | apply lq_next | apply lq_ret | apply rq_ret | apply i_str) | ((with_reducible first | apply e_call | apply t_call | apply e_glob | apply e_methS | apply e_srt); case h => with_reducible assumption) | (with_reducible apply b_div; case h => with_unfolding_all rfl)))
  refine b_to a0 ?_
  (repeat (first | ((with_reducible first | apply e_name | apply t_name); case h => (repeat (first | with_reducible exact hit | with_reducible assumption | (with_reducible apply miss; case h => with_unfolding_all rfl)))) | (with_reducible first | apply e_int | apply e_str | apply e_none | apply e_bool | apply e_bin | apply l1 | apply l2 | apply l0 | apply lc | apply e_sub | apply e_slice | apply e_list | apply e_tuple | apply e_cmp | apply e_and | apply e_not | apply e_or | apply e_neg | apply t_cmp | apply t_cmp2 | apply t_and | apply t_or | apply t_not | apply t_bool | apply t_sub | apply tru_bool | apply e_comp0 | apply e_comp1 | apply i_val | apply i_rng1 | apply i_rng2 | apply i_rev | apply b_add | apply b_sub | apply c_lt | apply c_le | apply c_gt | apply c_ge | apply c_eqi | apply c_nei | apply c_eqs | apply c_nes | apply c_eqb | apply c_neb | apply c_is | apply c_isnot | apply s_len | apply if_tt | apply if_ff | apply r_ret | apply s_asg | apply s_exp | apply s_ite | apply s_set | apply s_skip | apply sq_next | apply sq_ret | apply lq_next | apply lq_ret | apply rq_ret | apply i_str) | ((with_reducible first | apply e_call | apply t_call | apply e_glob | apply e_methS | apply e_srt); case h => with_reducible assumption) | (with_reducible apply b_div; case h => with_unfolding_all rfl)))
  refine b_from (by omega) ?_
  refine b_cat (by unfold lid; omega) ?_
  (repeat (first | ((with_reducible first | apply e_name | apply t_name); case h => (repeat (first | with_reducible exact hit | with_reducible assumption | (with_reducible apply miss; case h => with_unfolding_all rfl)))) | (with_reducible first | apply e_int | apply e_str | apply e_none | apply e_bool | apply e_bin | apply l1 | apply l2 | apply l0 | apply lc | apply e_sub | apply e_slice | apply e_list | apply e_tuple | apply e_cmp | apply e_and | apply e_not | apply e_or | apply e_neg | apply t_cmp | apply t_cmp2 | apply t_and | apply t_or | apply t_not | apply t_bool | apply t_sub | apply tru_bool | apply e_comp0 | apply e_comp1 | apply i_val | apply i_rng1 | apply i_rng2 | apply i_rev | apply b_add | apply b_sub | apply c_lt | apply c_le | apply c_gt | apply c_ge | apply c_eqi | apply c_nei | apply c_eqs | apply c_nes | apply c_eqb | apply c_neb | apply c_is | apply c_isnot | apply s_len | apply if_tt | apply if_ff | apply r_ret | apply s_asg | apply s_exp | apply s_ite | apply s_set | apply s_skip | apply sq_next | apply sq_ret | apply lq_next | apply lq_ret | apply rq_ret | apply i_str) | ((with_reducible first | apply e_call | apply t_call | apply e_glob | apply e_methS | apply e_srt); case h => with_reducible assumption) | (with_reducible apply b_div; case h => with_unfolding_all rfl)))
  refine b_to a0 ?_
  (repeat (first | ((with_reducible first | apply e_name | apply t_name); case h => (repeat (first | with_reducible exact hit | with_reducible assumption | (with_reducible apply miss; case h => with_unfolding_all rfl)))) | (with_reducible first | apply e_int | apply e_str | apply e_none | apply e_bool | apply e_bin | apply l1 | apply l2 | apply l0 | apply lc | apply e_sub | apply e_slice | apply e_list | apply e_tuple | apply e_cmp | apply e_and | apply e_not | apply e_or | apply e_neg | apply t_cmp | apply t_cmp2 | apply t_and | apply t_or | apply t_not | apply t_bool | apply t_sub | apply tru_bool | apply e_comp0 | apply e_comp1 | apply i_val | apply i_rng1 | apply i_rng2 | apply i_rev | apply b_add | apply b_sub | apply c_lt | apply c_le | apply c_gt | apply c_ge | apply c_eqi | apply c_nei | apply c_eqs | apply c_nes | apply c_eqb | apply c_neb | apply c_is | apply c_isnot | apply s_len | apply if_tt | apply if_ff | apply r_ret | apply s_asg | apply s_exp | apply s_ite | apply s_set | apply s_skip | apply sq_next | apply sq_ret | apply lq_next | apply lq_ret | apply rq_ret | apply i_str) | ((with_reducible first | apply e_call | apply t_call | apply e_glob | apply e_methS | apply e_srt); case h => with_reducible assumption) | (with_reducible apply b_div; case h => with_unfolding_all rfl)))
  refine ⟨Nat.le_of_ble_eq_true rfl, ?_⟩
  refine r_ret ?_
  (repeat (first | ((with_reducible first | apply e_name | apply t_name); case h => (repeat (first | with_reducible exact hit | with_reducible assumption | (with_reducible apply miss; case h => with_unfolding_all rfl)))) | (with_reducible first | apply e_int | apply e_str | apply e_none | apply e_bool | apply e_bin | apply l1 | apply l2 | apply l0 | apply lc | apply e_sub | apply e_slice | apply e_list | apply e_tuple | apply e_cmp | apply e_and | apply e_not | apply e_or | apply e_neg | apply t_cmp | apply t_cmp2 | apply t_and | apply t_or | apply t_not | apply t_bool | apply t_sub | apply tru_bool | apply e_comp0 | apply e_comp1 | apply i_val | apply i_rng1 | apply i_rng2 | apply i_rev | apply b_add | apply b_sub | apply c_lt | apply c_le | apply c_gt | apply c_ge | apply c_eqi | apply c_nei | apply c_eqs | apply c_nes | apply c_eqb | apply c_neb | apply c_is | apply c_isnot | apply s_len | apply if_tt | apply if_ff | apply r_ret | apply s_asg | apply s_exp | apply s_ite | apply s_set | apply s_skip | apply sq_next | apply sq_ret | apply lq_next | apply lq_ret | apply rq_ret | apply i_str) | ((with_reducible first | apply e_call | apply t_call | apply e_glob | apply e_methS | apply e_srt); case h => with_reducible assumption) | (with_reducible apply b_div; case h => with_unfolding_all rfl)))
  refine b_to a0 ?_
  (repeat (first | ((with_reducible first | apply e_name | apply t_name); case h => (repeat (first | with_reducible exact hit | with_reducible assumption | (with_reducible apply miss; case h => with_unfolding_all rfl)))) | (with_reducible first | apply e_int | apply e_str | apply e_none | apply e_bool | apply e_bin | apply l1 | apply l2 | apply l0 | apply lc | apply e_sub | apply e_slice | apply e_list | apply e_tuple | apply e_cmp | apply e_and | apply e_not | apply e_or | apply e_neg | apply t_cmp | apply t_cmp2 | apply t_and | apply t_or | apply t_not | apply t_bool | apply t_sub | apply tru_bool | apply e_comp0 | apply e_comp1 | apply i_val | apply i_rng1 | apply i_rng2 | apply i_rev | apply b_add | apply b_sub | apply c_lt | apply c_le | apply c_gt | apply c_ge | apply c_eqi | apply c_nei | apply c_eqs | apply c_nes | apply c_eqb | apply c_neb | apply c_is | apply c_isnot | apply s_len | apply if_tt | apply if_ff | apply r_ret | apply s_asg | apply s_exp | apply s_ite | apply s_set | apply s_skip | apply sq_next | apply sq_ret | apply lq_next | apply lq_ret | apply rq_ret | apply i_str) | ((with_reducible first | apply e_call | apply t_call | apply e_glob | apply e_methS | apply e_srt); case h => with_reducible assumption) | (with_reducible apply b_div; case h => with_unfolding_all rfl)))
  refine b_cat (by rw [List.length_singleton]; unfold lid; omega) ?_
  (repeat (first | ((with_reducible first | apply e_name | apply t_name); case h => (repeat (first | with_reducible exact hit | with_reducible assumption | (with_reducible apply miss; case h => with_unfolding_all rfl)))) | (with_reducible first | apply e_int | apply e_str | apply e_none | apply e_bool | apply e_bin | apply l1 | apply l2 | apply l0 | apply lc | apply e_sub | apply e_slice | apply e_list | apply e_tuple | apply e_cmp | apply e_and | apply e_not | apply e_or | apply e_neg | apply t_cmp | apply t_cmp2 | apply t_and | apply t_or | apply t_not | apply t_bool | apply t_sub | apply tru_bool | apply e_comp0 | apply e_comp1 | apply i_val | apply i_rng1 | apply i_rng2 | apply i_rev | apply b_add | apply b_sub | apply c_lt | apply c_le | apply c_gt | apply c_ge | apply c_eqi | apply c_nei | apply c_eqs | apply c_nes | apply c_eqb | apply c_neb | apply c_is | apply c_isnot | apply s_len | apply if_tt | apply if_ff | apply r_ret | apply s_asg | apply s_exp | apply s_ite | apply s_set | apply s_skip | apply sq_next | apply sq_ret | apply lq_next | apply lq_ret | apply rq_ret | apply i_str) | ((with_reducible first | apply e_call | apply t_call | apply e_glob | apply e_methS | apply e_srt); case h => with_reducible assumption) | (with_reducible apply b_div; case h => with_unfolding_all rfl)))
  refine b_from (by omega) ?_
  refine b_cat (by rw [List.length_append, List.length_singleton]; unfold lid; omega) ?_
  (repeat (first | ((with_reducible first | apply e_name | apply t_name); case h => (repeat (first | with_reducible exact hit | with_reducible assumption | (with_reducible apply miss; case h => with_unfolding_all rfl)))) | (with_reducible first | apply e_int | apply e_str | apply e_none | apply e_bool | apply e_bin | apply l1 | apply l2 | apply l0 | apply lc | apply e_sub | apply e_slice | apply e_list | apply e_tuple | apply e_cmp | apply e_and | apply e_not | apply e_or | apply e_neg | apply t_cmp | apply t_cmp2 | apply t_and | apply t_or | apply t_not | apply t_bool | apply t_sub | apply tru_bool | apply e_comp0 | apply e_comp1 | apply i_val | apply i_rng1 | apply i_rng2 | apply i_rev | apply b_add | apply b_sub | apply c_lt | apply c_le | apply c_gt | apply c_ge | apply c_eqi | apply c_nei | apply c_eqs | apply c_nes | apply c_eqb | apply c_neb | apply c_is | apply c_isnot | apply s_len | apply if_tt | apply if_ff | apply r_ret | apply s_asg | apply s_exp | apply s_ite | apply s_set | apply s_skip | apply sq_next | apply sq_ret | apply lq_next | apply lq_ret | apply rq_ret | apply i_str) | ((with_reducible first | apply e_call | apply t_call | apply e_glob | apply e_methS | apply e_srt); case h => with_reducible assumption) | (with_reducible apply b_div; case h => with_unfolding_all rfl)))
  refine ⟨Nat.le_of_ble_eq_true rfl, ?_⟩
  refine b_lcat ((Keep.new _ _).get get_new) get_new (Nat.le_of_ble_eq_true rfl) ?_
  (repeat (first | ((with_reducible first | apply e_name | apply t_name); case h => (repeat (first | with_reducible exact hit | with_reducible assumption | (with_reducible apply miss; case h => with_unfolding_all rfl)))) | (with_reducible first | apply e_int | apply e_str | apply e_none | apply e_bool | apply e_bin | apply l1 | apply l2 | apply l0 | apply lc | apply e_sub | apply e_slice | apply e_list | apply e_tuple | apply e_cmp | apply e_and | apply e_not | apply e_or | apply e_neg | apply t_cmp | apply t_cmp2 | apply t_and | apply t_or | apply t_not | apply t_bool | apply t_sub | apply tru_bool | apply e_comp0 | apply e_comp1 | apply i_val | apply i_rng1 | apply i_rng2 | apply i_rev | apply b_add | apply b_sub | apply c_lt | apply c_le | apply c_gt | apply c_ge | apply c_eqi | apply c_nei | apply c_eqs | apply c_nes | apply c_eqb | apply c_neb | apply c_is | apply c_isnot | apply s_len | apply if_tt | apply if_ff | apply r_ret | apply s_asg | apply s_exp | apply s_ite | apply s_set | apply s_skip | apply sq_next | apply sq_ret | apply lq_next | apply lq_ret | apply rq_ret | apply i_str) | ((with_reducible first | apply e_call | apply t_call | apply e_glob | apply e_methS | apply e_srt); case h => with_reducible assumption) | (with_reducible apply b_div; case h => with_unfolding_all rfl)))
  refine b_mod (by decide) fun m m0 m1 => ?_
  have up : ∀ {u : Txt}, u.length ≤ 81 → TV 81 (.str u) := fun h => ⟨_, rfl, h⟩
  have all : ∀ v ∈ ([.str t, .str t, .str t, .str t, .str (t.take a.toNat ++ [c] ++ t.drop a.toNat), .str (t.take a.toNat ++ t.drop (a + 1).toNat), .str (t.take a.toNat)] ++ [.str (t.take a.toNat ++ [c] ++ t.drop (a + 1).toNat)] : List V), TV 81 v :=
    all_app (all_cons (up (by omega)) <| all_cons (up (by omega)) <| all_cons (up (by omega)) <| all_cons (up (by omega)) <| all_cons (up (by rw [List.length_append, List.length_append, List.length_singleton]; omega)) <| all_cons (up (by rw [List.length_append]; omega)) <| all_cons (up (by omega)) all_nil)
      (all_cons (up (by rw [List.length_append, List.length_append, List.length_singleton]; omega)) all_nil)
  refine st_any get_new m0 m1 fun v hv => ?_
  obtain ⟨u, rfl, hu⟩ := all v hv
  exact h u _ hu (k1.trans (k5.trans ((Keep.new _ _).trans ((Keep.new _ _).trans (Keep.new _ _)))))

theorem s_list {H : AHeap} {Q : VPost} {X : XPost} {n : Nat} {xs : List V} (h : H[n]? = some (.list xs)) (k : Q (.ref H.length) (H ++ [.list xs])) : spList [.ref n] H Q X := by
  unfold spList; dsimp only; rw [h]; exact k

end
end Mine
end
section
namespace Mine
open PySem
noncomputable def x_left_of : List Str := [(nm 245248756), (nm 30815173231)]
noncomputable def b_left_of : PS := (.seq (.ite (.cmp1 .NotEq (.slice (.name (nm 245248756)) .none (.call (.glob (nm 1815276)) (.cons (.name (nm 30815173231)) .nil))) (.name (nm 30815173231))) (.seq (.ret .none) .skip) .skip) (.seq (.ret (.slice (.name (nm 245248756)) (.call (.glob (nm 1815276)) (.cons (.name (nm 30815173231)) .nil)) .none)) .skip))
noncomputable def x_may_begin : List Str := [(nm 31081674743), (nm 245248756)]
noncomputable def b_may_begin_4 : PS := (.seq (.ret (.sub (.name (nm 27352724596)) (.call (.glob (nm 1815276)) (.cons (.name (nm 245248756)) .nil)))) .skip)
noncomputable def b_may_begin_l2 : PS := (.seq (.ite (.cmp1 .IsNot (.call (.glob (nm 452440421413612)) (.cons (.name (nm 211597303)) (.cons (.slice (.name (nm 245248756)) (.name (nm 27321202288)) .none) .nil))) .none) (.seq (.ret (.bool true)) .skip) .skip) .skip)
noncomputable def b_may_begin_l3 : PS := (.seq (.setItem (.name (nm 27352724596)) (.bin .Add (.name (nm 27321202288)) (.call (.glob (nm 1815276)) (.cons (.name (nm 211597303)) .nil))) (.bool true)) .skip)
noncomputable def b_may_begin_l1 : PS := (.seq (.ite (.sub (.name (nm 27352724596)) (.name (nm 27321202288))) (.seq (.for_ (.name (nm 211597303)) (.itVal (.call (.glob (nm 65732100365268983)) (.cons (.name (nm 1817583)) (.cons (.name (nm 245248756)) (.cons (.name (nm 27321202288)) .nil))))) b_may_begin_l3) (.seq (.for_ (.name (nm 211597303)) (.itVal (.name (nm 1817583))) b_may_begin_l2) .skip)) .skip) .skip)
noncomputable def b_may_begin_3 : PS := (.seq (.for_ (.name (nm 27321202288)) (.itRange1 (.call (.glob (nm 1815276)) (.cons (.name (nm 245248756)) .nil))) b_may_begin_l1) b_may_begin_4)
noncomputable def b_may_begin_2 : PS := (.seq (.setItem (.name (nm 27352724596)) (.int 0) (.bool true)) b_may_begin_3)
noncomputable def b_may_begin_1 : PS := (.seq (.assign (.name (nm 27352724596)) (.bin .Mult (.list (.cons (.bool false) .nil)) (.bin .Add (.call (.glob (nm 1815276)) (.cons (.name (nm 245248756)) .nil)) (.int 1)))) b_may_begin_2)
noncomputable def b_may_begin : PS := (.seq (.assign (.name (nm 1817583)) (.call (.glob (nm 443303916565603)) (.cons (.name (nm 31081674743)) .nil))) b_may_begin_1)
noncomputable def x_law_begins : List Str := [(nm 32292397438104173501782932616799), (nm 252284354985272115066587084383)]
noncomputable def b_law_begins_2 : PS := (.seq (.ret (.cmp1 .In (.call (.glob (nm 1815276)) (.cons (.name (nm 252284354985272115066587084383)) .nil)) (.name (nm 65750168258508383)))) .skip)
noncomputable def b_law_begins_l2_1 : PS := (.seq (.ite (.cmp1 .Eq (.slice (.name (nm 252284354985272115066587084383)) (.name (nm 938749362540635518559)) (.bin .Add (.name (nm 938749362540635518559)) (.call (.glob (nm 1815276)) (.cons (.name (nm 252284354984115859945804035679)) .nil)))) (.name (nm 252284354984115859945804035679))) (.seq (.expr (.meth (.name (nm 65750168258508383)) (nm 3465715398753) (.cons (.bin .Add (.name (nm 938749362540635518559)) (.call (.glob (nm 1815276)) (.cons (.name (nm 252284354984115859945804035679)) .nil))) .nil))) .skip) .skip) .skip)
noncomputable def b_law_begins_l2 : PS := (.seq (.ite (.cmp1 .Eq (.slice (.name (nm 252284354984115859945804035679)) .none (.bin .Sub (.call (.glob (nm 1815276)) (.cons (.name (nm 252284354985272115066587084383)) .nil)) (.name (nm 938749362540635518559)))) (.slice (.name (nm 252284354985272115066587084383)) (.name (nm 938749362540635518559)) .none)) (.seq (.ret (.bool true)) .skip) .skip) b_law_begins_l2_1)
noncomputable def b_law_begins_l1 : PS := (.seq (.ite (.cmp1 .In (.name (nm 938749362540635518559)) (.name (nm 65750168258508383))) (.seq (.for_ (.name (nm 252284354984115859945804035679)) (.itVal (.name (nm 32292397438104173501782932616799))) b_law_begins_l2) .skip) .skip) .skip)
noncomputable def b_law_begins_1 : PS := (.seq (.for_ (.name (nm 938749362540635518559)) (.itRange1 (.call (.glob (nm 1815276)) (.cons (.name (nm 252284354985272115066587084383)) .nil))) b_law_begins_l1) b_law_begins_2)
noncomputable def b_law_begins : PS := (.seq (.assign (.name (nm 65750168258508383)) (.list (.cons (.int 0) .nil))) b_law_begins_1)
noncomputable def x_law : List Str := [(nm 137989276334399845594719)]
noncomputable def b_law_5 : PS := (.seq (.ret (.cmp1 .Eq (.name (nm 118997990761571808736863)) (.name (nm 32292397438104173501782932616799)))) .skip)
noncomputable def b_law_l1_1 : PS := (.seq (.ite (.or (.not (.call (.glob (nm 938756632654307293673)) (.cons (.name (nm 930329895887808525919)) (.cons (.glob (nm 228325346)) .nil)))) (.cmp1 .NotEq (.name (nm 930329895887808525919)) (.call (.glob (nm 136790231785371214575199)) (.cons (.name (nm 32292397438104173501782932616799)) (.cons (.name (nm 57345570095265375)) .nil))))) (.seq (.ret (.bool false)) .skip) .skip) .skip)
noncomputable def b_law_l1 : PS := (.seq (.assign (.name (nm 930329895887808525919)) (.call (.glob (nm 7985901584913428717)) (.cons (.name (nm 118997990761571808736863)) (.cons (.name (nm 57345570095265375)) .nil)))) b_law_l1_1)
noncomputable def b_law_4 : PS := (.seq (.for_ (.name (nm 57345570095265375)) (.itVal (.bin .Add (.name (nm 7339670703038821983)) (.slice (.name (nm 7339670703038821983)) .none (.int 1)))) b_law_l1) b_law_5)
noncomputable def b_law_3 : PS := (.seq (.assign (.name (nm 118997990761571808736863)) (.call (.glob (nm 245167340)) (.cons (.name (nm 32292397438104173501782932616799)) .nil))) b_law_4)
noncomputable def b_law_2 : PS := (.seq (.assign (.name (nm 7339670703038821983)) (.list (.cons (.slice (.name (nm 252284354985272115066587084383)) .none (.bin .Mod (.call (.glob (nm 513532042442335)) (.cons (.name (nm 137989276334399845594719)) (.cons (.int 15) .nil))) (.bin .Add (.call (.glob (nm 1815276)) (.cons (.name (nm 252284354985272115066587084383)) .nil)) (.int 1)))) (.cons (.name (nm 252284354985272115066587084383)) (.cons (.slice (.name (nm 252284354985272115066587084383)) (.bin .Mod (.call (.glob (nm 513532042442335)) (.cons (.name (nm 137989276334399845594719)) (.cons (.int 15) .nil))) (.bin .Add (.call (.glob (nm 1815276)) (.cons (.name (nm 252284354985272115066587084383)) .nil)) (.int 1))) .none) .nil))))) b_law_3)
noncomputable def b_law_1 : PS := (.seq (.assign (.name (nm 252284354985272115066587084383)) (.call (.glob (nm 8426683116990002783)) (.cons (.name (nm 137989276334399845594719)) (.cons (.int 8) (.cons (.name (nm 32292397438104173501782932616799)) .nil))))) b_law_2)
noncomputable def b_law : PS := (.seq (.assign (.name (nm 32292397438104173501782932616799)) (.call (.glob (nm 1067958212234506171999)) (.cons (.name (nm 137989276334399845594719)) (.cons (.int 0) .nil)))) b_law_1)

/-! law 05: may a text be the beginning of a row of words -/

/-- the places that are reached from those ahead of i -/
noncomputable def Rch (ws : List Txt) (t : Txt) : Nat → Nat → Prop
  | 0, j => j = 0
  | i + 1, j => Rch ws t i j ∨ (Rch ws t i i ∧ ∃ w ∈ ws, (t.drop i).take w.length = w ∧ j = i + w.length)
/-- a word that begins with all that is left -/
noncomputable def Ends (ws : List Txt) (t : Txt) (i : Nat) : Prop := ∃ w ∈ ws, w.take (t.length - i) = t.drop i
noncomputable def Begs (ws : List Txt) (t : Txt) : Prop := (∃ i, i < t.length ∧ Rch ws t i i ∧ Ends ws t i) ∨ Rch ws t t.length t.length
theorem Rch.perm {ys ws : List Txt} {t : Txt} (h : ∀ w, w ∈ ys ↔ w ∈ ws) : ∀ i j, Rch ys t i j ↔ Rch ws t i j
  | 0, j => Iff.rfl
  | i + 1, j => by
    unfold Rch
    rw [Rch.perm h i j, Rch.perm h i i]
    simp only [h]
theorem Begs.perm {ys ws : List Txt} {t : Txt} (h : ∀ w, w ∈ ys ↔ w ∈ ws) : Begs ys t ↔ Begs ws t := by
  unfold Begs Ends
  simp only [Rch.perm h, h]

/-- a list of things of one kind -/
noncomputable def Ls {α : Type} (f : α → V) (H : AHeap) (n : Nat) (l : List α) : Prop := H[n]? = some (.list (l.map f))
theorem Ls.keep {α : Type} {f : α → V} {H H' : AHeap} {n : Nat} {l : List α} (h : Ls f H n l) (k : Keep H H') : Ls f H' n l := k.get h
theorem at_ls {α : Type} {f : α → V} {H : AHeap} {n : Nat} {l : List α} {k : Int} {m : Nat} {p : V → Prop} (h : Ls f H n l) (e : k = m) (hm : m < l.length) (hp : p (f l[m])) : subA (.ref n) (.int k) H p := by
  subst e
  refine b_at h (by omega) (by rw [List.length_map]; omega) ?_
  rw [List.getElem_map]; exact hp
theorem set_ls {α : Type} {f : α → V} {H : AHeap} {n : Nat} {l : List α} {k : Int} {m : Nat} {a : α} {p : AHeap → Prop} (hn : n ≠ 0) (h : Ls f H n l) (e : k = m) (hm : m < l.length) (hp : Ls f (H.set n (.list ((l.set m a).map f))) n (l.set m a) → p (H.set n (.list ((l.set m a).map f)))) : setItemA (.ref n) (.int k) (f a) H p := by
  subst e
  refine b_set hn h (by omega) (by rw [List.length_map]; omega) ?_
  rw [← List.map_set, show (m : Int).toNat = m from rfl]
  exact hp (by unfold Ls; rw [List.getElem?_set_self (lt_of_get h)])
theorem intsFrom_cons (a : Int) (n : Nat) : intsFrom a (n + 1) = a :: intsFrom (a + 1) n := by
  unfold intsFrom
  rw [List.range_succ_eq_map, List.map_cons, List.map_map]
  refine congr (congrArg _ (by omega)) (List.map_congr_left fun i _ => ?_)
  show a + ((i + 1 : Nat) : Int) = a + 1 + (i : Int)
  omega

section
variable {T : Tab}

noncomputable def spLeft : Spec := fun vs H Q _ => ∃ t u : Txt, vs = [.str t, .str u] ∧ Q (if t.take u.length = u then .str (t.drop u.length) else .none) H

theorem ct_left_of (h1 : Has T (nm 1815276) spLen) : Ct T x_left_of b_left_of spLeft := by
  refine ct2 fun vs H Q X h => ?_
  obtain ⟨t, u, rfl, h⟩ := h
  refine ⟨_, _, rfl, ?_⟩
  refine s_ite ?_
  (repeat (first | ((with_reducible first | apply e_name | apply t_name); case h => (repeat (first | with_reducible exact hit | with_reducible assumption | (with_reducible apply miss; case h => with_unfolding_all rfl)))) | (with_reducible first | apply e_int | apply e_str | apply e_none | apply e_bool | apply e_bin | apply l1 | apply l2 | apply l0 | apply lc | apply e_sub | apply e_slice | apply e_list | apply e_tuple | apply e_cmp | apply e_and | apply e_not | apply e_or | apply e_neg | apply t_cmp | apply t_cmp2 | apply t_and | apply t_or | apply t_not | apply t_bool | apply t_sub | apply tru_bool | apply e_comp0 | apply e_comp1 | apply i_val | apply i_rng1 | apply i_rng2 | apply i_rev | apply b_add | apply b_sub | apply c_lt | apply c_le | apply c_gt | apply c_ge | apply c_eqi | apply c_nei | apply c_eqs | apply c_nes | apply c_eqb | apply c_neb | apply c_is | apply c_isnot | apply s_len | apply if_tt | apply if_ff | apply r_ret | apply s_asg | apply s_exp | apply s_ite | apply s_set | apply s_skip | apply sq_next | apply sq_ret | apply lq_next | apply lq_ret | apply rq_ret | apply i_str) | ((with_reducible first | apply e_call | apply t_call | apply e_glob | apply e_methS | apply e_srt); case h => with_reducible assumption) | (with_reducible apply b_div; case h => with_unfolding_all rfl)))
  refine b_to (by omega) ?_
  (repeat (first | ((with_reducible first | apply e_name | apply t_name); case h => (repeat (first | with_reducible exact hit | with_reducible assumption | (with_reducible apply miss; case h => with_unfolding_all rfl)))) | (with_reducible first | apply e_int | apply e_str | apply e_none | apply e_bool | apply e_bin | apply l1 | apply l2 | apply l0 | apply lc | apply e_sub | apply e_slice | apply e_list | apply e_tuple | apply e_cmp | apply e_and | apply e_not | apply e_or | apply e_neg | apply t_cmp | apply t_cmp2 | apply t_and | apply t_or | apply t_not | apply t_bool | apply t_sub | apply tru_bool | apply e_comp0 | apply e_comp1 | apply i_val | apply i_rng1 | apply i_rng2 | apply i_rev | apply b_add | apply b_sub | apply c_lt | apply c_le | apply c_gt | apply c_ge | apply c_eqi | apply c_nei | apply c_eqs | apply c_nes | apply c_eqb | apply c_neb | apply c_is | apply c_isnot | apply s_len | apply if_tt | apply if_ff | apply r_ret | apply s_asg | apply s_exp | apply s_ite | apply s_set | apply s_skip | apply sq_next | apply sq_ret | apply lq_next | apply lq_ret | apply rq_ret | apply i_str) | ((with_reducible first | apply e_call | apply t_call | apply e_glob | apply e_methS | apply e_srt); case h => with_reducible assumption) | (with_reducible apply b_div; case h => with_unfolding_all rfl)))
  rw [show ((u.length : Nat) : Int).toNat = u.length from rfl]
  refine if_ndec (fun e => ?_) fun e => ?_
  · (repeat (first | ((with_reducible first | apply e_name | apply t_name); case h => (repeat (first | with_reducible exact hit | with_reducible assumption | (with_reducible apply miss; case h => with_unfolding_all rfl)))) | (with_reducible first | apply e_int | apply e_str | apply e_none | apply e_bool | apply e_bin | apply l1 | apply l2 | apply l0 | apply lc | apply e_sub | apply e_slice | apply e_list | apply e_tuple | apply e_cmp | apply e_and | apply e_not | apply e_or | apply e_neg | apply t_cmp | apply t_cmp2 | apply t_and | apply t_or | apply t_not | apply t_bool | apply t_sub | apply tru_bool | apply e_comp0 | apply e_comp1 | apply i_val | apply i_rng1 | apply i_rng2 | apply i_rev | apply b_add | apply b_sub | apply c_lt | apply c_le | apply c_gt | apply c_ge | apply c_eqi | apply c_nei | apply c_eqs | apply c_nes | apply c_eqb | apply c_neb | apply c_is | apply c_isnot | apply s_len | apply if_tt | apply if_ff | apply r_ret | apply s_asg | apply s_exp | apply s_ite | apply s_set | apply s_skip | apply sq_next | apply sq_ret | apply lq_next | apply lq_ret | apply rq_ret | apply i_str) | ((with_reducible first | apply e_call | apply t_call | apply e_glob | apply e_methS | apply e_srt); case h => with_reducible assumption) | (with_reducible apply b_div; case h => with_unfolding_all rfl)))
    rw [if_neg e] at h; exact h
  · (repeat (first | ((with_reducible first | apply e_name | apply t_name); case h => (repeat (first | with_reducible exact hit | with_reducible assumption | (with_reducible apply miss; case h => with_unfolding_all rfl)))) | (with_reducible first | apply e_int | apply e_str | apply e_none | apply e_bool | apply e_bin | apply l1 | apply l2 | apply l0 | apply lc | apply e_sub | apply e_slice | apply e_list | apply e_tuple | apply e_cmp | apply e_and | apply e_not | apply e_or | apply e_neg | apply t_cmp | apply t_cmp2 | apply t_and | apply t_or | apply t_not | apply t_bool | apply t_sub | apply tru_bool | apply e_comp0 | apply e_comp1 | apply i_val | apply i_rng1 | apply i_rng2 | apply i_rev | apply b_add | apply b_sub | apply c_lt | apply c_le | apply c_gt | apply c_ge | apply c_eqi | apply c_nei | apply c_eqs | apply c_nes | apply c_eqb | apply c_neb | apply c_is | apply c_isnot | apply s_len | apply if_tt | apply if_ff | apply r_ret | apply s_asg | apply s_exp | apply s_ite | apply s_set | apply s_skip | apply sq_next | apply sq_ret | apply lq_next | apply lq_ret | apply rq_ret | apply i_str) | ((with_reducible first | apply e_call | apply t_call | apply e_glob | apply e_methS | apply e_srt); case h => with_reducible assumption) | (with_reducible apply b_div; case h => with_unfolding_all rfl)))
    refine b_from (by omega) ?_
    rw [if_pos e] at h; exact h

noncomputable def spMay : Spec := fun vs H Q _ => ∃ (n : Nat) (t : Txt) (ws : List Txt), vs = [.ref n, .str t] ∧ n < H.length ∧ Ws H n ws ∧ Cd ws ∧ t.length ≤ 1000 ∧ (Begs ws t → ∀ H', Keep H H' → Q (.bool true) H') ∧ (¬ Begs ws t → ∀ H', Keep H H' → Q (.bool false) H')

theorem ct_may_begin (h1 : Has T (nm 1815276) spLen) (h2 : Has T (nm 443303916565603) spChecked) (h3 : Has T (nm 452440421413612) spLeft) (h4 : Has T (nm 65732100365268983) spWordsAt) : Ct T x_may_begin b_may_begin spMay := by
  refine ct2 fun vs H Q X h => ?_
  obtain ⟨n, t, ws, rfl, hnl, hn, hc, htl, yes, no⟩ := h
  refine ⟨_, _, rfl, ?_⟩
  refine s_asg ?_
  (repeat (first | ((with_reducible first | apply e_name | apply t_name); case h => (repeat (first | with_reducible exact hit | with_reducible assumption | (with_reducible apply miss; case h => with_unfolding_all rfl)))) | (with_reducible first | apply e_int | apply e_str | apply e_none | apply e_bool | apply e_bin | apply l1 | apply l2 | apply l0 | apply lc | apply e_sub | apply e_slice | apply e_list | apply e_tuple | apply e_cmp | apply e_and | apply e_not | apply e_or | apply e_neg | apply t_cmp | apply t_cmp2 | apply t_and | apply t_or | apply t_not | apply t_bool | apply t_sub | apply tru_bool | apply e_comp0 | apply e_comp1 | apply i_val | apply i_rng1 | apply i_rng2 | apply i_rev | apply b_add | apply b_sub | apply c_lt | apply c_le | apply c_gt | apply c_ge | apply c_eqi | apply c_nei | apply c_eqs | apply c_nes | apply c_eqb | apply c_neb | apply c_is | apply c_isnot | apply s_len | apply if_tt | apply if_ff | apply r_ret | apply s_asg | apply s_exp | apply s_ite | apply s_set | apply s_skip | apply sq_next | apply sq_ret | apply lq_next | apply lq_ret | apply rq_ret | apply i_str) | ((with_reducible first | apply e_call | apply t_call | apply e_glob | apply e_methS | apply e_srt); case h => with_reducible assumption) | (with_reducible apply b_div; case h => with_unfolding_all rfl)))
  refine ⟨n, ws, rfl, hnl, hn, hc, by omega, fun ys p H1 hp hs hpl hy k1 => ?_⟩
  have hmem : ∀ w, w ∈ ys ↔ w ∈ ws := fun w => hp.mem_iff
  have hyl : ys.length ≤ 12 := by rw [hp.length_eq]; exact hc.le
  have hpos : ∀ w ∈ ys, 1 ≤ w.length := fun w hw => (hc.wd w ((hmem w).mp hw)).pos
  rw [← Begs.perm hmem] at yes no
  clear hs hp
  refine s_asg ?_
  (repeat (first | ((with_reducible first | apply e_name | apply t_name); case h => (repeat (first | with_reducible exact hit | with_reducible assumption | (with_reducible apply miss; case h => with_unfolding_all rfl)))) | (with_reducible first | apply e_int | apply e_str | apply e_none | apply e_bool | apply e_bin | apply l1 | apply l2 | apply l0 | apply lc | apply e_sub | apply e_slice | apply e_list | apply e_tuple | apply e_cmp | apply e_and | apply e_not | apply e_or | apply e_neg | apply t_cmp | apply t_cmp2 | apply t_and | apply t_or | apply t_not | apply t_bool | apply t_sub | apply tru_bool | apply e_comp0 | apply e_comp1 | apply i_val | apply i_rng1 | apply i_rng2 | apply i_rev | apply b_add | apply b_sub | apply c_lt | apply c_le | apply c_gt | apply c_ge | apply c_eqi | apply c_nei | apply c_eqs | apply c_nes | apply c_eqb | apply c_neb | apply c_is | apply c_isnot | apply s_len | apply if_tt | apply if_ff | apply r_ret | apply s_asg | apply s_exp | apply s_ite | apply s_set | apply s_skip | apply sq_next | apply sq_ret | apply lq_next | apply lq_ret | apply rq_ret | apply i_str) | ((with_reducible first | apply e_call | apply t_call | apply e_glob | apply e_methS | apply e_srt); case h => with_reducible assumption) | (with_reducible apply b_div; case h => with_unfolding_all rfl)))
  refine ⟨Nat.le_of_ble_eq_true rfl, ?_⟩
  (repeat (first | ((with_reducible first | apply e_name | apply t_name); case h => (repeat (first | with_reducible exact hit | with_reducible assumption | (with_reducible apply miss; case h => with_unfolding_all rfl)))) | (with_reducible first | apply e_int | apply e_str | apply e_none | apply e_bool | apply e_bin | apply l1 | apply l2 | apply l0 | apply lc | apply e_sub | apply e_slice | apply e_list | apply e_tuple | apply e_cmp | apply e_and | apply e_not | apply e_or | apply e_neg | apply t_cmp | apply t_cmp2 | apply t_and | apply t_or | apply t_not | apply t_bool | apply t_sub | apply tru_bool | apply e_comp0 | apply e_comp1 | apply i_val | apply i_rng1 | apply i_rng2 | apply i_rev | apply b_add | apply b_sub | apply c_lt | apply c_le | apply c_gt | apply c_ge | apply c_eqi | apply c_nei | apply c_eqs | apply c_nes | apply c_eqb | apply c_neb | apply c_is | apply c_isnot | apply s_len | apply if_tt | apply if_ff | apply r_ret | apply s_asg | apply s_exp | apply s_ite | apply s_set | apply s_skip | apply sq_next | apply sq_ret | apply lq_next | apply lq_ret | apply rq_ret | apply i_str) | ((with_reducible first | apply e_call | apply t_call | apply e_glob | apply e_methS | apply e_srt); case h => with_reducible assumption) | (with_reducible apply b_div; case h => with_unfolding_all rfl)))
  refine b_rep get_new (by omega) (by unfold lid; omega) ?_
  have e0 : List.replicate ((t.length : Int) + 1).toNat (V.bool false) = (List.replicate (t.length + 1) false).map .bool := by rw [List.map_replicate]; rfl
  rw [e0]
  have k2 : Keep H1 (H1 ++ [AObj.list [V.bool false]]) := Keep.new _ _
  generalize H1 ++ [AObj.list [V.bool false]] = H2 at k2
  have hH := (k1.trans k2).le
  have hg : Ls V.bool (H2 ++ [AObj.list ((List.replicate (t.length + 1) false).map .bool)]) H2.length (List.replicate (t.length + 1) false) := get_new
  refine s_set ?_
  (repeat (first | ((with_reducible first | apply e_name | apply t_name); case h => (repeat (first | with_reducible exact hit | with_reducible assumption | (with_reducible apply miss; case h => with_unfolding_all rfl)))) | (with_reducible first | apply e_int | apply e_str | apply e_none | apply e_bool | apply e_bin | apply l1 | apply l2 | apply l0 | apply lc | apply e_sub | apply e_slice | apply e_list | apply e_tuple | apply e_cmp | apply e_and | apply e_not | apply e_or | apply e_neg | apply t_cmp | apply t_cmp2 | apply t_and | apply t_or | apply t_not | apply t_bool | apply t_sub | apply tru_bool | apply e_comp0 | apply e_comp1 | apply i_val | apply i_rng1 | apply i_rng2 | apply i_rev | apply b_add | apply b_sub | apply c_lt | apply c_le | apply c_gt | apply c_ge | apply c_eqi | apply c_nei | apply c_eqs | apply c_nes | apply c_eqb | apply c_neb | apply c_is | apply c_isnot | apply s_len | apply if_tt | apply if_ff | apply r_ret | apply s_asg | apply s_exp | apply s_ite | apply s_set | apply s_skip | apply sq_next | apply sq_ret | apply lq_next | apply lq_ret | apply rq_ret | apply i_str) | ((with_reducible first | apply e_call | apply t_call | apply e_glob | apply e_methS | apply e_srt); case h => with_reducible assumption) | (with_reducible apply b_div; case h => with_unfolding_all rfl)))
  refine set_ls (f := V.bool) (m := 0) (by omega) hg rfl (by rw [List.length_replicate]; omega) fun hg1 => ?_
  refine r_for ?_
  (repeat (first | ((with_reducible first | apply e_name | apply t_name); case h => (repeat (first | with_reducible exact hit | with_reducible assumption | (with_reducible apply miss; case h => with_unfolding_all rfl)))) | (with_reducible first | apply e_int | apply e_str | apply e_none | apply e_bool | apply e_bin | apply l1 | apply l2 | apply l0 | apply lc | apply e_sub | apply e_slice | apply e_list | apply e_tuple | apply e_cmp | apply e_and | apply e_not | apply e_or | apply e_neg | apply t_cmp | apply t_cmp2 | apply t_and | apply t_or | apply t_not | apply t_bool | apply t_sub | apply tru_bool | apply e_comp0 | apply e_comp1 | apply i_val | apply i_rng1 | apply i_rng2 | apply i_rev | apply b_add | apply b_sub | apply c_lt | apply c_le | apply c_gt | apply c_ge | apply c_eqi | apply c_nei | apply c_eqs | apply c_nes | apply c_eqb | apply c_neb | apply c_is | apply c_isnot | apply s_len | apply if_tt | apply if_ff | apply r_ret | apply s_asg | apply s_exp | apply s_ite | apply s_set | apply s_skip | apply sq_next | apply sq_ret | apply lq_next | apply lq_ret | apply rq_ret | apply i_str) | ((with_reducible first | apply e_call | apply t_call | apply e_glob | apply e_methS | apply e_srt); case h => with_reducible assumption) | (with_reducible apply b_div; case h => with_unfolding_all rfl)))
  refine rng1 (by omega) (by unfold lid; omega) ?_
  have fresh : ∀ {H' : AHeap}, Keep H2 H' → Keep H H' := fun k => k1.trans (k2.trans k)
  refine for_inv (fun xs σ H' => Keep H2 H' ∧ (∃ (i m : Nat) (l : List Bool), i + m = t.length ∧ xs = (intsFrom i m).map (fun i => .one (.int i)) ∧ Ls V.bool H' H2.length l ∧ l.length = t.length + 1 ∧ (∀ (j : Nat) (hj : j < l.length), l[j] = true ↔ Rch ys t i j) ∧ ∀ j, j < i → Rch ys t j j → ¬ Ends ys t j) ∧ (σ (nm 27352724596) = some (.ref H2.length) ∧ σ (nm 1817583) = some (.ref p) ∧ σ (nm 245248756) = some (.str t))) ?_ ?_ ⟨(Keep.new _ _).set (Nat.le_refl _), ⟨0, t.length, _, by omega, rfl, hg1, by rw [List.length_set, List.length_replicate], ?_, by omega⟩, ⟨by (repeat (first | with_reducible exact hit | with_reducible assumption | (with_reducible apply miss; case h => with_unfolding_all rfl))), by (repeat (first | with_reducible exact hit | with_reducible assumption | (with_reducible apply miss; case h => with_unfolding_all rfl))), by (repeat (first | with_reducible exact hit | with_reducible assumption | (with_reducible apply miss; case h => with_unfolding_all rfl)))⟩⟩
  · rintro x xs σ H' ⟨kp, ⟨i, m, l, him, ex, hl, hll, hr, hno⟩, ⟨e1, e2, e3⟩⟩
    cases m with
    | zero => cases ex
    | succ m =>
      rw [intsFrom_cons, List.map_cons] at ex
      obtain ⟨rfl, rfl⟩ := List.cons.inj ex
      refine ⟨trivial, _, rfl, fun W hW => ?_⟩
      refine s_ite ?_
      (repeat (first | ((with_reducible first | apply e_name | apply t_name); case h => (repeat (first | with_reducible exact hit | with_reducible assumption | (with_reducible apply miss; case h => with_unfolding_all rfl)))) | (with_reducible first | apply e_int | apply e_str | apply e_none | apply e_bool | apply e_bin | apply l1 | apply l2 | apply l0 | apply lc | apply e_sub | apply e_slice | apply e_list | apply e_tuple | apply e_cmp | apply e_and | apply e_not | apply e_or | apply e_neg | apply t_cmp | apply t_cmp2 | apply t_and | apply t_or | apply t_not | apply t_bool | apply t_sub | apply tru_bool | apply e_comp0 | apply e_comp1 | apply i_val | apply i_rng1 | apply i_rng2 | apply i_rev | apply b_add | apply b_sub | apply c_lt | apply c_le | apply c_gt | apply c_ge | apply c_eqi | apply c_nei | apply c_eqs | apply c_nes | apply c_eqb | apply c_neb | apply c_is | apply c_isnot | apply s_len | apply if_tt | apply if_ff | apply r_ret | apply s_asg | apply s_exp | apply s_ite | apply s_set | apply s_skip | apply sq_next | apply sq_ret | apply lq_next | apply lq_ret | apply rq_ret | apply i_str) | ((with_reducible first | apply e_call | apply t_call | apply e_glob | apply e_methS | apply e_srt); case h => with_reducible assumption) | (with_reducible apply b_div; case h => with_unfolding_all rfl)))
      have hi : i < l.length := by omega
      refine at_ls hl rfl hi ?_
      (repeat (first | ((with_reducible first | apply e_name | apply t_name); case h => (repeat (first | with_reducible exact hit | with_reducible assumption | (with_reducible apply miss; case h => with_unfolding_all rfl)))) | (with_reducible first | apply e_int | apply e_str | apply e_none | apply e_bool | apply e_bin | apply l1 | apply l2 | apply l0 | apply lc | apply e_sub | apply e_slice | apply e_list | apply e_tuple | apply e_cmp | apply e_and | apply e_not | apply e_or | apply e_neg | apply t_cmp | apply t_cmp2 | apply t_and | apply t_or | apply t_not | apply t_bool | apply t_sub | apply tru_bool | apply e_comp0 | apply e_comp1 | apply i_val | apply i_rng1 | apply i_rng2 | apply i_rev | apply b_add | apply b_sub | apply c_lt | apply c_le | apply c_gt | apply c_ge | apply c_eqi | apply c_nei | apply c_eqs | apply c_nes | apply c_eqb | apply c_neb | apply c_is | apply c_isnot | apply s_len | apply if_tt | apply if_ff | apply r_ret | apply s_asg | apply s_exp | apply s_ite | apply s_set | apply s_skip | apply sq_next | apply sq_ret | apply lq_next | apply lq_ret | apply rq_ret | apply i_str) | ((with_reducible first | apply e_call | apply t_call | apply e_glob | apply e_methS | apply e_srt); case h => with_reducible assumption) | (with_reducible apply b_div; case h => with_unfolding_all rfl)))
      have go : ∀ {σ' : Sg} {H'' : AHeap} {l' : List Bool}, Keep H2 H'' → Ls V.bool H'' H2.length l' → l'.length = t.length + 1 → (∀ (j : Nat) (hj : j < l'.length), l'[j] = true ↔ Rch ys t (i + 1) j) → (Rch ys t i i → ¬ Ends ys t i) → σ' (nm 27352724596) = some (.ref H2.length) → σ' (nm 1817583) = some (.ref p) → σ' (nm 245248756) = some (.str t) → W σ' H'' := fun {σ' H'' l'} kp' a b c d f1 f2 f3 =>
        hW _ _ ⟨kp', ⟨i + 1, m, l', by omega, rfl, a, b, c, fun j hj hj' => by
          rcases Nat.lt_succ_iff_lt_or_eq.mp hj with q | q
          · exact hno j q hj'
          · rw [q] at hj' ⊢; exact d hj'⟩, ⟨f1, f2, f3⟩⟩
      cases hli : l[i] with
      | false =>
        (repeat (first | ((with_reducible first | apply e_name | apply t_name); case h => (repeat (first | with_reducible exact hit | with_reducible assumption | (with_reducible apply miss; case h => with_unfolding_all rfl)))) | (with_reducible first | apply e_int | apply e_str | apply e_none | apply e_bool | apply e_bin | apply l1 | apply l2 | apply l0 | apply lc | apply e_sub | apply e_slice | apply e_list | apply e_tuple | apply e_cmp | apply e_and | apply e_not | apply e_or | apply e_neg | apply t_cmp | apply t_cmp2 | apply t_and | apply t_or | apply t_not | apply t_bool | apply t_sub | apply tru_bool | apply e_comp0 | apply e_comp1 | apply i_val | apply i_rng1 | apply i_rng2 | apply i_rev | apply b_add | apply b_sub | apply c_lt | apply c_le | apply c_gt | apply c_ge | apply c_eqi | apply c_nei | apply c_eqs | apply c_nes | apply c_eqb | apply c_neb | apply c_is | apply c_isnot | apply s_len | apply if_tt | apply if_ff | apply r_ret | apply s_asg | apply s_exp | apply s_ite | apply s_set | apply s_skip | apply sq_next | apply sq_ret | apply lq_next | apply lq_ret | apply rq_ret | apply i_str) | ((with_reducible first | apply e_call | apply t_call | apply e_glob | apply e_methS | apply e_srt); case h => with_reducible assumption) | (with_reducible apply b_div; case h => with_unfolding_all rfl)))
        have hnr : ¬ Rch ys t i i := fun q => by rw [(hr i hi).mpr q] at hli; cases hli
        refine go kp hl hll (fun j hj => ?_) (fun q => absurd q hnr) (by (repeat (first | with_reducible exact hit | with_reducible assumption | (with_reducible apply miss; case h => with_unfolding_all rfl)))) (by (repeat (first | with_reducible exact hit | with_reducible assumption | (with_reducible apply miss; case h => with_unfolding_all rfl)))) (by (repeat (first | with_reducible exact hit | with_reducible assumption | (with_reducible apply miss; case h => with_unfolding_all rfl))))
        rw [hr j hj]
        exact ⟨.inl, fun q => q.elim id fun q => absurd q.1 hnr⟩
      | true =>
        have hri : Rch ys t i i := (hr i hi).mp hli
        (repeat (first | ((with_reducible first | apply e_name | apply t_name); case h => (repeat (first | with_reducible exact hit | with_reducible assumption | (with_reducible apply miss; case h => with_unfolding_all rfl)))) | (with_reducible first | apply e_int | apply e_str | apply e_none | apply e_bool | apply e_bin | apply l1 | apply l2 | apply l0 | apply lc | apply e_sub | apply e_slice | apply e_list | apply e_tuple | apply e_cmp | apply e_and | apply e_not | apply e_or | apply e_neg | apply t_cmp | apply t_cmp2 | apply t_and | apply t_or | apply t_not | apply t_bool | apply t_sub | apply tru_bool | apply e_comp0 | apply e_comp1 | apply i_val | apply i_rng1 | apply i_rng2 | apply i_rev | apply b_add | apply b_sub | apply c_lt | apply c_le | apply c_gt | apply c_ge | apply c_eqi | apply c_nei | apply c_eqs | apply c_nes | apply c_eqb | apply c_neb | apply c_is | apply c_isnot | apply s_len | apply if_tt | apply if_ff | apply r_ret | apply s_asg | apply s_exp | apply s_ite | apply s_set | apply s_skip | apply sq_next | apply sq_ret | apply lq_next | apply lq_ret | apply rq_ret | apply i_str) | ((with_reducible first | apply e_call | apply t_call | apply e_glob | apply e_methS | apply e_srt); case h => with_reducible assumption) | (with_reducible apply b_div; case h => with_unfolding_all rfl)))
        refine r_for ?_
        (repeat (first | ((with_reducible first | apply e_name | apply t_name); case h => (repeat (first | with_reducible exact hit | with_reducible assumption | (with_reducible apply miss; case h => with_unfolding_all rfl)))) | (with_reducible first | apply e_int | apply e_str | apply e_none | apply e_bool | apply e_bin | apply l1 | apply l2 | apply l0 | apply lc | apply e_sub | apply e_slice | apply e_list | apply e_tuple | apply e_cmp | apply e_and | apply e_not | apply e_or | apply e_neg | apply t_cmp | apply t_cmp2 | apply t_and | apply t_or | apply t_not | apply t_bool | apply t_sub | apply tru_bool | apply e_comp0 | apply e_comp1 | apply i_val | apply i_rng1 | apply i_rng2 | apply i_rev | apply b_add | apply b_sub | apply c_lt | apply c_le | apply c_gt | apply c_ge | apply c_eqi | apply c_nei | apply c_eqs | apply c_nes | apply c_eqb | apply c_neb | apply c_is | apply c_isnot | apply s_len | apply if_tt | apply if_ff | apply r_ret | apply s_asg | apply s_exp | apply s_ite | apply s_set | apply s_skip | apply sq_next | apply sq_ret | apply lq_next | apply lq_ret | apply rq_ret | apply i_str) | ((with_reducible first | apply e_call | apply t_call | apply e_glob | apply e_methS | apply e_srt); case h => with_reducible assumption) | (with_reducible apply b_div; case h => with_unfolding_all rfl)))
        refine ⟨p, t, i, ys, rfl, (hy.keep k2).keep kp, by omega, by omega, fun zs p2 H3 hz hzs hp2 hz2 k3 => ?_⟩
        have hzm : ∀ w, w ∈ zs ↔ (w ∈ ys ∧ (t.drop i).take w.length = w) := fun w => by
          rw [hz.mem_iff, List.mem_filter, decide_eq_true_eq]; rfl
        clear hz hzs
        refine i_list hz2 ?_
        have hne : p2 ≠ H2.length := by have := lt_of_get hl; omega
        refine for_inv (fun xs σ H' => Keep H2 H' ∧ Ws H' p2 zs ∧ (∃ us rs, zs = us ++ rs ∧ xs = rs.map (fun w => .one (.str w)) ∧ ∃ l, Ls V.bool H' H2.length l ∧ l.length = t.length + 1 ∧ ∀ (j : Nat) (hj : j < l.length), l[j] = true ↔ (Rch ys t i j ∨ ∃ w ∈ us, j = i + w.length)) ∧ (σ (nm 27352724596) = some (.ref H2.length) ∧ σ (nm 1817583) = some (.ref p) ∧ σ (nm 245248756) = some (.str t) ∧ σ (nm 27321202288) = some (.int i))) ?_ ?_
          ⟨kp.trans k3, hz2, ⟨[], zs, rfl, List.map_map, l, hl.keep k3, hll, fun j hj => by rw [hr j hj]; simp⟩, ⟨by (repeat (first | with_reducible exact hit | with_reducible assumption | (with_reducible apply miss; case h => with_unfolding_all rfl))), by (repeat (first | with_reducible exact hit | with_reducible assumption | (with_reducible apply miss; case h => with_unfolding_all rfl))), by (repeat (first | with_reducible exact hit | with_reducible assumption | (with_reducible apply miss; case h => with_unfolding_all rfl))), by (repeat (first | with_reducible exact hit | with_reducible assumption | (with_reducible apply miss; case h => with_unfolding_all rfl)))⟩⟩
        · rintro x xs σ H' ⟨kp, hz2, ⟨us, rs, e, ex, l, hl, hll, hr⟩, ⟨e1, e2, e3, e4⟩⟩
          cases rs with
          | nil => cases ex
          | cons w rs =>
            obtain ⟨rfl, rfl⟩ := List.cons.inj ex
            have hw := (hzm w).mp (by rw [e]; simp)
            have hwl : i + w.length ≤ t.length := by have := congrArg List.length hw.2; rw [List.length_take, List.length_drop] at this; omega
            refine ⟨hz2, _, rfl, fun W hW => ?_⟩
            refine s_set ?_
            (repeat (first | ((with_reducible first | apply e_name | apply t_name); case h => (repeat (first | with_reducible exact hit | with_reducible assumption | (with_reducible apply miss; case h => with_unfolding_all rfl)))) | (with_reducible first | apply e_int | apply e_str | apply e_none | apply e_bool | apply e_bin | apply l1 | apply l2 | apply l0 | apply lc | apply e_sub | apply e_slice | apply e_list | apply e_tuple | apply e_cmp | apply e_and | apply e_not | apply e_or | apply e_neg | apply t_cmp | apply t_cmp2 | apply t_and | apply t_or | apply t_not | apply t_bool | apply t_sub | apply tru_bool | apply e_comp0 | apply e_comp1 | apply i_val | apply i_rng1 | apply i_rng2 | apply i_rev | apply b_add | apply b_sub | apply c_lt | apply c_le | apply c_gt | apply c_ge | apply c_eqi | apply c_nei | apply c_eqs | apply c_nes | apply c_eqb | apply c_neb | apply c_is | apply c_isnot | apply s_len | apply if_tt | apply if_ff | apply r_ret | apply s_asg | apply s_exp | apply s_ite | apply s_set | apply s_skip | apply sq_next | apply sq_ret | apply lq_next | apply lq_ret | apply rq_ret | apply i_str) | ((with_reducible first | apply e_call | apply t_call | apply e_glob | apply e_methS | apply e_srt); case h => with_reducible assumption) | (with_reducible apply b_div; case h => with_unfolding_all rfl)))
            refine set_ls (f := V.bool) (m := i + w.length) (by omega) hl (by omega) (by omega) fun hl' => ?_
            (repeat (first | ((with_reducible first | apply e_name | apply t_name); case h => (repeat (first | with_reducible exact hit | with_reducible assumption | (with_reducible apply miss; case h => with_unfolding_all rfl)))) | (with_reducible first | apply e_int | apply e_str | apply e_none | apply e_bool | apply e_bin | apply l1 | apply l2 | apply l0 | apply lc | apply e_sub | apply e_slice | apply e_list | apply e_tuple | apply e_cmp | apply e_and | apply e_not | apply e_or | apply e_neg | apply t_cmp | apply t_cmp2 | apply t_and | apply t_or | apply t_not | apply t_bool | apply t_sub | apply tru_bool | apply e_comp0 | apply e_comp1 | apply i_val | apply i_rng1 | apply i_rng2 | apply i_rev | apply b_add | apply b_sub | apply c_lt | apply c_le | apply c_gt | apply c_ge | apply c_eqi | apply c_nei | apply c_eqs | apply c_nes | apply c_eqb | apply c_neb | apply c_is | apply c_isnot | apply s_len | apply if_tt | apply if_ff | apply r_ret | apply s_asg | apply s_exp | apply s_ite | apply s_set | apply s_skip | apply sq_next | apply sq_ret | apply lq_next | apply lq_ret | apply rq_ret | apply i_str) | ((with_reducible first | apply e_call | apply t_call | apply e_glob | apply e_methS | apply e_srt); case h => with_reducible assumption) | (with_reducible apply b_div; case h => with_unfolding_all rfl)))
            refine hW _ _ ⟨kp.set (Nat.le_refl _), (List.getElem?_set_ne (Ne.symm hne)).trans hz2, ⟨us ++ [w], rs, by rw [e, List.append_assoc]; rfl, rfl, _, hl', by rw [List.length_set]; exact hll, fun j hj => ?_⟩, ⟨by (repeat (first | with_reducible exact hit | with_reducible assumption | (with_reducible apply miss; case h => with_unfolding_all rfl))), by (repeat (first | with_reducible exact hit | with_reducible assumption | (with_reducible apply miss; case h => with_unfolding_all rfl))), by (repeat (first | with_reducible exact hit | with_reducible assumption | (with_reducible apply miss; case h => with_unfolding_all rfl))), by (repeat (first | with_reducible exact hit | with_reducible assumption | (with_reducible apply miss; case h => with_unfolding_all rfl)))⟩⟩
            rw [List.length_set] at hj
            rw [List.getElem_set]
            by_cases q : i + w.length = j
            · rw [if_pos q]; exact ⟨fun _ => .inr ⟨w, by simp, q.symm⟩, fun _ => rfl⟩
            · rw [if_neg q, hr j hj]
              refine or_congr Iff.rfl ⟨fun ⟨u, hu, e⟩ => ⟨u, List.mem_append_left _ hu, e⟩, fun ⟨u, hu, e⟩ => ?_⟩
              rcases List.mem_append.mp hu with hu | hu
              · exact ⟨u, hu, e⟩
              · rw [List.mem_singleton.mp hu] at e; exact absurd e.symm q
        · rintro σ H' ⟨kp, hz2, ⟨us, rs, e, ex, l, hl, hll, hr⟩, ⟨e1, e2, e3, e4⟩⟩
          refine ⟨hz2, ?_⟩
          cases rs with
          | cons _ _ => cases ex
          | nil =>
            rw [List.append_nil] at e
            subst e
            have hr' : ∀ (j : Nat) (hj : j < l.length), l[j] = true ↔ Rch ys t (i + 1) j := fun j hj => by
              rw [hr j hj]
              refine or_congr Iff.rfl ⟨fun ⟨w, hw, e⟩ => ⟨hri, w, ((hzm w).mp hw).1, ((hzm w).mp hw).2, e⟩, fun ⟨_, w, hw, e1, e2⟩ => ⟨w, (hzm w).mpr ⟨hw, e1⟩, e2⟩⟩
            refine r_for ?_
            (repeat (first | ((with_reducible first | apply e_name | apply t_name); case h => (repeat (first | with_reducible exact hit | with_reducible assumption | (with_reducible apply miss; case h => with_unfolding_all rfl)))) | (with_reducible first | apply e_int | apply e_str | apply e_none | apply e_bool | apply e_bin | apply l1 | apply l2 | apply l0 | apply lc | apply e_sub | apply e_slice | apply e_list | apply e_tuple | apply e_cmp | apply e_and | apply e_not | apply e_or | apply e_neg | apply t_cmp | apply t_cmp2 | apply t_and | apply t_or | apply t_not | apply t_bool | apply t_sub | apply tru_bool | apply e_comp0 | apply e_comp1 | apply i_val | apply i_rng1 | apply i_rng2 | apply i_rev | apply b_add | apply b_sub | apply c_lt | apply c_le | apply c_gt | apply c_ge | apply c_eqi | apply c_nei | apply c_eqs | apply c_nes | apply c_eqb | apply c_neb | apply c_is | apply c_isnot | apply s_len | apply if_tt | apply if_ff | apply r_ret | apply s_asg | apply s_exp | apply s_ite | apply s_set | apply s_skip | apply sq_next | apply sq_ret | apply lq_next | apply lq_ret | apply rq_ret | apply i_str) | ((with_reducible first | apply e_call | apply t_call | apply e_glob | apply e_methS | apply e_srt); case h => with_reducible assumption) | (with_reducible apply b_div; case h => with_unfolding_all rfl)))
            refine i_list ((hy.keep k2).keep kp) ?_
            refine for_inv (fun xs σ H'' => H'' = H' ∧ (∃ us rs, ys = us ++ rs ∧ xs = rs.map (fun w => .one (.str w)) ∧ ∀ w ∈ us, ¬ w.take (t.length - i) = t.drop i) ∧ (σ (nm 27352724596) = some (.ref H2.length) ∧ σ (nm 1817583) = some (.ref p) ∧ σ (nm 245248756) = some (.str t) ∧ σ (nm 27321202288) = some (.int i))) ?_ ?_
              ⟨rfl, ⟨[], ys, rfl, List.map_map, fun _ h => nomatch h⟩, ⟨by (repeat (first | with_reducible exact hit | with_reducible assumption | (with_reducible apply miss; case h => with_unfolding_all rfl))), by (repeat (first | with_reducible exact hit | with_reducible assumption | (with_reducible apply miss; case h => with_unfolding_all rfl))), by (repeat (first | with_reducible exact hit | with_reducible assumption | (with_reducible apply miss; case h => with_unfolding_all rfl))), by (repeat (first | with_reducible exact hit | with_reducible assumption | (with_reducible apply miss; case h => with_unfolding_all rfl)))⟩⟩
            · rintro x xs σ H'' ⟨rfl, ⟨us, rs, e, ex, hu⟩, ⟨e1, e2, e3, e4⟩⟩
              cases rs with
              | nil => cases ex
              | cons w rs =>
                obtain ⟨rfl, rfl⟩ := List.cons.inj ex
                refine ⟨(hy.keep k2).keep kp, _, rfl, fun W' hW' => ?_⟩
                refine s_ite ?_
                (repeat (first | ((with_reducible first | apply e_name | apply t_name); case h => (repeat (first | with_reducible exact hit | with_reducible assumption | (with_reducible apply miss; case h => with_unfolding_all rfl)))) | (with_reducible first | apply e_int | apply e_str | apply e_none | apply e_bool | apply e_bin | apply l1 | apply l2 | apply l0 | apply lc | apply e_sub | apply e_slice | apply e_list | apply e_tuple | apply e_cmp | apply e_and | apply e_not | apply e_or | apply e_neg | apply t_cmp | apply t_cmp2 | apply t_and | apply t_or | apply t_not | apply t_bool | apply t_sub | apply tru_bool | apply e_comp0 | apply e_comp1 | apply i_val | apply i_rng1 | apply i_rng2 | apply i_rev | apply b_add | apply b_sub | apply c_lt | apply c_le | apply c_gt | apply c_ge | apply c_eqi | apply c_nei | apply c_eqs | apply c_nes | apply c_eqb | apply c_neb | apply c_is | apply c_isnot | apply s_len | apply if_tt | apply if_ff | apply r_ret | apply s_asg | apply s_exp | apply s_ite | apply s_set | apply s_skip | apply sq_next | apply sq_ret | apply lq_next | apply lq_ret | apply rq_ret | apply i_str) | ((with_reducible first | apply e_call | apply t_call | apply e_glob | apply e_methS | apply e_srt); case h => with_reducible assumption) | (with_reducible apply b_div; case h => with_unfolding_all rfl)))
                refine b_from (by omega) ?_
                refine ⟨w, t.drop i, rfl, ?_⟩
                rw [List.length_drop]
                by_cases q : w.take (t.length - i) = t.drop i
                · rw [if_pos q]
                  (repeat (first | ((with_reducible first | apply e_name | apply t_name); case h => (repeat (first | with_reducible exact hit | with_reducible assumption | (with_reducible apply miss; case h => with_unfolding_all rfl)))) | (with_reducible first | apply e_int | apply e_str | apply e_none | apply e_bool | apply e_bin | apply l1 | apply l2 | apply l0 | apply lc | apply e_sub | apply e_slice | apply e_list | apply e_tuple | apply e_cmp | apply e_and | apply e_not | apply e_or | apply e_neg | apply t_cmp | apply t_cmp2 | apply t_and | apply t_or | apply t_not | apply t_bool | apply t_sub | apply tru_bool | apply e_comp0 | apply e_comp1 | apply i_val | apply i_rng1 | apply i_rng2 | apply i_rev | apply b_add | apply b_sub | apply c_lt | apply c_le | apply c_gt | apply c_ge | apply c_eqi | apply c_nei | apply c_eqs | apply c_nes | apply c_eqb | apply c_neb | apply c_is | apply c_isnot | apply s_len | apply if_tt | apply if_ff | apply r_ret | apply s_asg | apply s_exp | apply s_ite | apply s_set | apply s_skip | apply sq_next | apply sq_ret | apply lq_next | apply lq_ret | apply rq_ret | apply i_str) | ((with_reducible first | apply e_call | apply t_call | apply e_glob | apply e_methS | apply e_srt); case h => with_reducible assumption) | (with_reducible apply b_div; case h => with_unfolding_all rfl)))
                  refine if_t rfl ?_
                  (repeat (first | ((with_reducible first | apply e_name | apply t_name); case h => (repeat (first | with_reducible exact hit | with_reducible assumption | (with_reducible apply miss; case h => with_unfolding_all rfl)))) | (with_reducible first | apply e_int | apply e_str | apply e_none | apply e_bool | apply e_bin | apply l1 | apply l2 | apply l0 | apply lc | apply e_sub | apply e_slice | apply e_list | apply e_tuple | apply e_cmp | apply e_and | apply e_not | apply e_or | apply e_neg | apply t_cmp | apply t_cmp2 | apply t_and | apply t_or | apply t_not | apply t_bool | apply t_sub | apply tru_bool | apply e_comp0 | apply e_comp1 | apply i_val | apply i_rng1 | apply i_rng2 | apply i_rev | apply b_add | apply b_sub | apply c_lt | apply c_le | apply c_gt | apply c_ge | apply c_eqi | apply c_nei | apply c_eqs | apply c_nes | apply c_eqb | apply c_neb | apply c_is | apply c_isnot | apply s_len | apply if_tt | apply if_ff | apply r_ret | apply s_asg | apply s_exp | apply s_ite | apply s_set | apply s_skip | apply sq_next | apply sq_ret | apply lq_next | apply lq_ret | apply rq_ret | apply i_str) | ((with_reducible first | apply e_call | apply t_call | apply e_glob | apply e_methS | apply e_srt); case h => with_reducible assumption) | (with_reducible apply b_div; case h => with_unfolding_all rfl)))
                  exact yes (.inl ⟨i, by omega, hri, w, by rw [e]; simp, q⟩) _ (fresh kp)
                · rw [if_neg q]
                  (repeat (first | ((with_reducible first | apply e_name | apply t_name); case h => (repeat (first | with_reducible exact hit | with_reducible assumption | (with_reducible apply miss; case h => with_unfolding_all rfl)))) | (with_reducible first | apply e_int | apply e_str | apply e_none | apply e_bool | apply e_bin | apply l1 | apply l2 | apply l0 | apply lc | apply e_sub | apply e_slice | apply e_list | apply e_tuple | apply e_cmp | apply e_and | apply e_not | apply e_or | apply e_neg | apply t_cmp | apply t_cmp2 | apply t_and | apply t_or | apply t_not | apply t_bool | apply t_sub | apply tru_bool | apply e_comp0 | apply e_comp1 | apply i_val | apply i_rng1 | apply i_rng2 | apply i_rev | apply b_add | apply b_sub | apply c_lt | apply c_le | apply c_gt | apply c_ge | apply c_eqi | apply c_nei | apply c_eqs | apply c_nes | apply c_eqb | apply c_neb | apply c_is | apply c_isnot | apply s_len | apply if_tt | apply if_ff | apply r_ret | apply s_asg | apply s_exp | apply s_ite | apply s_set | apply s_skip | apply sq_next | apply sq_ret | apply lq_next | apply lq_ret | apply rq_ret | apply i_str) | ((with_reducible first | apply e_call | apply t_call | apply e_glob | apply e_methS | apply e_srt); case h => with_reducible assumption) | (with_reducible apply b_div; case h => with_unfolding_all rfl)))
                  refine if_f rfl ?_
                  (repeat (first | ((with_reducible first | apply e_name | apply t_name); case h => (repeat (first | with_reducible exact hit | with_reducible assumption | (with_reducible apply miss; case h => with_unfolding_all rfl)))) | (with_reducible first | apply e_int | apply e_str | apply e_none | apply e_bool | apply e_bin | apply l1 | apply l2 | apply l0 | apply lc | apply e_sub | apply e_slice | apply e_list | apply e_tuple | apply e_cmp | apply e_and | apply e_not | apply e_or | apply e_neg | apply t_cmp | apply t_cmp2 | apply t_and | apply t_or | apply t_not | apply t_bool | apply t_sub | apply tru_bool | apply e_comp0 | apply e_comp1 | apply i_val | apply i_rng1 | apply i_rng2 | apply i_rev | apply b_add | apply b_sub | apply c_lt | apply c_le | apply c_gt | apply c_ge | apply c_eqi | apply c_nei | apply c_eqs | apply c_nes | apply c_eqb | apply c_neb | apply c_is | apply c_isnot | apply s_len | apply if_tt | apply if_ff | apply r_ret | apply s_asg | apply s_exp | apply s_ite | apply s_set | apply s_skip | apply sq_next | apply sq_ret | apply lq_next | apply lq_ret | apply rq_ret | apply i_str) | ((with_reducible first | apply e_call | apply t_call | apply e_glob | apply e_methS | apply e_srt); case h => with_reducible assumption) | (with_reducible apply b_div; case h => with_unfolding_all rfl)))
                  refine hW' _ _ ⟨rfl, ⟨us ++ [w], rs, by rw [e, List.append_assoc]; rfl, rfl, fun u hu' => ?_⟩, ⟨by (repeat (first | with_reducible exact hit | with_reducible assumption | (with_reducible apply miss; case h => with_unfolding_all rfl))), by (repeat (first | with_reducible exact hit | with_reducible assumption | (with_reducible apply miss; case h => with_unfolding_all rfl))), by (repeat (first | with_reducible exact hit | with_reducible assumption | (with_reducible apply miss; case h => with_unfolding_all rfl))), by (repeat (first | with_reducible exact hit | with_reducible assumption | (with_reducible apply miss; case h => with_unfolding_all rfl)))⟩⟩
                  rcases List.mem_append.mp hu' with hu' | hu'
                  · exact hu u hu'
                  · rw [List.mem_singleton.mp hu']; exact q
            · rintro σ H'' ⟨rfl, ⟨us, rs, e, ex, hu⟩, ⟨e1, e2, e3, e4⟩⟩
              refine ⟨(hy.keep k2).keep kp, ?_⟩
              cases rs with
              | cons _ _ => cases ex
              | nil =>
                rw [List.append_nil] at e
                subst e
                (repeat (first | ((with_reducible first | apply e_name | apply t_name); case h => (repeat (first | with_reducible exact hit | with_reducible assumption | (with_reducible apply miss; case h => with_unfolding_all rfl)))) | (with_reducible first | apply e_int | apply e_str | apply e_none | apply e_bool | apply e_bin | apply l1 | apply l2 | apply l0 | apply lc | apply e_sub | apply e_slice | apply e_list | apply e_tuple | apply e_cmp | apply e_and | apply e_not | apply e_or | apply e_neg | apply t_cmp | apply t_cmp2 | apply t_and | apply t_or | apply t_not | apply t_bool | apply t_sub | apply tru_bool | apply e_comp0 | apply e_comp1 | apply i_val | apply i_rng1 | apply i_rng2 | apply i_rev | apply b_add | apply b_sub | apply c_lt | apply c_le | apply c_gt | apply c_ge | apply c_eqi | apply c_nei | apply c_eqs | apply c_nes | apply c_eqb | apply c_neb | apply c_is | apply c_isnot | apply s_len | apply if_tt | apply if_ff | apply r_ret | apply s_asg | apply s_exp | apply s_ite | apply s_set | apply s_skip | apply sq_next | apply sq_ret | apply lq_next | apply lq_ret | apply rq_ret | apply i_str) | ((with_reducible first | apply e_call | apply t_call | apply e_glob | apply e_methS | apply e_srt); case h => with_reducible assumption) | (with_reducible apply b_div; case h => with_unfolding_all rfl)))
                exact go kp hl hll hr' (fun _ ⟨w, hw, q⟩ => hu w hw q) e1 e2 e3
  · rintro σ H' ⟨kp, ⟨i, m, l, him, ex, hl, hll, hr, hno⟩, ⟨e1, e2, e3⟩⟩
    refine ⟨trivial, ?_⟩
    cases m with
    | succ m => rw [intsFrom_cons] at ex; cases ex
    | zero =>
      have hi : i = t.length := him
      subst hi
      refine r_ret ?_
      (repeat (first | ((with_reducible first | apply e_name | apply t_name); case h => (repeat (first | with_reducible exact hit | with_reducible assumption | (with_reducible apply miss; case h => with_unfolding_all rfl)))) | (with_reducible first | apply e_int | apply e_str | apply e_none | apply e_bool | apply e_bin | apply l1 | apply l2 | apply l0 | apply lc | apply e_sub | apply e_slice | apply e_list | apply e_tuple | apply e_cmp | apply e_and | apply e_not | apply e_or | apply e_neg | apply t_cmp | apply t_cmp2 | apply t_and | apply t_or | apply t_not | apply t_bool | apply t_sub | apply tru_bool | apply e_comp0 | apply e_comp1 | apply i_val | apply i_rng1 | apply i_rng2 | apply i_rev | apply b_add | apply b_sub | apply c_lt | apply c_le | apply c_gt | apply c_ge | apply c_eqi | apply c_nei | apply c_eqs | apply c_nes | apply c_eqb | apply c_neb | apply c_is | apply c_isnot | apply s_len | apply if_tt | apply if_ff | apply r_ret | apply s_asg | apply s_exp | apply s_ite | apply s_set | apply s_skip | apply sq_next | apply sq_ret | apply lq_next | apply lq_ret | apply rq_ret | apply i_str) | ((with_reducible first | apply e_call | apply t_call | apply e_glob | apply e_methS | apply e_srt); case h => with_reducible assumption) | (with_reducible apply b_div; case h => with_unfolding_all rfl)))
      have hi : t.length < l.length := by omega
      refine at_ls hl rfl hi ?_
      cases hli : l[t.length] with
      | true => exact yes (.inr ((hr _ hi).mp hli)) _ (fresh kp)
      | false =>
        refine no (fun q => q.elim (fun ⟨j, a, b, c⟩ => hno j a b c) fun q => ?_) _ (fresh kp)
        rw [(hr _ hi).mpr q] at hli; cases hli
  · intro j hj
    rw [List.length_set, List.length_replicate] at hj
    rw [List.getElem_set]
    by_cases q : 0 = j
    · rw [if_pos q]; exact ⟨fun _ => q.symm, fun _ => rfl⟩
    · rw [if_neg q, List.getElem_replicate]; exact ⟨(fun h => nomatch h), fun h => absurd h.symm q⟩

theorem any_inti (w : Int) : ∀ l : List Int, (l.map Dt.int).any (fun x => Dt.eqv x (.int w)) = decide (w ∈ l)
  | [] => rfl
  | a :: r => by
    rw [List.map_cons, List.any_cons, any_inti w r, Dt.eqv, beq_dec, Bool.eq_iff_iff]
    simp only [Bool.or_eq_true, decide_eq_true_eq, List.mem_cons]
    exact or_congr eq_comm Iff.rfl
theorem rdL_int {H : AHeap} {n : Nat} : ∀ l : List Int, rdL (rd H n) (l.map .int) = some (l.map .int)
  | [] => rfl
  | w :: r => by rw [List.map_cons, List.map_cons, rdL, rdL_int r]; cases n <;> rfl
theorem rd_is {H : AHeap} {n : Nat} {l : List Int} (h : Ls V.int H n l) : rd H 6 (.ref n) = some (.list (l.map .int)) := by rw [rd_list h, rdL_int]; rfl
theorem c_ini {H : AHeap} {n : Nat} {l : List Int} {i : Int} {r : Bool → Prop} (h : Ls V.int H n l) (k : r (decide (i ∈ l))) : cmpA .In (.int i) (.ref n) H r :=
  in_list h (rd_is h) rfl (by rw [any_inti]; exact k)
theorem Ls.push {α : Type} {f : α → V} {H : AHeap} {n : Nat} {l : List α} (h : Ls f H n l) (a : α) : Ls f (H.set n (.list (l.map f ++ [f a]))) n (l ++ [a]) := by
  unfold Ls
  rw [List.getElem?_set_self (lt_of_get h), List.map_append]; rfl

noncomputable def spBegs : Spec := fun vs H Q _ => ∃ (n : Nat) (t : Txt) (ws : List Txt), vs = [.ref n, .str t] ∧ n < H.length ∧ Ws H n ws ∧ ws.length ≤ 12 ∧ t.length ≤ 1000 ∧ (Begs ws t → ∀ H', Keep H H' → Q (.bool true) H') ∧ (¬ Begs ws t → ∀ H', Keep H H' → Q (.bool false) H')

theorem ct_law_begins (h1 : Has T (nm 1815276) spLen) (h2 : HasM T .list (nm 3465715398753) spAppend) : Ct T x_law_begins b_law_begins spBegs := by
  refine ct2 fun vs H Q X h => ?_
  obtain ⟨n, t, ws, rfl, hnl, hn, hwl, htl, yes, no⟩ := h
  refine ⟨_, _, rfl, ?_⟩
  refine s_asg ?_
  (repeat (first | ((with_reducible first | apply e_name | apply t_name); case h => (repeat (first | with_reducible exact hit | with_reducible assumption | (with_reducible apply miss; case h => with_unfolding_all rfl)))) | (with_reducible first | apply e_int | apply e_str | apply e_none | apply e_bool | apply e_bin | apply l1 | apply l2 | apply l0 | apply lc | apply e_sub | apply e_slice | apply e_list | apply e_tuple | apply e_cmp | apply e_and | apply e_not | apply e_or | apply e_neg | apply t_cmp | apply t_cmp2 | apply t_and | apply t_or | apply t_not | apply t_bool | apply t_sub | apply tru_bool | apply e_comp0 | apply e_comp1 | apply i_val | apply i_rng1 | apply i_rng2 | apply i_rev | apply b_add | apply b_sub | apply c_lt | apply c_le | apply c_gt | apply c_ge | apply c_eqi | apply c_nei | apply c_eqs | apply c_nes | apply c_eqb | apply c_neb | apply c_is | apply c_isnot | apply s_len | apply if_tt | apply if_ff | apply r_ret | apply s_asg | apply s_exp | apply s_ite | apply s_set | apply s_skip | apply sq_next | apply sq_ret | apply lq_next | apply lq_ret | apply rq_ret | apply i_str) | ((with_reducible first | apply e_call | apply t_call | apply e_glob | apply e_methS | apply e_srt); case h => with_reducible assumption) | (with_reducible apply b_div; case h => with_unfolding_all rfl)))
  refine ⟨Nat.le_of_ble_eq_true rfl, ?_⟩
  refine r_for ?_
  (repeat (first | ((with_reducible first | apply e_name | apply t_name); case h => (repeat (first | with_reducible exact hit | with_reducible assumption | (with_reducible apply miss; case h => with_unfolding_all rfl)))) | (with_reducible first | apply e_int | apply e_str | apply e_none | apply e_bool | apply e_bin | apply l1 | apply l2 | apply l0 | apply lc | apply e_sub | apply e_slice | apply e_list | apply e_tuple | apply e_cmp | apply e_and | apply e_not | apply e_or | apply e_neg | apply t_cmp | apply t_cmp2 | apply t_and | apply t_or | apply t_not | apply t_bool | apply t_sub | apply tru_bool | apply e_comp0 | apply e_comp1 | apply i_val | apply i_rng1 | apply i_rng2 | apply i_rev | apply b_add | apply b_sub | apply c_lt | apply c_le | apply c_gt | apply c_ge | apply c_eqi | apply c_nei | apply c_eqs | apply c_nes | apply c_eqb | apply c_neb | apply c_is | apply c_isnot | apply s_len | apply if_tt | apply if_ff | apply r_ret | apply s_asg | apply s_exp | apply s_ite | apply s_set | apply s_skip | apply sq_next | apply sq_ret | apply lq_next | apply lq_ret | apply rq_ret | apply i_str) | ((with_reducible first | apply e_call | apply t_call | apply e_glob | apply e_methS | apply e_srt); case h => with_reducible assumption) | (with_reducible apply b_div; case h => with_unfolding_all rfl)))
  refine rng1 (by omega) (by unfold lid; omega) ?_
  refine for_inv (fun xs σ H' => Keep H H' ∧ (∃ (i m : Nat) (l : List Int), i + m = t.length ∧ xs = (intsFrom i m).map (fun i => .one (.int i)) ∧ Ls V.int H' H.length l ∧ l.length ≤ 1 + 12 * i ∧ (∀ j : Nat, (j : Int) ∈ l ↔ Rch ws t i j) ∧ ∀ j, j < i → Rch ws t j j → ¬ Ends ws t j) ∧ (σ (nm 65750168258508383) = some (.ref H.length) ∧ σ (nm 32292397438104173501782932616799) = some (.ref n) ∧ σ (nm 252284354985272115066587084383) = some (.str t))) ?_ ?_ ⟨Keep.new _ _, ⟨0, t.length, [0], by omega, rfl, get_new, by simp, fun j => ?_, by omega⟩, ⟨by (repeat (first | with_reducible exact hit | with_reducible assumption | (with_reducible apply miss; case h => with_unfolding_all rfl))), by (repeat (first | with_reducible exact hit | with_reducible assumption | (with_reducible apply miss; case h => with_unfolding_all rfl))), by (repeat (first | with_reducible exact hit | with_reducible assumption | (with_reducible apply miss; case h => with_unfolding_all rfl)))⟩⟩
  · rintro x xs σ H' ⟨kp, ⟨i, m, l, him, ex, hl, hll, hr, hno⟩, ⟨e1, e2, e3⟩⟩
    cases m with
    | zero => cases ex
    | succ m =>
      rw [intsFrom_cons, List.map_cons] at ex
      obtain ⟨rfl, rfl⟩ := List.cons.inj ex
      refine ⟨trivial, _, rfl, fun W hW => ?_⟩
      refine s_ite ?_
      (repeat (first | ((with_reducible first | apply e_name | apply t_name); case h => (repeat (first | with_reducible exact hit | with_reducible assumption | (with_reducible apply miss; case h => with_unfolding_all rfl)))) | (with_reducible first | apply e_int | apply e_str | apply e_none | apply e_bool | apply e_bin | apply l1 | apply l2 | apply l0 | apply lc | apply e_sub | apply e_slice | apply e_list | apply e_tuple | apply e_cmp | apply e_and | apply e_not | apply e_or | apply e_neg | apply t_cmp | apply t_cmp2 | apply t_and | apply t_or | apply t_not | apply t_bool | apply t_sub | apply tru_bool | apply e_comp0 | apply e_comp1 | apply i_val | apply i_rng1 | apply i_rng2 | apply i_rev | apply b_add | apply b_sub | apply c_lt | apply c_le | apply c_gt | apply c_ge | apply c_eqi | apply c_nei | apply c_eqs | apply c_nes | apply c_eqb | apply c_neb | apply c_is | apply c_isnot | apply s_len | apply if_tt | apply if_ff | apply r_ret | apply s_asg | apply s_exp | apply s_ite | apply s_set | apply s_skip | apply sq_next | apply sq_ret | apply lq_next | apply lq_ret | apply rq_ret | apply i_str) | ((with_reducible first | apply e_call | apply t_call | apply e_glob | apply e_methS | apply e_srt); case h => with_reducible assumption) | (with_reducible apply b_div; case h => with_unfolding_all rfl)))
      refine c_ini hl ?_
      have go : ∀ {σ' : Sg} {H'' : AHeap} {l' : List Int}, Keep H H'' → Ls V.int H'' H.length l' → l'.length ≤ 1 + 12 * (i + 1) → (∀ j : Nat, (j : Int) ∈ l' ↔ Rch ws t (i + 1) j) → (Rch ws t i i → ¬ Ends ws t i) → σ' (nm 65750168258508383) = some (.ref H.length) → σ' (nm 32292397438104173501782932616799) = some (.ref n) → σ' (nm 252284354985272115066587084383) = some (.str t) → W σ' H'' := fun {σ' H'' l'} kp' a b c d f1 f2 f3 =>
        hW _ _ ⟨kp', ⟨i + 1, m, l', by omega, rfl, a, b, c, fun j hj hj' => by
          rcases Nat.lt_succ_iff_lt_or_eq.mp hj with q | q
          · exact hno j q hj'
          · rw [q] at hj' ⊢; exact d hj'⟩, ⟨f1, f2, f3⟩⟩
      refine if_dec (fun hi => ?_) fun hi => ?_
      · have hri := (hr i).mp hi
        refine r_for ?_
        (repeat (first | ((with_reducible first | apply e_name | apply t_name); case h => (repeat (first | with_reducible exact hit | with_reducible assumption | (with_reducible apply miss; case h => with_unfolding_all rfl)))) | (with_reducible first | apply e_int | apply e_str | apply e_none | apply e_bool | apply e_bin | apply l1 | apply l2 | apply l0 | apply lc | apply e_sub | apply e_slice | apply e_list | apply e_tuple | apply e_cmp | apply e_and | apply e_not | apply e_or | apply e_neg | apply t_cmp | apply t_cmp2 | apply t_and | apply t_or | apply t_not | apply t_bool | apply t_sub | apply tru_bool | apply e_comp0 | apply e_comp1 | apply i_val | apply i_rng1 | apply i_rng2 | apply i_rev | apply b_add | apply b_sub | apply c_lt | apply c_le | apply c_gt | apply c_ge | apply c_eqi | apply c_nei | apply c_eqs | apply c_nes | apply c_eqb | apply c_neb | apply c_is | apply c_isnot | apply s_len | apply if_tt | apply if_ff | apply r_ret | apply s_asg | apply s_exp | apply s_ite | apply s_set | apply s_skip | apply sq_next | apply sq_ret | apply lq_next | apply lq_ret | apply rq_ret | apply i_str) | ((with_reducible first | apply e_call | apply t_call | apply e_glob | apply e_methS | apply e_srt); case h => with_reducible assumption) | (with_reducible apply b_div; case h => with_unfolding_all rfl)))
        refine i_list (hn.keep kp) ?_
        refine for_inv (fun xs σ H' => Keep H H' ∧ (∃ us rs, ws = us ++ rs ∧ xs = rs.map (fun w => .one (.str w)) ∧ (∃ l' : List Int, Ls V.int H' H.length l' ∧ l'.length ≤ l.length + us.length ∧ ∀ j : Nat, (j : Int) ∈ l' ↔ (Rch ws t i j ∨ ∃ w ∈ us, (t.drop i).take w.length = w ∧ j = i + w.length)) ∧ ∀ w ∈ us, ¬ w.take (t.length - i) = t.drop i) ∧ (σ (nm 65750168258508383) = some (.ref H.length) ∧ σ (nm 32292397438104173501782932616799) = some (.ref n) ∧ σ (nm 252284354985272115066587084383) = some (.str t) ∧ σ (nm 938749362540635518559) = some (.int i))) ?_ ?_
          ⟨kp, ⟨[], ws, rfl, List.map_map, ⟨l, hl, Nat.le_refl _, fun j => by rw [hr j]; simp⟩, fun _ h => nomatch h⟩, ⟨by (repeat (first | with_reducible exact hit | with_reducible assumption | (with_reducible apply miss; case h => with_unfolding_all rfl))), by (repeat (first | with_reducible exact hit | with_reducible assumption | (with_reducible apply miss; case h => with_unfolding_all rfl))), by (repeat (first | with_reducible exact hit | with_reducible assumption | (with_reducible apply miss; case h => with_unfolding_all rfl))), by (repeat (first | with_reducible exact hit | with_reducible assumption | (with_reducible apply miss; case h => with_unfolding_all rfl)))⟩⟩
        · rintro x xs σ H' ⟨kp, ⟨us, rs, e, ex, ⟨l', hl', hll', hr'⟩, hu⟩, ⟨e1, e2, e3, e4⟩⟩
          cases rs with
          | nil => cases ex
          | cons w rs =>
            obtain ⟨rfl, rfl⟩ := List.cons.inj ex
            have hww : ws = (us ++ [w]) ++ rs := by rw [e, List.append_assoc]; rfl
            have hul : us.length ≤ 12 := by rw [e, List.length_append] at hwl; omega
            refine ⟨hn.keep kp, _, rfl, fun W hW => ?_⟩
            refine s_ite ?_
            (repeat (first | ((with_reducible first | apply e_name | apply t_name); case h => (repeat (first | with_reducible exact hit | with_reducible assumption | (with_reducible apply miss; case h => with_unfolding_all rfl)))) | (with_reducible first | apply e_int | apply e_str | apply e_none | apply e_bool | apply e_bin | apply l1 | apply l2 | apply l0 | apply lc | apply e_sub | apply e_slice | apply e_list | apply e_tuple | apply e_cmp | apply e_and | apply e_not | apply e_or | apply e_neg | apply t_cmp | apply t_cmp2 | apply t_and | apply t_or | apply t_not | apply t_bool | apply t_sub | apply tru_bool | apply e_comp0 | apply e_comp1 | apply i_val | apply i_rng1 | apply i_rng2 | apply i_rev | apply b_add | apply b_sub | apply c_lt | apply c_le | apply c_gt | apply c_ge | apply c_eqi | apply c_nei | apply c_eqs | apply c_nes | apply c_eqb | apply c_neb | apply c_is | apply c_isnot | apply s_len | apply if_tt | apply if_ff | apply r_ret | apply s_asg | apply s_exp | apply s_ite | apply s_set | apply s_skip | apply sq_next | apply sq_ret | apply lq_next | apply lq_ret | apply rq_ret | apply i_str) | ((with_reducible first | apply e_call | apply t_call | apply e_glob | apply e_methS | apply e_srt); case h => with_reducible assumption) | (with_reducible apply b_div; case h => with_unfolding_all rfl)))
            refine b_to (by omega) ?_
            (repeat (first | ((with_reducible first | apply e_name | apply t_name); case h => (repeat (first | with_reducible exact hit | with_reducible assumption | (with_reducible apply miss; case h => with_unfolding_all rfl)))) | (with_reducible first | apply e_int | apply e_str | apply e_none | apply e_bool | apply e_bin | apply l1 | apply l2 | apply l0 | apply lc | apply e_sub | apply e_slice | apply e_list | apply e_tuple | apply e_cmp | apply e_and | apply e_not | apply e_or | apply e_neg | apply t_cmp | apply t_cmp2 | apply t_and | apply t_or | apply t_not | apply t_bool | apply t_sub | apply tru_bool | apply e_comp0 | apply e_comp1 | apply i_val | apply i_rng1 | apply i_rng2 | apply i_rev | apply b_add | apply b_sub | apply c_lt | apply c_le | apply c_gt | apply c_ge | apply c_eqi | apply c_nei | apply c_eqs | apply c_nes | apply c_eqb | apply c_neb | apply c_is | apply c_isnot | apply s_len | apply if_tt | apply if_ff | apply r_ret | apply s_asg | apply s_exp | apply s_ite | apply s_set | apply s_skip | apply sq_next | apply sq_ret | apply lq_next | apply lq_ret | apply rq_ret | apply i_str) | ((with_reducible first | apply e_call | apply t_call | apply e_glob | apply e_methS | apply e_srt); case h => with_reducible assumption) | (with_reducible apply b_div; case h => with_unfolding_all rfl)))
            refine b_from (by omega) ?_
            (repeat (first | ((with_reducible first | apply e_name | apply t_name); case h => (repeat (first | with_reducible exact hit | with_reducible assumption | (with_reducible apply miss; case h => with_unfolding_all rfl)))) | (with_reducible first | apply e_int | apply e_str | apply e_none | apply e_bool | apply e_bin | apply l1 | apply l2 | apply l0 | apply lc | apply e_sub | apply e_slice | apply e_list | apply e_tuple | apply e_cmp | apply e_and | apply e_not | apply e_or | apply e_neg | apply t_cmp | apply t_cmp2 | apply t_and | apply t_or | apply t_not | apply t_bool | apply t_sub | apply tru_bool | apply e_comp0 | apply e_comp1 | apply i_val | apply i_rng1 | apply i_rng2 | apply i_rev | apply b_add | apply b_sub | apply c_lt | apply c_le | apply c_gt | apply c_ge | apply c_eqi | apply c_nei | apply c_eqs | apply c_nes | apply c_eqb | apply c_neb | apply c_is | apply c_isnot | apply s_len | apply if_tt | apply if_ff | apply r_ret | apply s_asg | apply s_exp | apply s_ite | apply s_set | apply s_skip | apply sq_next | apply sq_ret | apply lq_next | apply lq_ret | apply rq_ret | apply i_str) | ((with_reducible first | apply e_call | apply t_call | apply e_glob | apply e_methS | apply e_srt); case h => with_reducible assumption) | (with_reducible apply b_div; case h => with_unfolding_all rfl)))
            rw [show ((t.length : Int) - (i : Int)).toNat = t.length - i by omega, show (i : Int).toNat = i from rfl]
            refine if_dec (fun q => ?_) fun q => ?_
            · (repeat (first | ((with_reducible first | apply e_name | apply t_name); case h => (repeat (first | with_reducible exact hit | with_reducible assumption | (with_reducible apply miss; case h => with_unfolding_all rfl)))) | (with_reducible first | apply e_int | apply e_str | apply e_none | apply e_bool | apply e_bin | apply l1 | apply l2 | apply l0 | apply lc | apply e_sub | apply e_slice | apply e_list | apply e_tuple | apply e_cmp | apply e_and | apply e_not | apply e_or | apply e_neg | apply t_cmp | apply t_cmp2 | apply t_and | apply t_or | apply t_not | apply t_bool | apply t_sub | apply tru_bool | apply e_comp0 | apply e_comp1 | apply i_val | apply i_rng1 | apply i_rng2 | apply i_rev | apply b_add | apply b_sub | apply c_lt | apply c_le | apply c_gt | apply c_ge | apply c_eqi | apply c_nei | apply c_eqs | apply c_nes | apply c_eqb | apply c_neb | apply c_is | apply c_isnot | apply s_len | apply if_tt | apply if_ff | apply r_ret | apply s_asg | apply s_exp | apply s_ite | apply s_set | apply s_skip | apply sq_next | apply sq_ret | apply lq_next | apply lq_ret | apply rq_ret | apply i_str) | ((with_reducible first | apply e_call | apply t_call | apply e_glob | apply e_methS | apply e_srt); case h => with_reducible assumption) | (with_reducible apply b_div; case h => with_unfolding_all rfl)))
              exact yes (.inl ⟨i, by omega, hri, w, by rw [e]; simp, q⟩) _ kp
            · (repeat (first | ((with_reducible first | apply e_name | apply t_name); case h => (repeat (first | with_reducible exact hit | with_reducible assumption | (with_reducible apply miss; case h => with_unfolding_all rfl)))) | (with_reducible first | apply e_int | apply e_str | apply e_none | apply e_bool | apply e_bin | apply l1 | apply l2 | apply l0 | apply lc | apply e_sub | apply e_slice | apply e_list | apply e_tuple | apply e_cmp | apply e_and | apply e_not | apply e_or | apply e_neg | apply t_cmp | apply t_cmp2 | apply t_and | apply t_or | apply t_not | apply t_bool | apply t_sub | apply tru_bool | apply e_comp0 | apply e_comp1 | apply i_val | apply i_rng1 | apply i_rng2 | apply i_rev | apply b_add | apply b_sub | apply c_lt | apply c_le | apply c_gt | apply c_ge | apply c_eqi | apply c_nei | apply c_eqs | apply c_nes | apply c_eqb | apply c_neb | apply c_is | apply c_isnot | apply s_len | apply if_tt | apply if_ff | apply r_ret | apply s_asg | apply s_exp | apply s_ite | apply s_set | apply s_skip | apply sq_next | apply sq_ret | apply lq_next | apply lq_ret | apply rq_ret | apply i_str) | ((with_reducible first | apply e_call | apply t_call | apply e_glob | apply e_methS | apply e_srt); case h => with_reducible assumption) | (with_reducible apply b_div; case h => with_unfolding_all rfl)))
              have hu2 : ∀ u ∈ us ++ [w], ¬ u.take (t.length - i) = t.drop i := fun u hu' => by
                rcases List.mem_append.mp hu' with hu' | hu'
                · exact hu u hu'
                · rw [List.mem_singleton.mp hu']; exact q
              refine s_ite ?_
              (repeat (first | ((with_reducible first | apply e_name | apply t_name); case h => (repeat (first | with_reducible exact hit | with_reducible assumption | (with_reducible apply miss; case h => with_unfolding_all rfl)))) | (with_reducible first | apply e_int | apply e_str | apply e_none | apply e_bool | apply e_bin | apply l1 | apply l2 | apply l0 | apply lc | apply e_sub | apply e_slice | apply e_list | apply e_tuple | apply e_cmp | apply e_and | apply e_not | apply e_or | apply e_neg | apply t_cmp | apply t_cmp2 | apply t_and | apply t_or | apply t_not | apply t_bool | apply t_sub | apply tru_bool | apply e_comp0 | apply e_comp1 | apply i_val | apply i_rng1 | apply i_rng2 | apply i_rev | apply b_add | apply b_sub | apply c_lt | apply c_le | apply c_gt | apply c_ge | apply c_eqi | apply c_nei | apply c_eqs | apply c_nes | apply c_eqb | apply c_neb | apply c_is | apply c_isnot | apply s_len | apply if_tt | apply if_ff | apply r_ret | apply s_asg | apply s_exp | apply s_ite | apply s_set | apply s_skip | apply sq_next | apply sq_ret | apply lq_next | apply lq_ret | apply rq_ret | apply i_str) | ((with_reducible first | apply e_call | apply t_call | apply e_glob | apply e_methS | apply e_srt); case h => with_reducible assumption) | (with_reducible apply b_div; case h => with_unfolding_all rfl)))
              refine b_cut (by omega) (by omega) ?_
              (repeat (first | ((with_reducible first | apply e_name | apply t_name); case h => (repeat (first | with_reducible exact hit | with_reducible assumption | (with_reducible apply miss; case h => with_unfolding_all rfl)))) | (with_reducible first | apply e_int | apply e_str | apply e_none | apply e_bool | apply e_bin | apply l1 | apply l2 | apply l0 | apply lc | apply e_sub | apply e_slice | apply e_list | apply e_tuple | apply e_cmp | apply e_and | apply e_not | apply e_or | apply e_neg | apply t_cmp | apply t_cmp2 | apply t_and | apply t_or | apply t_not | apply t_bool | apply t_sub | apply tru_bool | apply e_comp0 | apply e_comp1 | apply i_val | apply i_rng1 | apply i_rng2 | apply i_rev | apply b_add | apply b_sub | apply c_lt | apply c_le | apply c_gt | apply c_ge | apply c_eqi | apply c_nei | apply c_eqs | apply c_nes | apply c_eqb | apply c_neb | apply c_is | apply c_isnot | apply s_len | apply if_tt | apply if_ff | apply r_ret | apply s_asg | apply s_exp | apply s_ite | apply s_set | apply s_skip | apply sq_next | apply sq_ret | apply lq_next | apply lq_ret | apply rq_ret | apply i_str) | ((with_reducible first | apply e_call | apply t_call | apply e_glob | apply e_methS | apply e_srt); case h => with_reducible assumption) | (with_reducible apply b_div; case h => with_unfolding_all rfl)))
              rw [show ((i : Int) + (w.length : Int)).toNat - (i : Int).toNat = w.length by omega, show (i : Int).toNat = i from rfl]
              refine if_dec (fun z => ?_) fun z => ?_
              · refine s_exp (e_methN (by (repeat (first | with_reducible exact hit | with_reducible assumption | (with_reducible apply miss; case h => with_unfolding_all rfl)))) (kind_l hl') h2 (l1 ?_))
                (repeat (first | ((with_reducible first | apply e_name | apply t_name); case h => (repeat (first | with_reducible exact hit | with_reducible assumption | (with_reducible apply miss; case h => with_unfolding_all rfl)))) | (with_reducible first | apply e_int | apply e_str | apply e_none | apply e_bool | apply e_bin | apply l1 | apply l2 | apply l0 | apply lc | apply e_sub | apply e_slice | apply e_list | apply e_tuple | apply e_cmp | apply e_and | apply e_not | apply e_or | apply e_neg | apply t_cmp | apply t_cmp2 | apply t_and | apply t_or | apply t_not | apply t_bool | apply t_sub | apply tru_bool | apply e_comp0 | apply e_comp1 | apply i_val | apply i_rng1 | apply i_rng2 | apply i_rev | apply b_add | apply b_sub | apply c_lt | apply c_le | apply c_gt | apply c_ge | apply c_eqi | apply c_nei | apply c_eqs | apply c_nes | apply c_eqb | apply c_neb | apply c_is | apply c_isnot | apply s_len | apply if_tt | apply if_ff | apply r_ret | apply s_asg | apply s_exp | apply s_ite | apply s_set | apply s_skip | apply sq_next | apply sq_ret | apply lq_next | apply lq_ret | apply rq_ret | apply i_str) | ((with_reducible first | apply e_call | apply t_call | apply e_glob | apply e_methS | apply e_srt); case h => with_reducible assumption) | (with_reducible apply b_div; case h => with_unfolding_all rfl)))
                refine s_append (by omega) hl' (by rw [List.length_map]; unfold lid; omega) ?_
                (repeat (first | ((with_reducible first | apply e_name | apply t_name); case h => (repeat (first | with_reducible exact hit | with_reducible assumption | (with_reducible apply miss; case h => with_unfolding_all rfl)))) | (with_reducible first | apply e_int | apply e_str | apply e_none | apply e_bool | apply e_bin | apply l1 | apply l2 | apply l0 | apply lc | apply e_sub | apply e_slice | apply e_list | apply e_tuple | apply e_cmp | apply e_and | apply e_not | apply e_or | apply e_neg | apply t_cmp | apply t_cmp2 | apply t_and | apply t_or | apply t_not | apply t_bool | apply t_sub | apply tru_bool | apply e_comp0 | apply e_comp1 | apply i_val | apply i_rng1 | apply i_rng2 | apply i_rev | apply b_add | apply b_sub | apply c_lt | apply c_le | apply c_gt | apply c_ge | apply c_eqi | apply c_nei | apply c_eqs | apply c_nes | apply c_eqb | apply c_neb | apply c_is | apply c_isnot | apply s_len | apply if_tt | apply if_ff | apply r_ret | apply s_asg | apply s_exp | apply s_ite | apply s_set | apply s_skip | apply sq_next | apply sq_ret | apply lq_next | apply lq_ret | apply rq_ret | apply i_str) | ((with_reducible first | apply e_call | apply t_call | apply e_glob | apply e_methS | apply e_srt); case h => with_reducible assumption) | (with_reducible apply b_div; case h => with_unfolding_all rfl)))
                refine hW _ _ ⟨kp.set (Nat.le_refl _), ⟨us ++ [w], rs, hww, rfl, ⟨_, hl'.push ((i : Int) + (w.length : Int)), by rw [List.length_append, List.length_append, List.length_singleton, List.length_singleton]; omega, fun j => ?_⟩, hu2⟩, ⟨by (repeat (first | with_reducible exact hit | with_reducible assumption | (with_reducible apply miss; case h => with_unfolding_all rfl))), by (repeat (first | with_reducible exact hit | with_reducible assumption | (with_reducible apply miss; case h => with_unfolding_all rfl))), by (repeat (first | with_reducible exact hit | with_reducible assumption | (with_reducible apply miss; case h => with_unfolding_all rfl))), by (repeat (first | with_reducible exact hit | with_reducible assumption | (with_reducible apply miss; case h => with_unfolding_all rfl)))⟩⟩
                rw [List.mem_append, hr' j, List.mem_singleton, or_assoc]
                refine or_congr Iff.rfl ⟨fun h => h.elim (fun ⟨u, a, b⟩ => ⟨u, List.mem_append_left _ a, b⟩) fun h => ⟨w, by simp, z, by omega⟩, fun ⟨u, a, b⟩ => ?_⟩
                rcases List.mem_append.mp a with a | a
                · exact .inl ⟨u, a, b⟩
                · rw [List.mem_singleton.mp a] at b; exact .inr (by omega)
              · (repeat (first | ((with_reducible first | apply e_name | apply t_name); case h => (repeat (first | with_reducible exact hit | with_reducible assumption | (with_reducible apply miss; case h => with_unfolding_all rfl)))) | (with_reducible first | apply e_int | apply e_str | apply e_none | apply e_bool | apply e_bin | apply l1 | apply l2 | apply l0 | apply lc | apply e_sub | apply e_slice | apply e_list | apply e_tuple | apply e_cmp | apply e_and | apply e_not | apply e_or | apply e_neg | apply t_cmp | apply t_cmp2 | apply t_and | apply t_or | apply t_not | apply t_bool | apply t_sub | apply tru_bool | apply e_comp0 | apply e_comp1 | apply i_val | apply i_rng1 | apply i_rng2 | apply i_rev | apply b_add | apply b_sub | apply c_lt | apply c_le | apply c_gt | apply c_ge | apply c_eqi | apply c_nei | apply c_eqs | apply c_nes | apply c_eqb | apply c_neb | apply c_is | apply c_isnot | apply s_len | apply if_tt | apply if_ff | apply r_ret | apply s_asg | apply s_exp | apply s_ite | apply s_set | apply s_skip | apply sq_next | apply sq_ret | apply lq_next | apply lq_ret | apply rq_ret | apply i_str) | ((with_reducible first | apply e_call | apply t_call | apply e_glob | apply e_methS | apply e_srt); case h => with_reducible assumption) | (with_reducible apply b_div; case h => with_unfolding_all rfl)))
                refine hW _ _ ⟨kp, ⟨us ++ [w], rs, hww, rfl, ⟨l', hl', by rw [List.length_append]; omega, fun j => ?_⟩, hu2⟩, ⟨by (repeat (first | with_reducible exact hit | with_reducible assumption | (with_reducible apply miss; case h => with_unfolding_all rfl))), by (repeat (first | with_reducible exact hit | with_reducible assumption | (with_reducible apply miss; case h => with_unfolding_all rfl))), by (repeat (first | with_reducible exact hit | with_reducible assumption | (with_reducible apply miss; case h => with_unfolding_all rfl))), by (repeat (first | with_reducible exact hit | with_reducible assumption | (with_reducible apply miss; case h => with_unfolding_all rfl)))⟩⟩
                rw [hr' j]
                refine or_congr Iff.rfl ⟨fun ⟨u, a, b⟩ => ⟨u, List.mem_append_left _ a, b⟩, fun ⟨u, a, b⟩ => ?_⟩
                rcases List.mem_append.mp a with a | a
                · exact ⟨u, a, b⟩
                · rw [List.mem_singleton.mp a] at b; exact absurd b.1 z
        · rintro σ H' ⟨kp, ⟨us, rs, e, ex, ⟨l', hl', hll', hr'⟩, hu⟩, ⟨e1, e2, e3, e4⟩⟩
          refine ⟨hn.keep kp, ?_⟩
          cases rs with
          | cons _ _ => cases ex
          | nil =>
            rw [List.append_nil] at e
            subst e
            (repeat (first | ((with_reducible first | apply e_name | apply t_name); case h => (repeat (first | with_reducible exact hit | with_reducible assumption | (with_reducible apply miss; case h => with_unfolding_all rfl)))) | (with_reducible first | apply e_int | apply e_str | apply e_none | apply e_bool | apply e_bin | apply l1 | apply l2 | apply l0 | apply lc | apply e_sub | apply e_slice | apply e_list | apply e_tuple | apply e_cmp | apply e_and | apply e_not | apply e_or | apply e_neg | apply t_cmp | apply t_cmp2 | apply t_and | apply t_or | apply t_not | apply t_bool | apply t_sub | apply tru_bool | apply e_comp0 | apply e_comp1 | apply i_val | apply i_rng1 | apply i_rng2 | apply i_rev | apply b_add | apply b_sub | apply c_lt | apply c_le | apply c_gt | apply c_ge | apply c_eqi | apply c_nei | apply c_eqs | apply c_nes | apply c_eqb | apply c_neb | apply c_is | apply c_isnot | apply s_len | apply if_tt | apply if_ff | apply r_ret | apply s_asg | apply s_exp | apply s_ite | apply s_set | apply s_skip | apply sq_next | apply sq_ret | apply lq_next | apply lq_ret | apply rq_ret | apply i_str) | ((with_reducible first | apply e_call | apply t_call | apply e_glob | apply e_methS | apply e_srt); case h => with_reducible assumption) | (with_reducible apply b_div; case h => with_unfolding_all rfl)))
            refine go kp hl' (by omega) (fun j => ?_) (fun _ ⟨w, hw, q⟩ => hu w hw q) e1 e2 e3
            rw [hr' j]
            exact or_congr Iff.rfl ⟨fun h => ⟨hri, h⟩, fun h => h.2⟩
      · (repeat (first | ((with_reducible first | apply e_name | apply t_name); case h => (repeat (first | with_reducible exact hit | with_reducible assumption | (with_reducible apply miss; case h => with_unfolding_all rfl)))) | (with_reducible first | apply e_int | apply e_str | apply e_none | apply e_bool | apply e_bin | apply l1 | apply l2 | apply l0 | apply lc | apply e_sub | apply e_slice | apply e_list | apply e_tuple | apply e_cmp | apply e_and | apply e_not | apply e_or | apply e_neg | apply t_cmp | apply t_cmp2 | apply t_and | apply t_or | apply t_not | apply t_bool | apply t_sub | apply tru_bool | apply e_comp0 | apply e_comp1 | apply i_val | apply i_rng1 | apply i_rng2 | apply i_rev | apply b_add | apply b_sub | apply c_lt | apply c_le | apply c_gt | apply c_ge | apply c_eqi | apply c_nei | apply c_eqs | apply c_nes | apply c_eqb | apply c_neb | apply c_is | apply c_isnot | apply s_len | apply if_tt | apply if_ff | apply r_ret | apply s_asg | apply s_exp | apply s_ite | apply s_set | apply s_skip | apply sq_next | apply sq_ret | apply lq_next | apply lq_ret | apply rq_ret | apply i_str) | ((with_reducible first | apply e_call | apply t_call | apply e_glob | apply e_methS | apply e_srt); case h => with_reducible assumption) | (with_reducible apply b_div; case h => with_unfolding_all rfl)))
        have hnr : ¬ Rch ws t i i := fun q => hi ((hr i).mpr q)
        refine go kp hl (by omega) (fun j => ?_) (fun q => absurd q hnr) (by (repeat (first | with_reducible exact hit | with_reducible assumption | (with_reducible apply miss; case h => with_unfolding_all rfl)))) (by (repeat (first | with_reducible exact hit | with_reducible assumption | (with_reducible apply miss; case h => with_unfolding_all rfl)))) (by (repeat (first | with_reducible exact hit | with_reducible assumption | (with_reducible apply miss; case h => with_unfolding_all rfl))))
        rw [hr j]
        exact ⟨.inl, fun q => q.elim id fun q => absurd q.1 hnr⟩
  · rintro σ H' ⟨kp, ⟨i, m, l, him, ex, hl, hll, hr, hno⟩, ⟨e1, e2, e3⟩⟩
    refine ⟨trivial, ?_⟩
    cases m with
    | succ m => rw [intsFrom_cons] at ex; cases ex
    | zero =>
      have hi : i = t.length := him
      subst hi
      refine r_ret ?_
      (repeat (first | ((with_reducible first | apply e_name | apply t_name); case h => (repeat (first | with_reducible exact hit | with_reducible assumption | (with_reducible apply miss; case h => with_unfolding_all rfl)))) | (with_reducible first | apply e_int | apply e_str | apply e_none | apply e_bool | apply e_bin | apply l1 | apply l2 | apply l0 | apply lc | apply e_sub | apply e_slice | apply e_list | apply e_tuple | apply e_cmp | apply e_and | apply e_not | apply e_or | apply e_neg | apply t_cmp | apply t_cmp2 | apply t_and | apply t_or | apply t_not | apply t_bool | apply t_sub | apply tru_bool | apply e_comp0 | apply e_comp1 | apply i_val | apply i_rng1 | apply i_rng2 | apply i_rev | apply b_add | apply b_sub | apply c_lt | apply c_le | apply c_gt | apply c_ge | apply c_eqi | apply c_nei | apply c_eqs | apply c_nes | apply c_eqb | apply c_neb | apply c_is | apply c_isnot | apply s_len | apply if_tt | apply if_ff | apply r_ret | apply s_asg | apply s_exp | apply s_ite | apply s_set | apply s_skip | apply sq_next | apply sq_ret | apply lq_next | apply lq_ret | apply rq_ret | apply i_str) | ((with_reducible first | apply e_call | apply t_call | apply e_glob | apply e_methS | apply e_srt); case h => with_reducible assumption) | (with_reducible apply b_div; case h => with_unfolding_all rfl)))
      refine c_ini hl ?_
      by_cases q : Rch ws t t.length t.length
      · rw [decide_eq_true ((hr _).mpr q)]
        exact yes (.inr q) _ kp
      · rw [decide_eq_false fun z => q ((hr _).mp z)]
        exact no (fun z => z.elim (fun ⟨j, a, b, c⟩ => hno j a b c) q) _ kp
  · rw [List.mem_singleton]
    exact ⟨fun h => by show j = 0; omega, fun h => by have : j = 0 := h; omega⟩

theorem ct_law05 (h1 : Has T (nm 1067958212234506171999) spWords) (h2 : Has T (nm 8426683116990002783) spText) (h3 : Has T (nm 136790231785371214575199) spBegs) (h4 : Has T (nm 245167340) spList) (h5 : Has T (nm 7985901584913428717) spMay) (h6 : Has T (nm 938756632654307293673) spIsi) (h7 : Has T (nm 513532042442335) spAt) (h8 : Has T (nm 1815276) spLen) (g1 : T.gv (nm 228325346) = some (.glob (nm 228325346))) : Ct T x_law b_law spLaw := by
  refine ct1 fun vs H Q X h => ?_
  obtain ⟨rfl, hs, h⟩ := h
  replace hs : Scr H := hs
  refine ⟨_, rfl, ?_⟩
  refine s_asg ?_
  (repeat (first | ((with_reducible first | apply e_name | apply t_name); case h => (repeat (first | with_reducible exact hit | with_reducible assumption | (with_reducible apply miss; case h => with_unfolding_all rfl)))) | (with_reducible first | apply e_int | apply e_str | apply e_none | apply e_bool | apply e_bin | apply l1 | apply l2 | apply l0 | apply lc | apply e_sub | apply e_slice | apply e_list | apply e_tuple | apply e_cmp | apply e_and | apply e_not | apply e_or | apply e_neg | apply t_cmp | apply t_cmp2 | apply t_and | apply t_or | apply t_not | apply t_bool | apply t_sub | apply tru_bool | apply e_comp0 | apply e_comp1 | apply i_val | apply i_rng1 | apply i_rng2 | apply i_rev | apply b_add | apply b_sub | apply c_lt | apply c_le | apply c_gt | apply c_ge | apply c_eqi | apply c_nei | apply c_eqs | apply c_nes | apply c_eqb | apply c_neb | apply c_is | apply c_isnot | apply s_len | apply if_tt | apply if_ff | apply r_ret | apply s_asg | apply s_exp | apply s_ite | apply s_set | apply s_skip | apply sq_next | apply sq_ret | apply lq_next | apply lq_ret | apply rq_ret | apply i_str) | ((with_reducible first | apply e_call | apply t_call | apply e_glob | apply e_methS | apply e_srt); case h => with_reducible assumption) | (with_reducible apply b_div; case h => with_unfolding_all rfl)))
  refine ⟨_, rfl, by decide, hs, fun ws p1 H1 hc hp1 hw1 k1 => ?_⟩
  have hH : 1 ≤ H.length := by obtain ⟨is, e⟩ := hs; have := lt_of_get e; omega
  refine s_asg ?_
  (repeat (first | ((with_reducible first | apply e_name | apply t_name); case h => (repeat (first | with_reducible exact hit | with_reducible assumption | (with_reducible apply miss; case h => with_unfolding_all rfl)))) | (with_reducible first | apply e_int | apply e_str | apply e_none | apply e_bool | apply e_bin | apply l1 | apply l2 | apply l0 | apply lc | apply e_sub | apply e_slice | apply e_list | apply e_tuple | apply e_cmp | apply e_and | apply e_not | apply e_or | apply e_neg | apply t_cmp | apply t_cmp2 | apply t_and | apply t_or | apply t_not | apply t_bool | apply t_sub | apply tru_bool | apply e_comp0 | apply e_comp1 | apply i_val | apply i_rng1 | apply i_rng2 | apply i_rev | apply b_add | apply b_sub | apply c_lt | apply c_le | apply c_gt | apply c_ge | apply c_eqi | apply c_nei | apply c_eqs | apply c_nes | apply c_eqb | apply c_neb | apply c_is | apply c_isnot | apply s_len | apply if_tt | apply if_ff | apply r_ret | apply s_asg | apply s_exp | apply s_ite | apply s_set | apply s_skip | apply sq_next | apply sq_ret | apply lq_next | apply lq_ret | apply rq_ret | apply i_str) | ((with_reducible first | apply e_call | apply t_call | apply e_glob | apply e_methS | apply e_srt); case h => with_reducible assumption) | (with_reducible apply b_div; case h => with_unfolding_all rfl)))
  refine ⟨_, _, ws, rfl, by decide, hs.keep k1, hw1, hc.le, hc.wd, fun t H2 htl k2 => ?_⟩
  have hw2 : Ws H2 p1 ws := hw1.keep k2
  have hs2 := (hs.keep k1).keep k2
  refine s_asg ?_
  (repeat (first | ((with_reducible first | apply e_name | apply t_name); case h => (repeat (first | with_reducible exact hit | with_reducible assumption | (with_reducible apply miss; case h => with_unfolding_all rfl)))) | (with_reducible first | apply e_int | apply e_str | apply e_none | apply e_bool | apply e_bin | apply l1 | apply l2 | apply l0 | apply lc | apply e_sub | apply e_slice | apply e_list | apply e_tuple | apply e_cmp | apply e_and | apply e_not | apply e_or | apply e_neg | apply t_cmp | apply t_cmp2 | apply t_and | apply t_or | apply t_not | apply t_bool | apply t_sub | apply tru_bool | apply e_comp0 | apply e_comp1 | apply i_val | apply i_rng1 | apply i_rng2 | apply i_rev | apply b_add | apply b_sub | apply c_lt | apply c_le | apply c_gt | apply c_ge | apply c_eqi | apply c_nei | apply c_eqs | apply c_nes | apply c_eqb | apply c_neb | apply c_is | apply c_isnot | apply s_len | apply if_tt | apply if_ff | apply r_ret | apply s_asg | apply s_exp | apply s_ite | apply s_set | apply s_skip | apply sq_next | apply sq_ret | apply lq_next | apply lq_ret | apply rq_ret | apply i_str) | ((with_reducible first | apply e_call | apply t_call | apply e_glob | apply e_methS | apply e_srt); case h => with_reducible assumption) | (with_reducible apply b_div; case h => with_unfolding_all rfl)))
  refine ⟨_, rfl, by decide, hs2, fun a => ?_⟩
  (repeat (first | ((with_reducible first | apply e_name | apply t_name); case h => (repeat (first | with_reducible exact hit | with_reducible assumption | (with_reducible apply miss; case h => with_unfolding_all rfl)))) | (with_reducible first | apply e_int | apply e_str | apply e_none | apply e_bool | apply e_bin | apply l1 | apply l2 | apply l0 | apply lc | apply e_sub | apply e_slice | apply e_list | apply e_tuple | apply e_cmp | apply e_and | apply e_not | apply e_or | apply e_neg | apply t_cmp | apply t_cmp2 | apply t_and | apply t_or | apply t_not | apply t_bool | apply t_sub | apply tru_bool | apply e_comp0 | apply e_comp1 | apply i_val | apply i_rng1 | apply i_rng2 | apply i_rev | apply b_add | apply b_sub | apply c_lt | apply c_le | apply c_gt | apply c_ge | apply c_eqi | apply c_nei | apply c_eqs | apply c_nes | apply c_eqb | apply c_neb | apply c_is | apply c_isnot | apply s_len | apply if_tt | apply if_ff | apply r_ret | apply s_asg | apply s_exp | apply s_ite | apply s_set | apply s_skip | apply sq_next | apply sq_ret | apply lq_next | apply lq_ret | apply rq_ret | apply i_str) | ((with_reducible first | apply e_call | apply t_call | apply e_glob | apply e_methS | apply e_srt); case h => with_reducible assumption) | (with_reducible apply b_div; case h => with_unfolding_all rfl)))
  refine b_mod (by omega) fun b b0 b1 => ?_
  refine b_to b0 ?_
  (repeat (first | ((with_reducible first | apply e_name | apply t_name); case h => (repeat (first | with_reducible exact hit | with_reducible assumption | (with_reducible apply miss; case h => with_unfolding_all rfl)))) | (with_reducible first | apply e_int | apply e_str | apply e_none | apply e_bool | apply e_bin | apply l1 | apply l2 | apply l0 | apply lc | apply e_sub | apply e_slice | apply e_list | apply e_tuple | apply e_cmp | apply e_and | apply e_not | apply e_or | apply e_neg | apply t_cmp | apply t_cmp2 | apply t_and | apply t_or | apply t_not | apply t_bool | apply t_sub | apply tru_bool | apply e_comp0 | apply e_comp1 | apply i_val | apply i_rng1 | apply i_rng2 | apply i_rev | apply b_add | apply b_sub | apply c_lt | apply c_le | apply c_gt | apply c_ge | apply c_eqi | apply c_nei | apply c_eqs | apply c_nes | apply c_eqb | apply c_neb | apply c_is | apply c_isnot | apply s_len | apply if_tt | apply if_ff | apply r_ret | apply s_asg | apply s_exp | apply s_ite | apply s_set | apply s_skip | apply sq_next | apply sq_ret | apply lq_next | apply lq_ret | apply rq_ret | apply i_str) | ((with_reducible first | apply e_call | apply t_call | apply e_glob | apply e_methS | apply e_srt); case h => with_reducible assumption) | (with_reducible apply b_div; case h => with_unfolding_all rfl)))
  refine ⟨_, rfl, by decide, hs2, fun a => ?_⟩
  (repeat (first | ((with_reducible first | apply e_name | apply t_name); case h => (repeat (first | with_reducible exact hit | with_reducible assumption | (with_reducible apply miss; case h => with_unfolding_all rfl)))) | (with_reducible first | apply e_int | apply e_str | apply e_none | apply e_bool | apply e_bin | apply l1 | apply l2 | apply l0 | apply lc | apply e_sub | apply e_slice | apply e_list | apply e_tuple | apply e_cmp | apply e_and | apply e_not | apply e_or | apply e_neg | apply t_cmp | apply t_cmp2 | apply t_and | apply t_or | apply t_not | apply t_bool | apply t_sub | apply tru_bool | apply e_comp0 | apply e_comp1 | apply i_val | apply i_rng1 | apply i_rng2 | apply i_rev | apply b_add | apply b_sub | apply c_lt | apply c_le | apply c_gt | apply c_ge | apply c_eqi | apply c_nei | apply c_eqs | apply c_nes | apply c_eqb | apply c_neb | apply c_is | apply c_isnot | apply s_len | apply if_tt | apply if_ff | apply r_ret | apply s_asg | apply s_exp | apply s_ite | apply s_set | apply s_skip | apply sq_next | apply sq_ret | apply lq_next | apply lq_ret | apply rq_ret | apply i_str) | ((with_reducible first | apply e_call | apply t_call | apply e_glob | apply e_methS | apply e_srt); case h => with_reducible assumption) | (with_reducible apply b_div; case h => with_unfolding_all rfl)))
  refine b_mod (by omega) fun c c0 c1 => ?_
  (repeat (first | ((with_reducible first | apply e_name | apply t_name); case h => (repeat (first | with_reducible exact hit | with_reducible assumption | (with_reducible apply miss; case h => with_unfolding_all rfl)))) | (with_reducible first | apply e_int | apply e_str | apply e_none | apply e_bool | apply e_bin | apply l1 | apply l2 | apply l0 | apply lc | apply e_sub | apply e_slice | apply e_list | apply e_tuple | apply e_cmp | apply e_and | apply e_not | apply e_or | apply e_neg | apply t_cmp | apply t_cmp2 | apply t_and | apply t_or | apply t_not | apply t_bool | apply t_sub | apply tru_bool | apply e_comp0 | apply e_comp1 | apply i_val | apply i_rng1 | apply i_rng2 | apply i_rev | apply b_add | apply b_sub | apply c_lt | apply c_le | apply c_gt | apply c_ge | apply c_eqi | apply c_nei | apply c_eqs | apply c_nes | apply c_eqb | apply c_neb | apply c_is | apply c_isnot | apply s_len | apply if_tt | apply if_ff | apply r_ret | apply s_asg | apply s_exp | apply s_ite | apply s_set | apply s_skip | apply sq_next | apply sq_ret | apply lq_next | apply lq_ret | apply rq_ret | apply i_str) | ((with_reducible first | apply e_call | apply t_call | apply e_glob | apply e_methS | apply e_srt); case h => with_reducible assumption) | (with_reducible apply b_div; case h => with_unfolding_all rfl)))
  refine b_from c0 ?_
  (repeat (first | ((with_reducible first | apply e_name | apply t_name); case h => (repeat (first | with_reducible exact hit | with_reducible assumption | (with_reducible apply miss; case h => with_unfolding_all rfl)))) | (with_reducible first | apply e_int | apply e_str | apply e_none | apply e_bool | apply e_bin | apply l1 | apply l2 | apply l0 | apply lc | apply e_sub | apply e_slice | apply e_list | apply e_tuple | apply e_cmp | apply e_and | apply e_not | apply e_or | apply e_neg | apply t_cmp | apply t_cmp2 | apply t_and | apply t_or | apply t_not | apply t_bool | apply t_sub | apply tru_bool | apply e_comp0 | apply e_comp1 | apply i_val | apply i_rng1 | apply i_rng2 | apply i_rev | apply b_add | apply b_sub | apply c_lt | apply c_le | apply c_gt | apply c_ge | apply c_eqi | apply c_nei | apply c_eqs | apply c_nes | apply c_eqb | apply c_neb | apply c_is | apply c_isnot | apply s_len | apply if_tt | apply if_ff | apply r_ret | apply s_asg | apply s_exp | apply s_ite | apply s_set | apply s_skip | apply sq_next | apply sq_ret | apply lq_next | apply lq_ret | apply rq_ret | apply i_str) | ((with_reducible first | apply e_call | apply t_call | apply e_glob | apply e_methS | apply e_srt); case h => with_reducible assumption) | (with_reducible apply b_div; case h => with_unfolding_all rfl)))
  refine ⟨Nat.le_of_ble_eq_true rfl, ?_⟩
  refine s_asg ?_
  (repeat (first | ((with_reducible first | apply e_name | apply t_name); case h => (repeat (first | with_reducible exact hit | with_reducible assumption | (with_reducible apply miss; case h => with_unfolding_all rfl)))) | (with_reducible first | apply e_int | apply e_str | apply e_none | apply e_bool | apply e_bin | apply l1 | apply l2 | apply l0 | apply lc | apply e_sub | apply e_slice | apply e_list | apply e_tuple | apply e_cmp | apply e_and | apply e_not | apply e_or | apply e_neg | apply t_cmp | apply t_cmp2 | apply t_and | apply t_or | apply t_not | apply t_bool | apply t_sub | apply tru_bool | apply e_comp0 | apply e_comp1 | apply i_val | apply i_rng1 | apply i_rng2 | apply i_rev | apply b_add | apply b_sub | apply c_lt | apply c_le | apply c_gt | apply c_ge | apply c_eqi | apply c_nei | apply c_eqs | apply c_nes | apply c_eqb | apply c_neb | apply c_is | apply c_isnot | apply s_len | apply if_tt | apply if_ff | apply r_ret | apply s_asg | apply s_exp | apply s_ite | apply s_set | apply s_skip | apply sq_next | apply sq_ret | apply lq_next | apply lq_ret | apply rq_ret | apply i_str) | ((with_reducible first | apply e_call | apply t_call | apply e_glob | apply e_methS | apply e_srt); case h => with_reducible assumption) | (with_reducible apply b_div; case h => with_unfolding_all rfl)))
  refine s_list (hw2.keep (Keep.new _ _)) ?_
  have l1 : (t.take b.toNat).length ≤ 81 := by rw [List.length_take]; omega
  have l2 : (t.drop c.toNat).length ≤ 81 := by rw [List.length_drop]; omega
  generalize t.take b.toNat = t1 at l1
  generalize t.drop c.toNat = t2 at l2
  refine r_for ?_
  (repeat (first | ((with_reducible first | apply e_name | apply t_name); case h => (repeat (first | with_reducible exact hit | with_reducible assumption | (with_reducible apply miss; case h => with_unfolding_all rfl)))) | (with_reducible first | apply e_int | apply e_str | apply e_none | apply e_bool | apply e_bin | apply l1 | apply l2 | apply l0 | apply lc | apply e_sub | apply e_slice | apply e_list | apply e_tuple | apply e_cmp | apply e_and | apply e_not | apply e_or | apply e_neg | apply t_cmp | apply t_cmp2 | apply t_and | apply t_or | apply t_not | apply t_bool | apply t_sub | apply tru_bool | apply e_comp0 | apply e_comp1 | apply i_val | apply i_rng1 | apply i_rng2 | apply i_rev | apply b_add | apply b_sub | apply c_lt | apply c_le | apply c_gt | apply c_ge | apply c_eqi | apply c_nei | apply c_eqs | apply c_nes | apply c_eqb | apply c_neb | apply c_is | apply c_isnot | apply s_len | apply if_tt | apply if_ff | apply r_ret | apply s_asg | apply s_exp | apply s_ite | apply s_set | apply s_skip | apply sq_next | apply sq_ret | apply lq_next | apply lq_ret | apply rq_ret | apply i_str) | ((with_reducible first | apply e_call | apply t_call | apply e_glob | apply e_methS | apply e_srt); case h => with_reducible assumption) | (with_reducible apply b_div; case h => with_unfolding_all rfl)))
  refine b_lto ((Keep.new _ _).get get_new) (by decide) ?_
  refine b_lcat ((Keep.new _ _).get ((Keep.new _ _).get get_new)) get_new (Nat.le_of_ble_eq_true rfl) ?_
  refine i_list get_new ?_
  have k5 := (Keep.new H2 [AObj.list [V.str t1, V.str t, V.str t2]]).trans ((Keep.new _ [AObj.list (ws.map V.str)]).trans ((Keep.new _ [AObj.list ([V.str t1, V.str t, V.str t2].take (Int.toNat 1))]).trans (Keep.new _ [AObj.list ([V.str t1, V.str t, V.str t2] ++ [V.str t1, V.str t, V.str t2].take (Int.toNat 1))])))
  have hh5 : Ws (H2 ++ [AObj.list [V.str t1, V.str t, V.str t2]] ++ [AObj.list (ws.map V.str)] ++ [AObj.list ([V.str t1, V.str t, V.str t2].take (Int.toNat 1))] ++ [AObj.list ([V.str t1, V.str t, V.str t2] ++ [V.str t1, V.str t, V.str t2].take (Int.toNat 1))]) (H2 ++ [AObj.list [V.str t1, V.str t, V.str t2]]).length ws := ((Keep.new _ _).trans (Keep.new _ _)).get get_new
  refine for_inv (fun xs σ H' => Keep (H2 ++ [AObj.list [V.str t1, V.str t, V.str t2]] ++ [AObj.list (ws.map V.str)] ++ [AObj.list ([V.str t1, V.str t, V.str t2].take (Int.toNat 1))] ++ [AObj.list ([V.str t1, V.str t, V.str t2] ++ [V.str t1, V.str t, V.str t2].take (Int.toNat 1))]) H' ∧ (σ (nm 32292397438104173501782932616799) = some (.ref p1) ∧ σ (nm 118997990761571808736863) = some (.ref (H2 ++ [AObj.list [V.str t1, V.str t, V.str t2]]).length)) ∧ ∀ x ∈ xs, ∃ u : Txt, x = .one (.str u) ∧ u.length ≤ 81) ?_ ?_ ⟨Keep.refl _, ⟨by (repeat (first | with_reducible exact hit | with_reducible assumption | (with_reducible apply miss; case h => with_unfolding_all rfl))), by (repeat (first | with_reducible exact hit | with_reducible assumption | (with_reducible apply miss; case h => with_unfolding_all rfl)))⟩, ?_⟩
  · rintro x xs σ H' ⟨kp, ⟨e1, e2⟩, hx⟩
    obtain ⟨u, rfl, hu⟩ := hx x (.head _)
    refine ⟨kp.get get_new, _, rfl, fun W hW => ?_⟩
    refine s_asg ?_
    (repeat (first | ((with_reducible first | apply e_name | apply t_name); case h => (repeat (first | with_reducible exact hit | with_reducible assumption | (with_reducible apply miss; case h => with_unfolding_all rfl)))) | (with_reducible first | apply e_int | apply e_str | apply e_none | apply e_bool | apply e_bin | apply l1 | apply l2 | apply l0 | apply lc | apply e_sub | apply e_slice | apply e_list | apply e_tuple | apply e_cmp | apply e_and | apply e_not | apply e_or | apply e_neg | apply t_cmp | apply t_cmp2 | apply t_and | apply t_or | apply t_not | apply t_bool | apply t_sub | apply tru_bool | apply e_comp0 | apply e_comp1 | apply i_val | apply i_rng1 | apply i_rng2 | apply i_rev | apply b_add | apply b_sub | apply c_lt | apply c_le | apply c_gt | apply c_ge | apply c_eqi | apply c_nei | apply c_eqs | apply c_nes | apply c_eqb | apply c_neb | apply c_is | apply c_isnot | apply s_len | apply if_tt | apply if_ff | apply r_ret | apply s_asg | apply s_exp | apply s_ite | apply s_set | apply s_skip | apply sq_next | apply sq_ret | apply lq_next | apply lq_ret | apply rq_ret | apply i_str) | ((with_reducible first | apply e_call | apply t_call | apply e_glob | apply e_methS | apply e_srt); case h => with_reducible assumption) | (with_reducible apply b_div; case h => with_unfolding_all rfl)))
    have hh := hh5.keep kp
    have hw := hw2.keep (k5.trans kp)
    have fin : ∀ (b : Bool) (H8 : AHeap), Keep H' H8 → (Begs ws u → b = true) → (¬ Begs ws u → b = false) → semS T b_law_l1_1 ((σ.set (nm 57345570095265375) (.str u)).set (nm 930329895887808525919) (.bool b)) H8 (LQ W (SQ T b_law_5 (RQ Q) X)) X := by
      intro b H8 k8 yes no
      refine s_ite ?_
      (repeat (first | ((with_reducible first | apply e_name | apply t_name); case h => (repeat (first | with_reducible exact hit | with_reducible assumption | (with_reducible apply miss; case h => with_unfolding_all rfl)))) | (with_reducible first | apply e_int | apply e_str | apply e_none | apply e_bool | apply e_bin | apply l1 | apply l2 | apply l0 | apply lc | apply e_sub | apply e_slice | apply e_list | apply e_tuple | apply e_cmp | apply e_and | apply e_not | apply e_or | apply e_neg | apply t_cmp | apply t_cmp2 | apply t_and | apply t_or | apply t_not | apply t_bool | apply t_sub | apply tru_bool | apply e_comp0 | apply e_comp1 | apply i_val | apply i_rng1 | apply i_rng2 | apply i_rev | apply b_add | apply b_sub | apply c_lt | apply c_le | apply c_gt | apply c_ge | apply c_eqi | apply c_nei | apply c_eqs | apply c_nes | apply c_eqb | apply c_neb | apply c_is | apply c_isnot | apply s_len | apply if_tt | apply if_ff | apply r_ret | apply s_asg | apply s_exp | apply s_ite | apply s_set | apply s_skip | apply sq_next | apply sq_ret | apply lq_next | apply lq_ret | apply rq_ret | apply i_str) | ((with_reducible first | apply e_call | apply t_call | apply e_glob | apply e_methS | apply e_srt); case h => with_reducible assumption) | (with_reducible apply b_div; case h => with_unfolding_all rfl)))
      refine s_isi rfl tyOf_bool ?_
      (repeat (first | ((with_reducible first | apply e_name | apply t_name); case h => (repeat (first | with_reducible exact hit | with_reducible assumption | (with_reducible apply miss; case h => with_unfolding_all rfl)))) | (with_reducible first | apply e_int | apply e_str | apply e_none | apply e_bool | apply e_bin | apply l1 | apply l2 | apply l0 | apply lc | apply e_sub | apply e_slice | apply e_list | apply e_tuple | apply e_cmp | apply e_and | apply e_not | apply e_or | apply e_neg | apply t_cmp | apply t_cmp2 | apply t_and | apply t_or | apply t_not | apply t_bool | apply t_sub | apply tru_bool | apply e_comp0 | apply e_comp1 | apply i_val | apply i_rng1 | apply i_rng2 | apply i_rev | apply b_add | apply b_sub | apply c_lt | apply c_le | apply c_gt | apply c_ge | apply c_eqi | apply c_nei | apply c_eqs | apply c_nes | apply c_eqb | apply c_neb | apply c_is | apply c_isnot | apply s_len | apply if_tt | apply if_ff | apply r_ret | apply s_asg | apply s_exp | apply s_ite | apply s_set | apply s_skip | apply sq_next | apply sq_ret | apply lq_next | apply lq_ret | apply rq_ret | apply i_str) | ((with_reducible first | apply e_call | apply t_call | apply e_glob | apply e_methS | apply e_srt); case h => with_reducible assumption) | (with_reducible apply b_div; case h => with_unfolding_all rfl)))
      refine if_f rfl ?_
      (repeat (first | ((with_reducible first | apply e_name | apply t_name); case h => (repeat (first | with_reducible exact hit | with_reducible assumption | (with_reducible apply miss; case h => with_unfolding_all rfl)))) | (with_reducible first | apply e_int | apply e_str | apply e_none | apply e_bool | apply e_bin | apply l1 | apply l2 | apply l0 | apply lc | apply e_sub | apply e_slice | apply e_list | apply e_tuple | apply e_cmp | apply e_and | apply e_not | apply e_or | apply e_neg | apply t_cmp | apply t_cmp2 | apply t_and | apply t_or | apply t_not | apply t_bool | apply t_sub | apply tru_bool | apply e_comp0 | apply e_comp1 | apply i_val | apply i_rng1 | apply i_rng2 | apply i_rev | apply b_add | apply b_sub | apply c_lt | apply c_le | apply c_gt | apply c_ge | apply c_eqi | apply c_nei | apply c_eqs | apply c_nes | apply c_eqb | apply c_neb | apply c_is | apply c_isnot | apply s_len | apply if_tt | apply if_ff | apply r_ret | apply s_asg | apply s_exp | apply s_ite | apply s_set | apply s_skip | apply sq_next | apply sq_ret | apply lq_next | apply lq_ret | apply rq_ret | apply i_str) | ((with_reducible first | apply e_call | apply t_call | apply e_glob | apply e_methS | apply e_srt); case h => with_reducible assumption) | (with_reducible apply b_div; case h => with_unfolding_all rfl)))
      have done : ∀ H9, Keep H8 H9 → ∀ c : Bool, b = c → (if (!(b == c)) = true then semS T (.seq (.ret (.bool false)) .skip) ((σ.set (nm 57345570095265375) (.str u)).set (nm 930329895887808525919) (.bool b)) H9 (SQ T .skip (LQ W (SQ T b_law_5 (RQ Q) X)) X) X else semS T .skip ((σ.set (nm 57345570095265375) (.str u)).set (nm 930329895887808525919) (.bool b)) H9 (SQ T .skip (LQ W (SQ T b_law_5 (RQ Q) X)) X) X) := by
        rintro H9 k9 c rfl
        refine if_f (by rw [beq_self_eq_true]; rfl) ?_
        (repeat (first | ((with_reducible first | apply e_name | apply t_name); case h => (repeat (first | with_reducible exact hit | with_reducible assumption | (with_reducible apply miss; case h => with_unfolding_all rfl)))) | (with_reducible first | apply e_int | apply e_str | apply e_none | apply e_bool | apply e_bin | apply l1 | apply l2 | apply l0 | apply lc | apply e_sub | apply e_slice | apply e_list | apply e_tuple | apply e_cmp | apply e_and | apply e_not | apply e_or | apply e_neg | apply t_cmp | apply t_cmp2 | apply t_and | apply t_or | apply t_not | apply t_bool | apply t_sub | apply tru_bool | apply e_comp0 | apply e_comp1 | apply i_val | apply i_rng1 | apply i_rng2 | apply i_rev | apply b_add | apply b_sub | apply c_lt | apply c_le | apply c_gt | apply c_ge | apply c_eqi | apply c_nei | apply c_eqs | apply c_nes | apply c_eqb | apply c_neb | apply c_is | apply c_isnot | apply s_len | apply if_tt | apply if_ff | apply r_ret | apply s_asg | apply s_exp | apply s_ite | apply s_set | apply s_skip | apply sq_next | apply sq_ret | apply lq_next | apply lq_ret | apply rq_ret | apply i_str) | ((with_reducible first | apply e_call | apply t_call | apply e_glob | apply e_methS | apply e_srt); case h => with_reducible assumption) | (with_reducible apply b_div; case h => with_unfolding_all rfl)))
        exact hW _ _ ⟨kp.trans (k8.trans k9), ⟨by (repeat (first | with_reducible exact hit | with_reducible assumption | (with_reducible apply miss; case h => with_unfolding_all rfl))), by (repeat (first | with_reducible exact hit | with_reducible assumption | (with_reducible apply miss; case h => with_unfolding_all rfl)))⟩, fun y hy => hx y (.tail _ hy)⟩
      refine ⟨_, _, ws, rfl, lt_of_get (hw.keep k8), hw.keep k8, hc.le, by omega, fun hb H9 k9 => ?_, fun hb H9 k9 => ?_⟩
      · (repeat (first | ((with_reducible first | apply e_name | apply t_name); case h => (repeat (first | with_reducible exact hit | with_reducible assumption | (with_reducible apply miss; case h => with_unfolding_all rfl)))) | (with_reducible first | apply e_int | apply e_str | apply e_none | apply e_bool | apply e_bin | apply l1 | apply l2 | apply l0 | apply lc | apply e_sub | apply e_slice | apply e_list | apply e_tuple | apply e_cmp | apply e_and | apply e_not | apply e_or | apply e_neg | apply t_cmp | apply t_cmp2 | apply t_and | apply t_or | apply t_not | apply t_bool | apply t_sub | apply tru_bool | apply e_comp0 | apply e_comp1 | apply i_val | apply i_rng1 | apply i_rng2 | apply i_rev | apply b_add | apply b_sub | apply c_lt | apply c_le | apply c_gt | apply c_ge | apply c_eqi | apply c_nei | apply c_eqs | apply c_nes | apply c_eqb | apply c_neb | apply c_is | apply c_isnot | apply s_len | apply if_tt | apply if_ff | apply r_ret | apply s_asg | apply s_exp | apply s_ite | apply s_set | apply s_skip | apply sq_next | apply sq_ret | apply lq_next | apply lq_ret | apply rq_ret | apply i_str) | ((with_reducible first | apply e_call | apply t_call | apply e_glob | apply e_methS | apply e_srt); case h => with_reducible assumption) | (with_reducible apply b_div; case h => with_unfolding_all rfl)))
        exact done H9 k9 true (yes hb)
      · (repeat (first | ((with_reducible first | apply e_name | apply t_name); case h => (repeat (first | with_reducible exact hit | with_reducible assumption | (with_reducible apply miss; case h => with_unfolding_all rfl)))) | (with_reducible first | apply e_int | apply e_str | apply e_none | apply e_bool | apply e_bin | apply l1 | apply l2 | apply l0 | apply lc | apply e_sub | apply e_slice | apply e_list | apply e_tuple | apply e_cmp | apply e_and | apply e_not | apply e_or | apply e_neg | apply t_cmp | apply t_cmp2 | apply t_and | apply t_or | apply t_not | apply t_bool | apply t_sub | apply tru_bool | apply e_comp0 | apply e_comp1 | apply i_val | apply i_rng1 | apply i_rng2 | apply i_rev | apply b_add | apply b_sub | apply c_lt | apply c_le | apply c_gt | apply c_ge | apply c_eqi | apply c_nei | apply c_eqs | apply c_nes | apply c_eqb | apply c_neb | apply c_is | apply c_isnot | apply s_len | apply if_tt | apply if_ff | apply r_ret | apply s_asg | apply s_exp | apply s_ite | apply s_set | apply s_skip | apply sq_next | apply sq_ret | apply lq_next | apply lq_ret | apply rq_ret | apply i_str) | ((with_reducible first | apply e_call | apply t_call | apply e_glob | apply e_methS | apply e_srt); case h => with_reducible assumption) | (with_reducible apply b_div; case h => with_unfolding_all rfl)))
        exact done H9 k9 false (no hb)
    refine ⟨_, _, ws, rfl, lt_of_get hh, hh, hc, by omega, fun hb H8 k8 => ?_, fun hb H8 k8 => ?_⟩
    · exact fin true H8 k8 (fun _ => rfl) fun h => absurd hb h
    · exact fin false H8 k8 (fun h => absurd h hb) fun _ => rfl
  · rintro σ H' ⟨kp, ⟨e1, e2⟩, hx⟩
    refine ⟨kp.get get_new, ?_⟩
    refine r_ret ?_
    (repeat (first | ((with_reducible first | apply e_name | apply t_name); case h => (repeat (first | with_reducible exact hit | with_reducible assumption | (with_reducible apply miss; case h => with_unfolding_all rfl)))) | (with_reducible first | apply e_int | apply e_str | apply e_none | apply e_bool | apply e_bin | apply l1 | apply l2 | apply l0 | apply lc | apply e_sub | apply e_slice | apply e_list | apply e_tuple | apply e_cmp | apply e_and | apply e_not | apply e_or | apply e_neg | apply t_cmp | apply t_cmp2 | apply t_and | apply t_or | apply t_not | apply t_bool | apply t_sub | apply tru_bool | apply e_comp0 | apply e_comp1 | apply i_val | apply i_rng1 | apply i_rng2 | apply i_rev | apply b_add | apply b_sub | apply c_lt | apply c_le | apply c_gt | apply c_ge | apply c_eqi | apply c_nei | apply c_eqs | apply c_nes | apply c_eqb | apply c_neb | apply c_is | apply c_isnot | apply s_len | apply if_tt | apply if_ff | apply r_ret | apply s_asg | apply s_exp | apply s_ite | apply s_set | apply s_skip | apply sq_next | apply sq_ret | apply lq_next | apply lq_ret | apply rq_ret | apply i_str) | ((with_reducible first | apply e_call | apply t_call | apply e_glob | apply e_methS | apply e_srt); case h => with_reducible assumption) | (with_reducible apply b_div; case h => with_unfolding_all rfl)))
    refine c_eqw (hh5.keep kp) (hw2.keep (k5.trans kp)) ?_
    rw [decide_eq_true rfl]
    exact h _
  · intro x hx
    obtain ⟨v, hv, rfl⟩ := List.mem_map.mp hx
    have all : ∀ v ∈ ([V.str t1, V.str t, V.str t2] ++ [V.str t1, V.str t, V.str t2].take (Int.toNat 1)), TV 81 v := all_app (all_cons ⟨_, rfl, l1⟩ <| all_cons ⟨_, rfl, htl⟩ <| all_cons ⟨_, rfl, l2⟩ all_nil) (all_cons ⟨_, rfl, l1⟩ all_nil)
    obtain ⟨u, rfl, hu⟩ := all v hv
    exact ⟨u, rfl, hu⟩

end
end Mine
end
section
namespace Mine
open PySem PyProof.Rows PySem.W

/-! The table that the laws over words start with. -/

noncomputable def TL (N : Nat) : Tab := (((TM N).val (nm 367874058560204) (.str az.cps.toList)).val (nm 771200664775530178509) (.int 10)).val (nm 770486307810356553677) (.int 12)
section
variable {N : Nat} {l : List (Nat × Spec)}
theorem gl_words (h : getE l 770486307810356553677 = none) : (tabE (TL N) l).gv (nm 770486307810356553677) = some (.int 12) := gvE gvV h
theorem gl_signs (h : getE l 771200664775530178509 = none) : (tabE (TL N) l).gv (nm 771200664775530178509) = some (.int 10) := gvE (gvN gvV rfl) h
theorem gl_letters (h : getE l 367874058560204 = none) : (tabE (TL N) l).gv (nm 367874058560204) = some (.str az.cps.toList) := gvE (gvN (gvN gvV rfl) rfl) h
theorem gl_at {m : Nat} {v : V} (k : (((((T0.val (nm 244905188) (.glob (nm 244905188))).val (nm 27340323572) (.glob (nm 27340323572))).val (nm 1914729) (.glob (nm 1914729))).val (nm 1882739) (.glob (nm 1882739))).val (nm 228325346) (.glob (nm 228325346))).gv (nm m) = some v) (h1 : Nat.beq m 367874058560204 = false) (h2 : Nat.beq m 771200664775530178509 = false) (h3 : Nat.beq m 770486307810356553677 = false) (h : getE l m = none) : (tabE (TL N) l).gv (nm m) = some v :=
  gvE (gvN (gvN (gvN (T := TM N) k h1) h2) h3) h
theorem gl_bool (h : getE l 228325346 = none) : (tabE (TL N) l).gv (nm 228325346) = some (.glob (nm 228325346)) := gl_at gvV rfl rfl rfl h
theorem gl_str (h : getE l 1882739 = none) : (tabE (TL N) l).gv (nm 1882739) = some (.glob (nm 1882739)) := gl_at (gvN gvV rfl) rfl rfl rfl h
theorem gl_int (h : getE l 1914729 = none) : (tabE (TL N) l).gv (nm 1914729) = some (.glob (nm 1914729)) := gl_at (gvN (gvN gvV rfl) rfl) rfl rfl rfl h
theorem gl_tuple (h : getE l 27340323572 = none) : (tabE (TL N) l).gv (nm 27340323572) = some (.glob (nm 27340323572)) := gl_at (gvN (gvN (gvN gvV rfl) rfl) rfl) rfl rfl rfl h
theorem ml_up {T : Tab} {kd : MK} {m : Str} {sp : Spec} {f : Str} {v : V} (k : HasM T kd m sp) : HasM (T.val f v) kd m sp := ⟨k.has, k.mt⟩
theorem ml_at {kd : MK} {m : Nat} {sp : Spec} (k : HasM ((((((((T0.val (nm 244905188) (.glob (nm 244905188))).val (nm 27340323572) (.glob (nm 27340323572))).val (nm 1914729) (.glob (nm 1914729))).val (nm 1882739) (.glob (nm 1882739))).val (nm 228325346) (.glob (nm 228325346))).meth .str (nm 232421354) spJoin).meth .list (nm 3465715398753) spAppend).meth .list (nm 30806734435) spClear) kd (nm m) sp) : HasM (tabE (TL N) l) kd (nm m) sp :=
  HasM.ent (ml_up (ml_up (ml_up (T := TM N) ⟨k.has, k.mt⟩))) l
theorem ml_clear : HasM (tabE (TL N) l) .list (nm 30806734435) spClear := ml_at .hit
theorem ml_append : HasM (tabE (TL N) l) .list (nm 3465715398753) spAppend := ml_at (.miss .hit rfl)
theorem ml_join : HasM (tabE (TL N) l) .str (nm 232421354) spJoin := ml_at (.miss (.miss .hit rfl) rfl)
theorem sl_len : (tabE (TL N) l).srt = spSortLen N := srtE rfl l

theorem TL_ok {C : Cx} (hN : SortLaw N) (hl : N ≤ lid) (hb : ∀ p ∈ biL, C.G p.1 = some p.2) (c1 : ConstAt C (nm 367874058560204) (.str az.cps.toList)) (c2 : ConstAt C (nm 771200664775530178509) (.int 10)) (c3 : ConstAt C (nm 770486307810356553677) (.int 12)) : TabOk C (tabE (TL N) (bl N)) 0 :=
  bl_ok hN hl hb ((((TM_ok hN hl hb).const c1).const c2).const c3)
end

section
variable {prog : Program} {w : World} {s : Shared} {p : Program} {loose : List Str} {mean : ExcName → Option Value} {mg mb : Str → Option Value} (T : Top p loose mean mg mb s.heap)
theorem constI {x : Str} {i : Int} (h : valOf p x = some (.int i)) : ConstAt (cxOf prog w s T) x (.int i) := by
  obtain ⟨v, h1, h2⟩ := T.const x _ h
  have h3 := h2 s.heap
  cases h3
  exact ⟨_, by show gOf mg mb x = _; unfold gOf; rw [h1], fun ρ => ⟨_, rfl⟩⟩
theorem constS {x w' : Str} (h : valOf p x = some (.str w')) (ok : okT w'.cps.toList = true) : ConstAt (cxOf prog w s T) x (.str w'.cps.toList) := by
  obtain ⟨v, h1, h2⟩ := T.const x _ h
  have h3 := h2 s.heap
  cases h3
  exact ⟨_, by show gOf mg mb x = _; unfold gOf; rw [h1], fun ρ => ⟨ok, _, rfl⟩⟩
end
end Mine
end
section
namespace Mine
open PySem PyProof.Rows

theorem walk05 {C : Cx} (hb : ∀ p ∈ biL, C.G p.1 = some p.2) (c1 : ConstAt C (nm 367874058560204) (.str az.cps.toList)) (c2 : ConstAt C (nm 771200664775530178509) (.int 10)) (c3 : ConstAt C (nm 770486307810356553677) (.int 12))
    (d1 : DefAt C (nm 487352597740009) x_is_sign b_is_sign) (d2 : DefAt C (nm 443751708752361) x_is_word b_is_word) (d3 : DefAt C (nm 443303916565603) x_checked b_checked) (d4 : DefAt C (nm 65732100365268983) x_words_at b_words_at) (d5 : DefAt C (nm 452440421413612) x_left_of b_left_of)
    (d6 : DefAt C (nm 513532042442335) x_law_at b_law_at) (d7 : DefAt C (nm 929683040243566540383) x_law_mixed b_law_mixed) (d8 : DefAt C (nm 7985901584913428717) x_may_begin b_may_begin) (d9 : DefAt C (nm 1068672569199679796831) x_law_signs b_law_signs) (d10 : DefAt C (nm 7270427996206954079) x_law_word b_law_word)
    (d11 : DefAt C (nm 1951640654478162685372954207) x_law_any_word b_law_any_word) (d12 : DefAt C (nm 7342485246647498335) x_law_more b_law_more) (d13 : DefAt C (nm 1022192038397693425247) x_law_chain b_law_chain) (d14 : DefAt C (nm 1067958212234506171999) x_law_words b_law_words) (d15 : DefAt C (nm 67483170382575199) x_law_row b_law_row)
    (d16 : DefAt C (nm 8426683116990002783) x_law_text b_law_text) (d17 : DefAt C (nm 136790231785371214575199) x_law_begins b_law_begins) : ∃ T, TabOk C T 17 ∧ Ct T x_law b_law spLaw := by
  have t := TL_ok sortLaw64 (by decide) hb c1 c2 c3
  replace t := t.ent d1 (ct_is_sign (.ent rfl) (.ent rfl) (gl_str rfl) (gl_letters rfl))
  replace t := t.ent d2 (ct_is_word (.ent rfl) (.ent rfl) (.ent rfl) (.ent rfl) (gl_str rfl) (gl_signs rfl))
  replace t := t.ent d3 (ct_checked (Nat.le_refl 64) (.ent rfl) (.ent rfl) (.ent rfl) ml_append (.ent rfl) (Has.ent (sp := spList) rfl).gv (gl_words rfl))
  replace t := t.ent d4 (ct_words_at (Nat.le_refl 64) (.ent rfl) sl_len)
  replace t := t.ent d5 (ct_left_of (.ent rfl))
  replace t := t.ent d6 (ct_law_at (.ent rfl))
  replace t := t.ent d7 ct_law_mixed
  replace t := t.ent d8 (ct_may_begin (.ent rfl) (.ent rfl) (.ent rfl) (.ent rfl))
  replace t := t.ent d9 (ct_law_signs ml_join)
  replace t := t.ent d10 (ct_law_word ml_join (.ent rfl) (.ent rfl))
  replace t := t.ent d11 ct_law_any_word
  replace t := t.ent d12 (ct_law_more (.ent rfl) (.ent rfl))
  replace t := t.ent d13 (ct_law_chain (.ent rfl) (.ent rfl) (.ent rfl) ml_append (.ent rfl))
  replace t := t.ent d14 (ct_law_words (.ent rfl) (.ent rfl) (.ent rfl) ml_append (.ent rfl) (.ent rfl) (.ent rfl) (.ent rfl))
  replace t := t.ent d15 (ct_law_row (.ent rfl) (.ent rfl) (.ent rfl) ml_append)
  replace t := t.ent d16 (ct_law_text (.ent rfl) (.ent rfl) (.ent rfl) ml_join)
  replace t := t.ent d17 (ct_law_begins (.ent rfl) ml_append)
  exact ⟨_, t, ct_law05 (.ent rfl) (.ent rfl) (.ent rfl) (.ent rfl) (.ent rfl) (.ent rfl) (.ent rfl) (.ent rfl) (gl_bool rfl)⟩
end Mine
end
open PySem PySem.W PyProof.Rows Mine
set_option maxHeartbeats 8000000 in
theorem PySem.Challenge.cw_uf020005_05_holds : PySem.Challenge.rw_uf020005_05.Holds := by
  w_on
  o_law
  o_head Hook.none
  case hw => w_witness2
  intro w s₀ s₁ mg mb G Y fa o pm cd doc dV kV ho hd hcd hD hmg hg args vals as hpre hlay hrd hwl hlo
  have hlo' := hlo
  refine Ground.open G ?_
  intro T B D TE TW
  clear B D TE TW hD hcd hd ho Y G
  wrow_args hpre hlay hrd hwl hlo
  refine enter_call ?_
  rename_i ns _ _ _ _ _ as1 as2 l vs as3 hL ra w1 r0 hI _ hc1 _
  have hl : l ≠ sysModules := by
    have : l ∈ as1 := by cases r0 <;> simp
    exact fun q => by have := hlo' l (List.mem_append_left _ this); rw [q] at this; cases this
  have hb := bi_of (prog := Challenge.rw_uf020005_05.row.prog) (w := w) T (by decide +kernel)
  obtain ⟨Tb, hT, hct⟩ := walk05 hb (constS (w' := az) T (by kernel_rfl) (by decide +kernel)) (constI T (by kernel_rfl)) (constI T (by kernel_rfl)) (defAt_of T (by kernel_rfl)).1 (defAt_of T (by kernel_rfl)).1 (defAt_of T (by kernel_rfl)).1 (defAt_of T (by kernel_rfl)).1 (defAt_of T (by kernel_rfl)).1 (defAt_of T (by kernel_rfl)).1 (defAt_of T (by kernel_rfl)).1 (defAt_of T (by kernel_rfl)).1 (defAt_of T (by kernel_rfl)).1 (defAt_of T (by kernel_rfl)).1 (defAt_of T (by kernel_rfl)).1 (defAt_of T (by kernel_rfl)).1 (defAt_of T (by kernel_rfl)).1 (defAt_of T (by kernel_rfl)).1 (defAt_of T (by kernel_rfl)).1 (defAt_of T (by kernel_rfl)).1 (defAt_of T (by kernel_rfl)).1
  exact law_done T hT (by decide) (f := nm 1962220) (by kernel_rfl) hct hmg w1 hL hI (by omega) hl hg (fun _ => rfl) (by kernel_rfl)
